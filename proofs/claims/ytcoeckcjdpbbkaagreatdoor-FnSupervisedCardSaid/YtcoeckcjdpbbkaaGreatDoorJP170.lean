/- Deterministic systems that are drawn. -/
import Derived.Test.YtcoeckcjdpbbkaaGreatDoorJP90
set_option linter.all false
namespace Gv
open Go
theorem aPk {T:List aH} (hT:∀ s∈T,s∈Nm) (hTl:T.length<=400) {st ini:Int} (h1:1<=st/\st<=10) (h2:0<=ini/\ini < st) {edges:List Edge} (hl:edges.length<=300)
  (he:∀ e∈edges,(0<=e.F/\e.F < st)/\(0<=e.To/\e.To < st)/\0<=e.B/\e.B < T.length):
  ∃ M Eo,qG st ini T edges=some ⟨st,ini,bL::M,Eo⟩/\pW (bL::M)/\(∀ s∈bL::M,s∈Nm)/\SE Eo/\Eo.length<=edges.length/\
   (∀ x,x∈Eo<->∃ e∈edges,x=⟨e.F,pos (bL::M) (T.getD e.B.toNat []),e.To⟩)/\∀ e∈edges,T.getD e.B.toNat []∈bL::M:=by
 obtain ⟨M,_,j2,j3,j4⟩:=aNJ T (by omega)
 have hM:∀ s∈M,s∈Nm:=fun s hs=>hT s ((j3 s).1 hs).1
 have hmem:∀ x,x∈iX (srt bK (edges.map fun e=>(⟨e.F,pos (bL::M) (T.getD e.B.toNat []),e.To⟩:Edge)))<->∃ e∈edges,x=⟨e.F,pos (bL::M) (T.getD e.B.toNat []),e.To⟩:=fun x=>by
  rw [aNS,List.mem_map]
  exact ⟨fun ⟨e,h,g⟩=>⟨e,h,g.symm⟩,fun ⟨e,h,g⟩=>⟨e,h,g.symm⟩⟩
 refine ⟨M,iX (srt bK (edges.map fun e=>(⟨e.F,pos (bL::M) (T.getD e.B.toNat []),e.To⟩:Edge))),aRU (by omega) j2 j3 (by omega) (fun e h=>(he e h).2.2) (aLY _) hmem st ini,labs_nm j2 hM,fun s hs=>?_,aLY _,?_,hmem,fun e h=>?_⟩
 ·rcases List.mem_cons.1 hs with rfl|hs
  ·simp [Nm]
  ·exact hM s hs
 ·have:=aNR (edges.map fun e=>(⟨e.F,pos (bL::M) (T.getD e.B.toNat []),e.To⟩:Edge))
  rw [List.length_map] at this
  exact this
 ·have g:=(he e h).2.2
  have hmem:T.getD e.B.toNat []∈T:=by
   rw [List.getD_eq_getElem?_getD,List.getElem?_eq_getElem (by omega)]
   exact List.getElem_mem _
  by_cases ht:T.getD e.B.toNat []=bL
  ·rw [ht];simp
  ·exact List.mem_cons_of_mem _ ((j3 _).2 ⟨hmem,ht⟩)
structure DrD (t:aP):Prop where
 det:bB t
 nm:∀ s∈t.L,s∈Nm
 st:t.N<=5
 ed:t.E.length<=100
 ini:t.I=0
theorem DrD.fits {t:aP} (h:DrD t):eZ 999999 t:=by
 have h1:=h.det.1.2.2.1.2.1
 have h2:=h.ed
 refine ⟨by omega,fun s hs=>?_,by omega⟩
 have:=Nm_len s (h.nm s hs)
 omega
theorem fl_of {Eo:List Edge} (h:SE Eo) (hu:∀ a∈Eo,∀ b∈Eo,a.F=b.F->a.B=b.B->a=b):Eo.Pairwise uE:=by
 refine List.Pairwise.imp_of_mem (fun {a b} ha hb h=>?_) h
 have hne:a≠b:=fun e=>by subst e;rw [mG] at h;omega
 have h3:=fun q w=>hne (hu a ha b hb q w)
 rw [mG] at h
 unfold uE
 by_cases h4:a.F=b.F
 ·by_cases h5:a.B=b.B
  ·exact absurd trivial (fun _=>h3 h4 h5)
  ·omega
 ·omega
theorem drd_mk {st:Int} (hst:1<=st/\st<=5) {L:List aH} (hL:pW L) (hn:∀ s∈L,s∈Nm) {ed:List Edge} (hl:ed.length<=100) (ho:ed.Pairwise uE) (hall:∀ e∈ed,(0<=e.F/\e.F < st)/\(0<=e.To/\e.To < st)/\1<=e.B/\e.B < L.length):DrD ⟨st,0,L,ed⟩:=by
 have hL1:=hL.1
 have h:=det_mk (n:=st.toNat) hL (by omega) (show ed.length<=300 by omega) ho (fun e he=>by have:=hall e he;rw [List.length_tail];omega)
 rw [show ((st.toNat:Nat):Int)=st from by omega] at h
 exact ⟨h,hn,hst.2,hl,rfl⟩
theorem used_ok {t:aP} (h:DrD t):∃ t',aGc t=some t'/\DrD t':=by
 have hed:=h.ed
 have hv:=h.det.1
 have hs:=h.det.1.1
 have hi0:=h.det.1.2.1
 have key:=dZ (step:=fun s:List aH × List Edge × Int=>yG t s.1 s.2.1 s.2.2) t.E.length (fun k (_:Unit)=>(bL::(t.E.take k).map (kC t),(List.range k).map fun i=>(⟨(t.E.getD i ⟨0,0,0⟩).F,((i+1:Nat):Int),(t.E.getD i ⟨0,0,0⟩).To⟩:Edge),(k:Int))) (fun _ _=>True)
  (fun r=>r=(bL::t.E.map (kC t),(List.range t.E.length).map fun i=>(⟨(t.E.getD i ⟨0,0,0⟩).F,((i+1:Nat):Int),(t.E.getD i ⟨0,0,0⟩).To⟩:Edge))) (fun k _ hk _=>?_) (fun _ _=>?_) t.E.length 0 () (by omega) trivial
 ·obtain ⟨r,h1,rfl⟩:=key
  have h1':loop (fun s:List aH × List Edge × Int=>yG t s.1 s.2.1 s.2.2) (([([116,97,117]:aH)]:List aH),([]:List Edge),0)=some _:=h1
  unfold aGc
  rw [h1',aA]
  unfold aDJ
  simp only
  have hget:∀ i,i < t.E.length->∃ e∈t.E,t.E.getD i ⟨0,0,0⟩=e/\(bL::t.E.map (kC t)).getD (((i+1:Nat):Int)).toNat []=kC t e:=fun i hi=>by
   refine ⟨t.E[i],List.getElem_mem hi,?_,?_⟩
   ·rw [List.getD_eq_getElem?_getD,List.getElem?_eq_getElem hi];rfl
   ·rw [Int.toNat_natCast,List.getD_cons_succ,List.getD_eq_getElem?_getD,List.getElem?_map,List.getElem?_eq_getElem hi];rfl
  obtain ⟨M,Eo,m1,m2,m3,m4,m5,m6,m7⟩:=aPk (T:=bL::t.E.map (kC t)) (fun s hs=>by
    rcases List.mem_cons.1 hs with rfl|hs
    ·simp [Nm]
    ·obtain ⟨e,he,rfl⟩:=List.mem_map.1 hs
     exact h.nm _ (aIu (p:=⟨t,[],[]⟩) hv he)) (by simp;omega) (st:=t.N) (ini:=t.I) (by have:=h.st;omega) (by omega)
   (edges:=(List.range t.E.length).map fun i=>(⟨(t.E.getD i ⟨0,0,0⟩).F,((i+1:Nat):Int),(t.E.getD i ⟨0,0,0⟩).To⟩:Edge)) (by simp;omega) (fun e he=>by
    obtain ⟨i,hi,rfl⟩:=List.mem_map.1 he
    rw [List.mem_range] at hi
    obtain ⟨e,he,e1,_⟩:=hget i hi
    obtain ⟨g1,g2,g3,g4⟩:=aKQ hv he
    unfold rX at g1 g2
    refine ⟨by simp only [e1];exact g1,by simp only [e1];exact g2,by simp only;omega,by simp;omega⟩)
  have hm6:∀ x,x∈Eo<->∃ e∈t.E,x=⟨e.F,pos (bL::M) (kC t e),e.To⟩:=fun x=>by
   rw [m6]
   constructor
   ·rintro ⟨e,he,rfl⟩
    obtain ⟨i,hi,rfl⟩:=List.mem_map.1 he
    rw [List.mem_range] at hi
    obtain ⟨e,he,e1,e2⟩:=hget i hi
    refine ⟨e,he,?_⟩
    simp only [e1,e2]
   ·rintro ⟨e,he,rfl⟩
    obtain ⟨i,hi,rfl⟩:=List.getElem_of_mem he
    obtain ⟨e,he',e1,e2⟩:=hget i hi
    refine ⟨_,List.mem_map.2 ⟨i,List.mem_range.2 hi,rfl⟩,?_⟩
    have:t.E[i]=e:=by rw [←e1,List.getD_eq_getElem?_getD,List.getElem?_eq_getElem hi];rfl
    simp only [e1,e2,this]
  have hin:∀ e∈t.E,kC t e∈bL::M:=fun e he=>by
   obtain ⟨i,hi,rfl⟩:=List.getElem_of_mem he
   obtain ⟨e,he',e1,e2⟩:=hget i hi
   have:=m7 _ (List.mem_map.2 ⟨i,List.mem_range.2 hi,rfl⟩)
   simp only [e2] at this
   have h5:t.E[i]=e:=by rw [←e1,List.getD_eq_getElem?_getD,List.getElem?_eq_getElem hi];rfl
   rw [h5];exact this
  have hfl:∀ a∈t.E,∀ b∈t.E,a.F=b.F->a.B=b.B->a=b:=fun a ha b hb h1 h2=>by
   obtain ⟨i,hi,rfl⟩:=List.getElem_of_mem ha
   obtain ⟨j,hj,rfl⟩:=List.getElem_of_mem hb
   rcases Nat.lt_trichotomy i j with hij|rfl|hij
   ·have:=aEP hv h.det.2 hij hj;unfold uE at this;omega
   ·rfl
   ·have:=aEP hv h.det.2 hij hi;unfold uE at this;omega
  rw [m1,aA]
  refine ⟨_,rfl,?_⟩
  rw [h.ini]
  refine drd_mk ⟨hs.1,h.st⟩ m2 m3 (by have:=m5;simp at this;omega) (fl_of m4 fun a ha b hb h1 h2=>?_) fun e he=>?_
  ·obtain ⟨x,hx,rfl⟩:=(hm6 a).1 ha
   obtain ⟨y,hy,rfl⟩:=(hm6 b).1 hb
   simp only at h1 h2
   obtain ⟨i,hi,e1,e2⟩:=mS (hin x hx)
   obtain ⟨j,hj,e3,e4⟩:=mS (hin y hy)
   have hij:i=j:=by omega
   subst hij
   have ht:kC t x=kC t y:=e2.symm.trans e4
   rw [hfl x hx y hy h1 (aQC hv hx hy ht)]
  ·obtain ⟨x,hx,rfl⟩:=(hm6 e).1 he
   obtain ⟨g1,g2,g3,g4⟩:=aKQ hv hx
   unfold rX at g1 g2
   obtain ⟨i,hi,e1,e2⟩:=mS (hin x hx)
   refine ⟨g1,g2,?_,by simp only;omega⟩
   simp only
   rw [e1]
   rcases Nat.eq_zero_or_pos i with rfl|h0
   ·have h9:=(txt_tau hv hx).1 (by rw [←e2];rfl)
    obtain ⟨j,hj,rfl⟩:=List.getElem_of_mem hx
    exact absurd h9 (h.det.2 j hj).1
   ·omega
 ·have hw:wr ((k:Int)+1)=((k+1:Nat):Int):=aQ hk (by omega)
  have hx:=oQ (eB hv (List.getElem_mem hk))
  unfold yG
  simp only
  rw [if_pos (aV hk),aX hk,aA,hx,aA,bX (by simp [hX];omega),aA,bX (by simp [hX];omega),aA,hw]
  refine ⟨(),?_,trivial⟩
  have hlen:(((bL::(t.E.take k).map (kC t))++[kC t t.E[k]]).length:Int) - 1=((k+1:Nat):Int):=by simp;omega
  rw [hlen,dE (by omega) (by omega),List.range_succ,List.map_append,List.take_succ,List.getElem?_eq_getElem hk]
  simp [List.getD_eq_getElem?_getD,List.getElem?_eq_getElem hk]
  rw [List.take_succ,List.getElem?_map,List.getElem?_eq_getElem hk];rfl
 ·refine ⟨_,?_,rfl⟩
  unfold yG
  rw [if_neg (by simp)]
  simp
end Gv
namespace Gv
open Go
def FE (st:Int) (e:Edge):Prop:=(0<=e.F/\e.F < st)/\(0<=e.To/\e.To < st)/\1<=e.B/\e.B<=4
section
variable {c:aH} {r12 r25:Int × Int × Int} {st often:Int}
theorem free_row (hst:1<=st/\st<=5) (e1:wr (1+r12.1)=st) (ho:1<=wr (2+r25.1)) {k:Int} (hk:0<=k/\k < st) {s1:Int} (s2:Int) (h:0<=s1/\s1<=1000000000) {ed:List Edge} (hed:∀ e∈ed,FE st e) (hl:ed.length<=1000):
  ∃ a b ed',loop (fun s:Int × Int × List Edge × Int=>pD c r12 r25 k s.1 s.2.1 s.2.2.1 s.2.2.2) (s1,s2,ed,1)=some (a,b,ed')/\(∀ e∈ed',FE st e)/\ed'.length<=ed.length+4/\s1<=a/\a<=s1+24:=by
 have key:=dZ (step:=fun s:Int × Int × List Edge × Int=>pD c r12 r25 k s.1 s.2.1 s.2.2.1 s.2.2.2) 4 (fun j (a:Int × Int × List Edge)=>(a.1,a.2.1,a.2.2,((j+1:Nat):Int))) (fun j a=>(∀ e∈a.2.2,FE st e)/\a.2.2.length<=ed.length+j/\s1<=a.1/\a.1<=s1+6 * j)
  (fun r=>(∀ e∈r.2.2,FE st e)/\r.2.2.length<=ed.length+4/\s1<=r.1/\r.1<=s1+24) (fun j a hj hI=>?_) (fun a hI=>?_) 4 0 (s1,s2,ed) (by omega) ⟨hed,by simp,by simp,by simp⟩
 ·obtain ⟨⟨a,b,E⟩,h1,g1,g2,g3⟩:=key
  exact ⟨a,b,E,h1,g1,g2,g3⟩
 ·obtain ⟨x,y,o⟩:=a
  obtain ⟨g1,g2,g3,g4⟩:=hI
  simp only at g1 g2 g3 g4 ⊢
  have hw:wr (((j+1:Nat):Int)+1)=((j+1+1:Nat):Int):=by rw [dE (by omega) (by omega)];omega
  unfold pD
  obtain ⟨v,t1,t2,q,q1,q2,q3⟩:=lH c y (s1:=x) (n:=wr (2+r25.1)) (by omega) ho
  rw [if_pos (by simp;omega),q,aA]
  simp only
  unfold pC
  rw [hw]
  split
  ·exact ⟨(t1,t2,o),rfl,g1,by simp only;omega,by simp only;omega,by simp only;omega⟩
  ·obtain ⟨b,u1,u2,p,p1,p2⟩:=aFM c t2 (s1:=t1) (n:=3) (by omega) (by omega)
   rw [p,aA]
   simp only
   cases b with
   |false=>
    rw [if_neg (by simp)]
    exact ⟨(u1,u2,o),rfl,g1,by simp only;omega,by simp only;omega,by simp only;omega⟩
   |true=>
    obtain ⟨v',w1,w2,q',q1',q2',q3'⟩:=lH c u2 (s1:=u1) (n:=st) (by omega) (by omega)
    rw [if_pos rfl,e1,q',aA,bX (by simp [hX];omega),aA]
    refine ⟨(w1,w2,_),rfl,fun e he=>?_,by simp;omega,by simp only;omega,by simp only;omega⟩
    rcases List.mem_append.1 he with he|he
    ·exact g1 e he
    ·rw [List.mem_singleton] at he
     subst he
     exact ⟨hk,q1',by simp only;omega,by simp only;omega⟩
 ·obtain ⟨x,y,o⟩:=a
  obtain ⟨g1,g2,g3,g4⟩:=hI
  simp only at g1 g2 g3 g4 ⊢
  refine ⟨(x,y,o),?_,g1,by simp only;omega,g3,by simp only;omega⟩
  unfold pD
  rw [if_neg (by simp)]
theorem free_rows (hst:1<=st/\st<=5) (e1:wr (1+r12.1)=st) (ho:1<=wr (2+r25.1)) {s1:Int} (s2:Int) (h:0<=s1/\s1<=100000000):
  ∃ a b ed',loop (fun s:Int × Int × List Edge × Int=>nH c r12 r25 s.1 s.2.1 s.2.2.1 s.2.2.2) (s1,s2,([]:List Edge),0)=some (a,b,ed')/\(∀ e∈ed',FE st e)/\ed'.length<=25/\s1<=a/\a<=s1+150:=by
 have key:=dZ (step:=fun s:Int × Int × List Edge × Int=>nH c r12 r25 s.1 s.2.1 s.2.2.1 s.2.2.2) st.toNat (fun j (a:Int × Int × List Edge)=>(a.1,a.2.1,a.2.2,(j:Int))) (fun j a=>(∀ e∈a.2.2,FE st e)/\a.2.2.length<=5 * j/\s1<=a.1/\a.1<=s1+26 * j)
  (fun r=>(∀ e∈r.2.2,FE st e)/\r.2.2.length<=25/\s1<=r.1/\r.1<=s1+150) (fun j a hj hI=>?_) (fun a hI=>?_) st.toNat 0 (s1,s2,[]) (by omega) ⟨by simp,by simp,by simp,by simp⟩
 ·obtain ⟨⟨a,b,E⟩,h1,g1,g2,g3⟩:=key
  exact ⟨a,b,E,h1,g1,g2,g3⟩
 ·obtain ⟨x,y,o⟩:=a
  obtain ⟨g1,g2,g3,g4⟩:=hI
  simp only at g1 g2 g3 g4 ⊢
  have hw:wr ((j:Int)+1)=((j+1:Nat):Int):=by rw [dE (by omega) (by omega)];omega
  obtain ⟨a,b,ed',q,q1,q2,q3,q4⟩:=free_row (c:=c) (r12:=r12) (r25:=r25) hst e1 ho (k:=(j:Int)) (by omega) y (s1:=x) (by omega) g1 (by omega)
  unfold nH
  rw [if_pos (by rw [e1];simp;omega),q,aA]
  simp only
  unfold yK tG
  obtain ⟨v,t1,t2,p,p1,p2,p3⟩:=lH c b (s1:=a) (n:=3) (by omega) (by omega)
  rw [p,aA,hw]
  simp only
  split
  ·obtain ⟨u,f1,f2,f3⟩:=rm_ok (x:=(j:Int)) (n:=3) (by omega) (by omega)
   obtain ⟨z,k1,k2,k3⟩:=rm_ok (x:=((j+1:Nat):Int)) (n:=st) (by omega) (by omega)
   have hw2:wr (1+u)=1+u:=dE (by omega) (by omega)
   rw [f1,aA,e1,k1,aA,bX (by simp [hX];omega),aA,hw2]
   refine ⟨(t1,t2,_),rfl,fun e he=>?_,by simp;omega,by simp only;omega,by simp only;omega⟩
   rcases List.mem_append.1 he with he|he
   ·exact q1 e he
   ·rw [List.mem_singleton] at he
    subst he
    exact ⟨⟨by simp only;omega,by simp only;omega⟩,⟨k2,k3⟩,by simp only;omega,by simp only;omega⟩
  ·exact ⟨(t1,t2,ed'),rfl,q1,by simp only;omega,by simp only;omega,by simp only;omega⟩
 ·obtain ⟨x,y,o⟩:=a
  obtain ⟨g1,g2,g3,g4⟩:=hI
  simp only at g1 g2 g3 g4 ⊢
  refine ⟨(x,y,o),?_,g1,by simp only;omega,g3,by simp only;omega⟩
  unfold nH
  rw [if_neg (by rw [e1];simp;omega)]
theorem free_kept {t:aP} (hE:SE t.E) (hl:t.E.length<=100):∃ kept,loop (fun s:List Edge × Int=>pB t s.1 s.2) (([]:List Edge),0)=some kept/\kept.Pairwise uE/\(∀ e∈kept,e∈t.E)/\kept.length<=t.E.length:=by
 have key:=dZ (step:=fun s:List Edge × Int=>pB t s.1 s.2) t.E.length (fun k (a:List Edge)=>(a,(k:Int))) (fun k a=>a.Pairwise uE/\(∀ e∈a,e∈t.E.take k)/\a.length<=k)
  (fun r=>r.Pairwise uE/\(∀ e∈r,e∈t.E)/\r.length<=t.E.length) (fun k a hk hI=>?_) (fun a hI=>?_) t.E.length 0 [] (by omega) ⟨List.Pairwise.nil,by simp,by simp⟩
 ·obtain ⟨r,h1,h2⟩:=key
  exact ⟨r,h1,h2⟩
 ·obtain ⟨g1,g2,g3⟩:=hI
  have hw:wr ((k:Int)+1)=((k+1:Nat):Int):=aQ hk (by omega)
  have hno:∃ a',jP t a (k:Int) false=some (.inl (a',((k+1:Nat):Int)))/\a'.Pairwise uE/\(∀ e∈a',e∈t.E.take (k+1))/\a'.length<=k+1:=by
   unfold jP pA
   rw [if_neg (by simp),hw]
   exact ⟨a,rfl,g1,fun e he=>(List.take_subset_take_left _ (by omega)) (g2 e he),by omega⟩
  have hyes:(∀ x∈a,uE x t.E[k])->∃ a',jP t a (k:Int) true=some (.inl (a',((k+1:Nat):Int)))/\a'.Pairwise uE/\(∀ e∈a',e∈t.E.take (k+1))/\a'.length<=k+1:=fun hx=>by
   unfold jP pA
   rw [if_pos rfl,aX hk,aA,bX (by simp [hX];omega),aA,hw]
   refine ⟨_,rfl,List.pairwise_append.2 ⟨g1,by simp,fun x h1 y h2=>by rw [List.mem_singleton] at h2;subst h2;exact hx x h1⟩,fun e he=>?_,by simp;omega⟩
   rw [List.take_succ,List.getElem?_eq_getElem hk]
   rcases List.mem_append.1 he with he|he
   ·exact List.mem_append_left _ (g2 e he)
   ·exact List.mem_append_right _ (by simpa using he)
  unfold pB
  simp only
  rw [if_pos (aV hk)]
  by_cases h0:a.length=0
  ·rw [if_pos (by simpa using h0)]
   exact hyes fun x hx=>by rw [List.length_eq_zero_iff.1 h0] at hx;cases hx
  ·rw [if_neg (by simpa using h0)]
   have hm:a.length - 1 < a.length:=by omega
   have hw2:wr ((a.length:Int) - 1)=((a.length - 1:Nat):Int):=by rw [dE (by omega) (by omega)];omega
   rw [hw2,aX hm,aA,aX hk,aA]
   have hlast:bK a[a.length - 1] t.E[k]=true:=by
    have:=g2 _ (List.getElem_mem hm)
    obtain ⟨j,hj,e⟩:=List.getElem_of_mem this
    rw [List.length_take] at hj
    rw [←e,List.getElem_take]
    exact List.pairwise_iff_getElem.1 hE j k (by omega) hk (by omega)
   have hgo:¬ (a[a.length - 1].F=t.E[k].F/\a[a.length - 1].B=t.E[k].B)->∀ x∈a,uE x t.E[k]:=fun hne x hx=>by
    have h1:uE a[a.length - 1] t.E[k]:=by
     rw [mG] at hlast
     unfold uE
     omega
    obtain ⟨j,hj,rfl⟩:=List.getElem_of_mem hx
    by_cases hjl:j=a.length - 1
    ·subst hjl;exact h1
    ·exact aMZ (List.pairwise_iff_getElem.1 g1 j (a.length - 1) hj hm (by omega)) h1
   by_cases h3:a[a.length - 1].F=t.E[k].F
   ·rw [if_neg (by simpa using h3)]
    by_cases h4:a[a.length - 1].B=t.E[k].B
    ·rw [show (a[a.length - 1].B != t.E[k].B)=false from by simpa using h4]
     exact hno
    ·rw [show (a[a.length - 1].B != t.E[k].B)=true from by simpa using h4]
     exact hyes (hgo fun h=>h4 h.2)
   ·rw [if_pos (by simpa using h3)]
    exact hyes (hgo fun h=>h3 h.1)
 ·obtain ⟨g1,g2,g3⟩:=hI
  refine ⟨a,?_,g1,fun e he=>List.mem_of_mem_take (g2 e he),g3⟩
  unfold pB
  rw [if_neg (by simp)]
end
theorem aDd (c:aH) {s1 most:Int} (s2:Int) (h:0<=s1/\s1<=10000000) (hm:1<=most/\most<=5):∃ t s1' s2',mQ c s1 s2 most=some (t,s1',s2')/\DrD t/\s1<=s1'/\s1'<=s1+200:=by
 obtain ⟨v,a,b,x,y,z,w⟩:=lH c s2 (s1:=s1) (n:=most) (by omega) (by omega)
 obtain ⟨v2,a2,b2,x2,y2,z2,w2⟩:=lH c b (s1:=a) (n:=2) (by omega) (by omega)
 have e1:wr (1+v)=1+v:=dE (by omega) (by omega)
 have e2:wr (2+v2)=2+v2:=dE (by omega) (by omega)
 obtain ⟨a3,b3,ed,x3,y3,z3,w3,w3'⟩:=free_rows (c:=c) (r12:=(v,a,b)) (r25:=(v2,a2,b2)) (st:=1+v) (by omega) e1 (by simp only [e2];omega) b2 (s1:=a2) (by omega)
 have hT:∀ s∈([([116,97,117]:aH),([97]:aH),([98]:aH),([99]:aH),([103,101,116,40,48,41]:aH)]:List aH),s∈Nm:=by decide
 obtain ⟨M,Eo,m1,m2,m3,m4,m5,m6,m7⟩:=aPk hT (by simp) (st:=1+v) (ini:=0) (by omega) (by omega) (edges:=ed) (by omega) (fun e he=>by
  have:=y3 e he
  unfold FE at this
  refine ⟨this.1,this.2.1,by omega,by simp;omega⟩)
 obtain ⟨kept,k1,k2,k3,k4⟩:=free_kept (t:=⟨1+v,0,bL::M,Eo⟩) m4 (by simp only;omega)
 simp only at k3 k4
 have hd:DrD ⟨1+v,0,bL::M,kept⟩:=by
  refine drd_mk (by omega) m2 m3 (by omega) k2 fun e he=>?_
  obtain ⟨q,hq,rfl⟩:=(m6 e).1 (k3 e he)
  have hf:=y3 q hq
  unfold FE at hf
  obtain ⟨i,hi,e3,e4⟩:=mS (m7 q hq)
  refine ⟨hf.1,hf.2.1,?_,by simp only;omega⟩
  simp only
  rw [e3]
  rcases Nat.eq_zero_or_pos i with rfl|h0
  ·exfalso
   rw [List.getElem_cons_zero] at e4
   have:∀ n:Nat,1<=n->n<=4->bL≠([([116,97,117]:aH),([97]:aH),([98]:aH),([99]:aH),([103,101,116,40,48,41]:aH)]:List aH).getD n []:=by
    intro n h1 h2
    have:n=1\/n=2\/n=3\/n=4:=by omega
    rcases this with rfl|rfl|rfl|rfl<;>decide
   exact this _ (by omega) (by omega) e4
  ·omega
 unfold mQ
 rw [x,aA]
 simp only
 rw [x2,aA]
 simp only
 rw [x3,aA]
 unfold tF
 simp only
 rw [e1,m1,aA,k1,aA]
 unfold yJ
 obtain ⟨bb,a4,b4,x4,z4,w4⟩:=aFM c b3 (s1:=a3) (n:=2) (by omega) (by omega)
 rw [x4,aA]
 simp only
 cases bb with
 |false=>
  rw [if_neg (by simp)]
  exact ⟨_,_,_,rfl,hd,by omega,by omega⟩
 |true=>
  obtain ⟨t',u1,u2⟩:=used_ok hd
  rw [if_pos rfl,u1,aA]
  exact ⟨_,_,_,rfl,u2,by omega,by omega⟩
end Gv
namespace Gv
open Go
theorem DrD.fits9 {t:aP} (h:DrD t):eZ 999999999 t:=h.fits.mono (by decide)
theorem own_dr {t:aP} (h:eZ 999999 t):aGd t=some t:=by
 have h1:=h.1
 have h3:=h.2.2
 unfold aGd
 rw [bX (by simp [hX];omega),aA,bX (by simp [hX];omega),aA,List.nil_append,List.nil_append]
theorem DrD.fl {t:aP} (h:DrD t):t.E.Pairwise uE:=List.pairwise_iff_getElem.2 fun _ _ _ hj hij=>aEP h.det.1 h.det.2 hij hj
theorem DrD.less {t:aP} (h:DrD t) {E:List Edge} (hE:E.Sublist t.E):DrD ⟨t.N,t.I,t.L,E⟩:=by
 have hs:=h.det.1.1
 have hl:=hE.length_le
 have he:=h.ed
 rw [h.ini]
 refine drd_mk ⟨hs.1,h.st⟩ h.det.1.2.2.1 h.nm (by omega) (h.fl.sublist hE) fun e hx=>?_
 have hm:=hE.subset hx
 obtain ⟨g1,g2,g3,g4⟩:=aKQ h.det.1 hm
 obtain ⟨j,hj,e1⟩:=List.getElem_of_mem hm
 have h0:=(h.det.2 j hj).1
 rw [e1] at h0
 exact ⟨g1,g2,by omega,g4⟩
theorem aQE {E:List Edge} (hl:E.length<=10000000) {v:Int} (hv:0<=v/\v < E.length):∃ A B,qT E 0 v=some A/\qT E (wr (v+1)) (E.length:Int)=some B/\rZ A B=some (A++B)/\(A++B).Sublist E:=by
 obtain ⟨n,rfl⟩:∃ n:Nat,v=(n:Int):=⟨v.toNat,by omega⟩
 have hw:wr ((n:Int)+1)=((n+1:Nat):Int):=by rw [dE (by omega) (by omega)];omega
 refine ⟨E.take n,E.drop (n+1),aPY (by omega),?_,bX (by simp [hX];omega),?_⟩
 ·rw [hw];exact aEQ (by omega)
 ·have:=(List.Sublist.refl (E.take n)).append (List.drop_sublist_drop_left E (show n<=n+1 by omega))
  rwa [List.take_append_drop] at this
structure DrP (p:aO):Prop where
 sys:DrD p.S
 ok:eJ p
 fits:iO 999999 p
def aLH:List aH:=[[97],[98],[99],[103,101,116]]
theorem act_sub {l:List aH} (h:l.Sublist aLH):aER l:=by
 have h1:∀ m∈[[],[([103,101,116]:aH)],[[99]],[[99],[103,101,116]],[[98]],[[98],[103,101,116]],[[98],[99]],[[98],[99],[103,101,116]],[[97]],[[97],[103,101,116]],[[97],[99]],[[97],[99],[103,101,116]],[[97],[98]],[[97],[98],[103,101,116]],[[97],[98],[99]],[[97],[98],[99],[103,101,116]]],aER m:=by
  have hact:∀ s∈aLH,uB s=true:=by decide
  have hp:aLH.Pairwise fun a b=>wY a b=true:=by decide
  intro m hm
  have hs:m.Sublist aLH:=by revert hm;revert m;decide
  refine ⟨Nat.le_trans hs.length_le (by decide),fun s hx=>hact s (hs.subset hx),fun k h1 hk=>?_⟩
  exact List.pairwise_iff_getElem.1 (hp.sublist hs) (k - 1) k (by omega) hk (by omega)
 have hact:∀ s∈aLH,uB s=true:=by decide
 have hp:aLH.Pairwise fun a b=>wY a b=true:=by decide
 refine ⟨Nat.le_trans h.length_le (by decide),fun s hx=>hact s (h.subset hx),fun k h1 hk=>?_⟩
 exact List.pairwise_iff_getElem.1 (hp.sublist h) (k - 1) k (by omega) hk (by omega)
theorem aTB (c:aH) {s1:Int} (s2:Int) (h:0<=s1/\s1<=1000000):∃ p s1' s2',aCY c s1 s2=some (p,s1',s2')/\DrP p/\s1<=s1'/\s1'<=s1+300:=by
 obtain ⟨t,a,b,x,y,z,w⟩:=aDd c s2 (s1:=s1) (most:=5) (by omega) (by omega)
 have hst:=y.st
 have hst1:=y.det.1.1.1
 have key:=dZ (step:=fun s:Int × Int × List Int × Int=>tI c (t,a,b) s.1 s.2.1 s.2.2.1 s.2.2.2) t.N.toNat (fun j (q:Int × Int × List Int)=>(q.1,q.2.1,q.2.2,(j:Int))) (fun j q=>((∀ v∈q.2.2,0<=v/\v < (j:Int))/\q.2.2.Pairwise fun a b=>a < b)/\q.2.2.length<=j/\a<=q.1/\q.1<=a+2 * j)
  (fun r=>((∀ v∈r.2.2,0<=v/\v<=t.N - 1)/\r.2.2.Pairwise fun a b=>a < b)/\r.2.2.length<=5/\a<=r.1/\r.1<=a+10) (fun j q hj hI=>?_) (fun q hI=>?_) t.N.toNat 0 (a,b,[]) (by omega) ⟨⟨by simp,by simp⟩,by simp,by simp,by simp⟩
 ·obtain ⟨⟨a1,b1,M⟩,h1,⟨g1,g1'⟩,g2,g3,g4⟩:=key
  simp only at g1 g1' g2 g3 g4
  have h1':loop (fun s:Int × Int × List Int × Int=>tI c (t,a,b) s.1 s.2.1 s.2.2.1 s.2.2.2) (a,b,([]:List Int),0)=some (a1,b1,M):=h1
  have key2:=dZ (step:=fun s:Int × Int × List aH × Int=>tH c s.1 s.2.1 s.2.2.1 s.2.2.2) 4 (fun j (q:Int × Int × List aH)=>(q.1,q.2.1,q.2.2,(j:Int))) (fun j q=>q.2.2.Sublist (aLH.take j)/\a1<=q.1/\q.1<=a1+2 * j)
   (fun r=>r.1.Sublist aLH/\a1<=r.2.1/\r.2.1<=a1+8) (fun j q hj hI=>?_) (fun q hI=>?_) 4 0 (a1,b1,[]) (by omega) ⟨by simp,by simp,by simp⟩
  ·obtain ⟨⟨C,a2,b2⟩,h2,q1,q2,q3⟩:=key2
   simp only at q1 q2 q3
   have h2':loop (fun s:Int × Int × List aH × Int=>tH c s.1 s.2.1 s.2.2.1 s.2.2.2) (a1,b1,([]:List aH),0)=some (C,a2,b2):=h2
   unfold aCY
   rw [x,aA]
   simp only
   rw [h1',aA]
   unfold aBF
   rw [h2',aA]
   unfold aEB
   have hC:=q1.length_le
   have h4:aLH.length=4:=rfl
   refine ⟨_,_,_,rfl,⟨y,⟨y.det,rise_of g1 g1',act_sub q1⟩,⟨y.fits,by simp only;omega,by simp only;omega,fun s hs=>?_⟩⟩,by simp only;omega,by simp only;omega⟩
   have:∀ s∈aLH,s.length<=999999:=by decide
   exact this s (q1.subset hs)
  ·obtain ⟨x2,y2,o⟩:=q
   obtain ⟨i1,i3,i4⟩:=hI
   simp only at i1 i3 i4 ⊢
   obtain ⟨v1,t1,t1',p1,p1',p1'',p1'''⟩:=lH c y2 (s1:=x2) (n:=5) (by omega) (by omega)
   have hw:wr ((j:Int)+1)=((j+1:Nat):Int):=by rw [dE (by omega) (by omega)];omega
   have hj':j < aLH.length:=hj
   have hol:=i1.length_le
   rw [List.length_take] at hol
   unfold tH
   rw [show ([([97]:aH),([98]:aH),([99]:aH),([103,101,116]:aH)]:List aH)=aLH from rfl,if_pos (aV hj'),p1,aA]
   simp only
   unfold xH
   rw [hw]
   split
   ·rw [aX hj',aA,bX (by simp [hX];omega),aA]
    refine ⟨(t1,t1',_),rfl,?_,by simp only;omega,by simp only;omega⟩
    rw [List.take_succ,List.getElem?_eq_getElem hj']
    exact i1.append (List.Sublist.refl _)
   ·exact ⟨(t1,t1',o),rfl,i1.trans (List.take_sublist_take_left (by omega)),by simp only;omega,by simp only;omega⟩
  ·obtain ⟨x2,y2,o⟩:=q
   obtain ⟨i1,i3,i4⟩:=hI
   simp only at i1 i3 i4 ⊢
   refine ⟨(o,x2,y2),?_,by rw [List.take_of_length_le (by decide)] at i1;exact i1,i3,by simp only;omega⟩
   unfold tH
   rw [if_neg (by simp)]
 ·obtain ⟨x2,y2,o⟩:=q
  obtain ⟨⟨i1,i1'⟩,i2,i3,i4⟩:=hI
  simp only at i1 i1' i2 i3 i4 ⊢
  have hw:wr ((j:Int)+1)=((j+1:Nat):Int):=by rw [dE (by omega) (by omega)];omega
  obtain ⟨bb,ao,bo,xo,zo,wo⟩:=aFM c y2 (s1:=x2) (n:=2) (by omega) (by omega)
  unfold tI
  simp only
  rw [if_pos (by simp;omega),xo,aA]
  simp only
  unfold xI
  rw [hw]
  cases bb with
  |false=>
   rw [if_neg (by simp)]
   exact ⟨(ao,bo,o),rfl,⟨fun v hv=>by have:=i1 v hv;omega,i1'⟩,by simp only;omega,by simp only;omega,by simp only;omega⟩
  |true=>
   rw [if_pos rfl,bX (by simp [hX];omega),aA]
   refine ⟨(ao,bo,_),rfl,⟨fun v hv=>?_,List.pairwise_append.2 ⟨i1',by simp,fun u hu v hv=>?_⟩⟩,by simp;omega,by simp only;omega,by simp only;omega⟩
   ·rcases List.mem_append.1 hv with hv|hv
    ·have:=i1 v hv;omega
    ·rw [List.mem_singleton] at hv;omega
   ·rw [List.mem_singleton] at hv
    have:=i1 u hu;omega
 ·obtain ⟨x2,y2,o⟩:=q
  obtain ⟨⟨i1,i1'⟩,i2,i3,i4⟩:=hI
  simp only at i1 i1' i2 i3 i4 ⊢
  refine ⟨(x2,y2,o),?_,⟨fun v hv=>by have:=i1 v hv;omega,i1'⟩,by simp only;omega,i3,by simp only;omega⟩
  unfold tI
  rw [if_neg (by simp;omega)]
theorem need_ok (c:aH) {s1:Int} (s2:Int) (h:0<=s1/\s1<=1000000) {p:aO} (hp:DrP p):∃ t s1' s2',aAe c s1 s2 p=some (t,s1',s2')/\eZ 999999 t/\s1<=s1'/\s1'<=s1+1000:=by
 obtain ⟨bb,a,b,x,z,w⟩:=aFM c s2 (s1:=s1) (n:=3) (by omega) (by omega)
 have key:∀ v:Bool,(v=true->0 < p.S.E.length)->∃ t s1' s2',lT c p a b v=some (t,s1',s2')/\eZ 999999 t/\s1<=s1'/\s1'<=s1+1000:=by
  intro v hv
  unfold lT
  cases v with
  |true=>
   rw [if_pos rfl,own_dr hp.fits.sys,aA]
   obtain ⟨v,a1,b1,x1,y1,z1,w1⟩:=lH c b (s1:=a) (n:=(p.S.E.length:Int)) (by omega) (by have:=hv rfl;omega)
   obtain ⟨A,B,c1,c2,c3,c4⟩:=aQE (E:=p.S.E) (by have:=hp.fits.sys.2.2;omega) y1
   rw [x1,aA,c1,aA,c2,aA,c3,aA]
   have:=c4.length_le
   exact ⟨_,_,_,rfl,⟨hp.fits.sys.1,hp.fits.sys.2.1,by have:=hp.fits.sys.2.2;simp only;omega⟩,by simp only;omega,by simp only;omega⟩
  |false=>
   obtain ⟨t,a1,b1,x1,y1,z1,w1⟩:=aDd c b (s1:=a) (most:=3) (by omega) (by omega)
   obtain ⟨b2,a3,b3,x3,z3,w3⟩:=aFM c b1 (s1:=a1) (n:=16) (by omega) (by omega)
   rw [if_neg (by simp),x1,aA]
   simp only
   rw [x3,aA]
   simp only
   cases b2 with
   |false=>
    rw [if_neg (by simp)]
    exact ⟨_,_,_,rfl,y1.fits,by omega,by omega⟩
   |true=>
    obtain ⟨t',a4,b4,x4,⟨y4,_⟩,z4,w4⟩:=drawOk_ok c b3 (s1:=a3) (by omega)
    rw [if_pos rfl,x4,aA]
    have hf:=y4.fits
    have h1:=y4.ok.2.2.1.2.1
    have h2:=y4.ed
    refine ⟨_,_,_,rfl,⟨by simp only;omega,fun s hs=>?_,by simp only;omega⟩,by simp only;omega,by simp only;omega⟩
    have:=Nm_len s (y4.nm s hs)
    omega
 unfold aAe
 rw [x,aA]
 simp only
 cases bb with
 |false=>rw [if_neg (by simp)];exact key false (by simp)
 |true=>
  rw [if_pos rfl,aRv p (hp.fits.mono (by decide)),aA,jL hp.ok,if_pos rfl]
  exact key _ (by simp)
theorem boss_ok (c:aH) {s1:Int} (s2:Int) (h:0<=s1/\s1<=100000) {p:aO} (hp:DrP p) {r:aP} (hr:DrD r):∃ t s1' s2',vW c s1 s2 p r=some (t,s1',s2')/\eZ 999999 t/\s1<=s1'/\s1'<=s1+2000:=by
 have hf9:iO 999999999 p:=hp.fits.mono (by decide)
 have hd:=hr.det
 obtain ⟨bb,a,b,x,z,w⟩:=aFM c s2 (s1:=s1) (n:=4) (by omega) (by omega)
 unfold vW
 rw [aRv p hf9,aA,aJn r hr.fits9,aA,jL hp.ok,jL hd]
 simp only [Bool.not_true,Bool.false_eq_true,if_false]
 rw [x,aA]
 simp only
 unfold pH
 cases bb with
 |true=>
  obtain ⟨t,a1,b1,x1,y1,z1,w1⟩:=need_ok c b (s1:=a) (by omega) hp
  rw [if_pos rfl,x1,aA]
  exact ⟨_,_,_,rfl,y1,by simp only;omega,by simp only;omega⟩
 |false=>
  rw [if_neg (by simp),aRy hp.ok.1 hd,aA]
  simp only
  have hm:p.M.length < 1000000000:=by have:=hf9.marks;omega
  obtain ⟨al,e1,l1,s1',g1⟩:=s_trim_eq hf9.small hm hp.ok.1 hd (decide (40 < (bE p r).1.length)||decide (300 < (bE p r).2.length))
  rw [e1,aA]
  have hF1:1<=(FQ p r).length:=List.length_pos_of_mem (aHb p r)
  have hix:ix al (0:Int)=some (al.getD 0 false):=bgd (k:=0) (show 0 < al.length by omega)
  rw [hix,aA]
  have hfree:∃ t s1' s2',lV c p r a b ((bE p r).1.map R2,(bE p r).2,(decide (40 < (bE p r).1.length)||decide (300 < (bE p r).2.length))) al true=some (t,s1',s2')/\eZ 999999 t/\s1<=s1'/\s1'<=s1+2000:=by
   obtain ⟨t,a1,b1,x1,y1,z1,w1⟩:=aDd c b (s1:=a) (most:=3) (by omega) (by omega)
   unfold lV
   rw [if_pos rfl,x1,aA]
   exact ⟨_,_,_,rfl,y1.fits,by simp only;omega,by simp only;omega⟩
  cases ha:al.getD 0 false with
  |false=>simpa using hfree
  |true=>
   simp only [Bool.not_true,Bool.false_eq_true,if_false]
   by_cases hbig:40 < (bE p r).1.length\/300 < (bE p r).2.length
   ·have hb:(decide (40 < (bE p r).1.length)||decide (300 < (bE p r).2.length))=true:=by simpa using hbig
    rw [hb] at hfree ⊢
    exact hfree
   ·have hb:(decide (40 < (bE p r).1.length)||decide (300 < (bE p r).2.length))=false:=by simpa using hbig
    rw [hb]
    have hW:=aCc hp.ok.1.1 hd.1
    have h0:al[0]?=some true:=mT.1 ha
    have hin:(p.S.I,r.I)∈kq (bE p r).1 al:=(aNu hW.1 (aGu p r)).2 h0
    have hsub:=aIg (bE p r).1 al
    have hok:bB (fV p r (kq (bE p r).1 al)):=(aQm hp.ok.1 (hsub.nodup hW.1) hin).2 (by
     have h1:=hsub.length_le
     have h2:=EK_le hp.ok.1.1 hd.1 hsub
     rw [aIf];omega)
    have hRl:=aQp (fV p r (kq (bE p r).1 al))
    have h40:(fV p r (kq (bE p r).1 al)).N<=40:=hok.1.1.2
    have hk3:=aIt (fV p r (kq (bE p r).1 al)) (RL (fV p r (kq (bE p r).1 al)))
    have h300:(fV p r (kq (bE p r).1 al)).E.length<=300:=hok.1.2.2.2.1
    unfold lV
    rw [if_neg (by simp),build_eq hp.ok.1 hd _ al l1,aA]
    simp only
    rw [aRN hok.1,aA,aTj hok.1 (by omega),aA]
    obtain ⟨b2,a3,b3,x3,z3,w3⟩:=aFM c b (s1:=a) (n:=3) (by omega) (by omega)
    rw [x3,aA]
    simp only
    have key:∀ v:Bool,(v=true->0 < (aEV (fV p r (kq (bE p r).1 al)) (RL (fV p r (kq (bE p r).1 al)))).E.length)->∃ t s1' s2',pG c (aEV (fV p r (kq (bE p r).1 al)) (RL (fV p r (kq (bE p r).1 al)))) a3 b3 v=some (t,s1',s2')/\eZ 999999 t/\s1<=s1'/\s1'<=s1+2000:=by
     intro v hv
     have hfl:∀ E:List Edge,E.length<=300->eZ 999999 ⟨(aEV (fV p r (kq (bE p r).1 al)) (RL (fV p r (kq (bE p r).1 al)))).N,(aEV (fV p r (kq (bE p r).1 al)) (RL (fV p r (kq (bE p r).1 al)))).I,(aEV (fV p r (kq (bE p r).1 al)) (RL (fV p r (kq (bE p r).1 al)))).L,E⟩:=fun E hE=>⟨hp.fits.sys.1,hp.fits.sys.2.1,by simp only;omega⟩
     have h3:(aEV (fV p r (kq (bE p r).1 al)) (RL (fV p r (kq (bE p r).1 al)))).E.length<=300:=Nat.le_trans hk3 h300
     generalize aEV (fV p r (kq (bE p r).1 al)) (RL (fV p r (kq (bE p r).1 al)))=T at hv hfl h3
     unfold pG yN
     cases v with
     |false=>
      rw [if_neg (by simp)]
      exact ⟨_,_,_,rfl,hfl _ h3,by omega,by omega⟩
     |true=>
      obtain ⟨v,a4,b4,x4,y4,z4,w4⟩:=lH c b3 (s1:=a3) (n:=(T.E.length:Int)) (by omega) (by have:=hv rfl;omega)
      obtain ⟨A,B,c1,c2,c3,c4⟩:=aQE (E:=T.E) (by omega) y4
      have:=c4.length_le
      rw [if_pos rfl,x4,aA,c1,aA,c2,aA,c3,aA]
      exact ⟨_,_,_,rfl,hfl _ (by omega),by simp only;omega,by simp only;omega⟩
    cases b2 with
    |false=>rw [if_neg (by simp)];exact key false (by simp)
    |true=>rw [if_pos rfl];exact key _ (by simp)
theorem plant8_ok (cs:aH):∃ p r s,aGi cs=some (p,r,s)/\DrP p/\DrD r/\eZ 999999 s:=by
 obtain ⟨p,a,b,x,y,z,w⟩:=aTB cs 0 (s1:=0) (by omega)
 obtain ⟨r,a1,b1,x1,y1,z1,w1⟩:=aDd cs b (s1:=a) (most:=3) (by omega) (by omega)
 obtain ⟨bb,a2,b2,x2,z2,w2⟩:=aFM cs b1 (s1:=a1) (n:=3) (by omega) (by omega)
 have key2:∀ (r:aP) (u v:Int),DrD r->0<=u->u<=10000->∃ q r' s,yO cs (p,a,b) u v r.N r.I r.L r.E=some (q,r',s)/\DrP q/\DrD r'/\eZ 999999 s:=by
  intro r u v hr hu hu'
  obtain ⟨t,a3,b3,x3,y3,z3,w3⟩:=boss_ok cs v (s1:=u) (by omega) y hr
  unfold yO
  simp only
  have e:vW cs u v p ⟨r.N,r.I,r.L,r.E⟩=some (t,a3,b3):=x3
  rw [e,aA]
  simp only
  rw [aJn t (y3.mono (by decide)),aA]
  unfold aBL
  split
  ·obtain ⟨s,a4,b4,x4,y4,z4,w4⟩:=aDd cs b3 (s1:=a3) (most:=3) (by omega) (by omega)
   rw [x4,aA]
   exact ⟨_,_,_,rfl,y,hr,y4.fits⟩
  ·exact ⟨_,_,_,rfl,y,hr,y3⟩
 have key3:∀ v:Bool,(v=true->0 < p.S.E.length)->∃ q r' s,yP cs (p,a,b) (r,a1,b1) a2 b2 v=some (q,r',s)/\DrP q/\DrD r'/\eZ 999999 s:=by
  intro v hv
  unfold yP
  simp only
  cases v with
  |false=>rw [if_neg (by simp)];exact key2 r a2 b2 y1 (by omega) (by omega)
  |true=>
   rw [if_pos rfl,own_dr y.fits.sys,aA]
   obtain ⟨v,a4,b4,x4,y4,z4,w4⟩:=lH cs b2 (s1:=a2) (n:=(p.S.E.length:Int)) (by omega) (by have:=hv rfl;omega)
   obtain ⟨A,B,c1,c2,c3,c4⟩:=aQE (E:=p.S.E) (by have:=y.fits.sys.2.2;omega) y4
   rw [x4,aA,c1,aA,c2,aA,c3,aA]
   exact key2 ⟨p.S.N,p.S.I,p.S.L,A++B⟩ a4 b4 (y.sys.less c4) (by omega) (by omega)
 unfold aGi
 have hfrom:aKs cs=some (0,0):=rfl
 rw [hfrom,aA,x,aA]
 simp only
 rw [x1,aA]
 simp only
 rw [x2,aA]
 simp only
 cases bb with
 |false=>rw [if_neg (by simp)];exact key3 false (by simp)
 |true=>rw [if_pos rfl];exact key3 _ (by simp)
end Gv
namespace Gv
open Option.some renaming inj→zI
open Go
abbrev Tr:=Int × Int × Int
def TStep (p:aO) (s r:aP) (t t':Tr):Prop:=∃ e∈p.S.E,e.F=t.1/\∃ y z,alo s t.2.1 (kC p.S e)=some y/\alo r t.2.2 (kC p.S e)=some z/\t'=(e.To,y,z)
inductive Tri (p:aO) (s r:aP):Tr->Prop
 |ini:Tri p s r (p.S.I,s.I,r.I)
 |go {t t':Tr}:Tri p s r t->TStep p s r t t'->Tri p s r t'
def TOk (p:aO) (s r:aP) (t:Tr) (e:Edge):Prop:=(alo s t.2.1 (kC p.S e)=none->ctl p (kC p.S e)=true)/\∀ y,alo s t.2.1 (kC p.S e)=some y->(alo r t.2.2 (kC p.S e)).isSome=true
inductive GT (p:aO) (s r:aP):Tr->Prop
 |mark {t:Tr}:mkB p (t.1,0)=true->GT p s r t
 |go {t t':Tr}:TStep p s r t t'->GT p s r t'->GT p s r t
structure Sup (p:aO) (s r:aP):Prop where
 ok:∀ t,Tri p s r t->∀ e∈p.S.E,e.F=t.1->TOk p s r t e
 co:∀ t,Tri p s r t->GT p s r t
def inTr (p:aO) (s r:aP) (t:Tr):Prop:=(0<=t.1/\t.1<=p.S.N - 1)/\(0<=t.2.1/\t.2.1<=s.N - 1)/\0<=t.2.2/\t.2.2<=r.N - 1
theorem tr_len {p:aO} {s r:aP} (hp:aT p.S) (hs:aT s) (hr:aT r) {F:List Tr} (hn:F.Nodup) (h:∀ t∈F,inTr p s r t):F.length<=64000:=by
 have h1:=hp.1
 have h2:=hr.1
 have h3:=hs.1
 have hm:(F.map fun t=>t.1 * 1600+t.2.1 * 40+t.2.2).Nodup:=by
  rw [List.Nodup,List.pairwise_map]
  refine List.Pairwise.imp_of_mem (fun {a b} ha hb hne e=>hne ?_) hn
  have i1:=h a ha
  have i2:=h b hb
  unfold inTr at i1 i2
  exact Prod.ext (by omega) (Prod.ext (by omega) (by omega))
 have:=List.Nodup.length_le_of_subset (l₂:=(List.range 64000).map fun (i:Nat)=>(i:Int)) hm (fun q hq=>by
  obtain ⟨t,ht,rfl⟩:=List.mem_map.1 hq
  have i1:=h t ht
  unfold inTr at i1
  refine List.mem_map.2 ⟨(t.1 * 1600+t.2.1 * 40+t.2.2).toNat,List.mem_range.2 (by omega),by omega⟩)
 simpa using this
def TD (p:aO) (s r:aP) (F:List Tr) (B:List (List Int)) (j:Nat) (t:Tr) (e:Edge):Prop:=TOk p s r t e/\∀ y z,alo s t.2.1 (kC p.S e)=some y->alo r t.2.2 (kC p.S e)=some z->∃ (k:Nat) (row:List Int),F[k]?=some (e.To,y,z)/\B[k]?=some row/\(j:Int)∈row
structure WT (p:aO) (s r:aP) (c:Nat) (F:List Tr) (B:List (List Int)):Prop where
 nd:F.Nodup
 ln:B.length=F.length
 tr:∀ t∈F,inTr p s r t/\Tri p s r t
 sm:∀ row∈B,row.length<=c
 bk:∀ (k:Nat) (row:List Int),B[k]?=some row->∀ b∈row,∃ (j:Nat) (t t':Tr),b=(j:Int)/\F[j]?=some t/\F[k]?=some t'/\TStep p s r t t'
def TE (F:List Tr) (B:List (List Int)) (F':List Tr) (B':List (List Int)):Prop:=F <+:F'/\∀ (k:Nat) (row:List Int),B[k]?=some row->∃ row',B'[k]?=some row'/\∀ b∈row,b∈row'
theorem TE.refl (F:List Tr) (B:List (List Int)):TE F B F B:=⟨List.prefix_refl _,fun _ row h=>⟨row,h,fun _ hb=>hb⟩⟩
theorem TE.trans {F F' F'':List Tr} {B B' B'':List (List Int)} (h:TE F B F' B') (h':TE F' B' F'' B''):TE F B F'' B'':=
 ⟨h.1.trans h'.1,fun k row hk=>by
  obtain ⟨r1,e1,s1⟩:=h.2 k row hk
  obtain ⟨r2,e2,s2⟩:=h'.2 k r1 e1
  exact ⟨r2,e2,fun b hb=>s2 b (s1 b hb)⟩⟩
theorem aGw {α:Type} {a b:List α} (h:a <+:b) {k:Nat} {x:α} (hk:a[k]?=some x):b[k]?=some x:=by
 obtain ⟨c,rfl⟩:=h
 rw [List.getElem?_append_left (List.getElem?_eq_some_iff.1 hk).1];exact hk
theorem TD.mono {p:aO} {s r:aP} {F F':List Tr} {B B':List (List Int)} {j:Nat} {t:Tr} {e:Edge} (h:TD p s r F B j t e) (hE:TE F B F' B'):TD p s r F' B' j t e:=
 ⟨h.1,fun y z hy hz=>by
  obtain ⟨k,row,h1,h2,h3⟩:=h.2 y z hy hz
  obtain ⟨row',h4,h5⟩:=hE.2 k row h2
  exact ⟨k,row',aGw hE.1 h1,h4,h5 _ h3⟩⟩
theorem aSb {p:aO} {s r:aP} {c:Nat} {F:List Tr} {B:List (List Int)} (hp:aT p.S) (hs:aT s) (hr:aT r) (h:WT p s r c F B) {t:Tr} (hi:inTr p s r t) (ht:Tri p s r t):
  ∃ (n:Nat) (F':List Tr) (B':List (List Int)),kU F (mq 0 F) B t=some ((n:Int),F',mq 0 F',B')/\WT p s r c F' B'/\TE F B F' B'/\F'[n]?=some t:=by
 have hl:=tr_len hp hs hr h.nd (fun t ht=>(h.tr t ht).1)
 unfold kU rE
 by_cases hm:t∈F
 ·obtain ⟨i,hi',e,e2⟩:=mS hm
  rw [aIp hm,if_neg (by simp),e]
  exact ⟨i,F,B,rfl,h,TE.refl _ _,by rw [List.getElem?_eq_getElem hi',e2]⟩
 ·have h1:wV (mq 0 F) t (F.length:Int)=mq 0 (F++[t]):=by
   have:=aLT (k:=0) hm
   rw [Nat.zero_add] at this
   exact this
  have hln:=h.ln
  rw [aNn hm,if_pos (by simp),h1,aA,bX (by simp [hX];omega),aA,bX (by simp [hX];omega),aA]
  refine ⟨F.length,F++[t],B++[[]],rfl,⟨?_,by simp [hln],fun x hx=>?_,fun row hrow=>?_,fun k row hk b hb=>?_⟩,⟨List.prefix_append _ _,fun k row hk=>⟨row,by rw [List.getElem?_append_left (List.getElem?_eq_some_iff.1 hk).1];exact hk,fun _ hb=>hb⟩⟩,by simp⟩
  ·rw [List.nodup_append]
   exact ⟨h.nd,by simp,fun x hx y hy=>by simp at hy;subst hy;exact fun e=>hm (e ▸ hx)⟩
  ·rcases List.mem_append.1 hx with hx|hx
   ·exact h.tr x hx
   ·simp at hx;subst hx;exact ⟨hi,ht⟩
  ·rcases List.mem_append.1 hrow with hx|hx
   ·exact h.sm row hx
   ·simp at hx;subst hx;simp
  ·by_cases hkl:k < B.length
   ·rw [List.getElem?_append_left hkl] at hk
    obtain ⟨j,u,u',g1,g2,g3,g4⟩:=h.bk k row hk b hb
    exact ⟨j,u,u',g1,aGw (List.prefix_append _ _) g2,aGw (List.prefix_append _ _) g3,g4⟩
   ·rw [List.getElem?_append_right (by omega)] at hk
    obtain ⟨_,e⟩:=List.getElem?_eq_some_iff.1 hk
    have:row=[]:=by
     have h9:k - B.length=0:=by have:=(List.getElem?_eq_some_iff.1 hk).1;simp at this;omega
     rw [h9] at hk;simpa using hk.symm
    subst this;cases hb
theorem trow_eq {p:aO} {s r:aP} {c:Nat} {F:List Tr} {B:List (List Int)} (h:WT p s r c F B) {n i:Nat} {t t':Tr} (hn:F[n]?=some t') (hi:F[i]?=some t) (hst:TStep p s r t t') (hc:c < 100000000):
  ∃ row,ix B (n:Int)=some row/\rZ row [(i:Int)]=some (row++[(i:Int)])/\st B (n:Int) (row++[(i:Int)])=some (B.set n (row++[(i:Int)]))/\WT p s r (c+1) F (B.set n (row++[(i:Int)]))/\TE F B F (B.set n (row++[(i:Int)]))/\(B.set n (row++[(i:Int)]))[n]?=some (row++[(i:Int)]):=by
 have hnl:=(List.getElem?_eq_some_iff.1 hn).1
 have hln:=h.ln
 have hnB:n < B.length:=by omega
 have hsm:=h.sm B[n] (List.getElem_mem hnB)
 have hself:(B.set n (B[n]++[(i:Int)]))[n]?=some (B[n]++[(i:Int)]):=by rw [List.getElem?_set_self hnB]
 refine ⟨B[n],aX hnB,bX (by simp [hX];omega),vO _ hnB,⟨h.nd,by rw [List.length_set];exact hln,h.tr,fun row hrow=>?_,fun k row hk b hb=>?_⟩,⟨List.prefix_refl _,fun k row hk=>?_⟩,hself⟩
 ·rcases List.mem_or_eq_of_mem_set hrow with hx|rfl
  ·exact Nat.le_succ_of_le (h.sm row hx)
  ·simp;exact hsm
 ·by_cases hkn:n=k
  ·subst hkn
   rw [hself] at hk
   obtain rfl:=zI hk
   rcases List.mem_append.1 hb with hb|hb
   ·exact h.bk n _ (List.getElem?_eq_getElem hnB) b hb
   ·rw [List.mem_singleton] at hb
    subst hb
    exact ⟨i,t,t',rfl,hi,hn,hst⟩
  ·rw [List.getElem?_set_ne hkn] at hk
   exact h.bk k row hk b hb
 ·by_cases hkn:n=k
  ·subst hkn
   rw [List.getElem?_eq_getElem hnB] at hk
   obtain rfl:=zI hk
   exact ⟨_,hself,fun b hb=>List.mem_append_left _ hb⟩
  ·exact ⟨row,by rw [List.getElem?_set_ne hkn];exact hk,fun _ hb=>hb⟩
section
variable {p:aO} {s r:aP}
def TBad (p:aO) (s r:aP):Prop:=∃ t e,Tri p s r t/\e∈p.S.E/\e.F=t.1/\¬ TOk p s r t e
theorem aTD (hpf:aKO p) (hp:bB p.S) (hs:bB s) (hr:bB r) {i:Nat} (hi6:i < 64000) {t:Tr} {F:List Tr} {B:List (List Int)} (h:WT p s r (300 * i) F B) (hi:F[i]?=some t):
  ∃ R,loop (fun (q:(List (Int × Int × Int) × (List ((Int × Int × Int) × Int)) × List (List Int) × Int))=>gI p s r (i:Int) t (bG p (t.1,0)) q.1 q.2.1 q.2.2.1 q.2.2.2) (F,mq 0 F,B,0)=some R/\
   ((∃ F' B',R=.inl (F',mq 0 F',B')/\WT p s r (300 * (i+1)) F' B'/\TE F B F' B'/\∀ e∈bG p (t.1,0),TD p s r F' B' i t e)\/∃ x y z,R=.inr (false,x,y,z)/\TBad p s r):=by
 have hol:=uF hp.1 (t.1,(0:Int))
 have key:=qS (step:=fun (q:(List (Int × Int × Int) × (List ((Int × Int × Int) × Int)) × List (List Int) × Int))=>gI p s r (i:Int) t (bG p (t.1,0)) q.1 q.2.1 q.2.2.1 q.2.2.2)
  (fun q=>∃ (k:Nat) (F':List Tr) (B':List (List Int)),q=(F',mq 0 F',B',(k:Int))/\k<=(bG p (t.1,0)).length/\WT p s r (300 * i+k) F' B'/\TE F B F' B'/\∀ e∈(bG p (t.1,0)).take k,TD p s r F' B' i t e)
  (fun q=>301 - q.2.2.2.toNat) (fun R=>(∃ F' B',R=.inl (F',mq 0 F',B')/\WT p s r (300 * (i+1)) F' B'/\TE F B F' B'/\∀ e∈bG p (t.1,0),TD p s r F' B' i t e)\/∃ x y z,R=.inr (false,x,y,z)/\TBad p s r)
  (fun q hI=>?_) (s:=(F,mq 0 F,B,0)) ⟨0,F,B,rfl,by omega,h,TE.refl _ _,by simp⟩
 ·exact key
 ·obtain ⟨k,F',B',rfl,hk,hw,hE,hD⟩:=hI
  simp only
  by_cases hkl:k < (bG p (t.1,0)).length
  ·have hw1:wr ((k:Int)+1)=((k+1:Nat):Int):=aQ hkl (by omega)
   have he:(bG p (t.1,0))[k]∈p.S.E:=pX _ (List.getElem_mem hkl)
   have hfr:(bG p (t.1,0))[k].F=t.1:=by
    have:=(List.mem_filter.1 (List.getElem_mem hkl)).2
    simpa using this
   have htk:(bG p (t.1,0)).take (k+1)=(bG p (t.1,0)).take k++[(bG p (t.1,0))[k]]:=by rw [List.take_succ,List.getElem?_eq_getElem hkl];rfl
   have hix:=aX hkl
   generalize (bG p (t.1,0))[k]=e at he hfr htk hix
   have hlab:=aIu hp.1 he
   have hti:=hw.tr t (List.mem_of_getElem? (aGw hE.1 hi))
   obtain ⟨y,hy,hyj⟩:=aES hs t.2.1 (kC p.S e)
   obtain ⟨z,hz,hzj⟩:=aES hr t.2.2 (kC p.S e)
   unfold gI
   rw [if_pos (aV hkl),hix,aA,oQ (eB hp.1 he),aA,hy,aA]
   simp only
   unfold wH lP
   rw [hw1]
   have hgo:∀ {F'':List Tr} {B'':List (List Int)},WT p s r (300 * i+(k+1)) F'' B''->TE F' B' F'' B''->TD p s r F'' B'' i t e->∃ q',(some (.inl (F'',mq 0 F'',B'',((k+1:Nat):Int))):Option ((List (Int × Int × Int) × (List ((Int × Int × Int) × Int)) × List (List Int) × Int) ⊕ ((List (Int × Int × Int) × (List ((Int × Int × Int) × Int)) × List (List Int)) ⊕ (Bool × (List (Int × Int × Int)) × (List ((Int × Int × Int) × Int)) × (List (List Int))))))=some (.inl q')/\(∃ (k:Nat) (F':List Tr) (B':List (List Int)),q'=(F',mq 0 F',B',(k:Int))/\k<=(bG p (t.1,0)).length/\WT p s r (300 * i+k) F' B'/\TE F B F' B'/\∀ e∈(bG p (t.1,0)).take k,TD p s r F' B' i t e)/\301 - q'.2.2.2.toNat < 301 - ((k:Int)).toNat:=fun {F'' B''} g1 g2 g3=>by
    refine ⟨_,rfl,⟨k+1,F'',B'',rfl,hkl,g1,hE.trans g2,fun x hx=>?_⟩,by simp only;omega⟩
    rw [htk] at hx
    rcases List.mem_append.1 hx with hx|hx
    ·exact (hD x hx).mono g2
    ·rw [List.mem_singleton] at hx
     subst hx;exact g3
   have hsm:∀ {F'':List Tr} {B'':List (List Int)} {c:Nat},WT p s r c F'' B''->WT p s r (c+1) F'' B'':=fun g=>⟨g.nd,g.ln,g.tr,fun row hrow=>Nat.le_succ_of_le (g.sm row hrow),g.bk⟩
   cases ha:alo s t.2.1 (kC p.S e) with
   |none=>
    rw [show (!(none:Option Int).isSome)=true from rfl,if_pos rfl,aNG hpf hp.1 hlab,aA]
    cases hc:ctl p (kC p.S e) with
    |false=>
     rw [if_pos (show (!false)=true from rfl)]
     exact .inr ⟨_,rfl,.inr ⟨_,_,_,rfl,t,e,hti.2,he,hfr,fun hn=>by have:=hn.1 ha;rw [hc] at this;cases this⟩⟩
    |true=>
     rw [if_neg (by simp)]
     exact .inl (hgo (hsm hw) (TE.refl _ _) ⟨⟨fun _=>hc,fun y hy'=>by rw [ha] at hy';cases hy'⟩,fun y z hy'=>by rw [ha] at hy';cases hy'⟩)
   |some y'=>
    obtain rfl:=hyj y' ha
    rw [show (!(some y:Option Int).isSome)=false from rfl,if_neg (by simp),hz,aA]
    cases hb:alo r t.2.2 (kC p.S e) with
    |none=>
     rw [show (!(none:Option Int).isSome)=true from rfl,if_pos rfl]
     exact .inr ⟨_,rfl,.inr ⟨_,_,_,rfl,t,e,hti.2,he,hfr,fun hn=>by have:=hn.2 y ha;rw [hb] at this;cases this⟩⟩
    |some z'=>
     obtain rfl:=hzj z' hb
     have hst:TStep p s r t (e.To,y,z):=⟨e,he,hfr,y,z,ha,hb,rfl⟩
     have hin:inTr p s r (e.To,y,z):=⟨(eB hp.1 he).2.1,aGX hs.1 hti.1.2.1 ha,aGX hr.1 hti.1.2.2 hb⟩
     obtain ⟨n,F'',B'',f1,f2,f3,f4⟩:=aSb hp.1 hs.1 hr.1 hw hin (hti.2.go hst)
     obtain ⟨row,r1,r2,r3,r4,r5,r6⟩:=trow_eq f2 f4 (aGw (hE.trans f3).1 hi) hst (by omega)
     rw [show (!(some z:Option Int).isSome)=false from rfl,if_neg (by simp),f1,aA]
     simp only
     rw [r1,aA,r2,aA,r3,aA]
     refine .inl (hgo r4 (f3.trans r5) ⟨⟨fun h=>(by rw [ha] at h;cases h),fun y _=>(by rw [hb];rfl)⟩,fun y' z' hy' hz'=>?_⟩)
     rw [ha] at hy'
     rw [hb] at hz'
     obtain rfl:=zI hy'
     obtain rfl:=zI hz'
     exact ⟨n,_,f4,r6,by simp⟩
  ·right
   obtain rfl:k=(bG p (t.1,0)).length:=by omega
   rw [List.take_length] at hD
   refine ⟨.inl (F',mq 0 F',B'),?_,.inl ⟨F',B',rfl,⟨hw.nd,hw.ln,hw.tr,fun row hrow=>Nat.le_trans (hw.sm row hrow) (by omega),hw.bk⟩,hE,hD⟩⟩
   unfold gI
   rw [if_neg (by simp)]
theorem treach_eq (hpf:aKO p) (hp:bB p.S) (hs:bB s) (hr:bB r):
  ∃ b F M B,pT [] ([]:List (Tr × Int)) [] p s r=some (b,F,M,B)/\
   ((b=true/\WT p s r 20000000 F B/\(p.S.I,s.I,r.I)∈F/\∀ (j:Nat) t,F[j]?=some t->∀ e∈p.S.E,e.F=t.1->TD p s r F B j t e)\/(b=false/\TBad p s r)):=by
 have h0:WT p s r (300 * 0) [] []:=⟨by simp,rfl,by simp,by simp,by simp⟩
 obtain ⟨n,F0,B0,f1,f2,f3,f4⟩:=aSb hp.1 hs.1 hr.1 h0 (t:=(p.S.I,s.I,r.I)) ⟨hp.1.2.1,hs.1.2.1,hr.1.2.1⟩ .ini
 have hmem:=List.mem_of_getElem? f4
 unfold pT
 rw [show kU [] ([]:List (Tr × Int)) [] ⟨p.S.I,s.I,r.I⟩=some ((n:Int),F0,mq 0 F0,B0) from f1,aA]
 simp only
 have key:=qS (step:=fun (q:(List (Int × Int × Int) × (List ((Int × Int × Int) × Int)) × List (List Int) × Int))=>lQ p s r q.1 q.2.1 q.2.2.1 q.2.2.2)
  (fun q=>∃ (i:Nat) (F:List Tr) (B:List (List Int)),q=(F,mq 0 F,B,(i:Int))/\i<=F.length/\WT p s r (300 * i) F B/\(p.S.I,s.I,r.I)∈F/\∀ (j:Nat) t,j < i->F[j]?=some t->∀ e∈p.S.E,e.F=t.1->TD p s r F B j t e)
  (fun q=>64001 - q.2.2.2.toNat) (fun R=>(∃ F M B,R=.inl (F,M,B)/\WT p s r 20000000 F B/\(p.S.I,s.I,r.I)∈F/\∀ (j:Nat) t,F[j]?=some t->∀ e∈p.S.E,e.F=t.1->TD p s r F B j t e)\/∃ x y z,R=.inr (false,x,y,z)/\TBad p s r)
  (fun q hI=>?_) (s:=(F0,mq 0 F0,B0,0)) ⟨0,F0,B0,rfl,by omega,f2,hmem,fun j t hj=>by omega⟩
 ·obtain ⟨R,h1,h2⟩:=key
  rw [h1,aA]
  rcases h2 with ⟨F,M,B,rfl,h3⟩|⟨x,y,z,rfl,h3⟩
  ·exact ⟨true,F,M,B,rfl,.inl ⟨rfl,h3⟩⟩
  ·exact ⟨false,x,y,z,rfl,.inr ⟨rfl,h3⟩⟩
 ·obtain ⟨i,F,B,rfl,hi,hw,hm,hD⟩:=hI
  have hl:=tr_len hp.1 hs.1 hr.1 hw.nd (fun t ht=>(hw.tr t ht).1)
  simp only
  by_cases hil:i < F.length
  ·have hq:F[i]?=some F[i]:=List.getElem?_eq_getElem hil
   obtain ⟨R,h1,h2⟩:=aTD hpf hp hs hr (by omega) hw hq
   have h1':loop (fun (q:(List (Int × Int × Int) × (List ((Int × Int × Int) × Int)) × List (List Int) × Int))=>gI p s r (i:Int) F[i] (p.S.E.filter fun e=>e.F == F[i].1) q.1 q.2.1 q.2.2.1 q.2.2.2) (F,mq 0 F,B,0)=some R:=h1
   unfold lQ
   rw [if_pos (aV hil),aX hil,aA,aGT _ _ (by have:=hp.1.2.2.2.1;omega),aA,h1',aA]
   have hw1:wr ((i:Int)+1)=((i+1:Nat):Int):=aQ hil (by omega)
   rcases h2 with ⟨F',B',rfl,g1,g2,g3⟩|⟨x,y,z,rfl,g⟩
   ·left
    simp only
    unfold wG qB
    rw [hw1]
    refine ⟨_,rfl,⟨i+1,F',B',rfl,by have:=g2.1.length_le;omega,g1,g2.1.subset hm,fun j t hj hjt e he hfr=>?_⟩,by simp only;omega⟩
    by_cases hji:j=i
    ·subst hji
     have h5:=aGw g2.1 hq
     rw [h5] at hjt
     obtain rfl:=zI hjt
     exact g3 e (List.mem_filter.2 ⟨he,by simpa using hfr⟩)
    ·have hjF:F[j]?=some t:=by
      obtain ⟨c,rfl⟩:=g2.1
      rw [List.getElem?_append_left (by omega)] at hjt
      exact hjt
     exact (hD j t (by omega) hjF e he hfr).mono g2
   ·right
    exact ⟨_,rfl,.inr ⟨x,y,z,rfl,g⟩⟩
  ·right
   obtain rfl:i=F.length:=by omega
   refine ⟨.inl (F,mq 0 F,B),?_,.inl ⟨F,mq 0 F,B,rfl,⟨hw.nd,hw.ln,hw.tr,fun row hrow=>Nat.le_trans (hw.sm row hrow) (by omega),hw.bk⟩,hm,fun j t hjt=>hD j t (List.getElem?_eq_some_iff.1 hjt).1 hjt⟩⟩
   unfold lQ
   rw [if_neg (by simp)]
end
end Gv
namespace Gv
open Option.some renaming inj→zI
open Go
def cF (g:List Bool):Nat:=g.countP fun b=>!b
theorem cF_set:∀ {g:List Bool} {i:Nat},g[i]?=some false->cF (g.set i true)+1=cF g
 |[],_,h=>by simp at h
 |b::l,0,h=>by
  simp only [List.getElem?_cons_zero,Option.some.injEq] at h
  subst h
  simp [cF]
 |b::l,i+1,h=>by
  rw [List.getElem?_cons_succ] at h
  have:=cF_set h
  unfold cF at this ⊢
  rw [List.set_cons_succ,List.countP_cons,List.countP_cons]
  omega
theorem aSc {γ:Type} (x:γ) (l:List γ):qT (x::l) 1 ((x::l).length:Int)=some l:=by
 have:=aEQ (s:=x::l) (w:=1) (by simp)
 simpa using this
theorem cF_le (g:List Bool):cF g<=g.length:=List.countP_le_length
theorem aOn (p:aO) (L:List aP) (hf:iO 999999999 p) (hL:∀ t∈L,eZ 999999999 t) (hl:L.length < 1000):uJ p L=some (if cl (eJ p/\∀ t∈L,bB t)=true then 0 else 1):=by
 unfold uJ
 rw [aAr p hf,aA]
 by_cases hp:eJ p
 ·rw [if_neg (by rw [jL hp];simp)]
  have e:cM L=some (L.any fun t=>!cl (bB t)):=by
   unfold cM cD
   rw [qR (step:=fun s=>bW L s) L (fun t=>!cl (bB t)) (fun k t hk hx=>by
    obtain ⟨_,rfl⟩:=oW hx
    have h1:=aMY L[k] (hL _ (List.getElem_mem hk))
    rw [show cl (aT L[k]/\aAP L[k])=cl (bB L[k]) from rfl] at h1
    simp only [bW,aV hk,if_pos,hx,aA,aBQ,h1,aQ hk (show L.length < 4611686018427387904 by omega)]) (by simp only [bW,aS];rfl),aA,←aGq]
   cases L.findIdx? (fun t=>!cl (bB t)) with
   |none=>rfl
   |some i=>rfl
  rw [e,aA]
  unfold xS
  by_cases hd:∀ t∈L,bB t
  ·rw [if_neg,if_pos (jL (P:=eJ p/\∀ t∈L,bB t) ⟨hp,hd⟩)]
   rw [List.any_eq_true]
   rintro ⟨t,ht,h⟩
   rw [jL (hd t ht)] at h;cases h
  ·rw [if_pos,if_neg (by rw [oX];exact fun h=>hd h.2)]
   rw [List.any_eq_true]
   apply Classical.byContradiction
   intro hn
   exact hd fun t ht=>Classical.byContradiction fun hx=>hn ⟨t,ht,by rw [kF hx];rfl⟩
 ·rw [if_pos (by rw [kF hp];rfl),if_neg (by rw [oX];exact fun h=>hp h.1)];rfl
theorem aOo (xs:List Bool) (v:Bool) (h:xs.length < 4611686018427387904):iM xs v=some (xs.any (fun x=>v == x)):=by
 unfold iM kB
 rw [qR (step:=fun s=>iL xs v s) xs (fun x=>v == x) (fun k x hk hx=>by simp only [iL,aV hk,if_pos,hx,aA,aQ hk h]) (by simp only [iL,aS];rfl),aA,←aGq]
 cases xs.findIdx? (fun x=>v == x) with
 |none=>rfl
 |some i=>rfl
theorem marked_eq {p:aO} (hm:p.M.length < 1000000000) (x y:Int):nB p x=some (mkB p (x,y)):=by
 unfold nB
 rw [uS _ _ (by omega),aA];rfl
section
variable {p:aO} {s r:aP}
structure GM (p:aO) (s r:aP) (F:List Tr) (g:List Bool) (td:List Int):Prop where
 ln:g.length=F.length
 tdo:∀ x∈td,∃ i:Nat,x=(i:Int)/\on g i
 sd:∀ i t,on g i->F[i]?=some t->GT p s r t
 mkd:∀ (i:Nat) t,F[i]?=some t->mkB p (t.1,0)=true->on g i
 sz:td.length+cF g<=F.length
def Clo (B:List (List Int)) (g:List Bool) (k:Nat):Prop:=∀ row,B[k]?=some row->∀ b∈row,∃ j:Nat,b=(j:Int)/\on g j
theorem Clo.mono {B:List (List Int)} {g g':List Bool} {k:Nat} (h:Clo B g k) (hg:∀ i,on g i->on g' i):Clo B g' k:=fun row hr b hb=>by
 obtain ⟨j,e,hj⟩:=h row hr b hb
 exact ⟨j,e,hg j hj⟩
theorem gmarks_eq (hm:p.M.length < 1000000000) {F:List Tr} (hF:F.length<=64000):
  ∃ g td,loop (fun (q:(List Bool × List Int × Int))=>nR p F q.1 q.2.1 q.2.2) (List.replicate F.length false,[],0)=some (g,td)/\GM p s r F g td/\∀ k,on g k->(k:Int)∈td:=by
 have key:=dZ (step:=fun (q:(List Bool × List Int × Int))=>nR p F q.1 q.2.1 q.2.2) F.length (fun k (a:List Bool × List Int)=>(a.1,a.2,(k:Int))) (fun k a=>a.1.length=F.length/\(∀ x∈a.2,∃ i:Nat,x=(i:Int)/\on a.1 i)/\(∀ i,on a.1 i->(i:Int)∈a.2)/\(∀ (i:Nat) t,F[i]?=some t->(on a.1 i<->i < k/\mkB p (t.1,0)=true))/\a.2.length+cF a.1<=F.length)
  (fun R=>GM p s r F R.1 R.2/\∀ k,on R.1 k->(k:Int)∈R.2) (fun k a hk hI=>?_) (fun a hI=>?_) F.length 0 (List.replicate F.length false,[]) (by omega) ⟨by simp,by simp,fun i h=>by have:=aHc.1 h;simp at this,fun i t _=>⟨fun h=>(by have:=aHc.1 h;simp at this),fun h=>(by omega)⟩,by simpa using cF_le (List.replicate F.length false)⟩
 ·obtain ⟨⟨g,td⟩,h1,h2,h3⟩:=key
  exact ⟨g,td,h1,h2,h3⟩
 ·obtain ⟨g,td⟩:=a
  obtain ⟨g1,g2,g3,g4,g5⟩:=hI
  simp only at g1 g2 g3 g4 g5 ⊢
  have hw:wr ((k:Int)+1)=((k+1:Nat):Int):=aQ hk (by omega)
  have hq:F[k]?=some F[k]:=List.getElem?_eq_getElem hk
  have hgk:k < g.length:=by omega
  unfold nR
  rw [if_pos (aV hk),aX hk,aA,marked_eq hm F[k].1 0,aA]
  unfold rJ
  rw [hw]
  cases hmk:mkB p (F[k].1,0) with
  |false=>
   rw [if_neg (by simp)]
   refine ⟨(g,td),rfl,g1,g2,g3,fun i t hi=>?_,g5⟩
   rw [g4 i t hi]
   constructor
   ·rintro ⟨h1,h2⟩;exact ⟨by omega,h2⟩
   ·rintro ⟨h1,h2⟩
    by_cases hik:i=k
    ·subst hik
     rw [hq] at hi
     obtain rfl:=zI hi
     rw [hmk] at h2;cases h2
    ·exact ⟨by omega,h2⟩
  |true=>
   have hoff:¬ on g k:=fun h=>by have:=(g4 k F[k] hq).1 h;omega
   have hf:=(on_not hgk).1 hoff
   have hc:=cF_set hf
   rw [if_pos rfl,aX hgk,aA,vO _ hgk,aA,bX (by simp [hX];omega),aA]
   refine ⟨(g.set k true,td++[(k:Int)]),rfl,by rw [List.length_set];exact g1,fun x hx=>?_,fun i hi=>?_,fun i t hi=>?_,by simp;omega⟩
   ·rcases List.mem_append.1 hx with hx|hx
    ·obtain ⟨i,e,hi⟩:=g2 x hx
     exact ⟨i,e,(yA hgk).2 (by by_cases h:i=k<;>simp [h,hi])⟩
    ·rw [List.mem_singleton] at hx
     exact ⟨k,hx,(yA hgk).2 (by simp)⟩
   ·rw [yA hgk] at hi
    by_cases h:i=k
    ·subst h;simp
    ·rw [if_neg h] at hi
     exact List.mem_append_left _ (g3 i hi)
   ·rw [yA hgk]
    by_cases h:i=k
    ·subst h
     rw [hq] at hi
     obtain rfl:=zI hi
     rw [if_pos rfl]
     exact ⟨fun _=>⟨by omega,hmk⟩,fun _=>rfl⟩
    ·rw [if_neg h,g4 i t hi]
     exact ⟨fun h=>⟨by omega,h.2⟩,fun h=>⟨by omega,h.2⟩⟩
 ·obtain ⟨g,td⟩:=a
  obtain ⟨g1,g2,g3,g4,g5⟩:=hI
  simp only at g1 g2 g3 g4 g5 ⊢
  refine ⟨(g,td),?_,⟨g1,g2,fun i t hi ht=>.mark ((g4 i t ht).1 hi).2,fun i t ht hmk=>(g4 i t ht).2 ⟨(List.getElem?_eq_some_iff.1 ht).1,hmk⟩,g5⟩,g3⟩
  unfold nR
  rw [if_neg (by simp)]
theorem grow_eq {c:Nat} {F:List Tr} {B:List (List Int)} (hF:F.length<=64000) (hw:WT p s r c F B) (hc:c<=100000000) {k:Nat} {g:List Bool} {td:List Int} (hg:GM p s r F g td) (hk:on g k) {row:List Int} (hrow:B[k]?=some row)
  (hC:∀ i,on g i->i=k\/(i:Int)∈td\/Clo B g i):
  ∃ g' td',loop (fun (q:(List Bool × List Int × Int))=>nP row q.1 q.2.1 q.2.2) (g,td,0)=some (g',td')/\GM p s r F g' td'/\2 * cF g'+td'.length<=2 * cF g+td.length/\∀ i,on g' i->(i:Int)∈td'\/Clo B g' i:=by
 have hrl:=hw.sm row (List.mem_of_getElem? hrow)
 have key:=dZ (step:=fun (q:(List Bool × List Int × Int))=>nP row q.1 q.2.1 q.2.2) row.length (fun v (a:List Bool × List Int)=>(a.1,a.2,(v:Int))) (fun v a=>GM p s r F a.1 a.2/\on a.1 k/\2 * cF a.1+a.2.length<=2 * cF g+td.length/\(∀ i,on a.1 i->i=k\/(i:Int)∈a.2\/Clo B a.1 i)/\∀ b∈row.take v,∃ j:Nat,b=(j:Int)/\on a.1 j)
  (fun R=>GM p s r F R.1 R.2/\2 * cF R.1+R.2.length<=2 * cF g+td.length/\∀ i,on R.1 i->(i:Int)∈R.2\/Clo B R.1 i) (fun v a hv hI=>?_) (fun a hI=>?_) row.length 0 (g,td) (by omega) ⟨hg,hk,Nat.le_refl _,hC,by simp⟩
 ·obtain ⟨⟨g',td'⟩,h1,h2⟩:=key
  exact ⟨g',td',h1,h2⟩
 ·obtain ⟨g',td'⟩:=a
  obtain ⟨g1,g2,g3,g4,g5⟩:=hI
  simp only at g1 g2 g3 g4 g5 ⊢
  have hw1:wr ((v:Int)+1)=((v+1:Nat):Int):=aQ hv (by omega)
  obtain ⟨j,t,t',e,f1,f2,f3⟩:=hw.bk k row hrow row[v] (List.getElem_mem hv)
  have hjl:=(List.getElem?_eq_some_iff.1 f1).1
  have hjg:j < g'.length:=by rw [g1.ln];exact hjl
  have htk:row.take (v+1)=row.take v++[row[v]]:=by rw [List.take_succ,List.getElem?_eq_getElem hv];rfl
  unfold nP
  rw [if_pos (aV hv),aX hv,aA,e,aX hjg,aA]
  unfold rH
  rw [hw1]
  cases hb:g'[j] with
  |true=>
   have hon:on g' j:=by unfold on;rw [List.getElem?_eq_getElem hjg,hb]
   rw [if_neg (by simp)]
   refine ⟨(g',td'),rfl,g1,g2,g3,g4,fun b hb'=>?_⟩
   rw [htk] at hb'
   rcases List.mem_append.1 hb' with h|h
   ·exact g5 b h
   ·rw [List.mem_singleton] at h
    exact ⟨j,by rw [h,e],hon⟩
  |false=>
   have hf:g'[j]?=some false:=by rw [List.getElem?_eq_getElem hjg,hb]
   have hc':=cF_set hf
   have hsz:=g1.sz
   have hup:∀ i,on g' i->on (g'.set j true) i:=fun i hi=>(yA hjg).2 (by by_cases h:i=j<;>simp [h,hi])
   rw [if_pos (show (!false)=true from rfl),vO _ hjg,aA,bX (by simp [hX];omega),aA]
   refine ⟨(g'.set j true,td'++[(j:Int)]),rfl,⟨by rw [List.length_set];exact g1.ln,fun x hx=>?_,fun i u hi hu=>?_,fun i u hu hm=>hup i (g1.mkd i u hu hm),by simp;omega⟩,hup k g2,by simp;omega,fun i hi=>?_,fun b hb'=>?_⟩
   ·rcases List.mem_append.1 hx with hx|hx
    ·obtain ⟨i,e',hi⟩:=g1.tdo x hx
     exact ⟨i,e',hup i hi⟩
    ·rw [List.mem_singleton] at hx
     exact ⟨j,hx,(yA hjg).2 (by simp)⟩
   ·rw [yA hjg] at hi
    by_cases h:i=j
    ·subst h
     rw [f1] at hu
     obtain rfl:=zI hu
     exact .go f3 (g1.sd k t' g2 f2)
    ·rw [if_neg h] at hi
     exact g1.sd i u hi hu
   ·rw [yA hjg] at hi
    by_cases h:i=j
    ·subst h;exact .inr (.inl (by simp))
    ·rw [if_neg h] at hi
     rcases g4 i hi with h|h|h
     ·exact .inl h
     ·exact .inr (.inl (List.mem_append_left _ h))
     ·exact .inr (.inr (h.mono hup))
   ·rw [htk] at hb'
    rcases List.mem_append.1 hb' with h|h
    ·obtain ⟨i,e',hi⟩:=g5 b h
     exact ⟨i,e',hup i hi⟩
    ·rw [List.mem_singleton] at h
     exact ⟨j,by rw [h,e],(yA hjg).2 (by simp)⟩
 ·obtain ⟨g',td'⟩:=a
  obtain ⟨g1,g2,g3,g4,g5⟩:=hI
  simp only at g1 g2 g3 g4 g5 ⊢
  rw [List.take_length] at g5
  refine ⟨(g',td'),?_,g1,g3,fun i hi=>?_⟩
  ·unfold nP
   rw [if_neg (by simp)]
  ·rcases g4 i hi with h|h|h
   ·subst h
    refine .inr fun row' hr b hb=>?_
    rw [hrow] at hr
    obtain rfl:=zI hr
    exact g5 b hb
   ·exact .inl h
   ·exact .inr h
theorem aTF {c:Nat} {F:List Tr} {B:List (List Int)} (hF:F.length<=64000) (hw:WT p s r c F B) (hc:c<=100000000) {g:List Bool} {td:List Int} (hg:GM p s r F g td) (hC:∀ i,on g i->(i:Int)∈td\/Clo B g i):
  ∃ g',loop (fun (q:(List Bool × List Int))=>rI B q.1 q.2) (g,td)=some g'/\GM p s r F g' []/\∀ i,on g' i->Clo B g' i:=by
 have key:=qS (step:=fun (q:(List Bool × List Int))=>rI B q.1 q.2) (fun q=>GM p s r F q.1 q.2/\∀ i,on q.1 i->(i:Int)∈q.2\/Clo B q.1 i) (fun q=>2 * cF q.1+q.2.length) (fun g'=>GM p s r F g' []/\∀ i,on g' i->Clo B g' i) (fun q hI=>?_) (s:=(g,td)) ⟨hg,hC⟩
 ·exact key
 ·obtain ⟨g,td⟩:=q
  obtain ⟨g1,g2⟩:=hI
  simp only at g1 g2 ⊢
  unfold rI
  cases td with
  |nil=>
   rw [if_neg (by simp)]
   exact .inr ⟨g,rfl,g1,fun i hi=>(g2 i hi).resolve_left (by simp)⟩
  |cons x l=>
   left
   obtain ⟨k,rfl,hk⟩:=g1.tdo x (by simp)
   have hkl:k < B.length:=by rw [hw.ln,←g1.ln];exact aOY hk
   have hsz:=g1.sz
   obtain ⟨g',td',h1,h2,h3,h4⟩:=grow_eq hF hw hc (k:=k) (g:=g) (td:=l) ⟨g1.ln,fun x hx=>g1.tdo x (by simp [hx]),g1.sd,g1.mkd,by simp at hsz;omega⟩ hk (List.getElem?_eq_getElem hkl) (fun i hi=>by
    rcases g2 i hi with h|h
    ·rcases List.mem_cons.1 h with h|h
     ·exact .inl (by omega)
     ·exact .inr (.inl h)
    ·exact .inr (.inr h))
   rw [if_pos (by simp),show ix ((k:Int)::l) 0=some (k:Int) from rfl,aA,aSc,aA,aX hkl,aA,h1,aA]
   unfold aBT wN
   exact ⟨_,rfl,⟨h2,h4⟩,by simp only [List.length_cons];omega⟩
theorem aSd (hp9:iO 999999999 p) (hs9:eZ 999999999 s) (hr9:eZ 999999999 r):∃ b,tR p r s=some b/\(b=true<->eJ p/\bB r/\bB s/\Sup p s r):=by
 unfold tR
 rw [aOn p [r,s] hp9 (fun t ht=>by
  rcases List.mem_cons.1 ht with rfl|ht
  ·exact hr9
  ·rw [List.mem_singleton] at ht;subst ht;exact hs9) (by simp),aA]
 by_cases hv:eJ p/\∀ t∈[r,s],bB t
 ·obtain ⟨hp,hd⟩:=hv
  have hr:=hd r (by simp)
  have hs:=hd s (by simp)
  have hm:p.M.length < 1000000000:=by have:=hp9.marks;omega
  rw [if_pos (jL (P:=eJ p/\∀ t∈[r,s],bB t) ⟨hp,hd⟩),if_neg (by simp)]
  obtain ⟨b,F,M,B,h1,h2⟩:=treach_eq hp9.small hp.1 hs hr
  rw [h1,aA]
  simp only
  unfold mB
  rcases h2 with ⟨rfl,hw,hi,hD⟩|⟨rfl,t,e,ht,he,hfr,hno⟩
  ·have hF:=tr_len hp.1.1 hs.1 hr.1 hw.nd (fun t ht=>(hw.tr t ht).1)
   rw [if_neg (by simp),aIb _ (by simp [hX];omega),aA]
   obtain ⟨g,td,f1,f2,f3⟩:=gmarks_eq (s:=s) (r:=r) hm hF
   obtain ⟨g',k1,k2,k3⟩:=aTF hF hw (by decide) f2 (fun i hi=>.inl (f3 i hi))
   rw [f1,aA]
   simp only
   unfold wO
   rw [k1,aA]
   unfold aBS
   have hl:=k2.ln
   rw [aOo _ _ (by omega),aA]
   refine ⟨_,rfl,?_⟩
   have hall:∀ t,Tri p s r t->t∈F:=fun t ht=>by
    induction ht with
    |ini=>exact hi
    |go _ hst ih=>
     obtain ⟨e,he,hfr,y,z,hy,hz,rfl⟩:=hst
     obtain ⟨j,hj,e1⟩:=List.getElem_of_mem ih
     obtain ⟨k,row,q1,_⟩:=(hD j _ (by rw [List.getElem?_eq_getElem hj,e1]) e he hfr).2 y z hy hz
     exact List.mem_of_getElem? q1
   have hGT:∀ t,GT p s r t->∀ j:Nat,F[j]?=some t->on g' j:=fun t ht=>by
    induction ht with
    |mark h=>exact fun j hj=>k2.mkd j _ hj h
    |go hst _ ih=>
     intro j hj
     obtain ⟨e,he,hfr,y,z,hy,hz,rfl⟩:=hst
     obtain ⟨k,row,q1,q2,q3⟩:=(hD j _ hj e he hfr).2 y z hy hz
     obtain ⟨j',e',h'⟩:=k3 k (ih k q1) row q2 _ q3
     have:j=j':=by omega
     subst this;exact h'
   have hiff:(!(g'.any fun x=>false == x))=true<->∀ i,i < g'.length->on g' i:=by
    rw [Bool.not_eq_true',List.any_eq_false]
    constructor
    ·intro h i hi
     apply Classical.byContradiction
     intro hn
     have:=(on_not hi).1 hn
     exact h false (List.mem_of_getElem? this) rfl
    ·intro h x hx hx2
     obtain ⟨i,hi,e⟩:=List.getElem_of_mem hx
     have h5:=h i hi
     unfold on at h5
     rw [List.getElem?_eq_getElem hi,e] at h5
     obtain rfl:=zI h5
     cases hx2
   rw [hiff]
   constructor
   ·intro h
    refine ⟨hp,hr,hs,fun t ht e he hfr=>?_,fun t ht=>?_⟩
    ·obtain ⟨j,hj,e1⟩:=List.getElem_of_mem (hall t ht)
     exact (hD j t (by rw [List.getElem?_eq_getElem hj,e1]) e he hfr).1
    ·obtain ⟨j,hj,e1⟩:=List.getElem_of_mem (hall t ht)
     exact k2.sd j t (h j (by omega)) (by rw [List.getElem?_eq_getElem hj,e1])
   ·rintro ⟨_,_,_,hS⟩ i hi
    have hiF:i < F.length:=by omega
    exact hGT F[i] (hS.co _ (hw.tr _ (List.getElem_mem hiF)).2) i (List.getElem?_eq_getElem hiF)
  ·rw [if_pos (show (!false)=true from rfl)]
   exact ⟨false,rfl,fun h=>(by cases h),fun h=>absurd (h.2.2.2.ok t ht e he hfr) hno⟩
 ·rw [kF hv,if_neg (show ¬ false=true by decide),if_pos (show ((1:Int) != 0)=true from rfl)]
  unfold mB
  rw [if_pos rfl]
  refine ⟨false,rfl,fun h=>(by cases h),fun h=>absurd ⟨h.1,fun t ht=>?_⟩ hv⟩
  rcases List.mem_cons.1 ht with rfl|ht
  ·exact h.2.1
  ·rw [List.mem_singleton] at ht;subst ht;exact h.2.2.1
end
end Gv
namespace Gv
open Go
theorem aNU {d:aP} (h:bB d) {a b:Edge} (ha:a∈d.E) (hb:b∈d.E) (h1:a.F=b.F) (h2:a.B=b.B):a=b:=by
 obtain ⟨i,hi,rfl⟩:=List.getElem_of_mem ha
 obtain ⟨j,hj,rfl⟩:=List.getElem_of_mem hb
 rcases Nat.lt_trichotomy i j with hij|rfl|hij
 ·have:=aEP h.1 h.2 hij hj;unfold uE at this;omega
 ·rfl
 ·have:=aEP h.1 h.2 hij hi;unfold uE at this;omega
theorem det_mk2 {t:aP} (hv:aT t) (h0:∀ e∈t.E,e.B≠0) (hu:∀ a∈t.E,∀ b∈t.E,a.F=b.F->a.B=b.B->a=b):bB t:=by
 refine ⟨hv,fun k hk=>⟨h0 _ (List.getElem_mem hk),fun h1 hc=>?_⟩⟩
 have hp:=List.pairwise_iff_getElem.1 (fl_of (aNB hv) hu) (k - 1) k (by omega) hk (by omega)
 unfold uE at hp
 omega
theorem txtD_in {t:aP} (hv:aT t) {e:Edge} (he:e∈t.E):kC t e∈t.L:=aIu (p:=⟨t,[],[]⟩) hv he
theorem alo_iff {d:aP} (hd:bB d) {s:aH} (hs:s∈d.L) {k j:Int}:alo d k s=some j<->∃ e∈d.E,e.F=k/\kC d e=s/\e.To=j:=by
 unfold alo
 rw [if_pos hs]
 have hgo:∀ e∈d.E,e.F=k->kC d e=s->goF d k s=e.To:=fun e he h1 h2=>by
  unfold goF
  have hh:hit d k s e=true:=by unfold hit;simp [h1,h2]
  cases hf:d.E.find? (hit d k s) with
  |none=>exact absurd hh (by rw [List.find?_eq_none] at hf;exact hf e he)
  |some e'=>
   have h3:=List.find?_some hf
   have h4:=List.mem_of_find?_eq_some hf
   unfold hit at h3
   simp only [Bool.and_eq_true,beq_iff_eq] at h3
   rw [aNU hd h4 he (h3.1.trans h1.symm) (aQC hd.1 h4 he (h3.2.trans h2.symm))]
 constructor
 ·intro h
  split at h
  ·cases h
  ·rename_i hn
   unfold goF at h hn
   cases hf:d.E.find? (hit d k s) with
   |none=>rw [hf] at hn;exact absurd (show (-1:Int) < 0 by decide) hn
   |some e'=>
    rw [hf] at h
    have h3:=List.find?_some hf
    unfold hit at h3
    simp only [Bool.and_eq_true,beq_iff_eq] at h3
    exact ⟨e',List.mem_of_find?_eq_some hf,h3.1,h3.2,Option.some.inj h⟩
 ·rintro ⟨e,he,h1,h2,h3⟩
  rw [hgo e he h1 h2,if_neg (by have:=(eB hd.1 he).2.1;omega),h3]
theorem aSe {S:List Int} {x y:Int} (hx:x∈S) (hy:y∈S) (h:pos S x=pos S y):x=y:=by
 obtain ⟨i,hi,e1,e2⟩:=mS hx
 obtain ⟨j,hj,e3,e4⟩:=mS hy
 have:i=j:=by omega
 subst this
 exact e2.symm.trans e4
theorem aDX {t:aP} {S:List Int} {f:Edge}:f∈aLp t S<->∃ e∈t.E,e.F∈S/\e.To∈S/\f=⟨pos S e.F,e.B,pos S e.To⟩:=by
 unfold aLp
 rw [List.mem_filterMap]
 constructor
 ·rintro ⟨e,he,h⟩
  simp only [Option.ite_none_right_eq_some,Option.some.injEq] at h
  obtain ⟨⟨a,b⟩,rfl⟩:=h
  exact ⟨e,he,aGY.1 a,aGY.1 b,rfl⟩
 ·rintro ⟨e,he,a,b,rfl⟩
  exact ⟨e,he,by rw [if_pos ⟨aGY.2 a,aGY.2 b⟩]⟩
theorem pos_bd {S:List Int} {x:Int} (hx:x∈S):0<=pos S x/\pos S x < S.length:=by
 obtain ⟨i,hi,e1,_⟩:=mS hx
 omega
theorem keepL_det {t:aP} (hd:bB t) {S:List Int} (hS:S.Pairwise fun a b=>a < b) (hl:S.length<=40) (hi:t.I∈S):bB (aEV t S):=by
 have h1:=pos_bd hi
 have hL:=hd.1.2.2.1
 have hE:=aIt t S
 have h300:=hd.1.2.2.2.1
 refine det_mk2 ⟨⟨by show 1<=(S.length:Int);omega,by show (S.length:Int)<=40;omega⟩,⟨h1.1,by show pos S t.I<=(S.length:Int) - 1;omega⟩,hL,aRW (Nat.le_trans hE h300) (aRM (aNB hd.1) hS) fun e he=>?_⟩ (fun e he=>?_) fun a ha b hb g1 g2=>?_
 ·obtain ⟨f,hf,a,b,rfl⟩:=aDX.1 he
  have h2:=pos_bd a
  have h3:=pos_bd b
  have h4:=(eB hd.1 hf).2.2
  exact ⟨⟨h2.1,by show pos S f.F<=(S.length:Int) - 1;omega⟩,⟨h3.1,by show pos S f.To<=(S.length:Int) - 1;omega⟩,h4⟩
 ·obtain ⟨f,hf,a,b,rfl⟩:=aDX.1 he
  obtain ⟨j,hj,rfl⟩:=List.getElem_of_mem hf
  exact (hd.2 j hj).1
 ·obtain ⟨f,hf,a1,a2,rfl⟩:=aDX.1 ha
  obtain ⟨f',hf',b1,b2,rfl⟩:=aDX.1 hb
  rw [aNU hd hf hf' (aSe a1 b1 g1) g2]
theorem aQF {t:aP} (hv:aT t) {x:Int}:x∈RL t<->∃ i:Nat,x=(i:Int)/\Rt t i:=by
 unfold RL
 rw [List.mem_map]
 constructor
 ·rintro ⟨i,hi,rfl⟩
  exact ⟨i,rfl,(oX.1 (List.mem_filter.1 hi).2)⟩
 ·rintro ⟨i,rfl,hi⟩
  exact ⟨i,List.mem_filter.2 ⟨List.mem_range.2 (Rt_lt hv hi),jL hi⟩,rfl⟩
structure Bst (p:aO) (r T:aP) (K:Int × Int->Prop) (nm:Int->Int × Int):Prop where
 det:bB T
 fit:eZ 999999999 T
 ini:nm T.I=(p.S.I,r.I)
 ink:∀ k,rX T k->K (nm k)
 inj:∀ k k',rX T k->rX T k'->nm k=nm k'->k=k'
 go:∀ k,rX T k->∀ e∈p.S.E,e.F=(nm k).1->∀ z,alo r (nm k).2 (kC p.S e)=some z->K (e.To,z)->∃ k',alo T k (kC p.S e)=some k'/\nm k'=(e.To,z)
 back:∀ k,rX T k->∀ e∈p.S.E,e.F=(nm k).1->∀ k',alo T k (kC p.S e)=some k'->∃ z,alo r (nm k).2 (kC p.S e)=some z/\nm k'=(e.To,z)
theorem yU {p:aO} {r:aP} {q:Int × Int} {x:Int × Int × Int}:x∈sK p r q (bG p q)<->∃ e∈p.S.E,e.F=q.1/\∃ z,alo r q.2 (kC p.S e)=some z/\x=(e.B,e.To,z):=by
 unfold sK bG
 rw [List.mem_filterMap]
 constructor
 ·rintro ⟨e,he,h⟩
  rw [Option.map_eq_some_iff] at h
  obtain ⟨z,hz,rfl⟩:=h
  rw [List.mem_filter,beq_iff_eq] at he
  exact ⟨e,he.1,he.2,z,hz,rfl⟩
 ·rintro ⟨e,he,hf,z,hz,rfl⟩
  exact ⟨e,List.mem_filter.2 ⟨he,by simpa using hf⟩,by rw [hz];rfl⟩
theorem best_is {p:aO} {r:aP} (hp:eJ p) (hr:bB r) (hf:iO 999999 p) {K:List (Int × Int)} (hK:K.Nodup) (hi:(p.S.I,r.I)∈K) (hok:bB (fV p r K)):
  ∃ nm,Bst p r (aEV (fV p r K) (RL (fV p r K))) (fun q=>q∈K) nm:=by
 have hOm:∀ {q:Int × Int},q∈eG K<->q∈K:=oR
 have hO:(eG K).Nodup:=by
  have h:=aGZ qLt aHa (fun h1 h2=>aNo h1 h2) aKa hK
  exact h.imp fun {a b} h e=>by subst e;rw [aHa] at h;cases h
 have hSp:=RL_pair (fV p r K)
 have hSn:(RL (fV p r K)).Nodup:=hSp.imp fun h=>by omega
 have hst:(fV p r K).N=((eG K).length:Int):=rfl
 have hl40:=hok.1.1.2
 have hSl:=aQp (fV p r K)
 have hini:(fV p r K).I∈RL (fV p r K):=(aQF hok.1).2 ⟨(fV p r K).I.toNat,by have:=hok.1.2.1;omega,.init⟩
 have hdet:=keepL_det hok hSp (by omega) hini
 have hEl:=aIt (fV p r K) (RL (fV p r K))
 have h300:=hok.1.2.2.2.1
 have hat:∀ k,rX (aEV (fV p r K) (RL (fV p r K))) k->∃ (i:Nat) (q:Int × Int),(RL (fV p r K)).getD k.toNat 0=(i:Int)/\(i:Int)∈RL (fV p r K)/\pos (RL (fV p r K)) (i:Int)=k/\Rt (fV p r K) i/\(eG K).getD i (0,0)=q/\q∈K/\pos (eG K) q=(i:Int):=fun k hk=>by
  unfold rX at hk
  have hkl:k.toNat < (RL (fV p r K)).length:=by have:(aEV (fV p r K) (RL (fV p r K))).N=((RL (fV p r K)).length:Int):=rfl;omega
  have hm:(RL (fV p r K))[k.toNat]∈RL (fV p r K):=List.getElem_mem hkl
  obtain ⟨i,e,hR⟩:=(aQF hok.1).1 hm
  have hil:=Rt_lt hok.1 hR
  rw [hst] at hil
  have hil':i < (eG K).length:=by omega
  refine ⟨i,(eG K)[i],?_,e ▸ hm,?_,hR,?_,hOm.1 (List.getElem_mem hil'),aCx hO (List.getElem?_eq_getElem hil')⟩
  ·rw [List.getD_eq_getElem?_getD,List.getElem?_eq_getElem hkl,Option.getD_some,e]
  ·rw [aCx hSn (j:=k.toNat) (by rw [List.getElem?_eq_getElem hkl,e])];omega
  ·rw [List.getD_eq_getElem?_getD,List.getElem?_eq_getElem hil'];rfl
 have hto:∀ {q:Int × Int},q∈K->pos (eG K) q∈RL (fV p r K)->(eG K).getD ((RL (fV p r K)).getD (pos (RL (fV p r K)) (pos (eG K) q)).toNat 0).toNat (0,0)=q:=fun {q} hq hm=>by
  obtain ⟨j,e1,e2⟩:=uU hm
  obtain ⟨i,f1,f2⟩:=uU (hOm.2 hq)
  rw [e1,Int.toNat_natCast,List.getD_eq_getElem?_getD (l:=RL (fV p r K)),e2,Option.getD_some,f1,Int.toNat_natCast,List.getD_eq_getElem?_getD,f2];rfl
 refine ⟨fun k=>(eG K).getD ((RL (fV p r K)).getD k.toNat 0).toNat (0,0),hdet,⟨Nat.le_trans hf.sys.1 (by decide),fun s hs=>Nat.le_trans (hf.sys.2.1 s hs) (by decide),by show (aLp _ _).length<=_;omega⟩,?_,fun k hk=>?_,fun k k' hk hk' h=>?_,fun k hk e he hfr z hz hKz=>?_,fun k hk e he hfr k' hk'=>?_⟩
 ·exact hto hi hini
 ·obtain ⟨i,q,a1,a2,a3,a4,a5,a6,a7⟩:=hat k hk
  show (eG K).getD ((RL (fV p r K)).getD k.toNat 0).toNat (0,0)∈K
  rw [a1,Int.toNat_natCast,a5];exact a6
 ·obtain ⟨i,q,a1,a2,a3,a4,a5,a6,a7⟩:=hat k hk
  obtain ⟨i',q',b1,b2,b3,b4,b5,b6,b7⟩:=hat k' hk'
  simp only [a1,b1,Int.toNat_natCast,a5,b5] at h
  subst h
  rw [←a3,←b3,←a7,←b7]
 ·obtain ⟨i,q,a1,a2,a3,a4,a5,a6,a7⟩:=hat k hk
  simp only [a1,Int.toNat_natCast,a5] at hfr hz ⊢
  have hx:(e.B,e.To,z)∈sK p r q (bG p q):=yU.2 ⟨e,he,hfr,z,hz,rfl⟩
  have hE:(⟨pos (eG K) q,e.B,pos (eG K) (e.To,z)⟩:Edge)∈(fV p r K).E:=(aFK hK).2 ⟨q,_,a6,hx,hKz,rfl⟩
  have hfrm:pos (eG K) q∈RL (fV p r K):=by rw [a7];exact a2
  have htom:pos (eG K) (e.To,z)∈RL (fV p r K):=(aQF hok.1).2 ⟨(pos (eG K) (e.To,z)).toNat,by have:=aLQ (hOm.2 hKz);omega,.step hE (by rw [a7,Int.toNat_natCast];exact a4)⟩
  refine ⟨pos (RL (fV p r K)) (pos (eG K) (e.To,z)),(alo_iff hdet (txtD_in hp.1.1 he)).2 ⟨⟨pos (RL (fV p r K)) (pos (eG K) q),e.B,pos (RL (fV p r K)) (pos (eG K) (e.To,z))⟩,aDX.2 ⟨_,hE,hfrm,htom,rfl⟩,?_,rfl,rfl⟩,hto hKz htom⟩
  show pos (RL (fV p r K)) (pos (eG K) q)=k
  rw [a7,a3]
 ·obtain ⟨i,q,a1,a2,a3,a4,a5,a6,a7⟩:=hat k hk
  simp only [a1,Int.toNat_natCast,a5] at hfr ⊢
  obtain ⟨f,hfm,h1,h2,h3⟩:=(alo_iff hdet (txtD_in hp.1.1 he)).1 hk'
  obtain ⟨g,hg,g1,g2,rfl⟩:=aDX.1 hfm
  obtain ⟨q0,x,c1,c2,c3,rfl⟩:=(aFK hK).1 hg
  obtain ⟨e1,d1,d2,z,d3,rfl⟩:=yU.1 c2
  simp only at h1 h2 h3 g1 g2 c3
  have h4:pos (eG K) q0=(i:Int):=aSe g1 a2 (h1.trans a3.symm)
  have hq:q0=q:=by
   obtain ⟨u,u1,u2⟩:=uU (hOm.2 c1)
   obtain ⟨v,v1,v2⟩:=uU (hOm.2 a6)
   have:u=v:=by omega
   subst this
   rw [u2] at v2
   exact Option.some.inj v2
  subst hq
  have hee:e1=e:=aNU hp.1 d1 he (d2.trans hfr.symm) (aQC hp.1.1 d1 he h2)
  subst hee
  refine ⟨z,d3,?_⟩
  rw [←h3]
  exact hto c3 g2
end Gv
namespace Gv
open Go
theorem sup_prog {p:aO} {r:aP} (hp:eJ p) (hd:bB r) (hf9:iO 999999999 p) (hr9:eZ 999999999 r):
  if 40 < (bE p r).1.length\/300 < (bE p r).2.length then pS p r=some (⟨0,0,[],[]⟩,5)
  else ∃ a:List Bool,a.length=(FQ p r).length/\Stb (gE p r) (gU p r) (gM p r) (gF p r) (on a)/\(∀ S:Nat->Prop,(∀ i,S i->i < (FQ p r).length)->Stb (gE p r) (gU p r) (gM p r) (gF p r) S->∀ i,S i->on a i)/\
   if (p.S.I,r.I)∈kq (bE p r).1 a then bB (fV p r (kq (bE p r).1 a))/\pS p r=some (aEV (fV p r (kq (bE p r).1 a)) (RL (fV p r (kq (bE p r).1 a))),0) else pS p r=some (⟨0,0,[],[]⟩,3):=by
 have hPP:PP p r=if 40 < (OQ p r).length\/300 < (EE p r).length then (zeroP,[],5) else (⟨uK p r,mkQ p.M 0 (OQ p r),p.C⟩,(OQ p r).map R2,0):=by
  unfold PP
  rw [if_pos (jL (P:=eJ p/\bB r) ⟨hp,hd⟩)]
 unfold pS
 rw [aCd p r hf9 hr9,aA]
 by_cases hbig:40 < (bE p r).1.length\/300 < (bE p r).2.length
 ·have hq:PP p r=(zeroP,[],5):=by rw [hPP,if_pos (by rw [aQl,EE_len hp.1.1 hd.1];exact hbig)]
  rw [if_pos hbig,hq];rfl
 ·have hq:PP p r=(⟨uK p r,mkQ p.M 0 (OQ p r),p.C⟩,(OQ p r).map R2,0):=by rw [hPP,if_neg (by rw [aQl,EE_len hp.1.1 hd.1];exact hbig)]
  rw [if_neg hbig,hq]
  simp only
  rw [if_neg (by simp)]
  obtain ⟨P,hP⟩:=aIU hp.1 hd
  have hm:p.M.length < 1000000000:=by have:=hf9.marks;omega
  obtain ⟨b,e2,l2,s2,g2⟩:=i_kept_eq hf9.small hm hp.1 hd P
  refine ⟨b,l2,s2,g2,?_⟩
  rw [hP,aA]
  simp only
  rw [e2,aA]
  have hW:=aCc hp.1.1 hd.1
  have hF1:1<=(FQ p r).length:=List.length_pos_of_mem (aHb p r)
  have hix:ix b (0:Int)=some (b.getD 0 false):=bgd (k:=0) (show 0 < b.length by omega)
  have hin:(p.S.I,r.I)∈kq (bE p r).1 b<->b[0]?=some true:=aNu hW.1 (aGu p r)
  rw [hix,aA]
  cases ha:b.getD 0 false with
  |false=>
   rw [if_neg (fun h=>by have:=mT.2 (hin.1 h);rw [ha] at this;cases this)]
   simp
  |true=>
   have h0:b[0]?=some true:=mT.1 ha
   rw [if_pos (hin.2 h0)]
   simp only [Bool.not_true,Bool.false_eq_true,if_false]
   have hsub:=aIg (bE p r).1 b
   have hok:bB (fV p r (kq (bE p r).1 b)):=(aQm hp.1 (hsub.nodup hW.1) (hin.2 h0)).2 (by
    have h1:=hsub.length_le
    have h2:=EK_le hp.1.1 hd.1 hsub
    rw [aIf];omega)
   have hRl:=aQp (fV p r (kq (bE p r).1 b))
   have h40:(fV p r (kq (bE p r).1 b)).N<=40:=hok.1.1.2
   rw [aOX hp.1 hd _ P b l2 (hin.2 h0),aA]
   simp only
   rw [aKe hok.1,aA,part_eq hok.1 (by omega) (RL_pair _),aA]
   exact ⟨hok,rfl⟩
section
variable {p:aO} {r s T:aP}
theorem fin_ind (P:Int × Int->Prop) (h0:P (p.S.I,r.I)) (hs:∀ q,P q->∀ x∈sK p r q (bG p q),P x.2):∀ q∈(bE p r).1,P q:=by
 have hadd:∀ (l:List (Int × Int × Int)) (F:List (Int × Int)),(∀ q∈F,P q)->(∀ x∈l,P x.2)->∀ q∈aDq F l,P q:=by
  intro l
  induction l with
  |nil=>exact fun F hF _=>hF
  |cons x l ih=>
   intro F hF hl
   refine ih _ (fun q hq=>?_) (fun y hy=>hl y (by simp [hy]))
   unfold aCv at hq
   split at hq
   ·exact hF q hq
   ·rcases List.mem_append.1 hq with h|h
    ·exact hF q h
    ·simp at h;subst h;exact hl x (by simp)
 have key:∀ (n i:Nat) (st:List (Int × Int) × List Edge),(∀ q∈st.1,P q)->∀ q∈(xQ p r n i st).1,P q:=by
  intro n
  induction n with
  |zero=>exact fun _ _ h=>h
  |succ n ih=>
   intro i st h
   unfold xQ
   split
   ·exact h
   ·rename_i q hq
    exact ih _ _ (hadd _ _ h (hs q (h q (List.mem_of_getElem? hq))))
 exact key _ _ _ (fun q hq=>by simp at hq;subst hq;exact h0)
theorem tri_fin (hp:bB p.S) (hr:bB r) {t:Tr} (ht:Tri p s r t):(t.1,t.2.2)∈(bE p r).1:=by
 induction ht with
 |ini=>exact aHb p r
 |go _ hst ih=>
  obtain ⟨e,he,hfr,y,z,hy,hz,rfl⟩:=hst
  exact pY hp.1 hr.1 ih _ (yU.2 ⟨e,he,hfr,z,hz,rfl⟩)
theorem aSf (hp:bB p.S) (hr:bB r) (hS:Sup p s r) {a:List Bool} (ha:∀ S:Nat->Prop,(∀ i,S i->i < (FQ p r).length)->Stb (gE p r) (gU p r) (gM p r) (gF p r) S->∀ i,S i->on a i) {t:Tr} (ht:Tri p s r t):
  (t.1,t.2.2)∈kq (bE p r).1 a:=by
 have hW:=aCc hp.1 hr.1
 have hstb:Stb (gE p r) (gU p r) (gM p r) (gF p r) (fun i=>∃ t,Tri p s r t/\(bE p r).1[i]?=some (t.1,t.2.2)):=by
  refine ⟨?_,?_,?_⟩
  ·have key:∀ t,GT p s r t->Tri p s r t->∀ i,(bE p r).1[i]?=some (t.1,t.2.2)->Co (gE p r) (gM p r) (fun i=>∃ t,Tri p s r t/\(bE p r).1[i]?=some (t.1,t.2.2)) i:=by
    intro t hg
    induction hg with
    |mark h=>exact fun ht i hi=>.base ⟨_,ht,hi⟩ ⟨_,hi,h⟩
    |go hst _ ih=>
     intro ht i hi
     have ht':=ht.go hst
     obtain ⟨j,hj,e⟩:=List.getElem_of_mem (tri_fin hp hr ht')
     have hj':=List.getElem?_eq_getElem hj
     rw [e] at hj'
     refine .step ⟨_,ht,hi⟩ ?_ (ih ht' j hj')
     obtain ⟨g,he,hfr,y,z,hy,hz,rfl⟩:=hst
     exact (aQn hp hr hi).2 ⟨_,yU.2 ⟨g,he,hfr,z,hz,rfl⟩,hj'⟩
   rintro i ⟨t,ht,hi⟩
   exact key t (hS.co t ht) ht i hi
  ·rintro i ⟨t,ht,hi⟩ ⟨q,hq,hf⟩
   rw [hi] at hq
   obtain rfl:=Option.some.inj hq
   unfold fltB at hf
   rw [List.any_eq_true] at hf
   obtain ⟨e,he,hc⟩:=hf
   unfold blk at he
   obtain ⟨h1,h2⟩:=List.mem_filter.1 he
   obtain ⟨h3,h4⟩:=List.mem_filter.1 h1
   have hfr:e.F=t.1:=by simpa using h4
   obtain ⟨k1,k2⟩:=hS.ok t ht e h3 hfr
   cases hy:alo s t.2.1 (kC p.S e) with
   |none=>rw [k1 hy] at hc;cases hc
   |some y=>
    have:=k2 y hy
    simp only at h2
    cases hz:alo r t.2.2 (kC p.S e) with
    |none=>rw [hz] at this;cases this
    |some z=>rw [hz] at h2;cases h2
  ·rintro i j ⟨t,ht,hi⟩ hu
   obtain ⟨x,hx,hj,hc⟩:=(aQo hp hr hi).1 hu
   obtain ⟨e,he,hfr,z,hz,rfl⟩:=yU.1 hx
   simp only at hfr hz
   obtain ⟨k1,k2⟩:=hS.ok t ht e he hfr
   cases hy:alo s t.2.1 (kC p.S e) with
   |none=>
    have h1:ctl p (kC p.S e)=false:=hc
    rw [k1 hy] at h1;cases h1
   |some y=>exact ⟨_,ht.go ⟨e,he,hfr,y,z,hy,hz,rfl⟩,hj⟩
 obtain ⟨i,hi,e⟩:=List.getElem_of_mem (tri_fin hp hr ht)
 have hi':(bE p r).1[i]?=some (t.1,t.2.2):=by rw [List.getElem?_eq_getElem hi,e]
 exact (aNu hW.1 hi').2 (ha _ (fun i ⟨t,_,h⟩=>(List.getElem?_eq_some_iff.1 h).1) hstb i ⟨t,ht,hi'⟩)
theorem bst_tri {K:Int × Int->Prop} {nm:Int->Int × Int} (hb:Bst p r T K nm) {t:Tr} (ht:Tri p T r t):rX T t.2.1/\nm t.2.1=(t.1,t.2.2):=by
 induction ht with
 |ini=>exact ⟨by have:=hb.det.1.2.1;show 0<=T.I/\T.I < T.N;omega,hb.ini⟩
 |go _ hst ih=>
  obtain ⟨e,he,hfr,y,z,hy,hz,rfl⟩:=hst
  obtain ⟨z',h1,h2⟩:=hb.back _ ih.1 e he (by rw [ih.2];exact hfr) y hy
  rw [ih.2] at h1
  simp only at h1
  rw [hz] at h1
  obtain rfl:=Option.some.inj h1
  have h3:=ih.1
  unfold rX at h3
  have:=aGX hb.det.1 (show 0<=_/\_<=T.N - 1 by omega) hy
  exact ⟨by unfold rX;simp only;omega,h2⟩
theorem bst_sup (hp:eJ p) (hr:bB r) {a:List Bool} {nm:Int->Int × Int} (hb:Bst p r T (fun q=>q∈kq (bE p r).1 a) nm) (hs:Stb (gE p r) (gU p r) (gM p r) (gF p r) (on a)):Sup p T r:=by
 have hW:=aCc hp.1.1 hr.1
 have hk:∀ {i:Nat} {q:Int × Int},(bE p r).1[i]?=some q->(q∈kq (bE p r).1 a<->on a i):=fun hi=>aNu hW.1 hi
 have hat:∀ q∈kq (bE p r).1 a,∃ i:Nat,(bE p r).1[i]?=some q/\on a i:=fun q hq=>by
  obtain ⟨i,h1,h2⟩:=kq_mem.1 hq
  exact ⟨i,h1,h2⟩
 refine ⟨fun t ht e he hfr=>?_,fun t ht=>?_⟩
 ·obtain ⟨h1,h2⟩:=bst_tri hb ht
  have hq:=hb.ink _ h1
  rw [h2] at hq
  obtain ⟨i,hi,hon⟩:=hat _ hq
  refine ⟨fun hn=>?_,fun y hy=>?_⟩
  ·cases hc:ctl p (kC p.S e) with
   |true=>rfl
   |false=>
    exfalso
    cases hz:alo r t.2.2 (kC p.S e) with
    |none=>
     refine hs.ok i hon ⟨_,hi,?_⟩
     unfold fltB
     rw [List.any_eq_true]
     exact ⟨e,List.mem_filter.2 ⟨List.mem_filter.2 ⟨he,by simpa using hfr⟩,by simp only;rw [hz];rfl⟩,by rw [hc];rfl⟩
    |some z=>
     have hx:(e.B,e.To,z)∈sK p r (t.1,t.2.2) (bG p (t.1,t.2.2)):=yU.2 ⟨e,he,hfr,z,hz,rfl⟩
     have hF:=pY hp.1.1 hr.1 (List.mem_of_getElem? hi) _ hx
     obtain ⟨j,hj,ej⟩:=List.getElem_of_mem hF
     have hj':(bE p r).1[j]?=some (e.To,z):=by rw [List.getElem?_eq_getElem hj,ej]
     have hon':=hs.un i j hon ((aQo hp.1 hr hi).2 ⟨_,hx,hj',hc⟩)
     obtain ⟨k',h3,_⟩:=hb.go _ h1 e he (by rw [h2];exact hfr) z (by rw [h2];exact hz) ((hk hj').2 hon')
     rw [hn] at h3;cases h3
  ·obtain ⟨z,h3,_⟩:=hb.back _ h1 e he (by rw [h2];exact hfr) y hy
   rw [h2] at h3
   simp only at h3
   rw [h3];rfl
 ·have key:∀ i,Co (gE p r) (gM p r) (on a) i->∀ t,rX T t.2.1->nm t.2.1=(t.1,t.2.2)->(bE p r).1[i]?=some (t.1,t.2.2)->GT p T r t:=by
   intro i hc
   induction hc with
   |base _ hm=>
    intro t _ _ hi
    obtain ⟨q,hq,h⟩:=hm
    rw [hi] at hq
    obtain rfl:=Option.some.inj hq
    exact .mark h
   |step _ hg hc ih=>
    intro t h1 h2 hi
    obtain ⟨x,hx,hj⟩:=(aQn hp.1 hr hi).1 hg
    obtain ⟨e,he,hfr,z,hz,rfl⟩:=yU.1 hx
    simp only at hfr hz hj
    obtain ⟨k',h3,h4⟩:=hb.go _ h1 e he (by rw [h2];exact hfr) z (by rw [h2];exact hz) ((hk hj).2 hc.mem)
    have h5:=h1
    unfold rX at h5
    have h6:=aGX hb.det.1 (show 0<=t.2.1/\t.2.1<=T.N - 1 by omega) h3
    exact .go ⟨e,he,hfr,k',z,h3,hz,rfl⟩ (ih (e.To,k',z) (by unfold rX;simp only;omega) h4 hj)
  obtain ⟨h1,h2⟩:=bst_tri hb ht
  have hq:=hb.ink _ h1
  rw [h2] at hq
  obtain ⟨i,hi,hon⟩:=hat _ hq
  exact key i (hs.co i hon) t h1 h2 hi
theorem aPm {α:Type} [DecidableEq α] {f:α->Nat}:∀ {A B:List α},A.Nodup->(∀ x∈A,x∈B)->(A.map f).sum<=(B.map f).sum
 |[],_,_,_=>by simp
 |x::A,B,hn,hs=>by
  obtain ⟨h1,h2⟩:=List.nodup_cons.1 hn
  have hx:=hs x (by simp)
  have:=aPm (f:=f) (A:=A) (B:=B.erase x) h2 (fun y hy=>(List.mem_erase_of_ne (fun e=>h1 (by rw [←e];exact hy))).2 (hs y (by simp [hy])))
  have hp:=((List.perm_cons_erase hx).map f).sum_nat
  rw [List.map_cons,List.sum_cons] at hp
  rw [List.map_cons,List.sum_cons]
  omega
theorem bst_fin (hp:eJ p) {K:Int × Int->Prop} {nm:Int->Int × Int} (hb:Bst p r T K nm):∀ q∈(bE p T).1,rX T q.2/\(nm q.2).1=q.1:=by
 refine fin_ind (fun q=>rX T q.2/\(nm q.2).1=q.1) ⟨by have:=hb.det.1.2.1;unfold rX;simp only;omega,by simp only [hb.ini]⟩ fun q hq x hx=>?_
 obtain ⟨h1,h2⟩:=hq
 obtain ⟨e,he,hfr,y,hy,rfl⟩:=yU.1 hx
 obtain ⟨z,h3,h4⟩:=hb.back _ h1 e he (by rw [h2];exact hfr) y hy
 have h5:=h1
 unfold rX at h5
 have h6:=aGX hb.det.1 (show 0<=q.2/\q.2<=T.N - 1 by omega) hy
 exact ⟨by unfold rX;simp only;omega,by simp only [h4]⟩
theorem bst_small (hp:eJ p) (hr:bB r) {K:Int × Int->Prop} (hKF:∀ q,K q->q∈(bE p r).1) {nm:Int->Int × Int} (hb:Bst p r T K nm):(OQ p T).length<=(bE p r).1.length/\(EE p T).length<=(bE p r).2.length:=by
 have hW:=aCc hp.1.1 hb.det.1
 have hf:=bst_fin hp hb
 have hnd:((bE p T).1.map fun q=>nm q.2).Nodup:=by
  rw [List.Nodup,List.pairwise_map]
  refine List.Pairwise.imp_of_mem (fun {u v} hu hv hne e=>hne ?_) hW.1
  obtain ⟨u1,u2⟩:=hf u hu
  obtain ⟨v1,v2⟩:=hf v hv
  have h2:=hb.inj _ _ u1 v1 e
  exact Prod.ext (by rw [←u2,←v2,e]) h2
 have hsub:∀ x∈(bE p T).1.map fun q=>nm q.2,x∈(bE p r).1:=fun x hx=>by
  obtain ⟨q,hq,rfl⟩:=List.mem_map.1 hx
  exact hKF _ (hb.ink _ (hf q hq).1)
 constructor
 ·rw [aQl]
  have:=List.Nodup.length_le_of_subset hnd hsub
  rwa [List.length_map] at this
 ·have hsz:∀ {u:aP},bB u->(EE p u).length=((bE p u).1.map fun q=>(sK p u q (bG p q)).length).sum:=fun {u} hu=>by
   show (EK p u (bE p u).1).length=_
   rw [EK_sum]
   congr 1
   refine List.map_congr_left fun q hq=>?_
   unfold sucK
   congr 1
   exact List.filter_eq_self.2 fun x hx=>decide_eq_true (pY hp.1.1 hu.1 hq x hx)
  rw [←EE_len hp.1.1 hr.1,hsz hr,hsz hb.det]
  have h1:((bE p T).1.map fun q=>(sK p T q (bG p q)).length).sum<=((bE p T).1.map fun q=>(sK p r (nm q.2) (bG p (nm q.2))).length).sum:=by
   have key:∀ l:List (Int × Int),(∀ q∈l,q∈(bE p T).1)->(l.map fun q=>(sK p T q (bG p q)).length).sum<=(l.map fun q=>(sK p r (nm q.2) (bG p (nm q.2))).length).sum:=by
    intro l
    induction l with
    |nil=>simp
    |cons q l ih=>
     intro hl
     have h2:=ih fun x hx=>hl x (by simp [hx])
     obtain ⟨f1,f2⟩:=hf q (hl q (by simp))
     have h3:bG p (nm q.2)=bG p q:=by unfold bG;rw [f2]
     have h4:(sK p T q (bG p q)).length<=(sK p r (nm q.2) (bG p (nm q.2))).length:=by
      rw [h3]
      have hall:∀ e∈bG p q,e∈p.S.E/\e.F=q.1:=fun e he=>by
       obtain ⟨a,b⟩:=List.mem_filter.1 he
       exact ⟨a,by simpa using b⟩
      revert hall
      generalize bG p q=es
      intro hall
      induction es with
      |nil=>simp [sK]
      |cons e es ih2=>
       have h5:=ih2 fun x hx=>hall x (by simp [hx])
       obtain ⟨e1,e2⟩:=hall e (by simp)
       unfold sK at h5 ⊢
       rw [List.filterMap_cons,List.filterMap_cons]
       cases hy:alo T q.2 (kC p.S e) with
       |none=>
        cases alo r (nm q.2).2 (kC p.S e) with
        |none=>exact h5
        |some z=>exact Nat.le_succ_of_le h5
       |some y=>
        obtain ⟨z,h6,_⟩:=hb.back _ f1 e e1 (by rw [f2];exact e2) y hy
        rw [h6]
        exact Nat.succ_le_succ h5
     simp only [List.map_cons,List.sum_cons]
     omega
   exact key _ fun q hq=>hq
  refine Nat.le_trans h1 ?_
  have h2:=aPm (f:=fun q=>(sK p r q (bG p q)).length) hnd hsub
  rw [List.map_map] at h2
  exact h2
end
end Gv
namespace Gv
open Go
inductive Bk (t:aP) (M:List Int):Nat->Prop
 |mark {i:Nat}:(i:Int)∈M->Bk t M i
 |step {e:Edge}:e∈t.E->Bk t M e.To.toNat->Bk t M e.F.toNat
theorem distB_eq {t:aP} (hv:aT t) {M:List Int} (hp:M.Pairwise fun a b=>a < b) (hM:∀ x∈M,0<=x/\x < t.N):∃ out,lA t M false=some out/\out.length=t.N.toNat/\∀ i,vis out i<->Bk t M i:=by
 obtain ⟨n,hn⟩:∃ n:Nat,t.N=(n:Int):=⟨t.N.toNat,by have:=hv.1;omega⟩
 have hn40:1<=n/\n<=40:=by have:=hv.1;omega
 have h300:=hv.2.2.2.1
 have hed:∀ e∈t.E,∃ a b:Nat,e.F=(a:Int)/\e.To=(b:Int)/\a < n/\b < n:=fun e he=>by
  obtain ⟨h1,h2,_⟩:=eB hv he
  exact ⟨e.F.toNat,e.To.toNat,by omega,by omega,by omega,by omega⟩
 have nv:∀ j,¬ vis (List.replicate n (-1:Int)) j:=fun j h=>by
  unfold vis at h
  rw [List.getD_eq_getElem?_getD,List.getElem?_replicate] at h
  split at h<;>simp at h
 have hn0:neg (List.replicate n (-1:Int))=n:=by unfold neg;rw [List.countP_replicate];simp
 have hMl:M.length<=n:=by
  have h1:M.Nodup:=hp.imp fun h=>by omega
  have:=List.Nodup.length_le_of_subset (l₂:=(List.range n).map fun (i:Nat)=>(i:Int)) h1 (fun x hx=>List.mem_map.2 ⟨x.toNat,List.mem_range.2 (by have:=hM x hx;omega),by have:=hM x hx;omega⟩)
  simpa using this
 unfold lA
 rw [hn,aND _ n hn40.1 (by omega),aA]
 unfold bP
 rw [bX (by simp [hX];omega),aA,aA,List.nil_append]
 have key:=dZ (step:=fun s:List Int × Int=>gG M s.1 s.2) M.length (fun k (a:List Int)=>(a,(k:Int))) (fun k a=>a.length=n/\(∀ j,vis a j<->(j:Int)∈M.take k)/\neg a+k=n/\∀ j,a.getD j (-1)<=0)
  (fun a=>a.length=n/\(∀ j,vis a j<->(j:Int)∈M)/\neg a+M.length=n/\∀ j,a.getD j (-1)<=0) (fun k a hk hI=>?_) (fun a hI=>?_) M.length 0 (List.replicate n (-1)) (by omega) ⟨by simp,fun j=>by simp [nv j],by omega,fun j=>by have:=nv j;unfold vis at this;omega⟩
 ·obtain ⟨o0,h0,g1,g2,g3,g4⟩:=key
  have h0':loop (fun s:List Int × Int=>gG M s.1 s.2) (List.replicate n (-1),0)=some o0:=h0
  rw [h0',aA]
  unfold pP
  obtain ⟨out,h1,h2,h3,h4,h5⟩:=aRL (ed:=t.E) (n:=n) (by omega) (fun e=>e.To.toNat) (fun e=>e.F.toNat) (inner:=fun q (s:List Int × List Int × Int)=>iB t false q s.1 s.2.1 s.2.2) (outer:=fun s:List Int × List Int=>mA t false s.1 s.2)
   (fun q k hk out todo hl hq htd htop=>by
    obtain ⟨b,a,eb,ea,hb,ha⟩:=hed _ (List.getElem_mem hk)
    have hw:=aQ hk (show t.E.length < 4611686018427387904 by omega)
    have hx:=aX hk
    generalize t.E[k]=e at hx ea eb ⊢
    obtain ⟨eF,eL,eT⟩:=e
    simp only at ea eb
    subst ea eb
    simp only [iB,aV hk,if_pos,hx,aA,Bool.not_false,lZ,Int.toNat_natCast]
    by_cases hqa:a=q
    ·subst hqa
     rw [if_pos (by simp),aLr (by omega),aA]
     unfold iA
     by_cases hvb:vis out b
     ·rw [if_neg (by unfold vis at hvb;simp only [decide_eq_true_eq];omega),if_neg (fun h=>h.2 hvb)]
      simp only [eP,hw]
     ·rw [if_pos (by unfold vis at hvb;simp only [decide_eq_true_eq];omega),if_pos ⟨rfl,hvb⟩,aLr (by omega),aA,aLr (by omega),aA,vO _ (by omega),aA,bX (by simp [hX];omega),aA]
      simp only [eP,hw]
    ·rw [if_neg (by simp;omega),if_neg (fun h=>hqa h.1)]
     unfold iA
     rw [if_neg (by simp)]
     simp only [eP,hw])
   (fun q out todo=>by simp only [iB,aS];rfl)
   (fun out q todo hl hq htd=>by
    have hs:qT ((q:Int)::todo) 1 (((q:Int)::todo).length:Int)=some todo:=aSc _ _
    simp only [mA]
    rw [if_pos (by simp),show ix ((q:Int)::todo) 0=some (q:Int) from rfl,aA,hs,aA]
    rfl)
   (fun out=>rfl) (fun e he=>by obtain ⟨a,b,ea,eb,ha,hb⟩:=hed e he;simp only [ea,Int.toNat_natCast];exact ha) (Bk t M) (fun e he h=>Bk.step he h) (s0:=(o0,M))
   ⟨g1,fun j hj=>.mark ((g2 j).1 hj),fun x hx=>⟨x.toNat,by have:=hM x hx;omega,(g2 _).2 (by have:=hM x hx;rw [show ((x.toNat:Nat):Int)=x by omega];exact hx)⟩,fun j hj hm=>absurd ((g2 j).1 hj) hm,fun j=>by have:=g4 j;simp only;omega⟩ (by simp only;omega)
  rw [h1,aA]
  refine ⟨out,rfl,by rw [h2];rfl,fun j=>⟨h3 j,fun h=>?_⟩⟩
  induction h with
  |mark h=>exact h5 _ ((g2 _).2 h)
  |step he _ ih=>exact h4 _ ih _ he rfl
 ·obtain ⟨g1,g2,g3,g4⟩:=hI
  have hx:=hM _ (List.getElem_mem hk)
  obtain ⟨v,hv'⟩:∃ v:Nat,M[k]=(v:Int):=⟨M[k].toNat,by omega⟩
  have hvn:v < a.length:=by omega
  have hnot:¬ vis a v:=fun h=>by
   have h1:=(g2 v).1 h
   obtain ⟨j,hj,e⟩:=List.getElem_of_mem h1
   rw [List.length_take] at hj
   rw [List.getElem_take] at e
   have:=List.pairwise_iff_getElem.1 hp j k (by omega) hk (by omega)
   omega
  have hns:=aLW (v:=0) (Int.le_refl 0) hvn hnot
  have hw:=aQ hk (show M.length < 4611686018427387904 by omega)
  unfold gG
  simp only
  rw [if_pos (aV hk),aX hk,aA,hv',aX hvn,aA,vO _ hvn,aA,hw]
  refine ⟨_,rfl,by rw [List.length_set];exact g1,fun j=>?_,by omega,fun j=>?_⟩
  ·rw [aCL hvn (Int.le_refl 0),g2 j,List.take_succ,List.getElem?_eq_getElem hk,hv',List.mem_append]
   simp only [Option.toList_some,List.mem_singleton]
   exact ⟨fun h=>h.elim (fun h=>.inr (by omega)) .inl,fun h=>h.elim .inr (fun h=>.inl (by omega))⟩
  ·by_cases e:v=j
   ·subst e
    rw [List.getD_eq_getElem?_getD,List.getElem?_set_self hvn];simp
   ·rw [List.getD_eq_getElem?_getD,List.getElem?_set_ne e,←List.getD_eq_getElem?_getD];exact g4 j
 ·obtain ⟨g1,g2,g3,g4⟩:=hI
  rw [List.take_length] at g2
  refine ⟨a,?_,g1,g2,g3,g4⟩
  unfold gG
  rw [if_neg (by simp)]
theorem aTH {xs far:List Int} (hl:xs.length < 1000000) (hp:∀ x∈xs,oN x far=some true):dC xs far=some []:=by
 unfold dC
 have e:dK xs far=some (match xs.findIdx? (fun _=>true) with|none=>-1|some i=>(i:Int)):=by
  unfold dK
  rw [qR (step:=fun s=>cV xs far s) xs (fun _=>true) (fun k x hk hx=>by
   obtain ⟨hk',rfl⟩:=oW hx
   simp only [cV,aV hk,if_pos,hx,aA,hp _ (List.getElem_mem hk'),aQ hk (show xs.length < 4611686018427387904 by omega)]) (by simp only [cV,aS];rfl),aA]
  cases xs.findIdx? (fun _=>true)<;>rfl
 rw [e,aA]
 cases xs with
 |nil=>rfl
 |cons y l=>
  rw [show (y::l).findIdx? (fun _=>true)=some 0 from by rw [List.findIdx?_cons];rfl]
  simp only
  rw [if_neg (by decide),show wr (((0:Nat):Int)+1)=((1:Nat):Int) from rfl]
  have:=dZ (step:=fun s:List Int × Int × Int=>cB far s.1 s.2.1 s.2.2) (y::l).length (fun j (_:Unit)=>(y::l,(0:Int),(j:Int))) (fun _ _=>True) (fun r=>r=(y::l,0)) (fun j _ hj _=>?_) (fun _ _=>?_) ((y::l).length - 1) 1 () (by simp;omega) trivial
  ·obtain ⟨r,h1,rfl⟩:=this
   have h1':loop (fun s:List Int × Int × Int=>cB far s.1 s.2.1 s.2.2) (y::l,((0:Nat):Int),((1:Nat):Int))=some (y::l,0):=h1
   rw [h1',aA]
   unfold eA
   have s1:qT (y::l) 0 ((y::l).length:Int)=some (y::l):=by
    have:=aEQ (s:=y::l) (w:=0) (by simp)
    simpa using this
   simp only
   rw [s1,aA]
   have o1:ovw (y::l) 0 (List.replicate (y::l).length (0:Int))=some (List.replicate (y::l).length (0:Int)):=by
    unfold ovw
    rw [if_pos ⟨by omega,by simp⟩]
    simp
   rw [o1,aA]
   have s2:qT (List.replicate (y::l).length (0:Int)) 0 0=some []:=by
    have:=aPY (s:=List.replicate (y::l).length (0:Int)) (w:=0) (by simp)
    simpa using this
   rw [s2,aA]
  ·have hw:=aQ hj (show (y::l).length < 4611686018427387904 by omega)
   refine ⟨(),?_,trivial⟩
   simp only [cB,aV hj,if_pos,aX hj,aA,hp _ (List.getElem_mem hj),cS,hw]
   rfl
  ·exact ⟨_,by simp only [cB,aS];rfl,rfl⟩
theorem aSg {q:aO} (hq:eJ q) (hf:iO 999999999 q) (h:∀ i,Rt q.S i->Bk q.S q.M i):tS q=some ([],0):=by
 unfold tS
 have hm:q.M.Pairwise fun a b=>a < b:=by
  refine List.pairwise_iff_getElem.2 fun i j hi hj hij=>?_
  exact aGS (R:=fun a b:Int=>a < b) (fun h1 h2=>Int.lt_trans h1 h2) (fun k h1 hk=>(hq.2.1 k hk).2 h1) hij hj
 obtain ⟨out,h1,h2,h3⟩:=distB_eq hq.1.1 hm (fun x hx=>by
  obtain ⟨i,hi,rfl⟩:=List.getElem_of_mem hx
  have:=(hq.2.1 i hi).1
  omega)
 rw [aAr q hf,aA,jL hq,if_neg (by simp),h1,aA,aKe hq.1.1,aA,aTH (by have:=aQp q.S;have:=hq.1.1.1;omega) (fun x hx=>?_),aA]
 obtain ⟨i,rfl,hi⟩:=(aQF hq.1.1).1 hx
 have hil:=Rt_lt hq.1.1 hi
 have hvis:=(h3 i).2 (h i hi)
 unfold oN
 rw [aLr (by omega),aA]
 unfold vis at hvis
 rw [decide_eq_true hvis]
end Gv
namespace Gv
open Go
section
variable {p:aO} {r s T:aP}
theorem mkQ_has (M:List Int):∀ {l:List (Int × Int)} {k j:Nat} {q:Int × Int},l[j]?=some q->(M.any fun x=>q.1 == x)=true->((k+j:Nat):Int)∈mkQ M k l
 |[],_,_,_,h,_=>by simp at h
 |q'::l,k,0,q,h,hm=>by
  simp only [List.getElem?_cons_zero,Option.some.injEq] at h
  subst h
  unfold mkQ
  rw [if_pos hm]
  simp
 |q'::l,k,j+1,q,h,hm=>by
  rw [List.getElem?_cons_succ] at h
  have:=mkQ_has M (k:=k+1) h hm
  rw [show k+1+j=k+(j+1) by omega] at this
  unfold mkQ
  split
  ·exact List.mem_cons_of_mem _ this
  ·exact this
theorem OQ_nodup (hp:aT p.S) (hr:aT r):(OQ p r).Nodup:=by
 have h:=aGZ qLt aHa (fun h1 h2=>aNo h1 h2) aKa (aCc hp hr).1
 exact h.imp fun {a b} h e=>by subst e;rw [aHa] at h;cases h
theorem fin_tri (hS:Sup p s r):∀ q∈(bE p s).1,∃ z,Tri p s r (q.1,q.2,z):=by
 refine fin_ind (fun q=>∃ z,Tri p s r (q.1,q.2,z)) ⟨_,.ini⟩ fun q hq x hx=>?_
 obtain ⟨z,hz⟩:=hq
 obtain ⟨e,he,hfr,y,hy,rfl⟩:=yU.1 hx
 have h1:=(hS.ok _ hz e he hfr).2 y hy
 cases h2:alo r z (kC p.S e) with
 |none=>simp only at h1;rw [h2] at h1;cases h1
 |some z'=>exact ⟨z',hz.go ⟨e,he,hfr,y,z',hy,h2,rfl⟩⟩
theorem aNV (hp:bB p.S) (hs:bB s) {t:Tr} (ht:Tri p s r t):(t.1,t.2.1)∈(bE p s).1:=by
 induction ht with
 |ini=>exact aHb p s
 |go _ hst ih=>
  obtain ⟨e,he,hfr,y,z,hy,hz,rfl⟩:=hst
  exact pY hp.1 hs.1 ih _ (yU.2 ⟨e,he,hfr,y,hy,rfl⟩)
theorem aTI (hp:eJ p) (hs:bB s) (hS:Sup p s r) (hok:aT (uK p s)):∀ i,Rt (uK p s) i->Bk (uK p s) (mkQ p.M 0 (OQ p s)) i:=by
 have hn:=OQ_nodup hp.1.1 hs.1
 have key:∀ t,GT p s r t->Tri p s r t->Bk (uK p s) (mkQ p.M 0 (OQ p s)) (pos (OQ p s) (t.1,t.2.1)).toNat:=by
  intro t hg
  induction hg with
  |mark h=>
   intro ht
   obtain ⟨j,e1,e2⟩:=uU (oR.2 (aNV hp.1 hs ht))
   have:=mkQ_has p.M (k:=0) e2 h
   rw [Nat.zero_add] at this
   rw [e1,Int.toNat_natCast]
   exact .mark this
  |go hst _ ih=>
   intro ht
   have ht':=ht.go hst
   have h2:=ih ht'
   have h3:=aNV hp.1 hs ht
   have h4:=aNV hp.1 hs ht'
   obtain ⟨e,he,hfr,y,z,hy,hz,rfl⟩:=hst
   have hE:=(aFK (r:=s) (aCc hp.1.1 hs.1).1).2 ⟨_,_,h3,yU.2 ⟨e,he,hfr,y,hy,rfl⟩,h4,rfl⟩
   exact Bk.step (t:=uK p s) hE h2
 intro i hi
 have hil:=Rt_lt hok hi
 have hst:(uK p s).N=((OQ p s).length:Int):=rfl
 rw [hst] at hil
 have hil':i < (OQ p s).length:=by omega
 have hq:=oR.1 (List.getElem_mem hil')
 obtain ⟨z,hz⟩:=fin_tri hS _ hq
 have:=key _ (hS.co _ hz) hz
 rw [show (((OQ p s)[i].1,(OQ p s)[i].2):Int × Int)=(OQ p s)[i] from rfl,aCx hn (List.getElem?_eq_getElem hil')] at this
 simpa using this
end
end Gv
namespace Gv
open Go
section
variable {p:aO} {r s T:aP}
def SimR (p:aO) (r s T:aP) (nm:Int->Int × Int) (x y:Int):Prop:=∃ q u z,q∈(bE p s).1/\u∈(bE p T).1/\x=pos (OQ p s) q/\y=pos (OQ p T) u/\Tri p s r (q.1,q.2,z)/\nm u.2=(q.1,z)/\rX T u.2/\u.1=q.1
theorem pos_injQ {S:List (Int × Int)} {x y:Int × Int} (hx:x∈S) (hy:y∈S) (h:pos S x=pos S y):x=y:=by
 obtain ⟨i,hi,e1,e2⟩:=mS hx
 obtain ⟨j,hj,e3,e4⟩:=mS hy
 have:i=j:=by omega
 subst this
 exact e2.symm.trans e4
open Classical in
theorem sim_two (hp:eJ p) (hr:bB r) (hs:bB s) (hS:Sup p s r) {a:List Bool} (ha:∀ S:Nat->Prop,(∀ i,S i->i < (FQ p r).length)->Stb (gE p r) (gU p r) (gM p r) (gF p r) S->∀ i,S i->on a i)
  {nm:Int->Int × Int} (hb:Bst p r T (fun q=>q∈kq (bE p r).1 a) nm) (ho:aT (uK p s)) (hl:aT (uK p T)):smG (uK p s) (uK p T) 0 (uK p s).I (uK p T).I=true:=by
 have hio:=ho.2.1
 have hil:=hl.2.1
 refine sm_max ho hl (R:=fun x y=>decide (SimR p r s T nm x y)) (fun x y _ _ hR=>⟨rfl,fun e' he' hx=>?_⟩) (show 0<=_/\_ < _ by omega) (show 0<=_/\_ < _ by omega) (decide_eq_true ?_)
 ·obtain ⟨q,u,z,h1,h2,rfl,rfl,h5,h6,h7,h8⟩:=of_decide_eq_true hR
  obtain ⟨q',x',c1,c2,c3,rfl⟩:=(aFK (aCc hp.1.1 hs.1).1).1 he'
  obtain rfl:q'=q:=pos_injQ (oR.2 c1) (oR.2 h1) hx
  obtain ⟨e,he,hfr,y',hy,rfl⟩:=yU.1 c2
  have hz:=(hS.ok _ h5 e he hfr).2 y' hy
  obtain ⟨z',hz'⟩:=Option.isSome_iff_exists.1 hz
  have ht:=h5.go ⟨e,he,hfr,y',z',hy,hz',rfl⟩
  have hk:=aSf hp.1 hr hS ha ht
  obtain ⟨k',g1,g2⟩:=hb.go u.2 h7 e he (by rw [h6];exact hfr) z' (by rw [h6];exact hz') hk
  have hsu:(e.B,e.To,k')∈sK p T u (bG p u):=yU.2 ⟨e,he,by rw [h8];exact hfr,k',g1,rfl⟩
  have hu':=pY hp.1.1 hb.det.1 h2 _ hsu
  have hE:=(aFK (r:=T) (aCc hp.1.1 hb.det.1).1).2 ⟨u,_,h2,hsu,hu',rfl⟩
  have h7':=h7
  unfold rX at h7'
  have h9:=aGX hb.det.1 (show 0<=u.2/\u.2<=T.N - 1 by omega) g1
  refine ⟨pos (OQ p T) (e.To,k'),?_,decide_eq_true ⟨_,_,z',c3,hu',rfl,rfl,ht,g2,?_,rfl⟩⟩
  ·unfold StW
   rw [if_neg (by decide)]
   exact ⟨_,hE,rfl,rfl,rfl⟩
  ·show 0<=k'/\k' < T.N
   omega
 ·refine ⟨(p.S.I,s.I),(p.S.I,T.I),r.I,aHb p s,aHb p T,rfl,rfl,.ini,hb.ini,?_,rfl⟩
  have:=hb.det.1.2.1
  show 0<=T.I/\T.I < T.N
  omega
theorem PP_eq (hp:eJ p) (hr:bB r):PP p r=if 40 < (OQ p r).length\/300 < (EE p r).length then (zeroP,[],5) else (⟨uK p r,mkQ p.M 0 (OQ p r),p.C⟩,(OQ p r).map R2,0):=by
 unfold PP
 rw [if_pos (jL (P:=eJ p/\bB r) ⟨hp,hr⟩)]
end
theorem lawSuper (cs ms:aH):aBY cs ms=some true:=by
 obtain ⟨b,hb⟩:=long_ok cs ms
 unfold aBY
 rw [hb,aA]
 cases b with
 |true=>rfl
 |false=>
  rw [if_neg (by simp)]
  obtain ⟨p,r,s,h0,hp,hr,hs⟩:=plant8_ok cs
  have hf9:iO 999999999 p:=hp.fits.mono (by decide)
  have hr9:=hr.fits9
  have hs9:eZ 999999999 s:=hs.mono (by decide)
  obtain ⟨d,e1,e2⟩:=aSd hf9 hs9 hr9
  rw [h0,aA]
  simp only
  have hsp:=sup_prog hp.ok hr.det hf9 hr9
  by_cases hbig:40 < (bE p r).1.length\/300 < (bE p r).2.length
  ·rw [if_pos hbig] at hsp
   rw [hsp,aA,e1,aA]
   rfl
  ·rw [if_neg hbig] at hsp
   obtain ⟨a,l1,s1,g1,hres⟩:=hsp
   by_cases hin:(p.S.I,r.I)∈kq (bE p r).1 a
   ·rw [if_pos hin] at hres
    obtain ⟨hok,hres⟩:=hres
    have hW:=aCc hp.ok.1.1 hr.det.1
    obtain ⟨nm,hB⟩:=best_is hp.ok hr.det hp.fits ((aIg (bE p r).1 a).nodup hW.1) hin hok
    rw [hres,aA,e1,aA]
    simp only
    rw [if_neg (by decide),if_neg (by decide),if_neg (by decide)]
    generalize aEV (fV p r (kq (bE p r).1 a)) (RL (fV p r (kq (bE p r).1 a)))=T at hB
    have hST:=bst_sup hp.ok hr.det hB s1
    obtain ⟨d',f1,f2⟩:=aSd hf9 hB.fit hr9
    obtain rfl:d'=true:=f2.2 ⟨hp.ok,hr.det,hB.det,hST⟩
    rw [f1,aA]
    unfold rR
    rw [if_neg (by decide)]
    simp only
    have hsm:=bst_small hp.ok hr.det (fun q hq=>(aIg (bE p r).1 a).subset hq) hB
    have hno:¬ (40 < (OQ p T).length\/300 < (EE p T).length):=by omega
    have hPT:nD p T=some (⟨uK p T,mkQ p.M 0 (OQ p T),p.C⟩,(OQ p T).map R2,0):=by
     rw [aCd p T hf9 hB.fit,PP_eq hp.ok hB.det,if_neg hno]
    have hPok:=(aLV hp.ok hB.det).2 hno
    have hPf:=aKN hp.ok hB.det hf9
    rw [hPT,aA]
    simp only
    rw [if_neg (by decide),aAr _ hPf,aA,jL hPok]
    unfold rQ
    rw [if_neg (by decide)]
    simp only
    rw [aSg hPok hPf (aTI hp.ok hB.det hST hPok.1.1),aA]
    simp only
    rw [if_neg (by decide)]
    unfold rP
    rw [if_neg (by decide)]
    cases d with
    |false=>rfl
    |true=>
     rw [if_neg (by decide)]
     obtain ⟨_,_,hsd,hSs⟩:=e2.1 rfl
     simp only
     rw [aCd p s hf9 hs9,PP_eq hp.ok hsd,aA]
     by_cases hb2:40 < (OQ p s).length\/300 < (EE p s).length
     ·rw [if_pos hb2];rfl
     ·rw [if_neg hb2]
      have hOok:=(aLV hp.ok hsd).2 hb2
      have hOf:=aKN hp.ok hsd hf9
      simp only
      rw [if_neg (by decide),aQB hOok.1.1 hPok.1.1 hOf.sys hPf.sys (by decide),aA,sim_two hp.ok hr.det hsd hSs g1 hB hOok.1.1 hPok.1.1]
      rfl
   ·rw [if_neg hin] at hres
    rw [hres,aA,e1,aA]
    cases d with
    |false=>rfl
    |true=>
     exfalso
     obtain ⟨_,_,hsd,hSs⟩:=e2.1 rfl
     exact hin (aSf hp.ok.1 hr.det hSs g1 .ini)
end Gv
