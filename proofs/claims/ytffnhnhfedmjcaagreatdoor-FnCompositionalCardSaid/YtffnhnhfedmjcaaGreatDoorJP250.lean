/- The networks that are drawn, beside systems made of their parts. -/
import Derived.Test.YtffnhnhfedmjcaaGreatDoorJP240
set_option linter.all false
namespace Gv
open Go
def D6:List aH:=[bC,[97],[103,101,116,40,48,41],[103,101,116,40,49,41],[112,117,116,40,48,41],[112,117,116,40,49,41]]
theorem D6_in:∀ s∈D6,s∈T6:=by decide
structure Prt (t:bA):Prop where
 ok:cF t
 lab:∀ s∈t.L,s∈T6
 st:t.N<=3
 ed:t.E.length<=4
theorem make6 {T:List aH} (hT:∀ s∈T,s∈T6) (hTl:T.length<=400) {st ini:Int} (h1:1<=st/\st<=3) (h2:0<=ini/\ini < st) {edges:List Edge} (hl:edges.length<=4)
  (he:∀ e∈edges,(0<=e.F/\e.F < st)/\(0<=e.To/\e.To < st)/\0<=e.B/\e.B < T.length):
  ∃ t',zJ st ini T edges=some t'/\Prt t'/\t'.N=st/\t'.I=ini:=by
 obtain ⟨M,_,j2,j3,j4⟩:=aHq T (by omega)
 have hM:∀ s∈M,s∈T6:=fun s hs=>hT s ((j3 s).1 hs).1
 obtain ⟨E,hE⟩:∃ E:List Edge,E=edges.map fun e=>(⟨e.F,pos (bC::M) (T.getD e.B.toNat []),e.To⟩:Edge):=⟨_,rfl⟩
 have hmem:∀ x,x∈fS (rO bZ E)<->∃ e∈edges,x=⟨e.F,pos (bC::M) (T.getD e.B.toNat []),e.To⟩:=fun x=>by
  rw [aFS,hE,List.mem_map]
  exact ⟨fun ⟨e,h,g⟩=>⟨e,h,g.symm⟩,fun ⟨e,h,g⟩=>⟨e,h,g.symm⟩⟩
 have hmk:=make_gen (by omega) j2 j3 (by omega) (fun e h=>(he e h).2.2) (aJo E) hmem st ini
 have hlen:(fS (rO bZ E)).length<=4:=by
  have:=aJp E
  rw [hE,List.length_map] at this
  rw [hE];omega
 have hL:=labs6 j2 hM
 refine ⟨_,hmk,⟨⟨by show 1<=st/\st<=40;omega,by show 0<=ini/\ini<=st - 1;omega,hL,aFR (by show (fS _).length<=300;omega) (aJo E) fun x hx=>?_⟩,fun s hs=>?_,h1.2,hlen⟩,rfl,rfl⟩
 ·obtain ⟨e,h,rfl⟩:=(hmem x).1 hx
  obtain ⟨a1,a2,a3⟩:=he e h
  have hg:T.getD e.B.toNat []∈bC::M:=by
   have hmT:T.getD e.B.toNat []∈T:=by
    rw [List.getD_eq_getElem?_getD,List.getElem?_eq_getElem (by omega)]
    exact List.getElem_mem _
   exact aPe j3 hmT
  have hp:=aJn hg
  exact ⟨⟨a1.1,by show e.F<=st - 1;omega⟩,⟨a2.1,by show e.To<=st - 1;omega⟩,hp.1,by show pos (bC::M) _<=((bC::M).length:Int) - 1;omega⟩
 ·rcases List.mem_cons.1 hs with rfl|hs
  ·simp [T6]
  ·exact hM s hs
theorem used6 {t:bA} (h:Prt t):∃ t',aDX t=some t'/\Prt t':=by
 have hed:=h.ed
 have hs:=h.ok.1
 have hi:=h.ok.2.1
 have hst:=h.st
 have key:=lO (step:=fun s:List aH × List Edge × Int=>vC t s.1 s.2.1 s.2.2) t.E.length (fun k (a:List aH × List Edge)=>(a.1,a.2,(k:Int)))
  (fun k a=>a.1.length=k+1/\(∀ s∈a.1,s∈T6)/\a.2.length=k/\∀ e∈a.2,(0<=e.F/\e.F < t.N)/\(0<=e.To/\e.To < t.N)/\0<=e.B/\e.B < a.1.length)
  (fun a=>a.1.length<=5/\(∀ s∈a.1,s∈T6)/\a.2.length<=4/\∀ e∈a.2,(0<=e.F/\e.F < t.N)/\(0<=e.To/\e.To < t.N)/\0<=e.B/\e.B < a.1.length) (fun k a hk hI=>?_) (fun a hI=>?_) t.E.length 0 ([bC],[]) (by omega) ⟨rfl,by simp [T6],rfl,by simp⟩
 ·obtain ⟨⟨T,E⟩,h1,g1,g2,g3,g4⟩:=key
  have h1':loop (fun s:List aH × List Edge × Int=>vC t s.1 s.2.1 s.2.2) (([([116,97,117]:aH)]:List aH),([]:List Edge),0)=some (T,E):=h1
  obtain ⟨t',e1,e2,_⟩:=make6 (T:=T) g2 (by simp only at g1;omega) (st:=t.N) (ini:=t.I) (by omega) (by omega) (edges:=E) g3 g4
  unfold aDX
  rw [h1',aA]
  unfold aDG
  simp only
  rw [e1,aA]
  exact ⟨t',rfl,e2⟩
 ·obtain ⟨T,E⟩:=a
  obtain ⟨g1,g2,g3,g4⟩:=hI
  simp only at g1 g2 g3 g4 ⊢
  have he:=List.getElem_mem hk
  obtain ⟨a1,a2,a3,a4⟩:=xG h.ok he
  have hlb:ix t.L t.E[k].B=some (oS t t.E[k]):=by
   have e0:t.E[k].B=((t.E[k].B.toNat:Nat):Int):=by omega
   have:=cG (xs:=t.L) (k:=t.E[k].B.toNat) (by omega)
   rw [←e0] at this
   rw [this]
   unfold oS
   rw [List.getD_eq_getElem?_getD,List.getElem?_eq_getElem (by omega)];rfl
  unfold vC
  have hw2:wr (((T++[oS t t.E[k]]).length:Int) - 1)=((k+1:Nat):Int):=by
   rw [List.length_append,List.length_singleton,g1,gA (by omega) (by omega)];omega
  rw [if_pos (bU hk),cG hk,aA,hlb,aA,dC (by simp [jT];omega),aA,hw2,dC (by simp [jT];omega),aA,bQ hk (by omega)]
  refine ⟨(T++[oS t t.E[k]],E++[⟨t.E[k].F,((k+1:Nat):Int),t.E[k].To⟩]),rfl,by simp;omega,fun s hs=>?_,by simp;omega,fun e he=>?_⟩
  ·rcases List.mem_append.1 hs with hs|hs
   ·exact g2 s hs
   ·rw [List.mem_singleton] at hs
    subst hs
    exact h.lab _ (vU h.ok (List.getElem_mem hk))
  ·simp only [List.length_append,List.length_singleton]
   rcases List.mem_append.1 he with he|he
   ·have:=g4 e he;omega
   ·rw [List.mem_singleton] at he
    subst he
    unfold jS at a1 a2
    exact ⟨a1,a2,by simp only;omega,by simp only;omega⟩
 ·obtain ⟨T,E⟩:=a
  obtain ⟨g1,g2,g3,g4⟩:=hI
  refine ⟨(T,E),?_,by simp only at g1 ⊢;omega,g2,by simp only at g3 ⊢;omega,g4⟩
  show vC t T E (t.E.length:Int)=_
  unfold vC
  rw [if_neg (by simp)]
section
variable (cs:aH)
theorem aNH {s1:Int} (s2:Int) (hs:0<=s1/\s1<=1000000):∃ t s1' s2',qA cs s1 s2=some (t,s1',s2')/\Prt t/\s1<=s1'/\s1'<=s1+100:=by
 obtain ⟨v,x,y,e,hv,h1,h2⟩:=aCd cs s2 (s1:=s1) (n:=3) (by omega) (by omega)
 obtain ⟨m,x2,y2,e2,hm,h12,h22⟩:=aCd cs y (s1:=x) (n:=5) (by omega) (by omega)
 have hwv:wr (1+v)=1+v:=gA (by omega) (by omega)
 unfold qA
 rw [e,aA]
 simp only
 rw [e2,aA]
 simp only
 obtain ⟨r,hr,⟨g1,g2,g3,g4⟩⟩:=pG (step:=fun s:Int × Int × List Edge × Int=>pJ cs (v,x,y) s.1 s.2.1 s.2.2.1 s.2.2.2) (fun s=>(0<=s.2.2.2/\(s.2.2.1.length:Int)+s.2.2.2<=4)/\(x2<=s.1/\s.1+6 * s.2.2.2<=x2+24)/\∀ e∈s.2.2.1,(0<=e.F/\e.F < 1+v)/\(0<=e.To/\e.To < 1+v)/\0<=e.B/\e.B < 6) (fun s=>s.2.2.2.toNat)
  (fun r=>r.2.2.length<=4/\x2<=r.1/\r.1<=x2+24/\∀ e∈r.2.2,(0<=e.F/\e.F < 1+v)/\(0<=e.To/\e.To < 1+v)/\0<=e.B/\e.B < 6) (fun s hI=>by
  obtain ⟨a,b,E,k⟩:=s
  obtain ⟨⟨i1,i2⟩,⟨i3,i4⟩,i5⟩:=hI
  simp only at i1 i2 i3 i4 i5 ⊢
  by_cases hk:0 < k
  ·left
   obtain ⟨f,a1,b1,q1,q2,q3,q4⟩:=aCd cs b (s1:=a) (n:=1+v) (by omega) (by omega)
   obtain ⟨l,a2,b2,w1,w2,w3,w4⟩:=aCd cs b1 (s1:=a1) (n:=6) (by omega) (by omega)
   obtain ⟨u,a3,b3,z1,z2,z3,z4⟩:=aCd cs b2 (s1:=a2) (n:=1+v) (by omega) (by omega)
   refine ⟨(a3,b3,E++[⟨f,l,u⟩],k - 1),?_,⟨⟨by simp only;omega,by simp only [List.length_append,List.length_singleton];omega⟩,⟨by simp only;omega,by simp only;omega⟩,fun e he=>?_⟩,by simp only;omega⟩
   ·unfold pJ
    rw [if_pos (by simpa using hk),hwv,q1,aA]
    simp only
    rw [w1,aA]
    simp only
    rw [z1,aA,dC (by simp [jT];omega),aA,gA (by omega) (by omega)]
   ·rcases List.mem_append.1 he with he|he
    ·exact i5 e he
    ·rw [List.mem_singleton] at he
     subst he
     exact ⟨q2,z2,w2⟩
  ·right
   refine ⟨(a,b,E),?_,by simp only;omega,by simp only;omega,by simp only;omega,i5⟩
   unfold pJ
   rw [if_neg (by simpa using hk)]) (s:=(x2,y2,([]:List Edge),m)) ⟨⟨by simp only;omega,by simp only [List.length_nil];omega⟩,⟨by simp only;omega,by simp only;omega⟩,by simp⟩
 obtain ⟨a,b,E⟩:=r
 simp only at g1 g2 g3 g4
 rw [hr,aA]
 unfold tL
 obtain ⟨i0,a1,b1,q1,q2,q3,q4⟩:=aCd cs b (s1:=a) (n:=1+v) (by omega) (by omega)
 simp only
 rw [hwv,q1,aA]
 obtain ⟨t',e1,e2,_,_⟩:=make6 (T:=D6) D6_in (by decide) (st:=1+v) (ini:=i0) (by omega) q2 (edges:=E) g1 (fun e he=>by have:=g4 e he;have h6:(D6.length:Int)=6:=rfl;omega)
 have e1':zJ (1+v) i0 ([([116,97,117]:aH),([97]:aH),([103,101,116,40,48,41]:aH),([103,101,116,40,49,41]:aH),([112,117,116,40,48,41]:aH),([112,117,116,40,49,41]:aH)]:List aH) E=some t':=e1
 simp only
 rw [e1',aA]
 unfold tK
 obtain ⟨t2,f1,f2⟩:=used6 e2
 rw [show (⟨t'.N,t'.I,t'.L,t'.E⟩:bA)=t' from rfl,f1,aA]
 exact ⟨t2,a1,b1,rfl,f2,by omega,by omega⟩
def Nm6:List aH:=[[97],[98],[103,101,116],[109,111,118,101],[112,97,105,114],[112,117,116]]
theorem aMy {s1:Int} (s2:Int) (hs:0<=s1/\s1<=1000000) (often:Bool):∃ L s1' s2',tY cs s1 s2 often=some (L,s1',s2')/\L.Sublist Nm6/\s1<=s1'/\s1'<=s1+12:=by
 have key:=lO (step:=fun s:Int × Int × List aH × Int=>lC cs often s.1 s.2.1 s.2.2.1 s.2.2.2) 6 (fun k (a:Int × Int × List aH)=>(a.1,a.2.1,a.2.2,(k:Int))) (fun k a=>a.2.2.Sublist (Nm6.take k)/\s1<=a.1/\a.1<=s1+2 * k) (fun r=>r.1.Sublist Nm6/\s1<=r.2.1/\r.2.1<=s1+12) (fun k a hk hI=>?_) (fun a hI=>?_) 6 0 (s1,s2,[]) (by omega) ⟨List.nil_sublist _,Int.le_refl _,by simp⟩
 ·obtain ⟨⟨L,a,b⟩,h1,g1,g2,g3⟩:=key
  have h1':loop (fun s:Int × Int × List aH × Int=>lC cs often s.1 s.2.1 s.2.2.1 s.2.2.2) (s1,s2,([]:List aH),0)=some (L,a,b):=h1
  unfold tY
  rw [h1',aA]
  exact ⟨L,a,b,rfl,g1,g2,g3⟩
 ·obtain ⟨a,b,L⟩:=a
  obtain ⟨g1,g2,g3⟩:=hI
  simp only at g1 g2 g3 ⊢
  have hw:wr ((k:Int)+1)=((k+1:Nat):Int):=bQ hk (by omega)
  have hkl:k < Nm6.length:=hk
  have hix:ix ([([97]:aH),([98]:aH),([103,101,116]:aH),([109,111,118,101]:aH),([112,97,105,114]:aH),([112,117,116]:aH)]:List aH) (k:Int)=some Nm6[k]:=cG hkl
  have hLl:L.length<=6:=by
   have:=g1.length_le
   rw [List.length_take] at this;omega
  have htk:Nm6.take (k+1)=Nm6.take k++[Nm6[k]]:=by rw [List.take_add_one,List.getElem?_eq_getElem hkl];rfl
  have hj:∀ (x y:Int) (v:Bool),s1<=x->x<=s1+2 * ((k:Int)+1)->∃ q:Int × Int × List aH,oV L (k:Int) x y v=some (.inl (q.1,q.2.1,q.2.2,((k+1:Nat):Int)))/\q.2.2.Sublist (Nm6.take (k+1))/\s1<=q.1/\q.1<=s1+2 * ((k+1:Nat):Int):=by
   intro x y v hx1 hx2
   unfold oV sD
   cases v with
   |true=>
    rw [if_pos rfl,hix,aA,dC (by simp [jT];omega),aA,hw]
    exact ⟨(x,y,L++[Nm6[k]]),rfl,by rw [htk];exact List.Sublist.append g1 (List.Sublist.refl _),hx1,by simp only;omega⟩
   |false=>
    rw [if_neg (by simp),hw]
    exact ⟨(x,y,L),rfl,by rw [htk];exact g1.trans (List.sublist_append_left _ _),hx1,by simp only;omega⟩
  show ∃ q:Int × Int × List aH,lC cs often a b L (k:Int)=some (.inl (q.1,q.2.1,q.2.2,((k+1:Nat):Int)))/\_
  unfold lC
  rw [if_pos (by simp;omega)]
  cases often with
  |true=>
   obtain ⟨v,x,y,e,_,h5,h6⟩:=aCd cs b (s1:=a) (n:=4) (by omega) (by omega)
   rw [if_pos rfl,e,aA]
   split
   ·exact hj _ _ _ (by simp only;omega) (by simp only;omega)
   ·exact hj _ _ _ (by simp only;omega) (by simp only;omega)
  |false=>
   obtain ⟨v,x,y,e,h5,h6⟩:=one_ok cs b (s1:=a) (n:=4) (by omega) (by omega)
   rw [if_neg (by simp),e,aA]
   exact hj _ _ _ (by simp only;omega) (by simp only;omega)
 ·obtain ⟨a,b,L⟩:=a
  obtain ⟨g1,g2,g3⟩:=hI
  refine ⟨(L,a,b),?_,g1,g2,by simp only at g3 ⊢;omega⟩
  show lC cs often a b L ((6:Nat):Int)=_
  unfold lC
  rw [if_neg (by simp)]
end
end Gv
namespace Gv
open Go
theorem aKy {o:List Int} {i:Int} (h:0<=i/\i < o.length):∃ v,ix o i=some v:=⟨_,aHW h.1 (by omega)⟩
theorem st_in {o:List Int} {i:Int} (v:Int) (h:0<=i/\i < o.length):st o i v=some (o.set i.toNat v):=by
 unfold Gv.st
 rw [if_pos ⟨h.1,by omega⟩]
theorem aNI {l:List Int} {i j x y:Int} (hi:0<=i/\i < l.length) (hj:0<=j/\j < l.length) (hx:ix l i=some x) (hy:ix l j=some y):((l.set i.toNat y).set j.toNat x).Perm l:=by
 have h1:i.toNat < l.length:=by omega
 have h2:j.toNat < l.length:=by omega
 have e1:x=l[i.toNat]:=by
  have:i=((i.toNat:Nat):Int):=by omega
  rw [this,cG h1] at hx;exact (Option.some.inj hx).symm
 have e2:y=l[j.toNat]:=by
  have:j=((j.toNat:Nat):Int):=by omega
  rw [this,cG h2] at hy;exact (Option.some.inj hy).symm
 subst e1;subst e2
 exact List.set_set_perm h1 h2
theorem aRr {o:List Int} (h:2<=o.length/\o.length<=10):∃ b o',aFy o=some (b,o')/\o'.Perm o:=by
 obtain ⟨h2,h10⟩:=h
 have hw1:wr ((o.length:Int) - 2)=(o.length:Int) - 2:=gA (by omega) (by omega)
 have hw2:wr ((o.length:Int) - 1)=(o.length:Int) - 1:=gA (by omega) (by omega)
 obtain ⟨i,e1,i1,i2,i3⟩:=pG (step:=fun s:Int=>aDM o s) (fun i=>-1<=i/\i<=(o.length:Int) - 2) (fun i=>(i+1).toNat) (fun r=>-1<=r/\r<=(o.length:Int) - 2/\(0<=r->∃ x y,ix o r=some x/\ix o (r+1)=some y/\¬ y < x)) (fun i hI=>by
  unfold aDM aDL
  by_cases h0:0<=i
  ·obtain ⟨x,hx⟩:=aKy (o:=o) (i:=i) ⟨h0,by omega⟩
   obtain ⟨y,hy⟩:=aKy (o:=o) (i:=i+1) ⟨by omega,by omega⟩
   rw [if_pos (by simpa using h0),hx,aA,gA (x:=i+1) (by omega) (by omega),hy,aA]
   by_cases hxy:y < x
   ·left
    rw [if_pos (by simpa using hxy),gA (x:=i - 1) (by omega) (by omega)]
    exact ⟨_,rfl,by omega,by omega⟩
   ·right
    rw [if_neg (by simpa using hxy)]
    exact ⟨_,rfl,hI.1,hI.2,fun _=>⟨x,y,by first|exact hx|rfl,by first|exact hy|rfl,hxy⟩⟩
  ·right
   rw [if_neg (by simpa using h0),if_neg (by simp)]
   exact ⟨_,rfl,hI.1,hI.2,fun h=>absurd h h0⟩) (s:=(o.length:Int) - 2) ⟨by omega,by omega⟩
 unfold aFy
 rw [hw1,e1,aA]
 unfold aDK
 by_cases h0:i < 0
 ·rw [if_pos (by simpa using h0)]
  exact ⟨_,_,rfl,.refl _⟩
 obtain ⟨x,y,hx,hy,hxy⟩:=i3 (by omega)
 rw [if_neg (by simpa using h0),hw2]
 obtain ⟨k,e2,k1,k2⟩:=pG (step:=fun s:Int=>aDJ o i s) (fun k=>i+1<=k/\k<=(o.length:Int) - 1) (fun k=>k.toNat) (fun k=>i+1<=k/\k<=(o.length:Int) - 1) (fun k hI=>by
  obtain ⟨z,hz⟩:=aKy (o:=o) (i:=k) ⟨by omega,by omega⟩
  unfold aDJ
  rw [hz,aA,hx,aA]
  by_cases hzx:z < x
  ·left
   have hne:k≠i+1:=fun e=>by rw [e,hy] at hz;cases hz;exact hxy hzx
   rw [if_pos (by simpa using hzx),gA (x:=k - 1) (by omega) (by omega)]
   exact ⟨_,rfl,by omega,by omega⟩
  ·right
   rw [if_neg (by simpa using hzx)]
   exact ⟨_,rfl,hI⟩) (s:=(o.length:Int) - 1) ⟨by omega,by omega⟩
 rw [e2,aA]
 unfold aDI
 obtain ⟨z,hz⟩:=aKy (o:=o) (i:=k) ⟨by omega,by omega⟩
 rw [hx,aA,hz,aA,st_in z ⟨by omega,by omega⟩,aA]
 obtain ⟨z2,hz2⟩:=aKy (o:=o.set i.toNat z) (i:=k) ⟨by omega,by rw [List.length_set];omega⟩
 rw [hz2,aA,st_in x ⟨by omega,by rw [List.length_set];omega⟩,aA]
 have hper:((o.set i.toNat z).set k.toNat x).Perm o:=aNI ⟨by omega,by omega⟩ ⟨by omega,by omega⟩ hx hz
 have hlen:((o.set i.toNat z).set k.toNat x).length=o.length:=by rw [List.length_set,List.length_set]
 generalize (o.set i.toNat z).set k.toNat x=o2 at hlen hper
 rw [hlen,hw2,gA (x:=i+1) (by omega) (by omega)]
 obtain ⟨r,e3,r1⟩:=pG (step:=fun s:List Int × Int × Int=>aDH s.1 s.2.1 s.2.2) (fun s=>s.1.Perm o/\0<=s.2.1/\s.2.1<=100/\s.2.2<=(o.length:Int) - 1/\-100<=s.2.2) (fun s=>(s.2.2 - s.2.1).toNat) (fun r=>r.Perm o) (fun s hI=>by
  obtain ⟨p,a,b⟩:=s
  obtain ⟨a1,a2,a3,a4,a5⟩:=hI
  simp only at a1 a2 a3 a4 a5 ⊢
  have a0:=a1.length_eq
  unfold aDH
  by_cases hab:a < b
  ·left
   obtain ⟨u,hu⟩:=aKy (o:=p) (i:=a) ⟨by omega,by omega⟩
   obtain ⟨v,hv⟩:=aKy (o:=p) (i:=b) ⟨by omega,by omega⟩
   obtain ⟨v2,hv2⟩:=aKy (o:=p.set a.toNat v) (i:=b) ⟨by omega,by rw [List.length_set];omega⟩
   rw [if_pos (by simpa using hab),hu,aA,hv,aA,st_in v ⟨by omega,by omega⟩,aA,hv2,aA,st_in u ⟨by omega,by rw [List.length_set];omega⟩,aA,gA (x:=a+1) (by omega) (by omega),gA (x:=b - 1) (by omega) (by omega)]
   exact ⟨(_,_,_),rfl,⟨(aNI ⟨by omega,by omega⟩ ⟨by omega,by omega⟩ hu hv).trans a1,by simp only;omega,by simp only;omega,by simp only;omega,by simp only;omega⟩,by simp only;omega⟩
  ·right
   rw [if_neg (by simpa using hab)]
   exact ⟨_,rfl,a1⟩) (s:=(o2,i+1,(o.length:Int) - 1)) ⟨hper,by simp only;omega,by simp only;omega,by simp only;omega,by simp only;omega⟩
 rw [e3,aA]
 exact ⟨_,_,rfl,r1⟩
structure aKG (n:aO):Prop where
 len:2<=n.Parts.length/\n.Parts.length<=3
 part:∀ t∈n.Parts,Prt t
 meet:n.Meetings=[]\/n.Meetings=[⟨[97],[97],[112,97,105,114]⟩]\/n.Meetings=[⟨[103,101,116],[112,117,116],[109,111,118,101]⟩]\/n.Meetings=[⟨[97],[97],[112,97,105,114]⟩,⟨[103,101,116],[112,117,116],[109,111,118,101]⟩]
 al:n.Allowed.Sublist Nm6
 hid:n.Hidden.Sublist Nm6
section
variable (cs:aH)
theorem aQq (t:bA):(⟨t.N,t.I,t.L,t.E⟩:bA)=t:=rfl
theorem net_draw:∃ n s1' s2',aCP cs 0 0=some (n,s1',s2')/\(1<=n.Parts.length/\n.Parts.length<=4)/\(∀ t∈n.Parts,Prt t)/\(n.Meetings=[]\/n.Meetings=[⟨[97],[97],[112,97,105,114]⟩]\/n.Meetings=[⟨[103,101,116],[112,117,116],[109,111,118,101]⟩]\/n.Meetings=[⟨[97],[97],[112,97,105,114]⟩,⟨[103,101,116],[112,117,116],[109,111,118,101]⟩])/\n.Allowed.Sublist Nm6/\n.Hidden.Sublist Nm6/\0<=s1'/\s1'<=10000:=by
 obtain ⟨m,x,y,e,hm,h1,h2⟩:=among_ok cs 0 (s1:=0) (l:=[1,2,2,2,3,3,4]) (by omega) (by simp)
 have hm':1<=m/\m<=4:=by
  simp only [List.mem_cons,List.not_mem_nil,or_false] at hm
  omega
 unfold aCP
 rw [e,aA]
 simp only
 obtain ⟨r,hr,⟨g1,g2,g3,g4⟩⟩:=pG (step:=fun s:Int × Int × List bA × Int=>xX cs s.1 s.2.1 s.2.2.1 s.2.2.2) (fun s=>(0<=s.2.2.2/\(s.2.2.1.length:Int)+s.2.2.2=m)/\(0<=s.1/\s.1+100 * s.2.2.2<=402)/\∀ t∈s.2.2.1,Prt t) (fun s=>s.2.2.2.toNat)
  (fun r=>(r.2.2.length:Int)=m/\0<=r.1/\r.1<=402/\∀ t∈r.2.2,Prt t) (fun s hI=>by
  obtain ⟨a,b,E,k⟩:=s
  obtain ⟨⟨i1,i2⟩,⟨i3,i4⟩,i5⟩:=hI
  simp only at i1 i2 i3 i4 i5 ⊢
  by_cases hk:0 < k
  ·left
   obtain ⟨t,a1,b1,q1,q2,q3,q4⟩:=aNH cs b (s1:=a) (by omega)
   refine ⟨(a1,b1,E++[t],k - 1),?_,⟨⟨by simp only;omega,by simp only [List.length_append,List.length_singleton];omega⟩,⟨by simp only;omega,by simp only;omega⟩,fun e he=>?_⟩,by simp only;omega⟩
   ·unfold xX
    rw [if_pos (by simpa using hk),q1,aA]
    simp only
    rw [aQq,dC (by simp [jT];omega),aA,gA (by omega) (by omega)]
   ·rcases List.mem_append.1 he with he|he
    ·exact i5 e he
    ·rw [List.mem_singleton] at he;subst he;exact q2
  ·right
   refine ⟨(a,b,E),?_,by simp only;omega,by simp only;omega,by simp only;omega,i5⟩
   unfold xX
   rw [if_neg (by simpa using hk)]) (s:=(x,y,([]:List bA),m)) ⟨⟨by simp only;omega,by simp only [List.length_nil];omega⟩,⟨by simp only;omega,by simp only;omega⟩,by simp⟩
 obtain ⟨a,b,P⟩:=r
 simp only at g1 g2 g3 g4
 rw [hr,aA]
 have hj1:∀ (a b:Int) (M:List bK),0<=a->a<=1000->∃ n s1' s2',tZ cs P a b M=some (n,s1',s2')/\n.Parts=P/\n.Meetings=M/\n.Allowed.Sublist Nm6/\n.Hidden.Sublist Nm6/\0<=s1'/\s1'<=10000:=by
  intro a b M ha1 ha2
  obtain ⟨L,a1,b1,q1,q2,q3,q4⟩:=aMy cs b (s1:=a) (by omega) true
  obtain ⟨L2,a2,b2,w1,w2,w3,w4⟩:=aMy cs b1 (s1:=a1) (by omega) false
  unfold tZ
  rw [q1,aA]
  simp only
  rw [w1,aA]
  exact ⟨_,a2,b2,rfl,rfl,rfl,q2,w2,by omega,by omega⟩
 have hj2:∀ (a b:Int) (M:List bK),M.length<=1->0<=a->a<=900->∃ n s1' s2',uA cs P a b M=some (n,s1',s2')/\n.Parts=P/\(n.Meetings=M\/n.Meetings=M++[⟨[103,101,116],[112,117,116],[109,111,118,101]⟩])/\n.Allowed.Sublist Nm6/\n.Hidden.Sublist Nm6/\0<=s1'/\s1'<=10000:=by
  intro a b M hM ha1 ha2
  obtain ⟨v,a1,b1,q1,q2,q3,q4⟩:=aCd cs b (s1:=a) (n:=5) (by omega) (by omega)
  unfold uA
  rw [q1,aA]
  simp only
  split
  ·rw [dC (by simp [jT];omega),aA]
   obtain ⟨n,x,y,e,f1,f2,f3⟩:=hj1 a1 b1 (M++[⟨[103,101,116],[112,117,116],[109,111,118,101]⟩]) (by omega) (by omega)
   exact ⟨n,x,y,e,f1,.inr f2,f3⟩
  ·obtain ⟨n,x,y,e,f1,f2,f3⟩:=hj1 a1 b1 M (by omega) (by omega)
   exact ⟨n,x,y,e,f1,.inl f2,f3⟩
 obtain ⟨v,a1,b1,q1,q3,q4⟩:=one_ok cs b (s1:=a) (n:=4) (by omega) (by omega)
 unfold aBH
 simp only
 rw [q1,aA]
 have fin:∀ n:aO,n.Parts=P->(1<=n.Parts.length/\n.Parts.length<=4)/\∀ t∈n.Parts,Prt t:=fun n hP=>by
  rw [hP];exact ⟨by omega,g4⟩
 simp only
 cases v with
 |true=>
  rw [if_pos rfl,dC (by simp [jT]),aA,List.nil_append]
  obtain ⟨n,x,y,e,f1,f2,f3,f4,f5⟩:=hj2 a1 b1 [⟨[97],[97],[112,97,105,114]⟩] (by simp) (by omega) (by omega)
  refine ⟨n,x,y,e,(fin n f1).1,(fin n f1).2,?_,f3,f4,f5⟩
  rcases f2 with f2|f2
  ·exact .inr (.inl f2)
  ·exact .inr (.inr (.inr f2))
 |false=>
  rw [if_neg (by simp)]
  obtain ⟨n,x,y,e,f1,f2,f3,f4,f5⟩:=hj2 a1 b1 [] (by simp) (by omega) (by omega)
  refine ⟨n,x,y,e,(fin n f1).1,(fin n f1).2,?_,f3,f4,f5⟩
  rcases f2 with f2|f2
  ·exact .inl f2
  ·exact .inr (.inr (.inl f2))
end
end Gv
namespace Gv
open Go
section
variable (cs:aH)
theorem r8net:∃ n o,aCQ cs=some (n,o)/\aKG n/\o.Perm ((List.range n.Parts.length).map Int.ofNat):=by
 obtain ⟨n,a,b,e,h1,h2,h3,h4,h5,h6,h7⟩:=net_draw cs
 unfold aCQ aJJ
 rw [aA]
 simp only
 rw [e,aA]
 simp only
 obtain ⟨r,hr,⟨g1,g2,g3,g4⟩⟩:=pG (step:=fun s:Int × Int × List bA=>xZ cs s.1 s.2.1 s.2.2) (fun s=>(1<=s.2.2.length/\s.2.2.length<=4)/\(0<=s.1/\s.1+200<=10400+100 * (s.2.2.length:Int))/\∀ t∈s.2.2,Prt t) (fun s=>2 - s.2.2.length)
  (fun r=>(2<=r.2.2.length/\r.2.2.length<=4)/\0<=r.1/\r.1<=20000/\∀ t∈r.2.2,Prt t) (fun s hI=>by
  obtain ⟨x,y,P⟩:=s
  obtain ⟨⟨i1,i2⟩,⟨i3,i4⟩,i5⟩:=hI
  simp only at i1 i2 i3 i4 i5 ⊢
  by_cases hk:(P.length:Int) < 2
  ·left
   obtain ⟨t,a1,b1,q1,q2,q3,q4⟩:=aNH cs y (s1:=x) (by omega)
   refine ⟨(a1,b1,P++[t]),?_,⟨⟨by simp,by simp;omega⟩,⟨by simp only;omega,by simp only [List.length_append,List.length_singleton];omega⟩,fun e he=>?_⟩,by simp only [List.length_append,List.length_singleton];omega⟩
   ·unfold xZ
    rw [if_pos (by simpa using hk),q1,aA]
    simp only
    rw [aQq,dC (by simp [jT];omega),aA]
   ·rcases List.mem_append.1 he with he|he
    ·exact i5 e he
    ·rw [List.mem_singleton] at he;subst he;exact q2
  ·right
   refine ⟨(x,y,P),?_,⟨by simp only;omega,by simp only;omega⟩,by simp only;omega,by simp only;omega,i5⟩
   unfold xZ
   rw [if_neg (by simpa using hk)]) (s:=(a,b,n.Parts)) ⟨h1,⟨by simp only;omega,by simp only;omega⟩,h2⟩
 obtain ⟨x,y,P⟩:=r
 simp only at g1 g2 g3 g4
 rw [hr,aA]
 have hj5:∀ Q:List bA,(2<=Q.length/\Q.length<=3)->(∀ t∈Q,Prt t)->∃ n' o,uB cs (n,a,b) x y Q=some (n',o)/\aKG n'/\o.Perm ((List.range n'.Parts.length).map Int.ofNat):=by
  intro Q hQ hP
  obtain ⟨o,e1,e2⟩:=lO (step:=fun s:List Int × Int=>qF Q s.1 s.2) Q.length (fun k (a:List Int)=>(a,(k:Int))) (fun k a=>a=(List.range k).map Int.ofNat) (fun r=>r=(List.range Q.length).map Int.ofNat) (fun k o hk hI=>by
   have hol:o.length=k:=by rw [hI,List.length_map,List.length_range]
   refine ⟨o++[(k:Int)],?_,by rw [hI,List.range_succ,List.map_append];rfl⟩
   show qF Q o (k:Int)=_
   unfold qF
   rw [if_pos (bU hk),dC (by simp [jT];omega),aA,bQ hk (by omega)]) (fun o hI=>by
   refine ⟨o,?_,hI⟩
   show qF Q o (Q.length:Int)=_
   unfold qF
   rw [if_neg (by simp)]) Q.length 0 [] (by omega) rfl
  have e2l:o.length=Q.length:=by rw [e2,List.length_map,List.length_range]
  have e1':loop (fun s:List Int × Int=>qF Q s.1 s.2) (([]:List Int),0)=some o:=e1
  unfold uB
  rw [e1',aA]
  unfold aBK
  obtain ⟨m,a1,b1,q1,q2,q3,q4⟩:=aCd cs y (s1:=x) (n:=6) (by omega) (by omega)
  rw [q1,aA]
  simp only
  obtain ⟨o2,e3,e4⟩:=pG (step:=fun s:List Int × Int=>aBJ s.1 s.2) (fun s=>s.1.Perm o/\0<=s.2/\s.2<=10) (fun s=>s.2.toNat) (fun r=>r.Perm o) (fun s hI=>by
   obtain ⟨p,k⟩:=s
   obtain ⟨i1,i2,i3⟩:=hI
   simp only at i1 i2 i3 ⊢
   have i0:=i1.length_eq
   unfold aBJ
   by_cases hk:0 < k
   ·left
    obtain ⟨c,o',f1,f2⟩:=aRr (o:=p) (by omega)
    rw [if_pos (by simpa using hk),f1,aA,gA (x:=k - 1) (by omega) (by omega)]
    exact ⟨(o',k - 1),rfl,⟨f2.trans i1,by simp only;omega,by simp only;omega⟩,by simp only;omega⟩
   ·right
    rw [if_neg (by simpa using hk)]
    exact ⟨_,rfl,i1⟩) (s:=(o,m)) ⟨.refl _,by simp only;omega,by simp only;omega⟩
  rw [e3,aA]
  unfold aBI
  exact ⟨_,_,rfl,⟨hQ,hP,h3,h4,h5⟩,by rw [←e2];exact e4⟩
 have hj:∃ n' o,xY cs (n,a,b) x y P=some (n',o)/\aKG n'/\o.Perm ((List.range n'.Parts.length).map Int.ofNat):=by
  unfold xY
  by_cases hP:(3:Int) < P.length
  ·have hs:xT P 0 3=some (P.take 3):=by
    unfold xT
    rw [if_pos ⟨by omega,by omega,by show 3<=P.length;omega⟩]
    rfl
   rw [if_pos (by simpa using hP),hs,aA]
   exact hj5 _ (by rw [List.length_take];omega) fun t ht=>g4 t (List.mem_of_mem_take ht)
  ·rw [if_neg (by simpa using hP)]
   exact hj5 _ (by omega) g4
 exact hj
end
theorem idx_any {β:Type} {p:β->Bool} (l:List β):(match l.findIdx? p with|none=>(-1:Int)|some i=>(i:Int)) < 0<->l.any p=false:=by
 rcases aMv (p:=p) l with ⟨h1,h2⟩|⟨i,hi,h1,h2⟩
 ·rw [h1]
  simp only
  constructor
  ·intro _
   rw [List.any_eq_false]
   intro x hx
   have:=List.find?_eq_none.1 h2 x hx
   exact this
  ·intro _;omega
 ·rw [h1]
  simp only
  constructor
  ·intro h;omega
  ·intro h
   have:=List.find?_some h2
   rw [List.any_eq_false] at h
   exact absurd this (h _ (List.getElem_mem hi))
theorem contM (ms:List bK) (m:bK) (h:ms.length < 1000000):dU ms m=some (ms.any fun o=>o.Left == m.Result||o.Right == m.Result):=by
 unfold dU eJ
 have hl:=wT (step:=fun s=>cT ms m s) ms (fun o=>o.Left == m.Result||o.Right == m.Result) (fun k x hk hx=>by
  have hw:=bQ hk (show ms.length < 4611686018427387904 by omega)
  simp only [cT,bU hk,if_pos,hx,aA,hw]
  unfold aAH vD
  by_cases h1:(x.Left == m.Result)=true
  ·rw [if_pos h1,h1,Bool.true_or,aA]
  ·have h1':(x.Left == m.Result)=false:=by simpa using h1
   rw [if_neg h1,h1',Bool.false_or,aA]) (by simp only [cT,dB];rfl)
 rw [hl,aA]
 have:=idx_any (p:=fun o:bK=>o.Left == m.Result||o.Right == m.Result) ms
 cases hf:ms.findIdx? (fun o:bK=>o.Left == m.Result||o.Right == m.Result) with
 |none=>
  rw [hf] at this
  have:=this.1 (by simp)
  rw [this];rfl
 |some i=>
  rw [hf] at this
  cases ha:ms.any (fun o:bK=>o.Left == m.Result||o.Right == m.Result) with
  |false=>have:=this.2 ha;simp at this;omega
  |true=>simp [aA]
theorem aHP (ms:List bK) (h6:ms.length<=6) (hA:∀ m∈ms,(aAe m.Left=true/\aAe m.Right=true/\aAe m.Result=true)/\(m.Left.length<=100/\m.Right.length<=100/\m.Result.length<=100)/\(wV m.Left m.Right||m.Left == m.Right)=true/\(ms.any fun o=>o.Left == m.Result||o.Right == m.Result)=false)
  (hC:∀ k (hk:k+1 < ms.length),∃ v,oW ms[k] ms[k+1]=some v/\v < 0):vE ms=some true:=by
 unfold vE
 have:=tR (step:=fun s:Int=>mW ms s) ms.length (fun k (_:Unit)=>(k:Int)) (fun _ _=>.inl ()) (fun _ _=>True) (fun k a hk _=>?_) (fun a _=>?_) ms.length 0 () (by omega) trivial
 ·rw [show loop (fun s:Int=>mW ms s) 0=_ from this,aA]
  unfold aDh
  simp;omega
 ·left
  obtain ⟨⟨a1,a2,a3⟩,⟨b1,b2,b3⟩,c1,c2⟩:=hA _ (List.getElem_mem hk)
  refine ⟨(),?_,trivial,rfl⟩
  have hj:kN ms (k:Int) ms[k] false=some (.inl ((k+1:Nat):Int)):=by
   unfold kN
   rw [if_neg (by simp),contM _ _ (by omega),aA,c2,if_neg (by simp),bQ hk (by omega)]
  show mW ms (k:Int)=_
  unfold mW
  rw [if_pos (bU hk),cG hk,aA,aDc _ (by omega),aA,a1,if_neg (by simp),aDc _ (by omega),aA,a2,if_neg (by simp),aDc _ (by omega),aA,a3,if_neg (by simp),c1,if_neg (by simp)]
  by_cases hk0:0 < k
  ·obtain ⟨j,rfl⟩:∃ j,k=j+1:=⟨k - 1,by omega⟩
   obtain ⟨v,v1,v2⟩:=hC j hk
   have hw:wr (((j+1:Nat):Int) - 1)=(j:Int):=by rw [gA (by omega) (by omega)];omega
   rw [if_pos (by simp only [decide_eq_true_eq];omega),hw,cG (show j < ms.length by omega),aA,v1,aA,decide_eq_false (by omega)]
   exact hj
  ·rw [if_neg (by simp;omega)];exact hj
 ·show mW ms (ms.length:Int)=_
  unfold mW
  rw [if_neg (by simp)]
theorem cmp_two:oW ⟨[97],[97],[112,97,105,114]⟩ ⟨[103,101,116],[112,117,116],[109,111,118,101]⟩=some (-1):=by
 unfold oW jF
 have hs:eY [[97],[97]] [[103,101,116],[112,117,116]] 0=some (.inr (.inr (-1))):=by
  unfold eY
  rw [if_pos (by decide),show ix ([[97],[97]]:List aH) 0=some [97] from rfl,aA,if_neg (by decide),show ix ([[103,101,116],[112,117,116]]:List aH) 0=some [103,101,116] from rfl,aA]
  unfold rB tM
  rw [aA,aA,if_neg (by decide),if_neg (by decide),if_pos (by decide),aA,if_pos (by decide)]
 rw [show loop (fun s:Int=>eY [[97],[97]] [[103,101,116],[112,117,116]] s) 0=some (.inr (-1)) from aCc (step:=fun s:Int=>eY [[97],[97]] [[103,101,116],[112,117,116]] s) hs,aA,aA]
theorem aRs {n:aO} (h:aKG n):aOQ n.Meetings/\vE n.Meetings=some true:=by
 rcases h.meet with e|e|e|e<;>rw [e]
 ·exact ⟨⟨by simp,by simp,by simp⟩,aHP _ (by simp) (by simp) (fun k hk=>by simp at hk)⟩
 ·exact ⟨⟨by simp,by decide,by decide⟩,aHP _ (by simp) (by decide) (fun k hk=>by simp at hk)⟩
 ·exact ⟨⟨by simp,by decide,by decide⟩,aHP _ (by simp) (by decide) (fun k hk=>by simp at hk)⟩
 ·refine ⟨⟨by simp,by decide,by decide⟩,aHP _ (by simp) (by decide) (fun k hk=>?_)⟩
  have:k=0:=by simp at hk;omega
  subst this
  exact ⟨-1,cmp_two,by omega⟩
theorem aHQ {L:List aH} (h:L.Sublist Nm6):zN L=some true/\L.length<=6:=by
 have hl:L.length<=6:=h.length_le
 have hm:∀ s∈L,s∈Nm6:=fun s hs=>h.subset hs
 have h2:∀ s∈Nm6,s.length < 1000000000/\aAe s=true:=by decide
 have hp:Nm6.Pairwise fun a b=>wV a b=true:=by decide
 have hpL:=hp.sublist h
 rw [aQU L (by omega) (fun s hs=>(h2 s (hm s hs)).1),aHT ⟨by omega,fun s hs=>(h2 s (hm s hs)).2,fun k h1 hk=>List.pairwise_iff_getElem.1 hpL (k - 1) k (by omega) hk (by omega)⟩]
 exact ⟨rfl,hl⟩
theorem contL (P:List bA) (hl:P.length<=100) (hP:∀ t∈P,cF t/\pU 999999999 t):fL P=some false:=by
 unfold fL gD
 have:=tR (step:=fun s:Int=>bW P s) P.length (fun k (_:Unit)=>(k:Int)) (fun _ _=>.inl ()) (fun _ _=>True) (fun k a hk _=>?_) (fun a _=>?_) P.length 0 () (by omega) trivial
 ·rw [show loop (fun s:Int=>bW P s) 0=_ from this,aA]
  unfold iT
  rw [aA];rfl
 ·left
  obtain ⟨a1,a2⟩:=hP _ (List.getElem_mem hk)
  refine ⟨(),?_,trivial,rfl⟩
  show bW P (k:Int)=_
  unfold bW aBL
  rw [if_pos (bU hk),cG hk,aA,aBw _ a2,aHT a1,aA,aA,if_neg (by simp),bQ hk (by omega)]
 ·show bW P (P.length:Int)=_
  unfold bW
  rw [if_neg (by simp)]
theorem valid_net {n:aO} (hl:1<=n.Parts.length/\n.Parts.length<=4) (hP:∀ t∈n.Parts,cF t/\pU 999999999 t) (hm:vE n.Meetings=some true) (ha:zN n.Allowed=some true) (hh:zN n.Hidden=some true):mN n=some true:=by
 unfold mN
 have hw:wA (n.Parts.length:Int) 1 4=some true:=by
  rw [aBv]
  simp;omega
 rw [hw,aA,if_neg (by simp),contL _ (by omega) hP,aA]
 unfold sF sE
 rw [if_neg (by simp),hm,aA,if_pos rfl,ha,aA,if_pos rfl,hh,aA]
theorem aCz.fits {t:bA} (h:aCz t):pU 999999999 t:=by
 have h1:=h.ok.2.2.1.2.1
 have h2:=h.ok.2.2.2.1
 have h7:∀ s∈T6,s.length<=100:=by decide
 exact ⟨by omega,fun s hs=>by have:=h7 s (h.lab s hs);omega,by omega⟩
end Gv
namespace Gv
open Go
structure Nt (m n:aO):Prop where
 ok:iB n
 me:n.Meetings=m.Meetings
 al:n.Allowed=m.Allowed
 hid:n.Hidden=m.Hidden
abbrev MvN (n:aO):List Int->aH->List Int->Prop:=Mv n.Parts.length (fun i=>nX (cS n i)) (xU n) (mtN n.Meetings)
def aHV (n:aO):List Int:=n.Parts.map (·.I)
theorem aJx (n:aO):(aHV n).length=n.Parts.length:=List.length_map ..
theorem aGt {n:aO} {i:Nat} (hi:i < n.Parts.length):(aHV n).getD i 0=(cS n i).I:=by
 unfold aHV
 rw [List.getD_eq_getElem?_getD,List.getElem?_map,(sT hi).2];rfl
theorem iB.sh {n:aO} (h:iB n):Sh n:=⟨h.meet.ok.len,h.al,h.hid⟩
theorem aPm {m n:aO} (h1:n.Allowed=m.Allowed) (h2:n.Hidden=m.Hidden):xU n=xU m:=by
 funext l
 unfold xU
 rw [h1,h2]
theorem mv_mono {n:Nat} {A B:Nat->Int->aH->Int->Prop} {sh:aH->Option aH} {mte:aH->aH->Option aH} {s t:List Int} {l:aH} (h:∀ i,i < n->∀ x a y,A i x a y->B i x a y) (hm:Mv n A sh mte s l t):Mv n B sh mte s l t:=by
 cases hm with
 |one hi ha hl=>exact .one hi (h _ hi _ _ _ ha) hl
 |two hik hk ha hb hc hl=>exact .two hik hk (h _ (by omega) _ _ _ ha) (h _ hk _ _ _ hb) hc hl
theorem mt_names {n:aO} (hm:MsD n.Meetings) {a b c:aH} (h:mtN n.Meetings a b=some c):mmB n (uO a)=true/\mmB n (uO b)=true:=by
 unfold mtN at h
 split at h
 ·cases hf:List.find? (mtP (uO a) (uO b)) n.Meetings with
  |none=>rw [hf] at h;cases h
  |some m=>
   have hmm:=List.mem_of_find?_eq_some hf
   have hp:=List.find?_some hf
   unfold mtP at hp
   rw [Bool.and_eq_true,beq_iff_eq,beq_iff_eq] at hp
   unfold mmB
   rw [List.any_eq_true,List.any_eq_true]
   refine ⟨⟨m,hmm,?_⟩,m,hmm,?_⟩
   ·rw [Bool.or_eq_true,beq_iff_eq,beq_iff_eq]
    rcases mn_mx (uO a) (uO b) with ⟨g1,g2⟩|⟨g1,g2⟩
    ·exact .inl (hp.1.trans g1)
    ·exact .inr (hp.2.trans g2)
   ·rw [Bool.or_eq_true,beq_iff_eq,beq_iff_eq]
    rcases mn_mx (uO a) (uO b) with ⟨g1,g2⟩|⟨g1,g2⟩
    ·exact .inr (hp.2.trans g2)
    ·exact .inl (hp.1.trans g1)
 ·cases h
theorem aNJ {n:aO} {s:aH} (h:mmB n (uO s)=true):aCf n s=s:=by
 unfold aCf
 rw [h];simp
theorem aPn (n:aO) (s:aH):aCf n s=s\/aCf n s=bC:=by
 unfold aCf
 split
 ·exact .inr rfl
 ·exact .inl rfl
theorem sh6 {n:aO} {s:aH} (hs:s∈T6) (ht:s≠bC):xU n s=if alB n (uO s)=true then (if hiB n (uO s)=true then some bC else some s) else none:=by
 have hl:∀ s∈T6,s.length<=1000:=by decide
 unfold xU
 rw [if_neg ht,if_pos ⟨hl s hs,by rw [name6 hs];rfl⟩,name6 hs]
 rfl
theorem sh_rel {n:aO} {s:aH} (hs:s∈T6):xU n (aCf n s)=xU n s:=by
 by_cases ht:s=bC
 ·subst ht
  rcases aPn n bC with h|h<;>rw [h]
 ·unfold aCf
  split
  ·rename_i h
   simp only [Bool.and_eq_true,Bool.not_eq_true'] at h
   rw [sh6 hs ht,if_pos h.1,if_pos h.2.1,sh_tau]
  ·rfl
theorem sh_gone {n:aO} {s:aH} (hs:s∈T6) (ht:s≠bC) (h:kpS n s=false):xU n s=none:=by
 unfold kpS at h
 rw [Bool.or_eq_false_iff] at h
 rw [sh6 hs ht,h.1,if_neg (by simp)]
theorem getD_snoc {P:List bA} {t:bA} {i:Nat}:(P++[t]).getD i ⟨0,0,[],[]⟩=if i < P.length then P.getD i ⟨0,0,[],[]⟩ else if i=P.length then t else ⟨0,0,[],[]⟩:=by
 rw [List.getD_eq_getElem?_getD,List.getD_eq_getElem?_getD]
 by_cases h:i < P.length
 ·rw [if_pos h,List.getElem?_append_left h]
 ·rw [if_neg h,List.getElem?_append_right (by omega)]
  by_cases h2:i=P.length
  ·rw [if_pos h2,h2,Nat.sub_self];rfl
  ·rw [if_neg h2,List.getElem?_eq_none (by simp;omega)];rfl
structure Pre (C:bA->bA->Prop) (n:aO) (k:Nat) (P:List bA):Prop where
 len:P.length=k
 part:∀ i,i < k->C (cS n i) (P.getD i ⟨0,0,[],[]⟩)
theorem Pre.snoc {C:bA->bA->Prop} {n:aO} {k:Nat} {P:List bA} (h:Pre C n k P) {t:bA} (ht:C (cS n k) t):Pre C n (k+1) (P++[t]):=by
 refine ⟨by rw [List.length_append,h.len];rfl,fun i hi=>?_⟩
 rw [getD_snoc,h.len]
 by_cases hik:i < k
 ·rw [if_pos hik];exact h.part i hik
 ·have:i=k:=by omega
  rw [if_neg hik,if_pos this,this];exact ht
theorem aPo {n:aO} (h:Sh n) (P:List bA):qL n P=some ⟨P,n.Meetings,n.Allowed,n.Hidden⟩:=by
 have h1:=h.me
 have h2:=h.al
 have h3:=h.hid
 unfold qL cY bO
 rw [dC (by simp [jT];omega),aA,aA,dC (by simp [jT];omega),aA,aA,dC (by simp [jT];omega),aA,aA]
 simp only [List.nil_append]
theorem push_net {n:aO} (hn:iB n):∃ P,kJ n=some ⟨P,n.Meetings,n.Allowed,n.Hidden⟩/\Pre (Psh n) n n.Parts.length P:=by
 have hl:=hn.len
 obtain ⟨P,e1,hP⟩:=lO (step:=fun s:List bA × Int=>gZ n n s.1 s.2) n.Parts.length (fun k (a:List bA)=>(a,(k:Int))) (fun k P=>Pre (Psh n) n k P) (fun P=>Pre (Psh n) n n.Parts.length P) (fun k P hk hI=>by
  obtain ⟨c,c1,c2⟩:=push_part hn.sh (hn.at hk)
  refine ⟨P++[c],?_,hI.snoc c2⟩
  show gZ n n P (k:Int)=_
  unfold gZ
  rw [if_pos (bU hk),rS,(sT hk).2,aA,c1,aA,dC (by have:=hI.len;simp [jT];omega),aA,bQ hk (by omega)]) (fun P hI=>by
  refine ⟨P,?_,hI⟩
  show gZ n n P (n.Parts.length:Int)=_
  unfold gZ
  rw [if_neg (by simp)]) n.Parts.length 0 [] (by omega) ⟨rfl,fun i hi=>by omega⟩
 have e1':loop (fun s:List bA × Int=>gZ n n s.1 s.2) ([],0)=some P:=e1
 refine ⟨P,?_,hP⟩
 unfold kJ vM
 rw [e1',aA]
 unfold wY
 rw [aPo hn.sh,aA,aA]
theorem pre_net {C:bA->bA->Prop} {m n:aO} {P:List bA} (hn:Nt m n) (hC:∀ t c,aCz t->C t c->aCz c) (hP:Pre C n n.Parts.length P):Nt m ⟨P,n.Meetings,n.Allowed,n.Hidden⟩:=by
 refine ⟨⟨?_,fun t ht=>?_,hn.ok.meet,hn.ok.al,hn.ok.hid⟩,hn.me,hn.al,hn.hid⟩
 ·show 1<=P.length/\P.length<=4
  rw [hP.len];exact hn.ok.len
 ·obtain ⟨i,hi,rfl⟩:=List.getElem_of_mem (show t∈P from ht)
  rw [hP.len] at hi
  have:=hP.part i hi
  rw [List.getD_eq_getElem?_getD,List.getElem?_eq_getElem (by rw [hP.len];exact hi)] at this
  exact hC _ _ (hn.ok.at hi) this
theorem push_mv {n:aO} (hn:iB n) {P:List bA} (hP:Pre (Psh n) n n.Parts.length P) (s:List Int) (l:aH) (t:List Int):
  MvN ⟨P,n.Meetings,n.Allowed,n.Hidden⟩ s l t<->MvN n s l t:=by
 have hp:∀ i,i < n.Parts.length->Psh n (cS n i) (cS ⟨P,n.Meetings,n.Allowed,n.Hidden⟩ i):=fun i hi=>hP.part i hi
 have hlen:(⟨P,n.Meetings,n.Allowed,n.Hidden⟩:aO).Parts.length=n.Parts.length:=hP.len
 have hsh:xU ⟨P,n.Meetings,n.Allowed,n.Hidden⟩=xU n:=aPm rfl rfl
 have h6:∀ {i x a y},i < n.Parts.length->nX (cS n i) x a y->a∈T6:=fun {i x a y} hi h=>by
  obtain ⟨e,he,_,rfl,_⟩:=h
  exact (hn.at hi).lab _ (vU (hn.at hi).ok he)
 unfold MvN
 rw [hlen,hsh]
 constructor
 ·intro h
  cases h with
  |@one i a _ x hi ha hl=>
   obtain ⟨r,hr,_,rfl⟩:=(hp i hi).mv _ _ _ |>.1 ha
   rw [sh_rel (h6 hi hr)] at hl
   exact .one hi hr hl
  |@two i k a b c _ x y hik hk ha hb hc hl=>
   have hi:i < n.Parts.length:=by omega
   obtain ⟨r,hr,_,rfl⟩:=(hp i hi).mv _ _ _ |>.1 ha
   obtain ⟨q,hq,_,rfl⟩:=(hp k hk).mv _ _ _ |>.1 hb
   have e1:aCf n r=r:=by
    rcases aPn n r with h|h
    ·exact h
    ·rw [h] at hc
     have:=(aOR hn.meet.ok (aCf n q)).1
     exact absurd (hc.symm.trans this) (by simp)
   have e2:aCf n q=q:=by
    rcases aPn n q with h|h
    ·exact h
    ·rw [h] at hc
     have:=(aOR hn.meet.ok (aCf n r)).2
     exact absurd (hc.symm.trans this) (by simp)
   rw [e1,e2] at hc
   exact .two hik hk hr hq hc hl
 ·intro h
  cases h with
  |@one i a _ x hi ha hl=>
   have h6a:=h6 hi ha
   refine .one hi ((hp i hi).mv _ _ _ |>.2 ⟨a,ha,?_,rfl⟩) (by rw [sh_rel h6a];exact hl)
   by_cases ht:a=bC
   ·exact .inl ht
   ·cases hk:kpS n a with
    |true=>exact .inr rfl
    |false=>rw [sh_gone h6a ht hk] at hl;cases hl
  |@two i k a b c _ x y hik hk ha hb hc hl=>
   have hi:i < n.Parts.length:=by omega
   obtain ⟨m1,m2⟩:=mt_names hn.meet hc
   refine .two hik hk ((hp i hi).mv _ _ _ |>.2 ⟨a,ha,.inr (by unfold kpS;rw [m1,Bool.or_true]),aNJ m1⟩) ((hp k hk).mv _ _ _ |>.2 ⟨b,hb,.inr (by unfold kpS;rw [m2,Bool.or_true]),aNJ m2⟩) hc hl
theorem push_al {n:aO} (hn:iB n) {P:List bA} (hP:Pre (Psh n) n n.Parts.length P) (k:Int):Al k (MvN n) (aHV n) (MvN ⟨P,n.Meetings,n.Allowed,n.Hidden⟩) (aHV ⟨P,n.Meetings,n.Allowed,n.Hidden⟩):=by
 have e:aHV ⟨P,n.Meetings,n.Allowed,n.Hidden⟩=aHV n:=by
  apply List.ext_getElem?
  intro i
  unfold aHV
  rw [List.getElem?_map,List.getElem?_map]
  by_cases hi:i < n.Parts.length
  ·have:=(hP.part i hi).ini
   rw [List.getD_eq_getElem?_getD,List.getElem?_eq_getElem (by rw [hP.len];exact hi)] at this
   rw [(sT hi).2,List.getElem?_eq_getElem (by show i < P.length;rw [hP.len];exact hi)]
   exact congrArg some this
  ·rw [List.getElem?_eq_none (by show P.length<=i;rw [hP.len];omega),List.getElem?_eq_none (by omega)]
 rw [e]
 refine Al.of ⟨fun x y=>x=y,rfl,fun x y h l x' hs=>?_,fun x y h l x' hs=>?_⟩
 ·subst h;exact ⟨x',(push_mv hn hP _ _ _).2 hs,rfl⟩
 ·subst h;exact ⟨x',(push_mv hn hP _ _ _).1 hs,rfl⟩
theorem aQr {t:bA} (hv:cF t):aBh t=some t:=by
 have h1:=hv.2.2.1.2.1
 have h2:=hv.2.2.2.1
 unfold aBh gU
 rw [aHL _ (by unfold jT;omega),aA,dC (by simp [jT];omega),aA,aA,List.nil_append]
def Red (k:Int) (t c:bA):Prop:=if k=0 then c=t else Lik (k=2) t c
theorem red_at {t:bA} (hv:cF t) {k:Int} (hk:k=0\/k=1\/k=2):∃ c,aAA t k=some c/\Red k t c:=by
 unfold aAA Red
 by_cases h0:k=0
 ·subst h0
  rw [if_pos (by decide),aQr hv,aA]
  exact ⟨t,rfl,by rw [if_pos rfl]⟩
 ·rw [if_neg (by simpa using h0)]
  obtain ⟨c,h1,h2⟩:=aQn hv (k == 2)
  rw [h1,aA]
  refine ⟨c,rfl,?_⟩
  rw [if_neg h0]
  have e:((k == 2)=true)=(k=2):=by rw [beq_iff_eq]
  rw [e] at h2;exact h2
theorem Red.ok {k:Int} {t c:bA} (ht:aCz t) (h:Red k t c):aCz c:=by
 unfold Red at h
 split at h
 ·subst h;exact ht
 ·exact ⟨h.ok,fun s hs=>ht.lab s (h.lab s hs)⟩
theorem red_net {n:aO} (hn:iB n) {k:Int} (hk:k=0\/k=1\/k=2):∃ P,iM n k=some ⟨P,n.Meetings,n.Allowed,n.Hidden⟩/\Pre (Red k) n n.Parts.length P:=by
 have hl:=hn.len
 obtain ⟨P,e1,hP⟩:=lO (step:=fun s:List bA × Int=>fP n k s.1 s.2) n.Parts.length (fun j (a:List bA)=>(a,(j:Int))) (fun j P=>Pre (Red k) n j P) (fun P=>Pre (Red k) n n.Parts.length P) (fun j P hj hI=>by
  obtain ⟨c,c1,c2⟩:=red_at (hn.at hj).ok hk
  refine ⟨P++[c],?_,hI.snoc c2⟩
  show fP n k P (j:Int)=_
  unfold fP qV
  rw [if_pos (bU hj),rS,(sT hj).2,aA,c1,aA,aA,dC (by have:=hI.len;simp [jT];omega),aA,bQ hj (by omega)]) (fun P hI=>by
  refine ⟨P,?_,hI⟩
  show fP n k P (n.Parts.length:Int)=_
  unfold fP
  rw [if_neg (by simp)]) n.Parts.length 0 [] (by omega) ⟨rfl,fun i hi=>by omega⟩
 have e1':loop (fun s:List bA × Int=>fP n k s.1 s.2) ([],0)=some P:=e1
 refine ⟨P,?_,hP⟩
 unfold iM rH
 rw [e1',aA]
 unfold tA
 rw [aPo hn.sh,aA,aA]
theorem red_al {n:aO} (hn:iB n) {k:Int} {P:List bA} (hP:Pre (Red k) n n.Parts.length P):Al k (MvN n) (aHV n) (MvN ⟨P,n.Meetings,n.Allowed,n.Hidden⟩) (aHV ⟨P,n.Meetings,n.Allowed,n.Hidden⟩):=by
 by_cases h0:k=0
 ·have e:P=n.Parts:=by
   apply List.ext_getElem?
   intro i
   by_cases hi:i < n.Parts.length
   ·have:=hP.part i hi
    unfold Red at this
    rw [if_pos h0,List.getD_eq_getElem?_getD,List.getElem?_eq_getElem (by rw [hP.len];exact hi)] at this
    rw [(sT hi).2,List.getElem?_eq_getElem (by rw [hP.len];exact hi)]
    exact congrArg some this
   ·rw [List.getElem?_eq_none (by rw [hP.len];omega),List.getElem?_eq_none (by omega)]
  subst e
  exact Al.refl
 ·have hlen:(⟨P,n.Meetings,n.Allowed,n.Hidden⟩:aO).Parts.length=n.Parts.length:=hP.len
  have hsh:xU ⟨P,n.Meetings,n.Allowed,n.Hidden⟩=xU n:=aPm rfl rfl
  unfold MvN
  rw [hlen,hsh]
  refine net_al h0 (sh_tau n) (fun b=>(aOR hn.meet.ok b).1) (fun b=>(aOR hn.meet.ok b).2) ⟨aJx n,(aJx _).trans hlen⟩ fun i hi=>?_
  have:=hP.part i hi
  unfold Red at this
  rw [if_neg h0] at this
  obtain ⟨R,h1,h2⟩:=this.ex
  refine ⟨R,?_,h1.fw,h1.bw,h1.df,h1.db⟩
  rw [aGt hi,aGt (n:=⟨P,n.Meetings,n.Allowed,n.Hidden⟩) (by rw [hlen];exact hi)]
  exact h2
end Gv
namespace Gv
open Go
section
variable {sh:aH->Option aH} {n:aO} {s:List Int}
theorem aLg {c l:aH} {t u:List Int}:(l,u)∈see sh c t<->sh c=some l/\u=t:=by
 unfold see
 split
 ·rename_i l' h
  simp only [List.mem_singleton,Prod.mk.injEq,h,Option.some.injEq]
  constructor
  ·rintro ⟨rfl,rfl⟩;exact ⟨rfl,rfl⟩
  ·rintro ⟨rfl,rfl⟩;exact ⟨rfl,rfl⟩
 ·rename_i h;simp [h]
theorem aHt {i:Nat} {e:Edge}:e∈kA n s i<->e∈(cS n i).E/\e.F=s.getD i 0:=by
 unfold kA
 rw [List.mem_filter,beq_iff_eq]
theorem mvs_iff {l:aH} {u:List Int}:(l,u)∈mvs sh n s<->Mv n.Parts.length (fun i=>nX (cS n i)) sh (mtN n.Meetings) s l u:=by
 constructor
 ·intro h
  obtain ⟨i,hi,h⟩:=List.mem_flatMap.1 h
  rw [List.mem_range'_1] at hi
  obtain ⟨e,he,h⟩:=List.mem_flatMap.1 h
  obtain ⟨e1,e2⟩:=aHt.1 he
  rcases List.mem_append.1 h with h|h
  ·obtain ⟨h1,rfl⟩:=aLg.1 h
   exact .one (by omega) ⟨e,e1,e2,rfl,rfl⟩ h1
  ·obtain ⟨k,hk,h⟩:=List.mem_flatMap.1 h
   rw [List.mem_range'_1] at hk
   obtain ⟨f,hf,h⟩:=List.mem_flatMap.1 h
   obtain ⟨f1,f2⟩:=aHt.1 hf
   unfold mv3 at h
   split at h
   ·rename_i c hc
    obtain ⟨h1,rfl⟩:=aLg.1 h
    exact .two (by omega) (by omega) ⟨e,e1,e2,rfl,rfl⟩ ⟨f,f1,f2,rfl,rfl⟩ hc h1
   ·cases h
 ·intro h
  cases h with
  |@one i a _ x hi ha hl=>
   obtain ⟨e,e1,e2,rfl,rfl⟩:=ha
   exact List.mem_flatMap.2 ⟨i,by rw [List.mem_range'_1];omega,List.mem_flatMap.2 ⟨e,aHt.2 ⟨e1,e2⟩,List.mem_append_left _ (aLg.2 ⟨hl,rfl⟩)⟩⟩
  |@two i k a b c _ x y hik hk ha hb hc hl=>
   obtain ⟨e,e1,e2,rfl,rfl⟩:=ha
   obtain ⟨f,f1,f2,rfl,rfl⟩:=hb
   refine List.mem_flatMap.2 ⟨i,by rw [List.mem_range'_1];omega,List.mem_flatMap.2 ⟨e,aHt.2 ⟨e1,e2⟩,List.mem_append_right _ (List.mem_flatMap.2 ⟨k,by rw [List.mem_range'_1];omega,List.mem_flatMap.2 ⟨f,aHt.2 ⟨f1,f2⟩,?_⟩⟩)⟩⟩
   unfold mv3
   rw [hc]
   exact aLg.2 ⟨hl,rfl⟩
end
section
variable {sh:aH->Option aH} {n:aO} {f:List Int} {t:bA} {F:List (List Int)}
theorem aIK.go (h:aIK sh n f t F) {k:Int} {S T:List Int} {l:aH} (hk:At F k S) (hm:Mv n.Parts.length (fun i=>nX (cS n i)) sh (mtN n.Meetings) S l T):∃ j,At F j T/\nX t k l j:=by
 obtain ⟨e,he,e1,e2,e3⟩:=h.cmp k S hk (l,T) (mvs_iff.2 hm)
 exact ⟨e.To,e3,e,he,e1,e2,rfl⟩
theorem aIK.back (h:aIK sh n f t F) {k j:Int} {S:List Int} {l:aH} (hk:At F k S) (hs:nX t k l j):∃ T,At F j T/\Mv n.Parts.length (fun i=>nX (cS n i)) sh (mtN n.Meetings) S l T:=by
 obtain ⟨e,he,rfl,rfl,rfl⟩:=hs
 obtain ⟨S',T,g1,g2,g3⟩:=h.snd e he
 rw [hk.fun g1]
 exact ⟨T,g2,mvs_iff.1 g3⟩
theorem aIK.al (h:aIK (xU n) n f t F) (k:Int):Al k (MvN n) f (nX t) t.I:=by
 refine Al.of ⟨fun S j=>At F j S,h.ini,fun S j hj l T hm=>?_,fun j S hj l j' hs=>?_⟩
 ·obtain ⟨j',h1,h2⟩:=h.go hj hm
  exact ⟨j',h2,h1⟩
 ·obtain ⟨T,h1,h2⟩:=h.back hj hs
  exact ⟨T,h2,h1⟩
end
section
variable {n:Nat} {A:Nat->Int->aH->Int->Prop} {sh:aH->Option aH} {mte:aH->aH->Option aH} {s t:List Int} {l:aH}
theorem Mv.two' (hs:∀ a b,mte a b=mte b a) {i k:Nat} {a b c:aH} {x y:Int} (hik:i≠k) (hi:i < n) (hk:k < n) (ha:A i (s.getD i 0) a x) (hb:A k (s.getD k 0) b y) (hc:mte a b=some c) (hl:sh c=some l):Mv n A sh mte s l ((s.set i x).set k y):=by
 by_cases h:i < k
 ·exact .two h hk ha hb hc hl
 ·rw [List.set_comm x y hik]
  exact .two (by omega) hi hb ha (by rw [hs];exact hc) hl
theorem Mv.inv (h:Mv n A sh mte s l t):(∃ j a x,j < n/\A j (s.getD j 0) a x/\sh a=some l/\t=s.set j x)\/∃ i k a b c x y,i≠k/\i < n/\k < n/\A i (s.getD i 0) a x/\A k (s.getD k 0) b y/\mte a b=some c/\sh c=some l/\t=(s.set i x).set k y:=by
 cases h with
 |one hi ha hl=>exact .inl ⟨_,_,_,hi,ha,hl,rfl⟩
 |two hik hk ha hb hc hl=>exact .inr ⟨_,_,_,_,_,_,_,by omega,by omega,hk,ha,hb,hc,hl,rfl⟩
end
def rho (b j:Nat):Nat:=if j < b then j else j - 1
structure Qr (m i k a b:Nat) (F:List (List Int)) (s s':List Int):Prop where
 l1:s.length=m
 l2:s'.length=m - 1
 at_:At F (s'.getD a 0) [s.getD i 0,s.getD k 0]
 oth:∀ j,j < m->j≠i->j≠k->s'.getD (rho b j) 0=s.getD j 0
section
variable {m i k a b:Nat} {F:List (List Int)} {s s' s1:List Int}
theorem aKh (hb:b < m) {j:Nat} (hj:j < m) (hjb:j≠b):rho b j < m - 1:=by unfold rho;split<;>omega
theorem rho_ne (h:a < b) {j:Nat} (h1:j≠a) (h2:j≠b):rho b j≠a:=by unfold rho;split<;>omega
theorem rho_inj {j j':Nat} (h1:j≠b) (h2:j'≠b) (h:rho b j=rho b j'):j=j':=by unfold rho at h;split at h<;>split at h<;>omega
theorem aMz (h:a < b) (hb:b < m) {j':Nat} (hj:j' < m - 1) (hne:j'≠a):∃ j,j < m/\j≠a/\j≠b/\rho b j=j':=by
 by_cases h1:j' < b
 ·exact ⟨j',by omega,hne,by omega,by unfold rho;rw [if_pos h1]⟩
 ·exact ⟨j'+1,by omega,by omega,by omega,by unfold rho;rw [if_neg (by omega)];omega⟩
structure Mnx (m i k a b:Nat):Prop where
 ab:a < b
 bm:b < m
 or_:(i=a/\k=b)\/(i=b/\k=a)
theorem Mnx.ne (h:Mnx m i k a b) {j:Nat} (h1:j≠i) (h2:j≠k):j≠a/\j≠b:=by
 have:=h.or_
 omega
theorem Qr.upd (hx:Mnx m i k a b) (h:Qr m i k a b F s s') (hl:s1.length=m) (ho:∀ j,j < m->j≠i->j≠k->s1.getD j 0=s.getD j 0) {c:Int} (hc:At F c [s1.getD i 0,s1.getD k 0]):Qr m i k a b F s1 (s'.set a c):=by
 have h2:=h.l2
 have hab:=hx.ab
 have hbm:=hx.bm
 have ha:a < s'.length:=by omega
 refine ⟨hl,by rw [List.length_set];exact h2,by rw [dL ha,if_pos rfl];exact hc,fun j hj h3 h4=>?_⟩
 obtain ⟨h5,h6⟩:=hx.ne h3 h4
 rw [dL ha,if_neg (rho_ne hab h5 h6),h.oth j hj h3 h4,ho j hj h3 h4]
theorem Qr.set (hx:Mnx m i k a b) (h:Qr m i k a b F s s') {j:Nat} (hj:j < m) (h3:j≠i) (h4:j≠k) (x:Int):Qr m i k a b F (s.set j x) (s'.set (rho b j) x):=by
 have hab:=hx.ab
 have hbm:=hx.bm
 have h1:=h.l1
 have h2:=h.l2
 obtain ⟨h5,h6⟩:=hx.ne h3 h4
 have hr:=aKh hbm hj h6
 have hr2:rho b j < s'.length:=by omega
 refine ⟨by rw [List.length_set];exact h1,by rw [List.length_set];exact h2,?_,fun q hq g3 g4=>?_⟩
 ·rw [dL hr2,if_neg (fun e=>rho_ne hab h5 h6 e.symm),dL (by omega),if_neg (fun e=>h3 e.symm),dL (by omega),if_neg (fun e=>h4 e.symm)]
  exact h.at_
 ·obtain ⟨g5,g6⟩:=hx.ne g3 g4
  rw [dL hr2,dL (by omega)]
  by_cases e:q=j
  ·subst e;rw [if_pos rfl,if_pos rfl]
  ·rw [if_neg e,if_neg (fun he=>e (rho_inj g6 h6 he)),h.oth q hq g3 g4]
end
section
variable {m i k a b:Nat} {F:List (List Int)} {A A':Nat->Int->aH->Int->Prop} {sh:aH->Option aH} {mte:aH->aH->Option aH} {T:Int->aH->Int->Prop}
structure Pr2 (m i k a b:Nat) (F:List (List Int)) (A A':Nat->Int->aH->Int->Prop) (mte:aH->aH->Option aH) (T:Int->aH->Int->Prop):Prop where
 x:Mnx m i k a b
 sym:∀ u v,mte u v=mte v u
 res:∀ u v w z,mte u v=some w->mte w z=none
 at_:A' a=T
 oth:∀ j,j < m->j≠i->j≠k->A' (rho b j)=A j
 go:∀ c x y l X,At F c [x,y]->Mv 2 (fun j=>if j=0 then A i else A k) some mte [x,y] l X->∃ c',At F c' X/\T c l c'
 back:∀ c x y l c',At F c [x,y]->T c l c'->∃ X,At F c' X/\Mv 2 (fun j=>if j=0 then A i else A k) some mte [x,y] l X
theorem Pr2.ik (h:Pr2 m i k a b F A A' mte T):i≠k/\i < m/\k < m/\a < m - 1:=by
 have h1:=h.x.ab
 have h2:=h.x.bm
 have h3:=h.x.or_
 omega
theorem Pr2.fw (h:Pr2 m i k a b F A A' mte T):Fst (Mv m A sh mte) (Mv (m - 1) A' sh mte) (Qr m i k a b F):=by
 obtain ⟨hik,him,hkm,ham⟩:=h.ik
 intro s s' q l s1 hs
 have l1:=q.l1
 have l2:=q.l2
 have one:∀ {s s':List Int},Qr m i k a b F s s'->∀ {j:Nat} {u:aH} {x:Int},(j=i\/j=k)->A j (s.getD j 0) u x->∃ c,T (s'.getD a 0) u c/\Qr m i k a b F (s.set j x) (s'.set a c):=fun {s s'} q {j u x} hj hm=>by
  have l1:=q.l1
  rcases hj with rfl|rfl
  ·obtain ⟨c,h1,h2⟩:=h.go _ _ _ u _ q.at_ (.one (i:=0) (x:=x) (by omega) (by simp only [if_true];exact hm) rfl)
   refine ⟨c,h2,q.upd h.x (by rw [List.length_set];exact l1) (fun p hp h3 h4=>by rw [dL (by omega),if_neg h3]) ?_⟩
   rw [dL (by omega),if_pos rfl,dL (by omega),if_neg (fun e=>hik e.symm)]
   exact h1
  ·obtain ⟨c,h1,h2⟩:=h.go _ _ _ u _ q.at_ (.one (i:=1) (x:=x) (by omega) (by simp only [Nat.one_ne_zero,if_false];exact hm) rfl)
   refine ⟨c,h2,q.upd h.x (by rw [List.length_set];exact l1) (fun p hp h3 h4=>by rw [dL (by omega),if_neg h4]) ?_⟩
   rw [dL (by omega),if_neg hik,dL (by omega),if_pos rfl]
   exact h1
 have oth:∀ {j:Nat} {u:aH} {x:Int},j < m->j≠i->j≠k->A j (s.getD j 0) u x->A' (rho b j) (s'.getD (rho b j) 0) u x:=fun {j u x} hj h1 h2 hm=>by
  rw [h.oth j hj h1 h2,q.oth j hj h1 h2];exact hm
 have mix:∀ {j p:Nat} {u v w:aH} {x y:Int},(j=i\/j=k)->p < m->p≠i->p≠k->A j (s.getD j 0) u x->A p (s.getD p 0) v y->mte u v=some w->sh w=some l->∃ s1',Mv (m - 1) A' sh mte s' l s1'/\Qr m i k a b F ((s.set j x).set p y) s1':=fun {j p u v w x y} hj hp h1 h2 hu hv hw hl=>by
  obtain ⟨c,g1,g2⟩:=one q hj hu
  obtain ⟨h5,h6⟩:=h.x.ne h1 h2
  have hr:=aKh h.x.bm hp h6
  refine ⟨_,Mv.two' h.sym (fun e=>rho_ne h.x.ab h5 h6 e.symm) ham hr (by rw [h.at_];exact g1) (oth hp h1 h2 hv) hw hl,g2.set h.x hp h1 h2 y⟩
 rcases hs.inv with ⟨j,u,x,hj,hm,hl,rfl⟩|⟨j,p,u,v,w,x,y,hjp,hj,hp,hu,hv,hw,hl,rfl⟩
 ·by_cases hj1:j=i\/j=k
  ·obtain ⟨c,g1,g2⟩:=one q hj1 hm
   exact ⟨_,.one ham (by rw [h.at_];exact g1) hl,g2⟩
  ·have h1:j≠i:=fun e=>hj1 (.inl e)
   have h2:j≠k:=fun e=>hj1 (.inr e)
   exact ⟨_,.one (aKh h.x.bm hj (h.x.ne h1 h2).2) (oth hj h1 h2 hm) hl,q.set h.x hj h1 h2 x⟩
 ·by_cases hj1:j=i\/j=k
  ·by_cases hp1:p=i\/p=k
   ·
    have fin:∀ {u v w:aH} {x y:Int},A i (s.getD i 0) u x->A k (s.getD k 0) v y->mte u v=some w->sh w=some l->∃ s1',Mv (m - 1) A' sh mte s' l s1'/\Qr m i k a b F ((s.set i x).set k y) s1':=fun {u v w x y} hu hv hw hl=>by
     obtain ⟨c,h1,h2⟩:=h.go _ _ _ w _ q.at_ (.two (i:=0) (k:=1) (x:=x) (y:=y) (by omega) (by omega) (by simp only [if_true];exact hu) (by simp only [Nat.one_ne_zero,if_false];exact hv) hw rfl)
     refine ⟨s'.set a c,.one ham (by rw [h.at_];exact h2) hl,q.upd h.x (by rw [List.length_set,List.length_set];exact l1) (fun z hz h3 h4=>by rw [dL (by rw [List.length_set];omega),if_neg h4,dL (by omega),if_neg h3]) ?_⟩
     rw [dL (by rw [List.length_set];omega),if_neg hik,dL (by omega),if_pos rfl,dL (by rw [List.length_set];omega),if_pos rfl]
     exact h1
    rcases hj1 with rfl|rfl
    ·have:p=k:=by omega
     subst this
     exact fin hu hv hw hl
    ·have:p=i:=by omega
     subst this
     rw [List.set_comm x y hjp]
     exact fin hv hu (by rw [h.sym];exact hw) hl
   ·exact mix hj1 hp (fun e=>hp1 (.inl e)) (fun e=>hp1 (.inr e)) hu hv hw hl
  ·have h1:j≠i:=fun e=>hj1 (.inl e)
   have h2:j≠k:=fun e=>hj1 (.inr e)
   by_cases hp1:p=i\/p=k
   ·rw [List.set_comm x y hjp]
    exact mix hp1 hj h1 h2 hv hu (by rw [h.sym];exact hw) hl
   ·have h3:p≠i:=fun e=>hp1 (.inl e)
    have h4:p≠k:=fun e=>hp1 (.inr e)
    have q1:=h.x.ne h1 h2
    have q2:=h.x.ne h3 h4
    exact ⟨_,Mv.two' h.sym (fun e=>hjp (rho_inj q1.2 q2.2 e)) (aKh h.x.bm hj q1.2) (aKh h.x.bm hp q2.2) (oth hj h1 h2 hu) (oth hp h3 h4 hv) hw hl,(q.set h.x hj h1 h2 x).set h.x hp h3 h4 y⟩
theorem Pr2.bw (h:Pr2 m i k a b F A A' mte T):Fst (Mv (m - 1) A' sh mte) (Mv m A sh mte) (fun s' s=>Qr m i k a b F s s'):=by
 obtain ⟨hik,him,hkm,ham⟩:=h.ik
 intro s' s q l s1' hs
 have q:Qr m i k a b F s s':=q
 have l1:=q.l1
 have l2:=q.l2
 have hik':=h.x.or_
 have others:∀ {j:Nat},j≠a->j≠b->j≠i/\j≠k:=fun {j} h1 h2=>by omega
 have stp:∀ {u:aH} {c:Int},T (s'.getD a 0) u c->(∃ j x,(j=i\/j=k)/\A j (s.getD j 0) u x/\Qr m i k a b F (s.set j x) (s'.set a c))\/∃ v w x y,A i (s.getD i 0) v x/\A k (s.getD k 0) w y/\mte v w=some u/\Qr m i k a b F ((s.set i x).set k y) (s'.set a c):=fun {u c} ht=>by
  obtain ⟨X,h1,h2⟩:=h.back _ _ _ u c q.at_ ht
  cases h2 with
  |@one j a' _ x hj ha hl=>
   cases hl
   have hj2:j=0\/j=1:=by omega
   rcases hj2 with rfl|rfl
   ·simp only [if_true] at ha
    refine .inl ⟨i,x,.inl rfl,ha,q.upd h.x (by rw [List.length_set];exact l1) (fun p hp h3 h4=>by rw [dL (by omega),if_neg h3]) ?_⟩
    rw [dL (by omega),if_pos rfl,dL (by omega),if_neg (fun e=>hik e.symm)]
    exact h1
   ·simp only [Nat.one_ne_zero,if_false] at ha
    refine .inl ⟨k,x,.inr rfl,ha,q.upd h.x (by rw [List.length_set];exact l1) (fun p hp h3 h4=>by rw [dL (by omega),if_neg h4]) ?_⟩
    rw [dL (by omega),if_neg hik,dL (by omega),if_pos rfl]
    exact h1
  |@two j p v w c' _ x y hjp hp hv hw hc hl=>
   cases hl
   obtain rfl:j=0:=by omega
   obtain rfl:p=1:=by omega
   simp only [if_true] at hv
   simp only [Nat.one_ne_zero,if_false] at hw
   refine .inr ⟨v,w,x,y,hv,hw,hc,q.upd h.x (by rw [List.length_set,List.length_set];exact l1) (fun z hz h3 h4=>by rw [dL (by rw [List.length_set];omega),if_neg h4,dL (by omega),if_neg h3]) ?_⟩
   rw [dL (by rw [List.length_set];omega),if_neg hik,dL (by omega),if_pos rfl,dL (by rw [List.length_set];omega),if_pos rfl]
   exact h1
 have oth:∀ {j:Nat} {u:aH} {x:Int},j < m->j≠i->j≠k->A' (rho b j) (s'.getD (rho b j) 0) u x->A j (s.getD j 0) u x:=fun {j u x} hj h1 h2 hm=>by
  rw [h.oth j hj h1 h2,q.oth j hj h1 h2] at hm;exact hm
 have mix:∀ {p:Nat} {u v w:aH} {c y:Int},p < m->p≠i->p≠k->T (s'.getD a 0) u c->A p (s.getD p 0) v y->mte u v=some w->sh w=some l->∃ s1,Mv m A sh mte s l s1/\Qr m i k a b F s1 ((s'.set a c).set (rho b p) y):=fun {p u v w c y} hp h1 h2 hu hv hw hl=>by
  rcases stp hu with ⟨j,x,hj,g1,g2⟩|⟨v',w',x,z,g1,g2,g3,_⟩
  ·have hjm:j < m:=by omega
   have hjp:j≠p:=by omega
   exact ⟨_,Mv.two' h.sym hjp hjm hp g1 hv hw hl,g2.set h.x hp h1 h2 y⟩
  ·rw [h.res _ _ _ v g3] at hw;cases hw
 rcases hs.inv with ⟨j,u,x,hj,hm,hl,rfl⟩|⟨j,p,u,v,w,x,y,hjp,hj,hp,hu,hv,hw,hl,rfl⟩
 ·by_cases hja:j=a
  ·subst hja
   rw [h.at_] at hm
   rcases stp hm with ⟨r,z,hr,g1,g2⟩|⟨v',w',z,z',g1,g2,g3,g4⟩
   ·exact ⟨_,.one (by omega) g1 hl,g2⟩
   ·exact ⟨_,Mv.two' h.sym hik him hkm g1 g2 g3 hl,g4⟩
  ·obtain ⟨r,hr,r1,r2,rfl⟩:=aMz h.x.ab h.x.bm hj hja
   obtain ⟨r3,r4⟩:=others r1 r2
   exact ⟨_,.one hr (oth hr r3 r4 hm) hl,q.set h.x hr r3 r4 x⟩
 ·by_cases hja:j=a
  ·subst hja
   obtain ⟨r,hr,r1,r2,rfl⟩:=aMz h.x.ab h.x.bm hp (fun e=>hjp e.symm)
   obtain ⟨r3,r4⟩:=others r1 r2
   rw [h.at_] at hu
   exact mix hr r3 r4 hu (oth hr r3 r4 hv) hw hl
  ·obtain ⟨r,hr,r1,r2,rfl⟩:=aMz h.x.ab h.x.bm hj hja
   obtain ⟨r3,r4⟩:=others r1 r2
   by_cases hpa:p=a
   ·subst hpa
    rw [h.at_] at hv
    rw [List.set_comm x y hjp]
    exact mix hr r3 r4 hv (oth hr r3 r4 hu) (by rw [h.sym];exact hw) hl
   ·obtain ⟨z,hz,z1,z2,rfl⟩:=aMz h.x.ab h.x.bm hp hpa
    obtain ⟨z3,z4⟩:=others z1 z2
    exact ⟨_,Mv.two' h.sym (fun e=>hjp (by rw [e])) hr hz (oth hr r3 r4 hu) (oth hz z3 z4 hv) hw hl,(q.set h.x hr r3 r4 x).set h.x hz z3 z4 y⟩
end
end Gv
namespace Gv
open Go
theorem mnI_nat (i k:Nat):mnI (i:Int) (k:Int)=((min i k:Nat):Int):=by
 unfold mnI
 by_cases h:k < i
 ·rw [if_pos (by omega),Nat.min_eq_right (by omega)]
 ·rw [if_neg (by omega),Nat.min_eq_left (by omega)]
theorem mxI_nat (i k:Nat):mxI (i:Int) (k:Int)=((max i k:Nat):Int):=by
 unfold mxI
 by_cases h:i < k
 ·rw [if_pos (by omega),Nat.max_eq_right (by omega)]
 ·rw [if_neg (by omega),Nat.max_eq_left (by omega)]
theorem del_one {α:Type} {xs:List α} {b:Nat} (h:b < xs.length) (hl:xs.length<=1000000):aEI xs (b:Int) (wr ((b:Int)+1))=some (xs.take b++xs.drop (b+1)):=by
 rw [bQ h (by omega)]
 unfold aEI
 rw [if_pos ⟨by omega,by omega,by omega⟩]
 simp only [Int.toNat_natCast]
theorem del_get {α:Type} {l:List α} {b j:Nat} (hb:b < l.length) (hj:j≠b) (hl:j < l.length):(l.take b++l.drop (b+1))[rho b j]?=l[j]?:=by
 unfold rho
 have ht:(l.take b).length=b:=by rw [List.length_take];omega
 by_cases h:j < b
 ·rw [if_pos h,List.getElem?_append_left (by omega),List.getElem?_take_of_lt h]
 ·rw [if_neg h,List.getElem?_append_right (by omega),ht,List.getElem?_drop]
  congr 1;omega
theorem del_len {α:Type} {l:List α} {b:Nat} (hb:b < l.length):(l.take b++l.drop (b+1)).length=l.length - 1:=by
 rw [List.length_append,List.length_take,List.length_drop];omega
theorem part_get? {n:aO} {i:Nat} {t:bA} (h:n.Parts[i]?=some t):cS n i=t:=by
 unfold cS
 rw [List.getD_eq_getElem?_getD,h];rfl
theorem with2_eq {n:aO} (h:Sh n) (P:List bA):sK n P=some ⟨P,n.Meetings,n.Allowed,n.Hidden⟩:=by
 have h1:=h.me
 have h2:=h.al
 have h3:=h.hid
 unfold sK cY bO
 rw [dC (by simp [jT];omega),aA,aA,dC (by simp [jT];omega),aA,aA,dC (by simp [jT];omega),aA,aA]
 simp only [List.nil_append]
theorem clones_eq {n:aO} (hn:iB n):nN n=some ⟨n.Parts,n.Meetings,n.Allowed,n.Hidden⟩:=by
 have hl:=hn.len
 unfold nN
 have:=uL (step:=fun s:List bA × Int=>lN n s.1 s.2) n.Parts (fun t=>t) id (fun k out x hk ho hx=>by
  simp only [lN,bU hk,if_pos,hx,aA,aQr (hn.part _ (uN hx)).ok,bQ hk (show n.Parts.length < 4611686018427387904 by omega)]
  rw [dC (by simp [jT];omega),aA]) (fun out=>by simp only [lN,dB];rfl)
 rw [this,aA]
 unfold tC
 rw [aPo hn.sh,aA,List.map_id'];rfl
structure Cmp (m n:aO) (a:Nat) (r:aO):Prop where
 nt:Nt m r
 len:r.Parts.length+1=n.Parts.length
 al:∀ kd,Al kd (MvN n) (aHV n) (MvN r) (aHV r)
 at_:∃ t,r.Parts[a]?=some t/\1<=t.N/\t.N<=40
theorem pair_at {m n:aO} (hn:Nt m n) {i k:Nat} (hik:i≠k) (hi:i < n.Parts.length) (hk:k < n.Parts.length):
  ∃ r v,hY n (i:Int) (k:Int)=some (r,v)/\(v=true->Cmp m n (min i k) r):=by
 have hok:=hn.ok
 have hl:=hok.len
 obtain ⟨hi1,hi2⟩:=sT hi
 obtain ⟨hk1,hk2⟩:=sT hk
 have hpr:iB ⟨[cS n i,cS n k],n.Meetings,n.Allowed,n.Hidden⟩:=⟨by simp,fun t ht=>by
  simp only [List.mem_cons,List.not_mem_nil,or_false] at ht
  rcases ht with rfl|rfl
  ·exact hok.at hi
  ·exact hok.at hk,hok.meet,hok.al,hok.hid⟩
 obtain ⟨t,F,v,e1,e2⟩:=aPh hpr
 have hx:Mnx n.Parts.length i k (min i k) (max i k):=by
  by_cases h:i < k
  ·rw [Nat.min_eq_left (by omega),Nat.max_eq_right (by omega)]
   exact ⟨h,hk,.inl ⟨rfl,rfl⟩⟩
  ·rw [Nat.min_eq_right (by omega),Nat.max_eq_left (by omega)]
   exact ⟨by omega,hi,.inr ⟨rfl,rfl⟩⟩
 generalize ha:min i k=a at hx
 generalize hb:max i k=b at hx
 have hab:=hx.ab
 have hbm:=hx.bm
 have hor:=hx.or_
 have ham:a < n.Parts.length:=by omega
 have hsl:(n.Parts.set a t).length=n.Parts.length:=List.length_set
 have heq:hY n (i:Int) (k:Int)=if v=true then some (⟨(n.Parts.set a t).take b++(n.Parts.set a t).drop (b+1),n.Meetings,n.Allowed,n.Hidden⟩,true) else some (⟨[],[],[],[]⟩,false):=by
  unfold hY
  rw [rS,hi2,aA,rS,hk2,aA,with2_eq hok.sh,aA]
  unfold oG
  simp only
  rw [e1,aA]
  cases v with
  |false=>rfl
  |true=>
   rw [if_neg (by simp),if_pos rfl,clones_eq hok,aA,mnI_nat,mxI_nat,ha,hb]
   simp only
   rw [cG ham,aA,aBu _ ham,aA,del_one (by rw [hsl];exact hbm) (by rw [hsl];omega),aA]
 cases v with
 |false=>exact ⟨_,_,by rw [heq,if_neg (by simp)],by simp⟩
 |true=>
  refine ⟨_,true,by rw [heq,if_pos rfl],fun _=>?_⟩
  have h:=e2 rfl
  generalize hP:(n.Parts.set a t).take b++(n.Parts.set a t).drop (b+1)=P
  have hPl:P.length=n.Parts.length - 1:=by rw [←hP,del_len (by rw [hsl];exact hbm),hsl]
  have hPg:∀ j,j < n.Parts.length->j≠b->P[rho b j]?=(n.Parts.set a t)[j]?:=fun j hj hjb=>by
   rw [←hP];exact del_get (by rw [hsl];exact hbm) hjb (by rw [hsl];exact hj)
  have hra:rho b a=a:=by unfold rho;rw [if_pos hab]
  have hPa:P[a]?=some t:=by
   have:=hPg a ham (by omega)
   rw [hra,List.getElem?_set_self ham] at this;exact this
  have hPo:∀ j,j < n.Parts.length->j≠a->j≠b->P[rho b j]?=some (cS n j):=fun j hj h1 h2=>by
   rw [hPg j hj h2,List.getElem?_set_ne (fun e=>h1 e.symm),(sT hj).2]
  have hpa:cS ⟨P,n.Meetings,n.Allowed,n.Hidden⟩ a=t:=part_get? hPa
  have hpo:∀ j,j < n.Parts.length->j≠a->j≠b->cS ⟨P,n.Meetings,n.Allowed,n.Hidden⟩ (rho b j)=cS n j:=fun j hj h1 h2=>part_get? (hPo j hj h1 h2)
  have hsh:xU ⟨P,n.Meetings,n.Allowed,n.Hidden⟩=xU n:=aPm rfl rfl
  have hlen:(⟨P,n.Meetings,n.Allowed,n.Hidden⟩:aO).Parts.length=n.Parts.length - 1:=hPl
  have hnet:iB ⟨P,n.Meetings,n.Allowed,n.Hidden⟩:=by
   refine ⟨by rw [hlen];omega,fun u hu=>?_,hok.meet,hok.al,hok.hid⟩
   obtain ⟨j',hj',rfl⟩:=List.getElem_of_mem (show u∈P from hu)
   by_cases hja:j'=a
   ·subst hja
    rw [List.getElem?_eq_getElem hj'] at hPa
    rw [Option.some.inj hPa]
    exact ⟨h.ok,h.lab⟩
   ·obtain ⟨j,g1,g2,g3,rfl⟩:=aMz hab hbm (by omega) hja
    have:=hPo j g1 g2 g3
    rw [List.getElem?_eq_getElem hj'] at this
    rw [Option.some.inj this]
    exact hok.at g1
  have hfst:∀ x y:Int,∀ l X,Mv 2 (fun j=>if j=0 then nX (cS n i) else nX (cS n k)) some (mtN n.Meetings) [x,y] l X<->Mv (⟨[cS n i,cS n k],n.Meetings,n.Allowed,n.Hidden⟩:aO).Parts.length (fun j=>nX (cS ⟨[cS n i,cS n k],n.Meetings,n.Allowed,n.Hidden⟩ j)) some (mtN n.Meetings) [x,y] l X:=fun x y l X=>by
   have e:∀ j:Nat,j < 2->∀ x a y,nX (cS ⟨[cS n i,cS n k],n.Meetings,n.Allowed,n.Hidden⟩ j) x a y<->(if j=0 then nX (cS n i) else nX (cS n k)) x a y:=fun j hj x a y=>by
    have:j=0\/j=1:=by omega
    rcases this with rfl|rfl
    ·exact Iff.rfl
    ·exact Iff.rfl
   exact ⟨mv_mono (n:=2) fun j hj x a y hh=>(e j hj x a y).2 hh,mv_mono (n:=2) fun j hj x a y hh=>(e j hj x a y).1 hh⟩
  have hpr2:Pr2 n.Parts.length i k a b F (fun j=>nX (cS n j)) (fun j=>nX (cS ⟨P,n.Meetings,n.Allowed,n.Hidden⟩ j)) (mtN n.Meetings) (nX t):=by
   refine ⟨hx,mt_symm _,fun u v w z hw=>(mt_res hok.meet hw).2.2 z,?_,fun j hj h1 h2=>?_,fun c x y l X hc hm=>?_,fun c x y l c' hc hs=>?_⟩
   ·show nX (cS ⟨P,n.Meetings,n.Allowed,n.Hidden⟩ a)=nX t
    rw [hpa]
   ·obtain ⟨h3,h4⟩:=hx.ne h1 h2
    show nX (cS ⟨P,n.Meetings,n.Allowed,n.Hidden⟩ (rho b j))=nX (cS n j)
    rw [hpo j hj h3 h4]
   ·exact h.go hc ((hfst x y l X).1 hm)
   ·obtain ⟨X,h1,h2⟩:=h.back hc hs
    exact ⟨X,h1,(hfst x y l X).2 h2⟩
  refine ⟨⟨hnet,hn.me,hn.al,hn.hid⟩,by rw [hlen];omega,fun kd=>?_,t,hPa,h.ok.1.1,h.ok.1.2⟩
  have eM:MvN ⟨P,n.Meetings,n.Allowed,n.Hidden⟩=Mv (n.Parts.length - 1) (fun j=>nX (cS ⟨P,n.Meetings,n.Allowed,n.Hidden⟩ j)) (xU n) (mtN n.Meetings):=by
   unfold MvN
   rw [hlen,hsh]
  rw [eM]
  refine Al.of ⟨Qr n.Parts.length i k a b F,⟨aJx n,(aJx _).trans hlen,?_,fun j hj h1 h2=>?_⟩,hpr2.fw,hpr2.bw⟩
  ·rw [aGt (n:=⟨P,n.Meetings,n.Allowed,n.Hidden⟩) (by rw [hlen];omega),hpa,aGt hi,aGt hk]
   exact h.ini
  ·obtain ⟨h3,h4⟩:=hx.ne h1 h2
   rw [aGt (n:=⟨P,n.Meetings,n.Allowed,n.Hidden⟩) (by rw [hlen];exact aKh hbm hj h4),hpo j hj h3 h4,aGt hj]
end Gv
namespace Gv
open Go
section
variable {A B:Int->aH->Int->Prop} {x0 y0:Int}
theorem one_stg (A:Int->aH->Int->Prop) (x0:Int):Stg A x0 (Mv 1 (fun _=>A) some (fun _ _=>none)) [x0] (fun x s=>s=[x]):=by
 refine ⟨rfl,?_,?_⟩
 ·rintro x _ rfl l x' hs
  exact ⟨[x'],.one (i:=0) (by omega) hs rfl,rfl⟩
 ·rintro _ x rfl l s' hs
  cases hs with
  |@one i a _ y hi ha hl=>
   cases hl
   obtain rfl:i=0:=by omega
   exact ⟨y,ha,rfl⟩
  |two _ _ _ _ hc _=>cases hc
theorem prs_al {k:Int} (hk:k≠0) {R:Int->Int->Prop} (h:Prs (k=2) A B x0 y0 R):Al k A x0 B y0:=by
 have h1:Al k A x0 (Mv 1 (fun _=>A) some (fun _ _=>none)) [x0]:=Al.of ⟨_,one_stg A x0⟩
 have h2:Al k B y0 (Mv 1 (fun _=>B) some (fun _ _=>none)) [y0]:=Al.of ⟨_,one_stg B y0⟩
 refine h1.trans (Al.trans (net_al hk rfl (fun _=>rfl) (fun _=>rfl) ⟨rfl,rfl⟩ fun i hi=>?_) h2.symm)
 obtain rfl:i=0:=by omega
 exact ⟨R,h⟩
end
theorem red_one {k:Int} {t c:bA} (h:Red k t c):Al k (nX t) t.I (nX c) c.I:=by
 unfold Red at h
 split at h
 ·subst h;exact Al.refl
 ·rename_i h0
  obtain ⟨R,h1,h2⟩:=h.ex
  exact prs_al h0 ⟨h2,h1.fw,h1.bw,h1.df,h1.db⟩
theorem aKG.msd {n:aO} (h:aKG n):MsD n.Meetings:=h.meet
theorem aKG.ok {n:aO} (h:aKG n):iB n:=by
 have:=h.len
 exact ⟨by omega,fun t ht=>⟨(h.part t ht).ok,(h.part t ht).lab⟩,h.msd,by have:=(aHQ h.al).2;omega,by have:=(aHQ h.hid).2;omega⟩
theorem aJy {m n:aO} (hd:aKG m) (h:Nt m n):mN n=some true:=
 valid_net h.ok.len (fun t ht=>⟨(h.ok.part t ht).ok,(h.ok.part t ht).fits⟩) (by rw [h.me];exact (aRs hd).2) (by rw [h.al];exact (aHQ hd.al).1) (by rw [h.hid];exact (aHQ hd.hid).1)
theorem aMA {m n:aO} (hd:aKG m) (h:Nt m n):∃ t F c,qB n=some (t,F,c)/\(c=5\/(c=0/\aIK (xU n) n (aHV n) t F)):=by
 obtain ⟨t,F,v,e1,e2⟩:=aQk h.ok
 unfold qB
 rw [aJy hd h,aA,if_neg (by simp),e1,aA]
 cases v with
 |false=>exact ⟨⟨0,0,[],[]⟩,[],5,by simp only [Bool.not_false,if_true],.inl rfl⟩
 |true=>rw [if_neg (by simp)];exact ⟨t,F,0,rfl,.inr ⟨rfl,e2 rfl⟩⟩
theorem aRv {α:Type} {l:List α} {b:Nat} (hb:b < l.length):(l[b]::(l.take b++l.drop (b+1))).Perm l:=by
 have e:l=l.take b++l[b]::l.drop (b+1):=by
  rw [←List.drop_eq_getElem_cons hb,List.take_append_drop]
 conv=>rhs;rw [e]
 exact (List.perm_middle).symm
theorem left_perm {left:List Int} {x y:Int} {rest:List Int} (hp:left.Perm (x::y::rest)) {i k:Nat} (hik:i≠k) (hi:i < left.length) (hk:k < left.length) (hx:left[i]=x) (hy:left[k]=y):
  ((left.set (min i k) x).take (max i k)++(left.set (min i k) x).drop (max i k+1)).Perm (x::rest):=by
 have key:∃ L:List Int,L.Perm left/\∃ h:max i k < L.length,L[max i k]=y/\(left.set (min i k) x).take (max i k)++(left.set (min i k) x).drop (max i k+1)=L.take (max i k)++L.drop (max i k+1):=by
  by_cases h:i < k
  ·rw [Nat.min_eq_left (by omega),Nat.max_eq_right (by omega)]
   refine ⟨left,.refl _,hk,hy,?_⟩
   have:left.set i x=left:=by rw [←hx];exact List.set_getElem_self hi
   rw [this]
  ·rw [Nat.min_eq_right (by omega),Nat.max_eq_left (by omega)]
   refine ⟨(left.set k left[i]).set i left[k],List.set_set_perm hk hi,by rw [List.length_set,List.length_set];exact hi,?_,?_⟩
   ·rw [List.getElem_set_self];exact hy
   ·rw [hx]
    generalize left.set k x=L1
    rw [List.take_set_of_le (Nat.le_refl i),List.drop_set_of_lt (Nat.lt_succ_self i)]
 obtain ⟨L,h1,h2,h3,h4⟩:=key
 rw [h4]
 have h5:=aRv h2
 rw [h3] at h5
 have h6:(y::(L.take (max i k)++L.drop (max i k+1))).Perm (y::x::rest):=(h5.trans h1).trans (hp.trans (.swap _ _ _))
 exact (List.perm_cons _).1 h6
structure Lp (m:aO) (kd:Int) (x:Int) (R:List Int) (j:Nat) (N:aO) (sizes left:List Int):Prop where
 nt:Nt m N
 len:N.Parts.length+j=R.length+1
 left_:left.Perm (x::R.drop j)
 sl:sizes.length=j
 sz:∀ z∈sizes,1<=z/\z<=40
 al:Al kd (MvN m) (aHV m) (MvN N) (aHV N)
abbrev LpS:=List bA × List bK × List aH × List aH × List Int × List Int
theorem cstep_eq {kd x y b i k:Int} {R left left' left2:List Int} {N n1 n2 r:aO} {sizes:List Int} {j p:Nat} {v:Int} {t:bA} (h1:decide ((j:Int) < (R.length:Int))=true) (h2:ix R (j:Int)=some y) (h3:bP left x=some i) (h4:bP left y=some k)
  (h5:kJ N=some n1) (h6:iM n1 kd=some n2) (h7:hY n2 i k=some (r,true)) (h8:mnI i k=(p:Int)) (h9:mxI i k=b) (g1:ix left (p:Int)=some v) (g2:Gv.st left (p:Int) x=some left') (g3:aEI left' b (wr (b+1))=some left2)
  (g4:r.Parts[p]?=some t) (g5:sizes.length<=1000) {q:Int} (g6:wr ((j:Int)+1)=q):
  cH kd x R N.Parts N.Meetings N.Allowed N.Hidden sizes left (j:Int)=some (.inl (r.Parts,r.Meetings,r.Allowed,r.Hidden,sizes++[t.N],left2,q)):=by
 unfold cH
 rw [if_pos h1,h2,aA,h3,aA,h4,aA]
 rw [show (⟨N.Parts,N.Meetings,N.Allowed,N.Hidden⟩:aO)=N from rfl,h5,aA,h6,aA,h7,aA,if_neg (by simp),h8,h9,g1,aA,g2,aA,g3,aA]
 have g4':ix r.Parts (p:Int)=some t:=by rw [rS];exact g4
 simp only
 rw [g4',aA,dC (by simp [jT];omega),aA,g6]
theorem cstep_no {kd x y i k:Int} {R left:List Int} {N n1 n2 r:aO} {sizes:List Int} {j:Nat} (h1:decide ((j:Int) < (R.length:Int))=true) (h2:ix R (j:Int)=some y) (h3:bP left x=some i) (h4:bP left y=some k)
  (h5:kJ N=some n1) (h6:iM n1 kd=some n2) (h7:hY n2 i k=some (r,false)):
  cH kd x R N.Parts N.Meetings N.Allowed N.Hidden sizes left (j:Int)=some (.inr (.inr (⟨0,0,[],[]⟩,[],5))):=by
 unfold cH
 rw [if_pos h1,h2,aA,h3,aA,h4,aA]
 rw [show (⟨N.Parts,N.Meetings,N.Allowed,N.Hidden⟩:aO)=N from rfl,h5,aA,h6,aA,h7,aA,if_pos (by simp)]
theorem comp_step {m:aO} {kd x:Int} {R:List Int} (hkd:kd=0\/kd=1\/kd=2) (hn:(x::R).Nodup) (hR:R.length<=3) {j:Nat} (hj:j < R.length) {N:aO} {sizes left:List Int} (h:Lp m kd x R j N sizes left):
  cH kd x R N.Parts N.Meetings N.Allowed N.Hidden sizes left (j:Int)=some (.inr (.inr (⟨0,0,[],[]⟩,[],5)))\/
  ∃ N' sizes' left',cH kd x R N.Parts N.Meetings N.Allowed N.Hidden sizes left (j:Int)=some (.inl (N'.Parts,N'.Meetings,N'.Allowed,N'.Hidden,sizes',left',((j+1:Nat):Int)))/\Lp m kd x R (j+1) N' sizes' left':=by
 have hlen:=h.len
 have hsl:=h.sl
 have hd:R.drop j=R[j]::R.drop (j+1):=List.drop_eq_getElem_cons hj
 have hp:left.Perm (x::R[j]::R.drop (j+1)):=by have:=h.left_;rw [hd] at this;exact this
 have hll:left.length=N.Parts.length:=by
  rw [hp.length_eq,List.length_cons,List.length_cons,List.length_drop];omega
 have hxm:x∈left:=hp.mem_iff.2 List.mem_cons_self
 have hym:R[j]∈left:=hp.mem_iff.2 (List.mem_cons_of_mem _ List.mem_cons_self)
 obtain ⟨i,hi,e1,e2⟩:=aAa hxm
 obtain ⟨k,hk,e3,e4⟩:=aAa hym
 have hxy:x≠R[j]:=fun e=>(List.nodup_cons.1 hn).1 (e ▸ List.getElem_mem hj)
 have hik:i≠k:=by
  rintro rfl
  exact hxy (e2.symm.trans e4)
 have hI0:pos left x=(i:Int)/\pos left R[j]=(k:Int):=⟨e1,e3⟩
 have he:Nonempty (PLift (left[i]=x/\left[k]=R[j])):=⟨⟨e2,e4⟩⟩
 clear e1 e2 e3 e4 hxy
 have hlI:left.length < 4611686018427387904:=by clear hI0;omega
 have hI1:bP left x=some (i:Int):=by rw [aHH _ _ hlI,hI0.1]
 have hI2:bP left R[j]=some (k:Int):=by rw [aHH _ _ hlI,hI0.2]
 clear hI0
 have hw:=bQ hj (show R.length < 4611686018427387904 by omega)
 obtain ⟨P1,p1,p2⟩:=push_net h.nt.ok
 have n1:=pre_net h.nt (fun t c ht hc=>(show aCz c from hc.ok)) p2
 obtain ⟨P2,q1,q2⟩:=red_net n1.ok hkd
 have n2:=pre_net n1 (fun t c ht hc=>Red.ok ht hc) q2
 have hl1:P1.length=N.Parts.length:=p2.len
 have hl2:P2.length=N.Parts.length:=q2.len.trans hl1
 obtain ⟨r,v,c1,c2⟩:=pair_at n2 hik (show i < P2.length by omega) (show k < P2.length by omega)
 have hN:(⟨N.Parts,N.Meetings,N.Allowed,N.Hidden⟩:aO)=N:=rfl
 have hlt:=bU hj
 have hixR:=cG hj
 cases v with
 |false=>
  left
  exact cstep_no hlt hixR hI1 hI2 p1 q1 c1
 |true=>
  right
  obtain ⟨g1,g2,g3,t,g4,g5,g6⟩:=c2 rfl
  have hmin:min i k < left.length:=by omega
  have hmax:max i k < left.length:=by omega
  have hrl:r.Parts.length+1=N.Parts.length:=by have:r.Parts.length+1=P2.length:=g2;omega
  refine ⟨r,sizes++[t.N],(left.set (min i k) x).take (max i k)++(left.set (min i k) x).drop (max i k+1),?_,g1,by omega,he.elim fun e=>left_perm hp hik hi hk e.down.1 e.down.2,by rw [List.length_append,hsl];rfl,fun z hz=>?_,?_⟩
  ·exact cstep_eq hlt hixR hI1 hI2 p1 q1 c1 (mnI_nat i k) (mxI_nat i k) (cG hmin) (aBu _ hmin) (del_one (by rw [List.length_set];exact hmax) (by rw [List.length_set];omega)) g4 (by rw [hsl];omega) hw
  ·rcases List.mem_append.1 hz with hz|hz
   ·exact h.sz z hz
   ·rw [List.mem_singleton] at hz;subst hz;exact ⟨g5,g6⟩
  ·exact ((h.al.trans (push_al h.nt.ok p2 kd)).trans (red_al n1.ok q2)).trans (g3 kd)
theorem aRw {m:Nat} (h:m<=1000000):aDj (m:Int)=some ((List.range m).map Int.ofNat):=aJu h
structure Cio (m:aO) (kd:Int) (o:List Int) (t:bA) (sizes:List Int):Prop where
 ok:cF t
 fits:pU 999999999 t
 sl:sizes.length+1=o.length
 sz:∀ z∈sizes,1<=z/\z<=40
 al:Al kd (MvN m) (aHV m) (nX t) t.I
theorem aMB {m:aO} (hd:aKG m) {kd:Int} (hkd:kd=0\/kd=1\/kd=2) {o:List Int} (ho:o.Perm ((List.range m.Parts.length).map Int.ofNat)):
  ∃ t sizes c,dS m o kd=some (t,sizes,c)/\(c=5\/(c=0/\Cio m kd o t sizes)):=by
 have hml:=hd.len
 have hol:o.length=m.Parts.length:=by rw [ho.length_eq,List.length_map,List.length_range]
 have hon:o.Nodup:=by
  rw [ho.nodup_iff]
  exact List.Pairwise.map Int.ofNat (fun a b h e=>h (Int.ofNat.inj e)) List.nodup_range
 obtain ⟨x,R,rfl⟩:∃ x R,o=x::R:=by
  cases o with
  |nil=>simp at hol;omega
  |cons x R=>exact ⟨x,R,rfl⟩
 rw [List.length_cons] at hol
 have hm0:Nt m m:=⟨hd.ok,rfl,rfl,rfl⟩
 have key:=aHp (step:=fun s:List bA × List bK × List aH × List aH × List Int × List Int × Int=>cH kd x R s.1 s.2.1 s.2.2.1 s.2.2.2.1 s.2.2.2.2.1 s.2.2.2.2.2.1 s.2.2.2.2.2.2) R.length
  (fun j (a:LpS)=>(a.1,a.2.1,a.2.2.1,a.2.2.2.1,a.2.2.2.2.1,a.2.2.2.2.2,(j:Int))) (fun j a=>Lp m kd x R j ⟨a.1,a.2.1,a.2.2.1,a.2.2.2.1⟩ a.2.2.2.2.1 a.2.2.2.2.2)
  (fun r=>r=.inr (⟨0,0,[],[]⟩,[],5)\/∃ N sizes left,r=.inl (N.Parts,N.Meetings,N.Allowed,N.Hidden,sizes)/\Lp m kd x R R.length N sizes left) (fun j a hj hI=>?_) (fun a hI=>?_) R.length 0 (m.Parts,m.Meetings,m.Allowed,m.Hidden,[],(List.range m.Parts.length).map Int.ofNat) (by omega)
  ⟨hm0,by show m.Parts.length+0=R.length+1;omega,ho.symm,rfl,by simp,Al.refl⟩
 ·obtain ⟨r,h1,h2⟩:=key
  unfold dS
  have hsl:xT (x::R) 1 (((x::R).length:Nat):Int)=some R:=by
   unfold xT
   rw [if_pos ⟨by omega,by rw [List.length_cons];omega,by simp⟩]
   have e1:(x::R).drop (1:Int).toNat=R:=rfl
   rw [e1,Int.toNat_natCast,List.take_of_length_le (by simp)]
  rw [aRw (by omega),aA,show ix (x::R) 0=some x from rfl,aA,hsl,aA]
  rw [show loop (fun s:List bA × List bK × List aH × List aH × List Int × List Int × Int=>cH kd x R s.1 s.2.1 s.2.2.1 s.2.2.2.1 s.2.2.2.2.1 s.2.2.2.2.2.1 s.2.2.2.2.2.2) (m.Parts,m.Meetings,m.Allowed,m.Hidden,[],(List.range m.Parts.length).map Int.ofNat,0)=some r from h1,aA]
  rcases h2 with rfl|⟨N,sizes,left,rfl,hL⟩
  ·exact ⟨_,_,5,rfl,.inl rfl⟩
  ·have hNl:=hL.len
   have hsl2:=hL.sl
   obtain ⟨t,F,c,f1,f2⟩:=aMA hd hL.nt
   show ∃ t' sizes' c',jY kd N.Parts N.Meetings N.Allowed N.Hidden sizes=some (t',sizes',c')/\_
   unfold jY aDm
   rw [show (⟨N.Parts,N.Meetings,N.Allowed,N.Hidden⟩:aO)=N from rfl,aJy hd hL.nt,aA,if_neg (by simp),if_neg (by simp;omega),f1,aA,aA]
   simp only
   rcases f2 with rfl|⟨rfl,hE⟩
   ·exact ⟨_,_,5,rfl,.inl rfl⟩
   ·rw [if_neg (by simp)]
    obtain ⟨c,r1,r2⟩:=red_at hE.ok hkd
    rw [r1,aA]
    have hpc:=Red.ok ⟨hE.ok,hE.lab⟩ r2
    exact ⟨c,sizes,0,rfl,.inr ⟨rfl,⟨hpc.ok,hpc.fits,by rw [List.length_cons];omega,hL.sz,(hL.al.trans (hE.al kd)).trans (red_one r2)⟩⟩⟩
 ·rcases comp_step hkd hon (by omega) hj hI with h|⟨N',sizes',left',h,hL⟩
  ·right
   exact ⟨_,h,.inl rfl⟩
  ·left
   exact ⟨(N'.Parts,N'.Meetings,N'.Allowed,N'.Hidden,sizes',left'),h,hL⟩
 ·refine ⟨_,?_,.inr ⟨⟨a.1,a.2.1,a.2.2.1,a.2.2.2.1⟩,a.2.2.2.2.1,a.2.2.2.2.2,rfl,hI⟩⟩
  show cH kd x R a.1 a.2.1 a.2.2.1 a.2.2.2.1 a.2.2.2.2.1 a.2.2.2.2.2 (R.length:Int)=_
  unfold cH
  rw [if_neg (by simp)]
end Gv
namespace Gv
open Go
def extO (n:Nat) (q:List Int):List (List Int):=((List.range n).filter fun v=>!(q.any fun z=>(Int.ofNat v) == z)).map fun v=>q++[Int.ofNat v]
def xS (n:Nat):Nat->List (List Int)
 |0=>[[]]
 |v+1=>(xS n v).flatMap (extO n)
theorem aHu {n:Nat}:∀ (v:Nat) (q:List Int),q∈xS n v<->q.length=v/\q.Nodup/\∀ z∈q,0<=z/\z < n
 |0,q=>by
  unfold xS
  rw [List.mem_singleton]
  constructor
  ·rintro rfl;exact ⟨rfl,List.nodup_nil,by simp⟩
  ·rintro ⟨h,_⟩;exact List.eq_nil_of_length_eq_zero h
 |v+1,q=>by
  unfold xS
  rw [List.mem_flatMap]
  constructor
  ·rintro ⟨p,hp,hq⟩
   obtain ⟨h1,h2,h3⟩:=(aHu v p).1 hp
   unfold extO at hq
   obtain ⟨x,hx,rfl⟩:=List.mem_map.1 hq
   rw [List.mem_filter,List.mem_range] at hx
   have hn:Int.ofNat x∉p:=fun hm=>by
    have:=hx.2
    rw [Bool.not_eq_true',List.any_eq_false] at this
    have:=this _ hm
    simp at this
   refine ⟨by rw [List.length_append,h1];rfl,?_,fun z hz=>?_⟩
   ·rw [List.nodup_append]
    refine ⟨h2,by simp,fun a ha b hb=>?_⟩
    rw [List.mem_singleton] at hb
    subst hb
    intro e;exact hn (e ▸ ha)
   ·rcases List.mem_append.1 hz with hz|hz
    ·exact h3 z hz
    ·rw [List.mem_singleton] at hz
     subst hz
     exact ⟨Int.natCast_nonneg x,by show (x:Int) < n;omega⟩
  ·rintro ⟨h1,h2,h3⟩
   obtain ⟨p,z,rfl⟩:∃ p z,q=p++[z]:=by
    rcases List.eq_nil_or_concat q with rfl|⟨p,z,rfl⟩
    ·simp at h1
    ·exact ⟨p,z,by simp⟩
   rw [List.nodup_append] at h2
   obtain ⟨n1,n2,n3⟩:=h2
   rw [List.length_append] at h1
   have hz:=h3 z (by simp)
   refine ⟨p,(aHu v p).2 ⟨by simpa using h1,n1,fun y hy=>h3 y (List.mem_append_left _ hy)⟩,?_⟩
   unfold extO
   rw [List.mem_map]
   refine ⟨z.toNat,?_,by rw [show Int.ofNat z.toNat=z by show ((z.toNat:Nat):Int)=z;omega]⟩
   rw [List.mem_filter,List.mem_range,Bool.not_eq_true',List.any_eq_false]
   refine ⟨by omega,fun y hy e=>?_⟩
   have e1:(Int.ofNat z.toNat)=z:=by show ((z.toNat:Nat):Int)=z;omega
   rw [e1,beq_iff_eq] at e
   exact n3 y hy z (by simp) e.symm
theorem perm_of:∀ {l m:List Int},l.Nodup->(∀ x∈l,x∈m)->m.length<=l.length->l.Perm m
 |[],m,_,_,h=>by
  have hm:m=[]:=List.eq_nil_of_length_eq_zero (by simpa using h)
  rw [hm]
 |x::l,m,hn,hs,h=>by
  obtain ⟨h1,h2⟩:=List.nodup_cons.1 hn
  have hx:=hs x List.mem_cons_self
  have hp:=List.perm_cons_erase hx
  have hl:=hp.length_eq
  rw [List.length_cons] at hl h
  refine (List.Perm.cons x (perm_of h2 (fun y hy=>?_) (by omega))).trans hp.symm
  have hy2:=hs y (List.mem_cons_of_mem _ hy)
  have hne:y≠x:=by rintro rfl;exact h1 hy
  exact (List.mem_erase_of_ne hne).2 hy2
theorem ordL_perm {n:Nat} {q:List Int} (h:q∈xS n n):q.Perm ((List.range n).map Int.ofNat):=by
 obtain ⟨h1,h2,h3⟩:=(aHu n q).1 h
 refine perm_of h2 (fun x hx=>?_) (by rw [List.length_map,List.length_range,h1];exact Nat.le_refl _)
 have:=h3 x hx
 rw [List.mem_map]
 exact ⟨x.toNat,by rw [List.mem_range];omega,by show ((x.toNat:Nat):Int)=x;omega⟩
theorem aNK {n:Nat} {q:List Int} (h:q.Perm ((List.range n).map Int.ofNat)):q∈xS n n:=by
 rw [aHu]
 refine ⟨by rw [h.length_eq,List.length_map,List.length_range],?_,fun z hz=>?_⟩
 ·rw [h.nodup_iff]
  exact List.Pairwise.map Int.ofNat (fun a b h e=>h (Int.ofNat.inj e)) List.nodup_range
 ·obtain ⟨x,hx,rfl⟩:=List.mem_map.1 (h.mem_iff.1 hz)
  rw [List.mem_range] at hx
  exact ⟨Int.natCast_nonneg x,by show (x:Int) < n;omega⟩
theorem aQs {n:Nat} (q:List Int):(extO n q).length<=n:=by
 unfold extO
 rw [List.length_map]
 exact Nat.le_trans (List.length_filter_le _ _) (by rw [List.length_range];exact Nat.le_refl _)
theorem ext_loop {n:Nat} (hn:n<=3) {q:List Int} (hq:q.length<=100) {out:List (List Int)} (ho:out.length<=1000):loop (fun s:List (List Int) × Int=>oJ (n:Int) q s.1 s.2) (out,0)=some (out++extO n q):=by
 have:=tR (step:=fun s:List (List Int) × Int=>oJ (n:Int) q s.1 s.2) n (fun k (a:List (List Int))=>(a,(k:Int)))
  (fun k a=>a++((List.range' k (n - k)).filter fun v=>!(q.any fun z=>(Int.ofNat v) == z)).map fun v=>q++[Int.ofNat v]) (fun k a=>a.length<=1000+k) (fun k a hk hI=>?_) (fun a hI=>?_) n 0 out (by omega) (by omega)
 ·rw [show loop (fun s:List (List Int) × Int=>oJ (n:Int) q s.1 s.2) (out,0)=_ from this,Nat.sub_zero,←List.range_eq_range']
  rfl
 ·left
  have hr:List.range' k (n - k)=k::List.range' (k+1) (n - (k+1)):=by
   rw [show n - k=(n - (k+1))+1 by omega,List.range'_succ]
  have hw:=bQ hk (show n < 4611686018427387904 by omega)
  have hc:dF q (k:Int)=some (q.any fun z=>(Int.ofNat k) == z):=aDP q (k:Int) (by omega)
  rw [hr,List.filter_cons]
  cases hb:q.any (fun z=>(Int.ofNat k) == z) with
  |true=>
   refine ⟨a,?_,by omega,by simp⟩
   show oJ (n:Int) q a (k:Int)=_
   unfold oJ
   rw [if_pos (bU hk),hc,aA,hb,if_neg (by simp)]
   unfold aBi
   rw [hw]
  |false=>
   refine ⟨a++[q++[(k:Int)]],?_,by rw [List.length_append,List.length_singleton];omega,?_⟩
   ·show oJ (n:Int) q a (k:Int)=_
    unfold oJ
    rw [if_pos (bU hk),hc,aA,hb,if_pos (by simp)]
    unfold bY
    rw [dC (by simp [jT];omega),aA,aA,List.nil_append,dC (by simp [jT];omega),aA,dC (by simp [jT];omega),aA]
    unfold aBi
    rw [hw]
   ·rw [if_pos (by simp),List.map_cons,List.append_assoc];rfl
 ·show oJ (n:Int) q a (n:Int)=_
  unfold oJ
  rw [if_neg (by simp)]
  simp
theorem exts_loop {n:Nat} (hn:n<=3) {out:List (List Int)} (ho:out.length<=200) (hq:∀ q∈out,q.length<=100):loop (fun s:List (List Int) × Int=>sM (n:Int) out s.1 s.2) ([],0)=some (out.flatMap (extO n)):=by
 have:=lH (step:=fun s:List (List Int) × Int=>sM (n:Int) out s.1 s.2) out (fun k (a:List (List Int))=>(a,(k:Int))) (fun l a=>a++l.flatMap (extO n)) (fun k a=>a.length<=3 * k) (fun k a x l hk hx hI=>?_) (fun a hI=>?_) (a:=[]) (by simp)
 ·rw [show loop (fun s:List (List Int) × Int=>sM (n:Int) out s.1 s.2) ([],0)=_ from this];rfl
 ·left
  have hI':a.length<=3 * k:=hI
  have hxl:=aQs (n:=n) x
  refine ⟨a++extO n x,?_,by rw [List.length_append];omega,by rw [List.flatMap_cons,List.append_assoc]⟩
  show sM (n:Int) out a (k:Int)=_
  unfold sM
  rw [if_pos (bU hk),hx,aA,ext_loop hn (hq x (uN hx)) (by omega),aA]
  unfold aHb aEW
  rw [bQ hk (by omega)]
 ·show sM (n:Int) out a (out.length:Int)=_
  unfold sM
  rw [if_neg (by simp)]
  simp
theorem aMC {n:Nat} (hn:n<=3):∀ v,v<=3->(xS n v).length<=3 ^ v
 |0,_=>by simp [xS]
 |v+1,h=>by
  have h1:=aMC hn v (by omega)
  have h2:=aDZ (f:=extO n) (c:=3) (xS n v) fun q _=>Nat.le_trans (aQs q) hn
  unfold xS
  rw [Nat.pow_succ];omega
theorem orders_eq {n:Nat} (hn:n<=3):aHc (n:Int)=some (xS n n):=by
 unfold aHc
 have:=tR (step:=fun s:List (List Int) × Int=>uU (n:Int) s.1 s.2) n (fun k (a:List (List Int))=>(a,(k:Int))) (fun _ _=>xS n n) (fun k a=>a=xS n k) (fun k a hk hI=>?_) (fun a hI=>?_) n 0 [[]] (by omega) rfl
 ·rw [show loop (fun s:List (List Int) × Int=>uU (n:Int) s.1 s.2) ([[]],0)=_ from this,aA];rfl
 ·left
  subst hI
  have h1:=aMC hn k (by omega)
  have h2:3 ^ k<=27:=by
   have:k=0\/k=1\/k=2:=by omega
   rcases this with rfl|rfl|rfl<;>decide
  refine ⟨xS n (k+1),?_,rfl,rfl⟩
  show uU (n:Int) (xS n k) (k:Int)=_
  unfold uU
  rw [if_pos (bU hk),exts_loop hn (by omega) (fun q hq=>by have:=((aHu k q).1 hq).1;omega),aA]
  unfold aHa aEV
  rw [bQ hk (by omega)];rfl
 ·subst hI
  show uU (n:Int) (xS n n) (n:Int)=_
  unfold uU
  rw [if_neg (by simp)]
theorem max_at {p:List Int} (h1:1<=p.length) (hl:p.length < 1000000):∃ r,fN p=some r/\r∈p/\∀ z∈p,z<=r:=by
 have key0:=lO (step:=fun s:Int × Int=>dA p s.1 s.2) p.length (fun i (a:Int)=>(a,(i:Int)))
  (fun i a=>a∈p.take i/\∀ z∈p.take i,z<=a) (fun r=>r∈p/\∀ z∈p,z<=r) (fun i a hi hI=>?_) (fun a hI=>?_) (p.length - 1) 1 (p[0]'(by omega)) (by omega) ?_
 ·obtain ⟨r,g1,g2⟩:=key0
  have g1':loop (fun s:Int × Int=>dA p s.1 s.2) (p[0]'(by omega),1)=some r:=g1
  refine ⟨r,?_,g2⟩
  unfold fN
  rw [if_neg (by simp;omega)]
  unfold iJ
  rw [show (0:Int)=((0:Nat):Int) from rfl,cG (xs:=p) (k:=0) (by omega),aA,g1',aA]
  rfl
 ·have htk:p.take (i+1)=p.take i++[p[i]]:=by rw [List.take_add_one,List.getElem?_eq_getElem hi];rfl
  simp only [dA,bU hi,if_pos,cG hi,aA,bQ hi (show p.length < 4611686018427387904 by omega)]
  refine ⟨_,rfl,?_⟩
  obtain ⟨h2,h3⟩:=hI
  rw [htk]
  unfold mxI
  by_cases h:p[i] > a
  ·rw [if_pos h]
   refine ⟨List.mem_append_right _ (by simp),fun z hz=>?_⟩
   rcases List.mem_append.1 hz with hz|hz
   ·have:=h3 z hz;omega
   ·simp at hz;subst hz;omega
  ·rw [if_neg h]
   refine ⟨List.mem_append_left _ h2,fun z hz=>?_⟩
   rcases List.mem_append.1 hz with hz|hz
   ·exact h3 z hz
   ·simp at hz;subst hz;omega
 ·refine ⟨a,by simp only [dA,dB];rfl,?_⟩
  rwa [List.take_length] at hI
 ·have:p.take 1=[p[0]'(by omega)]:=by
   rcases p with _|⟨a,l⟩
   ·simp at h1
   ·simp
  rw [this]
  exact ⟨by simp,fun z hz=>by simp at hz;subst hz;omega⟩
def Bst9 (m:aO) (kd:Int) (l:List (List Int)) (best:List Int) (least:Int):Prop:=
 (least=-1/\∀ q∈l,∀ t sizes,dS m q kd≠some (t,sizes,0))\/
 (1<=least/\best.length=m.Parts.length/\∀ q∈l,∀ t sizes,dS m q kd=some (t,sizes,0)->∃ z∈sizes,least<=z)
theorem best_at {m:aO} (hd:aKG m) {kd:Int} (hkd:kd=0\/kd=1\/kd=2):∃ best least c,aCT m kd=some (best,least,c)/\∀ o,o.Perm ((List.range m.Parts.length).map Int.ofNat)->∀ t sizes,dS m o kd=some (t,sizes,0)->c=0/\best.length=m.Parts.length/\1<=least/\∃ z∈sizes,least<=z:=by
 have hml:=hd.len
 have hv:=aJy hd (⟨hd.ok,rfl,rfl,rfl⟩:Nt m m)
 have hred:sZ kd=some true:=by
  unfold sZ
  rw [aBv,aA]
  rcases hkd with rfl|rfl|rfl<;>rfl
 have hlen:=aMC (n:=m.Parts.length) (by omega) m.Parts.length (by omega)
 have h27:3 ^ m.Parts.length<=27:=by
  have:m.Parts.length=2\/m.Parts.length=3:=by omega
  rcases this with e|e<;>rw [e]<;>decide
 have key:=lO (step:=fun s:List Int × Int × Int=>jD m kd (xS m.Parts.length m.Parts.length) s.1 s.2.1 s.2.2) (xS m.Parts.length m.Parts.length).length (fun k (a:List Int × Int)=>(a.1,a.2,(k:Int)))
  (fun k a=>Bst9 m kd ((xS m.Parts.length m.Parts.length).take k) a.1 a.2) (fun a=>Bst9 m kd (xS m.Parts.length m.Parts.length) a.1 a.2) (fun k a hk hI=>?_) (fun a hI=>?_) (xS m.Parts.length m.Parts.length).length 0 ([],-1) (by omega) (.inl ⟨rfl,by simp⟩)
 ·obtain ⟨r,e1,hr⟩:=key
  have e1':loop (fun s:List Int × Int × Int=>jD m kd (xS m.Parts.length m.Parts.length) s.1 s.2.1 s.2.2) ([],-1,0)=some r:=e1
  unfold aCT
  rw [hv,aA,if_neg (by simp),hred,aA,if_neg (by simp),orders_eq (by omega),aA,e1',aA]
  unfold aEp
  rcases hr with ⟨h1,h2⟩|⟨h1,h2,h3⟩
  ·rw [if_pos (by rw [h1];decide)]
   exact ⟨_,_,_,rfl,fun o ho t sizes ht=>absurd ht (h2 o (aNK ho) t sizes)⟩
  ·rw [if_neg (by simp;omega)]
   exact ⟨_,_,_,rfl,fun o ho t sizes ht=>⟨rfl,h2,h1,h3 o (aNK ho) t sizes ht⟩⟩
 ·obtain ⟨best,least⟩:=a
  have hI:Bst9 m kd ((xS m.Parts.length m.Parts.length).take k) best least:=hI
  have hw:=bQ hk (show (xS m.Parts.length m.Parts.length).length < 4611686018427387904 by omega)
  have hmem:=List.getElem_mem hk
  generalize hq:(xS m.Parts.length m.Parts.length)[k]=q at hmem
  have htk:(xS m.Parts.length m.Parts.length).take (k+1)=(xS m.Parts.length m.Parts.length).take k++[q]:=by rw [List.take_add_one,List.getElem?_eq_getElem hk,hq];rfl
  have hqp:=ordL_perm hmem
  have hql:q.length=m.Parts.length:=by rw [hqp.length_eq,List.length_map,List.length_range]
  obtain ⟨t,sizes,c,h1,h2⟩:=aMB hd hkd hqp
  have hix:ix (xS m.Parts.length m.Parts.length) (k:Int)=some q:=by rw [cG hk,hq]
  rw [htk]
  by_cases hc:c=0
  ·subst hc
   have hC:=(h2.resolve_left (by decide)).2
   have hsl:=hC.sl
   obtain ⟨r,r1,r2,r3⟩:=max_at (p:=sizes++[0]) (by simp) (by rw [List.length_append,List.length_singleton];omega)
   have hs0:0 < sizes.length:=by omega
   have hz0:=hC.sz _ (List.getElem_mem hs0)
   have hr0:=r3 _ (List.mem_append_left [0] (List.getElem_mem hs0))
   have hrm:r∈sizes:=by
    rcases List.mem_append.1 r2 with h|h
    ·exact h
    ·rw [List.mem_singleton] at h;omega
   have hstep:∀ b:Bool,(b=true->least < 0\/r < least)->(b=false->0<=least/\least<=r)->oK best least (k:Int) q r b=some (.inl (if b=true then q else best,if b=true then r else least,((k+1:Nat):Int)))/\Bst9 m kd ((xS m.Parts.length m.Parts.length).take k++[q]) (if b=true then q else best) (if b=true then r else least):=fun b hb1 hb2=>by
    unfold oK qX
    cases b with
    |true=>
     rw [if_pos rfl,hw]
     refine ⟨rfl,.inr ⟨by simp only [if_true];omega,by simp only [if_true];exact hql,fun p hp t' s' ht'=>?_⟩⟩
     simp only [if_true]
     rcases List.mem_append.1 hp with hp|hp
     ·rcases hI with ⟨i1,i2⟩|⟨i1,i2,i3⟩
      ·exact absurd ht' (i2 p hp t' s')
      ·obtain ⟨z,hz,hle⟩:=i3 p hp t' s' ht'
       exact ⟨z,hz,by have:=hb1 rfl;omega⟩
     ·rw [List.mem_singleton] at hp
      subst hp
      rw [h1] at ht'
      simp only [Option.some.injEq,Prod.mk.injEq] at ht'
      obtain ⟨_,rfl,_⟩:=ht'
      exact ⟨r,hrm,Int.le_refl _⟩
    |false=>
     have hb:=hb2 rfl
     rw [if_neg (by simp),hw]
     refine ⟨rfl,?_⟩
     rcases hI with ⟨i1,i2⟩|⟨i1,i2,i3⟩
     ·omega
     ·refine .inr ⟨by simpa using i1,by simpa using i2,fun p hp t' s' ht'=>?_⟩
      simp only [Bool.false_eq_true,if_false]
      rcases List.mem_append.1 hp with hp|hp
      ·exact i3 p hp t' s' ht'
      ·rw [List.mem_singleton] at hp
       subst hp
       rw [h1] at ht'
       simp only [Option.some.injEq,Prod.mk.injEq] at ht'
       obtain ⟨_,rfl,_⟩:=ht'
       exact ⟨r,hrm,hb.2⟩
   have hlhs:∀ b:Bool,oK best least (k:Int) q r b=jD m kd (xS m.Parts.length m.Parts.length) best least (k:Int)->((b=true->least < 0\/r < least)/\(b=false->0<=least/\least<=r))->∃ a':List Int × Int,jD m kd (xS m.Parts.length m.Parts.length) best least (k:Int)=some (.inl (a'.1,a'.2,((k+1:Nat):Int)))/\Bst9 m kd ((xS m.Parts.length m.Parts.length).take k++[q]) a'.1 a'.2:=fun b he hb=>by
    obtain ⟨s1,s2⟩:=hstep b hb.1 hb.2
    exact ⟨(_,_),by rw [←he];exact s1,s2⟩
   have hun:jD m kd (xS m.Parts.length m.Parts.length) best least (k:Int)=if (decide (least < 0))=true then oK best least (k:Int) q r true else oK best least (k:Int) q r (decide (r < least)):=by
    unfold jD
    rw [if_pos (bU hk),hix,aA,h1,aA]
    simp only
    rw [if_neg (by simp),dC (by simp [jT];omega),aA,r1,aA]
   by_cases hneg:least < 0
   ·rw [if_pos (by simpa using hneg)] at hun
    exact hlhs true hun.symm ⟨fun _=>.inl hneg,by simp⟩
   ·rw [if_neg (by simpa using hneg)] at hun
    exact hlhs _ hun.symm ⟨fun h=>.inr (by simpa using h),fun h=>⟨by omega,by simpa using h⟩⟩
  ·refine ⟨(best,least),?_,?_⟩
   ·show jD m kd (xS m.Parts.length m.Parts.length) best least (k:Int)=_
    unfold jD
    rw [if_pos (bU hk),hix,aA,h1,aA]
    simp only
    rw [if_pos (by simpa using hc)]
    unfold qX
    rw [hw]
   ·have hno:∀ t' s',dS m q kd≠some (t',s',0):=fun t' s' h=>by
     rw [h1] at h
     simp only [Option.some.injEq,Prod.mk.injEq] at h
     exact hc h.2.2
    rcases hI with ⟨i1,i2⟩|⟨i1,i2,i3⟩
    ·refine .inl ⟨i1,fun p hp t' s'=>?_⟩
     rcases List.mem_append.1 hp with hp|hp
     ·exact i2 p hp t' s'
     ·rw [List.mem_singleton] at hp;subst hp;exact hno t' s'
    ·refine .inr ⟨i1,i2,fun p hp t' s' ht'=>?_⟩
     rcases List.mem_append.1 hp with hp|hp
     ·exact i3 p hp t' s' ht'
     ·rw [List.mem_singleton] at hp;subst hp;exact absurd ht' (hno t' s')
 ·obtain ⟨best,least⟩:=a
  refine ⟨(best,least),?_,by rw [List.take_length] at hI;exact hI⟩
  show jD m kd (xS m.Parts.length m.Parts.length) best least ((xS m.Parts.length m.Parts.length).length:Int)=_
  unfold jD
  rw [if_neg (by simp)]
end Gv
namespace Gv
open Go
theorem aRx {o:List Int} {n:Nat} (hn:n<=3) (ho:o.Perm ((List.range n).map Int.ofNat)):aFD o (n:Int)=some true:=by
 have hol:o.length=n:=by rw [ho.length_eq,List.length_map,List.length_range]
 have hs:fS (rO (fun a b:Int=>decide (a < b)) o)=(List.range n).map Int.ofNat:=by
  refine aJR (fun a b:Int=>decide (a < b)) (fun a=>by simp) (fun {a b c} h1 h2=>by simp at h1 h2 ⊢;omega) (fun a b=>by simp;omega) ?_ (fun x=>ho.mem_iff)
  rw [List.pairwise_map]
  refine List.Pairwise.imp ?_ List.pairwise_lt_range
  intro a b h
  show decide ((a:Int) < (b:Int))=true
  simp;omega
 unfold aFD aES bY
 rw [dC (by simp [jT];omega),aA,aA,List.nil_append]
 have hsi:tU o=some (rO (fun a b:Int=>decide (a < b)) o):=by
  unfold tU
  rw [if_pos (by unfold jT;omega)]
 rw [hsi,aA,aFc _ (by unfold rO;rw [List.length_mergeSort];omega),aA,aA,hs,aJu (by omega),aA,aHM _ _ (by rw [List.length_map,List.length_range];omega),aA,if_pos (by simp)]
 unfold aDN
 rw [hol];simp
theorem top_at {sizes:List Int} (hl:sizes.length<=1000) (t:bA) (c:Int):∃ r,loop (fun s:Int × Int=>kL (t,sizes,c) s.1 s.2) (0,0)=some r/\∀ z∈sizes,z<=r:=by
 obtain ⟨r,h1,h2⟩:=lO (step:=fun s:Int × Int=>kL (t,sizes,c) s.1 s.2) sizes.length (fun k (a:Int)=>(a,(k:Int))) (fun k a=>∀ z∈sizes.take k,z<=a) (fun r=>∀ z∈sizes,z<=r) (fun k a hk hI=>by
  have htk:sizes.take (k+1)=sizes.take k++[sizes[k]]:=by rw [List.take_add_one,List.getElem?_eq_getElem hk];rfl
  refine ⟨mxI a sizes[k],?_,fun z hz=>?_⟩
  ·show kL (t,sizes,c) a (k:Int)=_
   unfold kL
   rw [if_pos (bU hk)]
   simp only
   rw [cG hk,aA,bQ hk (by omega)]
  ·rw [htk] at hz
   unfold mxI
   rcases List.mem_append.1 hz with hz|hz
   ·have:=hI z hz
    split<;>omega
   ·rw [List.mem_singleton] at hz
    subst hz
    split<;>omega) (fun a hI=>by
  refine ⟨a,?_,by rw [List.take_length] at hI;exact hI⟩
  show kL (t,sizes,c) a (sizes.length:Int)=_
  unfold kL
  rw [if_neg (by simp)]) sizes.length 0 0 (by omega) (by simp)
 exact ⟨r,h1,h2⟩
theorem lawCompo (cs ms:aH):xO cs ms=some true:=by
 obtain ⟨b,hb⟩:=long_ok cs ms
 unfold xO
 rw [hb,aA]
 cases b with
 |true=>rw [if_pos rfl]
 |false=>
  rw [if_neg (by simp)]
  obtain ⟨n,o,e1,hd,ho⟩:=r8net cs
  have hml:=hd.len
  have hol:o.length=n.Parts.length:=by rw [ho.length_eq,List.length_map,List.length_range]
  obtain ⟨kd,e2,k1,k2⟩:=at_ok ms (k:=0) (n:=3) (by omega) (by omega)
  have hkd:kd=0\/kd=1\/kd=2:=by omega
  have hnt:Nt n n:=⟨hd.ok,rfl,rfl,rfl⟩
  obtain ⟨tw,Fw,cw,f1,f2⟩:=aMA hd hnt
  obtain ⟨t,sizes,c,g1,g2⟩:=aMB hd hkd ho
  have hred:sZ kd=some true:=by
   unfold sZ
   rw [aBv,aA]
   rcases hkd with rfl|rfl|rfl<;>rfl
  have g1':uE n o kd=some (t,sizes,c):=by
   unfold uE
   rw [aJy hd hnt,aA,if_neg (by simp),aRx (by omega) ho,aA,if_neg (by simp),hred,aA]
   unfold tP
   rw [if_neg (by simp),g1,aA]
  rw [e1,aA]
  simp only
  rw [e2,aA,f1,aA,g1',aA]
  simp only
  have htrue:kM (n,o) kd (tw,Fw,cw) (t,sizes,c) true=some true:=by
   unfold kM
   rw [if_pos rfl]
  by_cases c1:cw=5
  ·rw [if_pos (by simpa using c1)];exact htrue
  rw [if_neg (by simpa using c1)]
  by_cases c2:c=5
  ·rw [show (c == 5)=true by simpa using c2];exact htrue
  rw [show (c == 5)=false by simpa using c2]
  obtain ⟨rfl,hE⟩:=f2.resolve_left c1
  obtain ⟨rfl,hC⟩:=g2.resolve_left c2
  have hsl:=hC.sl
  have hal:Al kd (nX tw) tw.I (nX t) t.I:=((hE.al kd).symm).trans hC.al
  have hbr:=aPj hE.ok hC.ok hE.fits hC.fits hal
  obtain ⟨best,least,cb,b1,b2⟩:=best_at hd hkd
  obtain ⟨rfl,b3,b4,z,hz,hle⟩:=b2 o ho t sizes g1
  obtain ⟨top,t1,t2⟩:=top_at (sizes:=sizes) (by omega) t 0
  have htop:=t2 z hz
  have hj4:mC (n,o) kd (t,sizes,0)=some true:=by
   unfold mC
   simp only
   rw [b1,aA,t1,aA]
   unfold sO mB
   simp only
   rw [if_pos (by decide),if_pos (by simp;omega),if_pos (by simpa using b4)]
   congr 1
   simp;omega
  unfold kM
  rw [if_neg (by simp)]
  simp only
  rw [if_neg (by simp),if_neg (by simp),gA (by omega) (by omega),show ((sizes.length:Int) != (o.length:Int) - 1)=false by simp;omega]
  unfold mD
  rw [if_neg (by simp)]
  simp only
  rw [hbr,aA,if_neg (by simp)]
  unfold oL
  rw [if_neg (by simp)]
  simp only
  by_cases h0:kd=0
  ·subst h0
   rw [if_pos (by decide),aPk hE.ok hC.ok hE.fits hC.fits hal,aA,if_neg (by simp)]
   unfold sP
   rw [if_neg (by simp)]
   exact hj4
  ·rw [if_neg (by simpa using h0)]
   exact hj4
end Gv
