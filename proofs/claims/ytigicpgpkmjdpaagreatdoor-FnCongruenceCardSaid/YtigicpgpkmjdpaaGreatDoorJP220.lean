/- The program's least system for branching bisimilarity with divergence is like the system itself. -/
import Derived.Test.YtigicpgpkmjdpaaGreatDoorJP210
set_option linter.all false
namespace Gv
open Go
theorem aCU {t:bB} (h:bW t):yM t:=by
 obtain ⟨L,e,hs⟩:=h.2.2.1.cons
 exact ⟨(aJs h).hug,L,e,hs⟩
theorem blocksC {p:List Int} (hl:p.length < 1000000) (h1:1<=p.length) (hp:∀ z∈p,0<=z/\z < 40):∃ b,xC p=some b/\aJM p b:=by
 have h0:=hp _ (List.getElem_mem (show 0 < p.length by omega))
 have key0:=gS (step:=fun s:Int × Int=>gN p s.1 s.2) p.length (fun i (a:Int)=>(a,(i:Int)))
  (fun i a=>aJM (p.take i) (a+1)) (fun r=>aJM p (r+1)) (fun i a hi hI=>?_) (fun a hI=>?_) (p.length - 1) 1 (p[0]'(by omega)) (by omega) ?_
 ·obtain ⟨r,g1,g2⟩:=key0
  have g1':loop (fun s:Int × Int=>gN p s.1 s.2) (p[0]'(by omega),1)=some r:=g1
  refine ⟨r+1,?_,g2⟩
  obtain ⟨⟨z,hz,e⟩,_⟩:=g2
  have hzz:=hp z hz
  unfold xC kY
  rw [if_neg (by simp;omega)]
  unfold jU
  rw [show (0:Int)=((0:Nat):Int) from rfl,bR (xs:=p) (k:=0) (by omega),aA,g1',aA]
  simp only [mK,aA]
  rw [dS (by omega) (by omega)]
 ·have hz:=hp _ (List.getElem_mem hi)
  have htk:p.take (i+1)=p.take i++[p[i]]:=by rw [List.take_add_one,List.getElem?_eq_getElem hi];rfl
  simp only [gN,bU hi,if_pos,bR hi,aA,bK hi (show p.length < 4611686018427387904 by omega)]
  refine ⟨_,rfl,?_⟩
  obtain ⟨⟨x,hx,h2⟩,h3⟩:=hI
  rw [htk]
  unfold mxI
  by_cases h:p[i] > a
  ·rw [if_pos h]
   refine ⟨⟨p[i],List.mem_append_right _ (by simp),rfl⟩,fun z hz=>?_⟩
   rcases List.mem_append.1 hz with hz|hz
   ·have:=h3 z hz;omega
   ·simp at hz;subst hz;omega
  ·rw [if_neg h]
   refine ⟨⟨x,List.mem_append_left _ hx,h2⟩,fun z hz=>?_⟩
   rcases List.mem_append.1 hz with hz|hz
   ·exact h3 z hz
   ·simp at hz;subst hz;omega
 ·refine ⟨a,by simp only [gN,cO];rfl,?_⟩
  rwa [List.take_length] at hI
 ·have:p.take 1=[p[0]'(by omega)]:=by
   rcases p with _|⟨a,l⟩
   ·simp at h1
   ·simp
  rw [this]
  exact ⟨⟨_,by simp,rfl⟩,fun z hz=>by simp at hz;subst hz;omega⟩
section
variable {t:bB} {p:List Int}
def qE1 (t:bB) (p:List Int):List Edge:=(t.E.filter fun e=>!inL p e).map fun e=>(⟨bk p e.F,e.B,bk p e.To⟩:Edge)
noncomputable def qE2 (t:bB) (p:List Int):List Edge:=((List.range t.N.toNat).filter fun k=>(aCr (dK t p)).getD k false).map fun k=>(⟨p.getD k 0,0,p.getD k 0⟩:Edge)
noncomputable def quoB (t:bB) (p:List Int) (b:Int):bB:=⟨b,bk p t.I,t.L,eC (qD bM (eC (qD bM (qE1 t p))++qE2 t p))⟩
theorem aKr:(qE1 t p).length<=t.E.length:=by unfold qE1;rw [List.length_map];exact List.length_filter_le _ _
theorem qE2_len:(qE2 t p).length<=t.N.toNat:=by
 unfold qE2
 rw [List.length_map]
 exact Nat.le_trans (List.length_filter_le _ _) (by rw [List.length_range];exact Nat.le_refl _)
theorem tidy_eq {a b:Int} {L:List aI} {E:List Edge} (h:E.length < 1000000):uN a b L E=some (eC (qD bM E)):=by
 unfold uN mE
 rw [if_pos (by unfold jA;omega),aA,aHA _ (by unfold qD;rw [List.length_mergeSort];omega),aA]
theorem keep_c1 (hv:bW t) (hp:iC t p) {e:Edge} (he:e∈t.E):jJ e p=some (!inL p e):=by
 obtain ⟨h1,h2,_⟩:=pP hv he
 unfold jJ kD inL
 by_cases h0:e.B=0
 ·rw [if_neg (by simpa using h0),(jX hp h1).1,aA,(jX hp h2).1,aA,h0]
  simp [bne]
 ·rw [if_pos (by simpa using h0)]
  have:(e.B == 0)=false:=by simpa using h0
  rw [this];rfl
theorem quo1_eq (hv:bW t) (hp:iC t p) {b:Int} (hb:xC p=some b):vZ t p p=some ⟨b,bk p t.I,t.L,eC (qD bM (qE1 t p))⟩:=by
 have h300:=hv.2.2.2.1
 have h12:=hv.2.2.1.2.1
 have h40:=hv.1
 have hi:=hv.2.1
 unfold vZ
 rw [bk_ix hp.1 (s:=t.I) (by omega),aA,hb,aA,aJn _ (by unfold jA;omega),aA]
 unfold vC
 have hl:=aAo (step:=fun s:List Edge × Int=>nJ t p p s.1 s.2) t.E (fun e=>!inL p e) (fun e=>(⟨bk p e.F,e.B,bk p e.To⟩:Edge)) id (fun k out x hk ho hx=>by
  have hm:=aBx hx
  have hT:=pP hv hm
  have h1:=hT.1
  have h2:=hT.2.1
  unfold inT at h1 h2
  have hw:=bK hk (show t.E.length < 4611686018427387904 by omega)
  show nJ t p p out (k:Int)=_
  unfold nJ
  rw [if_pos (bU hk),hx,aA,keep_c1 hv hp hm,aA]
  cases hc:!inL p x with
  |true=>
   rw [if_pos rfl,if_pos rfl,bk_ix hp.1 (s:=x.F) (by omega),aA,bk_ix hp.1 (s:=x.To) (by omega),aA,cQ (by simp [jA];omega),aA]
   unfold nI
   rw [hw]
  |false=>
   rw [if_neg (by simp),if_neg (by simp)]
   unfold nI
   rw [hw]) (fun out=>by simp only [nJ,cO];rfl)
 rw [hl,aA]
 unfold vB
 have:=aKr (t:=t) (p:=p)
 rw [show id ((t.E.filter fun e=>!inL p e).map fun e=>(⟨bk p e.F,e.B,bk p e.To⟩:Edge))=qE1 t p from rfl,tidy_eq (by omega),aA]
theorem quo2_eq (hv:bW t) (hp:iC t p) {E:List Edge} (hE:E.length<=300):loop (fun s:List Edge × Int=>fF p (aCr (dK t p)) s.1 s.2) (E,0)=some (E++qE2 t p):=by
 have h40:=hv.1
 have hd:=(aKk (aEY (q:=p) (aCU hv)).big).2.len
 have hd':(aCr (dK t p)).length=t.N.toNat:=hd
 have:=aNB (step:=fun s:List Edge × Int=>fF p (aCr (dK t p)) s.1 s.2) (List.range t.N.toNat) (fun k=>(aCr (dK t p)).getD k false) (fun k=>(⟨p.getD k 0,0,p.getD k 0⟩:Edge)) id 300 (fun k out x hk ho hx=>by
  rw [List.length_range] at hk
  have hxk:x=k:=by rw [sT,List.getElem?_range hk] at hx;exact (Option.some.inj hx).symm
  subst hxk
  have hkd:x < (aCr (dK t p)).length:=by omega
  have hw:=bK hkd (show (aCr (dK t p)).length < 4611686018427387904 by omega)
  show fF p (aCr (dK t p)) out (x:Int)=_
  unfold fF
  have hg:(aCr (dK t p)).getD x false=(aCr (dK t p))[x]:=by rw [List.getD_eq_getElem?_getD,List.getElem?_eq_getElem hkd];rfl
  rw [if_pos (bU hkd),bR hkd,aA,hg]
  cases (aCr (dK t p))[x] with
  |true=>
   have hpx:ix p (x:Int)=some (p.getD x 0):=by
    have:=(jX hp (s:=(x:Int)) (by unfold inT;omega)).1
    rw [Int.toNat_natCast] at this;exact this
   rw [if_pos rfl,if_pos rfl,hpx,aA,cQ (by simp [jA];omega),aA]
   unfold gO
   rw [hw]
  |false=>
   rw [if_neg (by simp),if_neg (by simp)]
   unfold gO
   rw [hw]) (fun out=>by
  rw [List.length_range,←hd']
  simp only [fF,cO];rfl) (o:=E) hE
 rw [this];rfl
theorem quoB_eq (hv:bW t) (hp:iC t p) {b:Int} (hb:xC p=some b):kV t p true=some (quoB t p b):=by
 have h300:=hv.2.2.2.1
 have h40:=hv.1
 have hu:=aCU hv
 have hl1:=aKr (t:=t) (p:=p)
 have hl2:=qE2_len (t:=t) (p:=p)
 have hl3:=aDO (qE1 t p)
 unfold kV
 rw [quo1_eq hv hp hb,aA,if_pos rfl,aOM hu.big hp,aA,(aKk (aEY (q:=p) hu).big).1,aA]
 simp only
 rw [quo2_eq hv hp (by omega),aA]
 unfold pH
 rw [tidy_eq (by rw [List.length_append];omega),aA]
 rfl
theorem quoB_quo (hv:bW t) (b:Int):Quo t p (quoB t p b):=by
 have hu:=aCU hv
 refine ⟨rfl,fun e=>?_⟩
 show e∈eC (qD bM _)<->_
 rw [aAY,List.mem_append,aAY]
 refine or_congr ?_ ?_
 ·unfold qE1
  rw [List.mem_map]
  constructor
  ·rintro ⟨d,hd,rfl⟩
   obtain ⟨h1,h2⟩:=List.mem_filter.1 hd
   refine ⟨d,h1,fun hn=>?_,rfl⟩
   rw [xJ.2 hn] at h2;cases h2
  ·rintro ⟨d,hd,hn,rfl⟩
   refine ⟨d,List.mem_filter.2 ⟨hd,?_⟩,rfl⟩
   cases h:inL p d with
   |false=>rfl
   |true=>exact absurd (xJ.1 h) hn
 ·unfold qE2
  rw [List.mem_map]
  constructor
  ·rintro ⟨k,hk,rfl⟩
   obtain ⟨h1,h2⟩:=List.mem_filter.1 hk
   rw [List.mem_range] at h1
   have hin:inT t (k:Int):=by unfold inT;omega
   exact ⟨(k:Int),hin,(aNG hu hin).1 (by rw [Int.toNat_natCast];exact h2),by rw [Int.toNat_natCast]⟩
  ·rintro ⟨k,hk,hd,rfl⟩
   have hk':=hk
   unfold inT at hk'
   exact ⟨k.toNat,List.mem_filter.2 ⟨by rw [List.mem_range];omega,(aNG hu hk).2 hd⟩,rfl⟩
theorem aMB {c:bB} (hv:bW t) (hp:iC t p) {b:Int} (ht:aJM p b) (hq:Quo t p c) (hs:c.N=b) (hi:c.I=p.getD t.I.toNat 0) (hse:SE c.E) (hl:c.E.length<=300):bW c:=by
 have h1:=hv.1
 have h2:=hv.2.1
 have hz:∀ s,inT t s->0<=p.getD s.toNat 0/\p.getD s.toNat 0<=b - 1:=fun s hs=>by
  have hb:=(jX hp hs).2
  have hs':=hs
  unfold inT at hs'
  have:=ht.2 (p.getD s.toNat 0) (by
   rw [List.getD_eq_getElem?_getD,List.getElem?_eq_getElem (by rw [hp.1];omega)];exact List.getElem_mem _)
  omega
 have hini:=hz t.I (by unfold inT;omega)
 obtain ⟨⟨z,hz1,hz2⟩,_⟩:=ht
 have hz3:=hp.2 z hz1
 refine ⟨by rw [hs];omega,by rw [hs,hi];exact hini,by rw [hq.lab];exact hv.2.2.1,aGI hl hse fun e he=>?_⟩
 rcases (hq.ed e).1 he with ⟨d,hd,_,rfl⟩|⟨k,hk,_,rfl⟩
 ·obtain ⟨g1,g2,g3⟩:=pP hv hd
  have a1:=hz _ g1
  have a2:=hz _ g2
  refine ⟨?_,?_,?_⟩
  ·rw [hs];exact a1
  ·rw [hs];exact a2
  ·rw [hq.lab];exact ⟨g3.1,by show d.B<=_;omega⟩
 ·have a1:=hz _ hk
  have hlab:=hv.2.2.1.1
  refine ⟨?_,?_,?_⟩
  ·rw [hs];exact a1
  ·rw [hs];exact a1
  ·rw [hq.lab];exact ⟨by show (0:Int)<=0;omega,by show (0:Int)<=_;omega⟩
def RQ (t:bB) (p:List Int) (x c:Int):Prop:=x∈RL t/\inT (sS t (RL t)) (pos (RL t) x)/\c=p.getD (pos (RL t) x).toNat 0
theorem RL_mem (hv:bW t) {x:Int}:x∈RL t<->0<=x/\Rt t x.toNat:=by
 unfold RL
 rw [List.mem_map]
 constructor
 ·rintro ⟨k,hk,rfl⟩
  exact ⟨Int.natCast_nonneg k,aGG.1 (List.mem_filter.1 hk).2⟩
 ·rintro ⟨h0,hr⟩
  exact ⟨x.toNat,List.mem_filter.2 ⟨by rw [List.mem_range];exact Rt_lt hv hr,aIH hr⟩,by show ((x.toNat:Nat):Int)=x;omega⟩
theorem aMC {S:List Int} {e:Edge}:e∈(sS t S).E<->∃ d∈t.E,0<=pos S d.F/\0<=pos S d.To/\(⟨pos S d.F,d.B,pos S d.To⟩:Edge)=e:=by
 show e∈aCh t S<->_
 unfold aCh
 rw [List.mem_filterMap]
 constructor
 ·rintro ⟨d,hd,he⟩
  simp only [Option.ite_none_right_eq_some,Option.some.injEq] at he
  exact ⟨d,hd,he.1.1,he.1.2,he.2⟩
 ·rintro ⟨d,hd,h1,h2,he⟩
  exact ⟨d,hd,by rw [if_pos ⟨h1,h2⟩,he]⟩
theorem aMD {c:bB} (hv:bW t) (hst:Stab (sS t (RL t)) p) (hq:Quo (sS t (RL t)) p c):Bbd t c (RQ t p):=by
 have hr:=aKh hv
 have hQ:=bbd_quo (aCU hr) hst hq
 refine bbd_iso (g:=fun x=>pos (RL t) x) (S:=fun x=>x∈RL t) (R:=fun x y=>inT (sS t (RL t)) x/\y=p.getD x.toNat 0) ?_ ?_ hQ
 ·rintro x l x' hx ⟨e,he,rfl,rfl,rfl⟩
  obtain ⟨h0,h1⟩:=(RL_mem hv).1 hx
  have hT:=(pP hv he).2.1
  unfold inT at hT
  have hx':e.To∈RL t:=(RL_mem hv).2 ⟨hT.1,Rt.step he h1⟩
  exact ⟨hx',⟨pos (RL t) e.F,e.B,pos (RL t) e.To⟩,aMC.2 ⟨e,he,xH.2 hx,xH.2 hx',rfl⟩,rfl,rfl,rfl⟩
 ·rintro x l y hx ⟨e,he,h1,h2,h3⟩
  obtain ⟨d,hd,a1,a2,rfl⟩:=aMC.1 he
  have hdF:d.F∈RL t:=xH.1 a1
  have e1:d.F=x:=aLq hdF hx h1
  exact ⟨d.To,⟨d,hd,e1,h2,rfl⟩,h3.symm,xH.1 a2⟩
theorem aME (hv:bW t):RQ t p t.I (p.getD (sS t (RL t)).I.toNat 0):=by
 have h2:=hv.2.1
 have hin:t.I∈RL t:=(RL_mem hv).2 ⟨h2.1,Rt.init⟩
 have hr:=(aKh hv).2.1
 refine ⟨hin,?_,rfl⟩
 have:pos (RL t) t.I=(sS t (RL t)).I:=rfl
 rw [this]
 unfold inT;omega
structure Like (t c:bB):Prop where
 ex:∃ R,Bbd t c R/\R t.I c.I
 ok:bW c
 lab:∀ s∈c.L,s∈t.L
theorem aQh (hv:bW t) (he:t.E.length+t.N.toNat<=300):∃ c,lH t true=some c/\Like t c/\c.E.length<=t.E.length+t.N.toNat:=by
 have hr:=aKh hv
 have hl:=RL_len t
 have h1:=hv.1
 have hr1:=hr.1
 obtain ⟨p,hp1,hp2⟩:=aJO (aCU hr) true
 have hpl:=hp2.part.1
 obtain ⟨b,hb1,hb2⟩:=blocksC (p:=p) (by omega) (by omega) (fun z hz=>by have:=hp2.part.2 z hz;omega)
 have hq:=quoB_quo (p:=p) hr b
 have hlen:(quoB (sS t (RL t)) p b).E.length<=t.E.length+t.N.toNat:=by
  have k1:=aDO (eC (qD bM (qE1 (sS t (RL t)) p))++qE2 (sS t (RL t)) p)
  have k2:=aDO (qE1 (sS t (RL t)) p)
  have k3:=aKr (t:=sS t (RL t)) (p:=p)
  have k4:=qE2_len (t:=sS t (RL t)) (p:=p)
  have k5:(sS t (RL t)).E.length<=t.E.length:=aDb t (RL t)
  have k6:(sS t (RL t)).N.toNat=(RL t).length:=by show ((RL t).length:Int).toNat=_;omega
  rw [List.length_append] at k1
  show (eC (qD bM _)).length<=_
  omega
 have hok:bW (quoB (sS t (RL t)) p b):=aMB hr hp2.part hb2 hq rfl rfl (aGY _) (by omega)
 refine ⟨_,?_,⟨⟨RQ t p,aMD hv (crs_stab (aCU hr) hp2) hq,aME hv⟩,hok,fun s hs=>hs⟩,hlen⟩
 unfold lH
 rw [aNw hv,aA,part_eq hv (by omega) (RL_pair _),aA]
 unfold lX
 rw [show (⟨(sS t (RL t)).N,(sS t (RL t)).I,(sS t (RL t)).L,(sS t (RL t)).E⟩:bB)=sS t (RL t) from rfl,hp1,aA,quoB_eq hr hp2.part hb1,aA]
end
end Gv
namespace Gv
open Go
theorem put_mem (l:List Int) (n:Int) (hl:l.length<=1000000):∃ l',aGk l n=some l'/\l'.length<=l.length+1/\∀ z,z∈l'<->z=n\/z∈l:=by
 have key:=gS (step:=fun s:List Int × Bool × Int=>vV l n s.1 s.2.1 s.2.2) l.length (fun k (a:List Int × Bool)=>(a.1,a.2,(k:Int))) (fun k a=>a.1.length<=k+(if a.2=true then 1 else 0)/\∀ z,z∈a.1<->(a.2=true/\z=n)\/z∈l.take k)
  (fun r=>r.1.length<=l.length+(if r.2=true then 1 else 0)/\∀ z,z∈r.1<->(r.2=true/\z=n)\/z∈l) (fun k a hk hI=>?_) (fun a hI=>?_) l.length 0 ([],false) (by omega) (by simp)
 ·obtain ⟨⟨o,d⟩,h1,h2,h3⟩:=key
  have h1':loop (fun s:List Int × Bool × Int=>vV l n s.1 s.2.1 s.2.2) (([]:List Int),false,0)=some (o,d):=h1
  unfold aGk
  rw [h1',aA]
  unfold aEf aEe
  simp only at h2 h3 ⊢
  cases d with
  |true=>rw [if_neg (by simp)];exact ⟨_,rfl,by simpa using h2,fun z=>by rw [h3];simp⟩
  |false=>
   simp at h2
   rw [if_pos (by simp),cQ (by simp [jA];omega),aA]
   refine ⟨_,rfl,by simp;omega,fun z=>?_⟩
   rw [List.mem_append,h3,List.mem_singleton]
   simp [or_comm]
 ·obtain ⟨o,d⟩:=a
  obtain ⟨hI,hM⟩:=hI
  simp only at hI hM ⊢
  have hw:wr ((k:Int)+1)=((k+1:Nat):Int):=bK hk (by omega)
  have h3:∀ o':List Int,∀ d',o'.length<=2000000->aAg l (k:Int) o' d'=some (.inl (o'++[l[k]],d',((k+1:Nat):Int))):=fun o' d' ho=>by
   unfold aAg
   rw [bR hk,aA,cQ (by simp [jA];omega),aA,hw]
  have ho:o.length<=k+1:=by
   cases d<;>simp at hI<;>omega
  have htk:∀ z,z∈l.take (k+1)<->z∈l.take k\/z=l[k]:=fun z=>by
   rw [List.take_add_one,List.getElem?_eq_getElem hk,List.mem_append];simp
  unfold vV
  rw [if_pos (bU hk)]
  have hno:∃ a':List Int × Bool,vU l n o d (k:Int) false=some (.inl (a'.1,a'.2,((k+1:Nat):Int)))/\a'.1.length<=(k+1)+(if a'.2=true then 1 else 0)/\∀ z,z∈a'.1<->(a'.2=true/\z=n)\/z∈l.take (k+1):=by
   unfold vU
   rw [if_neg (by simp),h3 o d (by omega)]
   exact ⟨(o++[l[k]],d),rfl,by simp only [List.length_append,List.length_singleton];omega,fun z=>by rw [List.mem_append,hM,htk,List.mem_singleton,or_assoc]⟩
  cases d with
  |true=>rw [if_neg (by simp)];exact hno
  |false=>
   rw [if_pos (by simp),bR hk,aA]
   by_cases hle:n<=l[k]
   ·rw [decide_eq_true hle]
    unfold vU
    rw [if_pos rfl,bR hk,aA]
    simp at hI
    by_cases hlt:n < l[k]
    ·rw [if_pos (by simpa using hlt),cQ (by simp [jA];omega),aA,h3 _ _ (by simp;omega)]
     refine ⟨(o++[n]++[l[k]],true),rfl,by simp;omega,fun z=>?_⟩
     simp only [List.mem_append,List.mem_singleton,hM,htk,Bool.false_eq_true,false_and,false_or,true_and]
     constructor
     ·rintro ((h|h)|h)
      ·exact .inr (.inl h)
      ·exact .inl h
      ·exact .inr (.inr h)
     ·rintro (h|h|h)
      ·exact .inl (.inr h)
      ·exact .inl (.inl h)
      ·exact .inr h
    ·rw [if_neg (by simpa using hlt),h3 _ _ (by omega)]
     have he:n=l[k]:=by omega
     refine ⟨(o++[l[k]],true),rfl,by simp;omega,fun z=>?_⟩
     simp only [List.mem_append,List.mem_singleton,hM,htk,Bool.false_eq_true,false_and,false_or,true_and]
     constructor
     ·rintro (h|h)
      ·exact .inr (.inl h)
      ·exact .inr (.inr h)
     ·rintro (h|h|h)
      ·exact .inr (h.trans he)
      ·exact .inl h
      ·exact .inr h
   ·rw [decide_eq_false hle];exact hno
 ·refine ⟨a,?_,by have:=hI.1;simpa using this,fun z=>by have:=hI.2 z;rwa [List.take_length] at this⟩
  show vV l n a.1 a.2 (l.length:Int)=_
  unfold vV
  rw [if_neg (by simp)]
section
variable {u:bB} {p:List Int}
theorem aKs (hu:Big u) (hp:iC u p) {e:Edge} (he:e∈u.E):vS e p=some (inL p e):=by
 have h:=hu.inn e he
 unfold vS aBC inL
 by_cases h0:e.B=0
 ·rw [if_pos (by simpa using h0),(jX hp h.1).1,aA,(jX hp h.2.1).1,aA,h0];rfl
 ·have:(e.B == 0)=false:=by simpa using h0
  rw [if_neg (by simpa using h0),this];rfl
def goes15 (u:bB) (p:List Int) (al:List Bool) (k:Int):Bool:=u.E.any fun e=>e.F == k&&inL p e&&al.getD e.To.toNat false
theorem goes15_eq {al:List Bool} {k:Int}:goes15 u p al k=aAp (dK u p) al k:=by
 rw [Bool.eq_iff_iff,aEZ]
 unfold goes15
 rw [List.any_eq_true]
 constructor
 ·rintro ⟨e,he,h⟩
  rw [Bool.and_eq_true,Bool.and_eq_true,beq_iff_eq] at h
  have hi:=xJ.1 h.1.2
  exact ⟨e,xK.2 ⟨he,hi⟩,h.1.1,hi.1,h.2⟩
 ·rintro ⟨e,he,h1,h2,h3⟩
  obtain ⟨g1,g2⟩:=xK.1 he
  exact ⟨e,g1,by rw [Bool.and_eq_true,Bool.and_eq_true,beq_iff_eq];exact ⟨⟨h1,xJ.2 g2⟩,h3⟩⟩
theorem ixG {l:List Bool} {s:Int} (hl:l.length=u.N.toNat) (hs:inT u s):ix l s=some (l.getD s.toNat false):=by
 obtain ⟨hk,e⟩:=ixB hl hs
 rw [e,List.getD_eq_getElem?_getD,List.getElem?_eq_getElem hk];rfl
theorem aQi (hu:Big u) (hp:iC u p) {al:List Bool} (hl:al.length=u.N.toNat) (k:Int):loop (fun s:Bool × Int=>lO u p al k s.1 s.2) (false,0)=some (aAp (dK u p) al k):=by
 have h5:=hu.ed
 rw [←goes15_eq]
 have:=kH (step:=fun s:Bool × Int=>lO u p al k s.1 s.2) u.E (fun i (a:Bool)=>(a,(i:Int))) (fun l a=>a||l.any fun e=>e.F == k&&inL p e&&al.getD e.To.toNat false) (fun _ _=>True) (fun i a e l hi hx _=>?_) (fun a _=>?_) (a:=false) trivial
 ·exact this
 ·left
  have he:=aBx hx
  have hin:=hu.inn _ he
  have hw:wr ((i:Int)+1)=((i+1:Nat):Int):=bK hi (by omega)
  have hj:∀ b,lN (i:Int) b=some (.inl (b,((i+1:Nat):Int))):=fun b=>by unfold lN;rw [hw]
  refine ⟨a||(e.F == k&&inL p e&&al.getD e.To.toNat false),?_,trivial,by rw [List.any_cons,Bool.or_assoc]⟩
  show lO u p al k a (i:Int)=_
  unfold lO
  rw [if_pos (bU hi),hx,aA]
  cases a with
  |true=>rw [if_pos rfl,hj];rfl
  |false=>
   rw [if_neg (by simp)]
   cases h1:e.F == k with
   |false=>rw [if_neg (by simp),hj];rfl
   |true=>
    rw [if_pos rfl,aKs hu hp he,aA]
    cases h2:inL p e with
    |false=>rw [if_neg (by simp),hj];rfl
    |true=>rw [if_pos rfl,ixG hl hin.2.1,aA,hj];rfl
 ·show lO u p al k a (u.E.length:Int)=_
  unfold lO
  rw [if_neg (by simp)]
  simp
def Maxi (u:bB) (p:List Int) (d:List Bool):Prop:=∀ X,aIO (dK u p) X->∀ k:Nat,k < d.length->X (k:Int)->d[k]?=some true
theorem maxi_goes (hu:Big u) {d:List Bool} (hl:d.length=u.N.toNat) (hm:Maxi u p d) {X:Int->Prop} (hX:aIO (dK u p) X) {k:Int} (hk:X k):aAp (dK u p) d k=true:=by
 obtain ⟨e,he,h1,h2,h3⟩:=hX k hk
 have hT:=(hu.inn e (xK.1 he).1).2.1
 unfold inT at hT
 have e0:((e.To.toNat:Nat):Int)=e.To:=by omega
 have:=hm X hX e.To.toNat (by omega) (by rw [e0];exact h3)
 exact aEZ.2 ⟨e,he,h1,h2,by rw [List.getD_eq_getElem?_getD,this];rfl⟩
theorem aOX (hu:Big u) (hp:iC u p) {al:List Bool} (hl:al.length=u.N.toNat) (hm:Maxi u p al):∃ al' m,loop (fun s:List Bool × Bool × Int=>nR u p s.1 s.2.1 s.2.2) (al,false,0)=some (al',m)/\al'.length=u.N.toNat/\Maxi u p al'/\cnt al'<=cnt al/\(m=true->cnt al' < cnt al)/\
  (m=false->∀ k:Nat,al'[k]?=some true->aAp (dK u p) al' (k:Int)=true):=by
 have h3:=hu.st
 have key:=gS (step:=fun s:List Bool × Bool × Int=>nR u p s.1 s.2.1 s.2.2) u.N.toNat (fun k (a:List Bool × Bool)=>(a.1,a.2,(k:Int)))
  (fun k a=>a.1.length=u.N.toNat/\Maxi u p a.1/\cnt a.1<=cnt al/\(a.2=true->cnt a.1 < cnt al)/\(a.2=false->∀ j:Nat,j < k->a.1[j]?=some true->aAp (dK u p) a.1 (j:Int)=true))
  (fun r=>r.1.length=u.N.toNat/\Maxi u p r.1/\cnt r.1<=cnt al/\(r.2=true->cnt r.1 < cnt al)/\(r.2=false->∀ j:Nat,r.1[j]?=some true->aAp (dK u p) r.1 (j:Int)=true)) (fun k a hk hI=>?_) (fun a hI=>?_) u.N.toNat 0 (al,false) (by omega) ⟨hl,hm,Nat.le_refl _,by simp,fun _ j hj=>by omega⟩
 ·obtain ⟨⟨al',m⟩,h1,h2⟩:=key
  exact ⟨al',m,h1,h2⟩
 ·obtain ⟨b,m⟩:=a
  obtain ⟨g1,g2,g3,g4,g5⟩:=hI
  simp only at g1 g2 g3 g4 g5 ⊢
  have hw:wr ((k:Int)+1)=((k+1:Nat):Int):=bK hk (by omega)
  have hkb:k < b.length:=by omega
  have hj:∀ c n,nP (k:Int) c n=some (.inl (c,n,((k+1:Nat):Int))):=fun c n=>by unfold nP;rw [hw]
  unfold nR
  rw [if_pos (by simp;omega),bR hkb,aA]
  by_cases hb:b[k]=true
  ·rw [if_neg (by simp [hb]),aQi hu hp g1 (k:Int),aA]
   unfold yO
   by_cases hc:aAp (dK u p) b (k:Int)=true
   ·rw [if_neg (by simp [hc]),hj]
    refine ⟨(b,m),rfl,g1,g2,g3,g4,fun hm0 j hjk hjt=>?_⟩
    by_cases e:j=k
    ·subst e;exact hc
    ·exact g5 hm0 j (by omega) hjt
   ·have hst:st b (k:Int) false=some (b.set k false):=by
     unfold Gv.st
     rw [if_pos ⟨by omega,by omega⟩,Int.toNat_natCast]
    have hlt:=cnt_off hkb hb
    rw [if_pos (by simp [hc]),hst,aA,hj]
    refine ⟨(b.set k false,true),rfl,by simp only [List.length_set];exact g1,fun X hX j hj hx=>?_,by simp only;omega,fun _=>by simp only;omega,fun h=>by simp at h⟩
    simp only [List.length_set] at hj
    by_cases e:k=j
    ·subst e;exact absurd (maxi_goes hu g1 g2 hX hx) hc
    ·rw [List.getElem?_set_ne e];exact g2 X hX j hj hx
  ·rw [if_pos (by simp [hb]),hj]
   refine ⟨(b,m),rfl,g1,g2,g3,g4,fun hm0 j hjk hjt=>?_⟩
   by_cases e:j=k
   ·subst e;rw [List.getElem?_eq_getElem hkb] at hjt;exact absurd (Option.some.inj hjt) hb
   ·exact g5 hm0 j (by omega) hjt
 ·obtain ⟨b,m⟩:=a
  obtain ⟨g1,g2,g3,g4,g5⟩:=hI
  refine ⟨(b,m),?_,g1,g2,g3,g4,fun h j hj=>g5 h j ?_ hj⟩
  ·show nR u p b m ((u.N.toNat:Nat):Int)=_
   unfold nR
   rw [if_neg (by simp;omega)]
  ·have:=(List.getElem?_eq_some_iff.1 hj).1
   simp only at g1 this;omega
theorem aMF (hu:Big u) (hp:iC u p):∃ al,wX u p=some al/\DivS (dK u p) al:=by
 have h3:=hu.st
 have hm:mkz u.N false=some (List.replicate u.N.toNat false):=by
  unfold mkz
  rw [if_pos ⟨by omega,by unfold jA;omega⟩]
 unfold wX
 rw [hm,aA]
 have key:=gS (step:=fun s:List Bool × Int=>kR u s.1 s.2) u.N.toNat (fun k (a:List Bool)=>(a,(k:Int))) (fun k a=>a.length=u.N.toNat/\∀ j:Nat,j < k->a[j]?=some true) (fun r=>r.length=u.N.toNat/\∀ j:Nat,j < u.N.toNat->r[j]?=some true) (fun k a hk hI=>?_) (fun a hI=>?_) u.N.toNat 0 (List.replicate u.N.toNat false) (by omega) ⟨by simp,fun j hj=>by omega⟩
 ·obtain ⟨al,h1,h2,h2'⟩:=key
  have h1':loop (fun s:List Bool × Int=>kR u s.1 s.2) (List.replicate u.N.toNat false,0)=some al:=h1
  rw [h1',aA]
  unfold wW aCj
  have key2:=lD (step:=fun s:List Bool × Bool=>qF u p s.1 s.2) (fun s=>s.1.length=u.N.toNat/\Maxi u p s.1/\(s.2=false->∀ k:Nat,s.1[k]?=some true->aAp (dK u p) s.1 (k:Int)=true)) (fun s=>2 * cnt s.1+(if s.2=true then 1 else 0)) (fun r=>DivS (dK u p) r) (fun s hI=>?_) (s:=(al,true)) ⟨h2,fun X _ k hk _=>h2' k (by have:k < al.length:=hk;omega),fun h=>by simp at h⟩
  ·obtain ⟨r,h3,h4⟩:=key2
   rw [h3,aA]
   exact ⟨r,rfl,h4⟩
  ·obtain ⟨x,m⟩:=s
   obtain ⟨k1,k2,k3⟩:=hI
   simp only at k1 k2 k3
   show (∃ s',qF u p x m=_/\_)\/_
   cases m with
   |false=>right;exact ⟨x,by unfold qF;rw [if_neg (by simp)],⟨k1,fun k hk=>k3 rfl k hk,k2⟩⟩
   |true=>
    left
    obtain ⟨al',m',e,g1,g2,g3,g4,g5⟩:=aOX hu hp k1 k2
    refine ⟨(al',m'),?_,⟨g1,g2,g5⟩,?_⟩
    ·unfold qF
     rw [if_pos rfl,e,aA];rfl
    ·show 2 * cnt al'+(if m'=true then 1 else 0) < 2 * cnt x+(if true=true then 1 else 0)
     rw [if_pos rfl]
     cases m' with
     |false=>rw [if_neg (by simp)];omega
     |true=>have:=g4 rfl;rw [if_pos rfl];omega
 ·obtain ⟨hI,hJ⟩:=hI
  have hw:wr ((k:Int)+1)=((k+1:Nat):Int):=bK hk (by omega)
  have hka:k < a.length:=by omega
  show ∃ a',kR u a (k:Int)=_/\_
  unfold kR
  have hst:st a (k:Int) true=some (a.set k true):=by
   unfold Gv.st
   rw [if_pos ⟨by omega,by omega⟩,Int.toNat_natCast]
  rw [if_pos (by simp;omega),bR hka,aA,hst,aA,hw]
  refine ⟨_,rfl,by simp only [List.length_set];exact hI,fun j hj=>?_⟩
  by_cases e:k=j
  ·subst e;rw [List.getElem?_set_self hka]
  ·rw [List.getElem?_set_ne e];exact hJ j (by omega)
 ·refine ⟨a,?_,hI⟩
  show kR u a ((u.N.toNat:Nat):Int)=_
  unfold kR
  rw [if_neg (by simp;omega)]
theorem aNS (hu:yM u) {d:List Bool} (hd:DivS (dK u p) d) {x:Int} (hx:inT u x):d.getD x.toNat false=true<->Dv u p x:=by
 have hl:d.length=u.N.toNat:=hd.len
 have hx':=hx
 unfold inT at hx'
 have e0:((x.toNat:Nat):Int)=x:=by omega
 rw [List.getD_eq_getElem?_getD,List.getElem?_eq_getElem (by omega)]
 constructor
 ·intro h
  refine ⟨fun z=>0<=z/\d[z.toNat]?=some true,fun z hz=>?_,hx'.1,by rw [List.getElem?_eq_getElem (by omega)];exact congrArg some h⟩
  have h2:=hd.step z.toNat hz.2
  have e1:((z.toNat:Nat):Int)=z:=by have:=hz.1;omega
  rw [e1] at h2
  obtain ⟨e,he,a1,a2,a3⟩:=aEZ.1 h2
  have hT:=(hu.big.inn e (xK.1 he).1).2.1
  unfold inT at hT
  exact ⟨e,he,a1,a2,hT.1,aGZ.1 a3⟩
 ·rintro ⟨X,hX,h0⟩
  have:=hd.max X hX x.toNat (by omega) (by rw [e0];exact h0)
  rw [List.getElem?_eq_getElem (by omega)] at this
  exact Option.some.inj this
end
end Gv
namespace Gv
open Go
section
variable {u:bB} {p:List Int}
theorem aLW (hu:Big u) (hp:iC u p) {k0:Int} {al:List Bool} (hl:al.length=u.N.toNat) (hs:∀ z,inT u z->al.getD z.toNat false=true->InP u p k0 z):∃ al' m,loop (fun s:List Bool × Bool × Int=>rA u p s.1 s.2.1 s.2.2) (al,false,0)=some (al',m)/\al'.length=u.N.toNat/\
  (∀ z,inT u z->al'.getD z.toNat false=true->InP u p k0 z)/\(∀ z:Int,al.getD z.toNat false=true->al'.getD z.toNat false=true)/\cnt al<=cnt al'/\(m=true->cnt al < cnt al')/\
  (m=false->∀ e∈u.E,inL p e=true->al'.getD e.F.toNat false=true->al'.getD e.To.toNat false=true):=by
 have h5:=hu.ed
 have key:=gS (step:=fun s:List Bool × Bool × Int=>rA u p s.1 s.2.1 s.2.2) u.E.length (fun k (a:List Bool × Bool)=>(a.1,a.2,(k:Int)))
  (fun i a=>a.1.length=u.N.toNat/\(∀ z,inT u z->a.1.getD z.toNat false=true->InP u p k0 z)/\(∀ z:Int,al.getD z.toNat false=true->a.1.getD z.toNat false=true)/\cnt al<=cnt a.1/\(a.2=true->cnt al < cnt a.1)/\(a.2=false->∀ e∈u.E.take i,inL p e=true->a.1.getD e.F.toNat false=true->a.1.getD e.To.toNat false=true))
  (fun r=>r.1.length=u.N.toNat/\(∀ z,inT u z->r.1.getD z.toNat false=true->InP u p k0 z)/\(∀ z:Int,al.getD z.toNat false=true->r.1.getD z.toNat false=true)/\cnt al<=cnt r.1/\(r.2=true->cnt al < cnt r.1)/\(r.2=false->∀ e∈u.E,inL p e=true->r.1.getD e.F.toNat false=true->r.1.getD e.To.toNat false=true))
  (fun i a hi hI=>?_) (fun a hI=>?_) u.E.length 0 (al,false) (by omega) ⟨hl,hs,fun _ h=>h,Nat.le_refl _,by simp,by simp⟩
 ·obtain ⟨⟨al',m⟩,h1,h2⟩:=key
  exact ⟨al',m,h1,h2⟩
 ·obtain ⟨b,m⟩:=a
  obtain ⟨g1,g2,g3,g4,g5,g6⟩:=hI
  simp only at g1 g2 g3 g4 g5 g6 ⊢
  have he:=List.getElem_mem hi
  have hin:=hu.inn _ he
  have hw:wr ((i:Int)+1)=((i+1:Nat):Int):=bK hi (by omega)
  have hj:∀ c n,uH (i:Int) c n=some (.inl (c,n,((i+1:Nat):Int))):=fun c n=>by unfold uH;rw [hw]
  have f1:=ixG g1 hin.1
  have f2:=ixG g1 hin.2.1
  obtain ⟨hk,_⟩:=ixB g1 hin.2.1
  have hT:=hin.2.1
  unfold inT at hT
  have hno:oK b m (i:Int) u.E[i] false=some (.inl (b,m,((i+1:Nat):Int))):=by unfold oK;rw [if_neg (by simp),hj]
  have htk:∀ e,e∈u.E.take (i+1)->e∈u.E.take i\/e=u.E[i]:=fun e h=>by
   rw [List.take_add_one,List.getElem?_eq_getElem hi,List.mem_append] at h;simpa using h
  have stay:(inL p u.E[i]=true->b.getD u.E[i].F.toNat false=true->b.getD u.E[i].To.toNat false=true)->∃ a':List Bool × Bool,some (Sum.inl (b,m,((i+1:Nat):Int)):(List Bool × Bool × Int) ⊕ (List Bool × Bool))=some (.inl (a'.1,a'.2,((i+1:Nat):Int)))/\a'.1.length=u.N.toNat/\(∀ z,inT u z->a'.1.getD z.toNat false=true->InP u p k0 z)/\(∀ z:Int,al.getD z.toNat false=true->a'.1.getD z.toNat false=true)/\cnt al<=cnt a'.1/\(a'.2=true->cnt al < cnt a'.1)/\(a'.2=false->∀ e∈u.E.take (i+1),inL p e=true->a'.1.getD e.F.toNat false=true->a'.1.getD e.To.toNat false=true):=fun hc=>by
   refine ⟨(b,m),rfl,g1,g2,g3,g4,g5,fun h e hm=>?_⟩
   rcases htk e hm with hm|rfl
   ·exact g6 h e hm
   ·exact hc
  unfold rA
  rw [if_pos (bU hi),bR hi,aA,f1,aA]
  by_cases hF:b.getD u.E[i].F.toNat false=true
  ·rw [if_pos hF,f2,aA]
   by_cases hb:b.getD u.E[i].To.toNat false=true
   ·rw [if_neg (by rw [hb];simp),hno]
    exact stay fun _ _=>hb
   ·have hb':b.getD u.E[i].To.toNat false=false:=by simpa using hb
    rw [if_pos (by rw [hb'];rfl),aKs hu hp he,aA]
    cases hc:inL p u.E[i] with
    |false=>rw [hno];exact stay fun h=>by rw [hc] at h;cases h
    |true=>
     have hst:st b u.E[i].To true=some (b.set u.E[i].To.toNat true):=by
      unfold Gv.st
      rw [if_pos ⟨hT.1,by omega⟩]
     have hbk:b[u.E[i].To.toNat]=false:=by
      rw [List.getD_eq_getElem?_getD,List.getElem?_eq_getElem hk] at hb';exact hb'
     have hlt:=cnt_on hk hbk
     unfold oK
     rw [if_pos rfl,f2,aA,hst,aA,hj]
     refine ⟨(b.set u.E[i].To.toNat true,true),rfl,by simp only [List.length_set];exact g1,fun z hz h=>?_,fun z h=>?_,by simp only;omega,fun _=>by simp only;omega,fun h=>by simp at h⟩
     ·by_cases e:u.E[i].To.toNat=z.toNat
      ·have:z=u.E[i].To:=by unfold inT at hz;omega
       rw [this]
       have hi2:=xJ.1 hc
       exact InP.step he hi2.1 hi2.2 (g2 _ hin.1 hF)
      ·rw [List.getD_eq_getElem?_getD,List.getElem?_set_ne e,←List.getD_eq_getElem?_getD] at h
       exact g2 z hz h
     ·have:=g3 z h
      by_cases e:u.E[i].To.toNat=z.toNat
      ·rw [←e,List.getD_eq_getElem?_getD,List.getElem?_set_self hk];rfl
      ·rw [List.getD_eq_getElem?_getD,List.getElem?_set_ne e,←List.getD_eq_getElem?_getD];exact this
  ·rw [if_neg hF,hno]
   exact stay fun _ h=>absurd h hF
 ·obtain ⟨b,m⟩:=a
  refine ⟨(b,m),?_,by rw [List.take_length] at hI;exact hI⟩
  show rA u p b m (u.E.length:Int)=_
  unfold rA
  rw [if_neg (by simp)]
theorem reach15 (hu:Big u) (hp:iC u p) {k:Int} (hk:inT u k):∃ al,aDr u p k=some al/\al.length=u.N.toNat/\∀ z,inT u z->(al.getD z.toNat false=true<->InP u p k z):=by
 have h3:=hu.st
 have hk':=hk
 unfold inT at hk'
 have hm:mkz u.N false=some (List.replicate u.N.toNat false):=by
  unfold mkz
  rw [if_pos ⟨by omega,by unfold jA;omega⟩]
 have hst:st (List.replicate u.N.toNat false) k true=some ((List.replicate u.N.toNat false).set k.toNat true):=by
  unfold Gv.st
  rw [if_pos ⟨hk'.1,by simp;omega⟩]
 obtain ⟨_,f⟩:=ixB (u:=u) (l:=List.replicate u.N.toNat false) (by simp) hk
 unfold aDr
 rw [hm,aA,f,aA,hst,aA]
 have hset:∀ z:Nat,((List.replicate u.N.toNat false).set k.toNat true).getD z false=true->z=k.toNat:=fun z h=>by
  refine Classical.byContradiction fun hne=>?_
  rw [List.getD_eq_getElem?_getD,List.getElem?_set_ne (fun e=>hne e.symm)] at h
  by_cases hz:z < u.N.toNat
  ·rw [List.getElem?_eq_getElem (by simpa using hz)] at h;simp at h
  ·rw [List.getElem?_eq_none (by simpa using hz)] at h;simp at h
 have key2:=lD (step:=fun s:List Bool × Bool=>uI u p s.1 s.2) (fun s=>s.1.length=u.N.toNat/\(∀ z,inT u z->s.1.getD z.toNat false=true->InP u p k z)/\s.1.getD k.toNat false=true/\(s.2=false->∀ e∈u.E,inL p e=true->s.1.getD e.F.toNat false=true->s.1.getD e.To.toNat false=true)) (fun s=>2 * (u.N.toNat - cnt s.1)+(if s.2=true then 1 else 0))
  (fun r=>r.length=u.N.toNat/\∀ z,inT u z->(r.getD z.toNat false=true<->InP u p k z)) (fun s hI=>?_) (s:=((List.replicate u.N.toNat false).set k.toNat true,true)) ⟨by simp,fun z hz h=>?_,?_,fun h=>by simp at h⟩
 ·obtain ⟨r,h3,h4⟩:=key2
  rw [h3,aA]
  exact ⟨r,rfl,h4⟩
 ·obtain ⟨x,m⟩:=s
  obtain ⟨k1,k2,k3,k4⟩:=hI
  simp only at k1 k2 k3 k4
  show (∃ s',uI u p x m=_/\_)\/_
  cases m with
  |false=>
   right
   refine ⟨x,by unfold uI;rw [if_neg (by simp)],k1,fun z hz=>⟨k2 z hz,fun h=>?_⟩⟩
   exact InP.ind (C:=fun z=>x.getD z.toNat false=true) k3 (fun e he h0 hs _ ih=>k4 rfl e he (xJ.2 ⟨h0,hs⟩) ih) h
  |true=>
   left
   obtain ⟨al',m',e,g1,g2,g2',g3,g4,g5⟩:=aLW hu hp k1 k2
   have hle:cnt al'<=al'.length:=cnt_le al'
   refine ⟨(al',m'),?_,⟨g1,g2,g2' k k3,g5⟩,?_⟩
   ·unfold uI
    rw [if_pos rfl,e,aA];rfl
   ·show 2 * (u.N.toNat - cnt al')+(if m'=true then 1 else 0) < 2 * (u.N.toNat - cnt x)+(if true=true then 1 else 0)
    rw [if_pos rfl]
    cases m' with
    |false=>rw [if_neg (by simp)];omega
    |true=>have:=g4 rfl;rw [if_pos rfl];omega
 ·have:=hset z.toNat h
  have e:z=k:=by unfold inT at hz;omega
  rw [e];exact .refl
 ·simp only
  rw [List.getD_eq_getElem?_getD,List.getElem?_set_self (by simp;omega)];rfl
theorem vl1_nn (hu:Big u) (hp:iC u p) {e:Edge} (he:e∈u.E):0<=vl1 u p e:=by
 obtain ⟨h1,h2,h3,_⟩:=hu.inn e he
 have:=(jX hp h2).2.1
 have h4:=hu.st
 unfold vl1
 have:=Int.mul_nonneg h3 (show 0<=u.N by omega)
 omega
theorem offers15 (hu:Big u) (hp:iC u p) {k:Int} (hk:inT u k):∃ l,aBR u p k=some l/\l.length<=1000/\∀ z,z∈l<->∃ e∈u.E,InP u p k e.F/\Nin p e/\vl1 u p e=z:=by
 have h5:=hu.ed
 have h3:=hu.st
 have hpl:(p.length:Int)=u.N:=by rw [hp.1];omega
 obtain ⟨al,e,hl,hr⟩:=reach15 hu hp hk
 unfold aBR
 rw [e,aA]
 have key:=gS (step:=fun s:List Int × Int=>mX u p al s.1 s.2) u.E.length (fun i (a:List Int)=>(a,(i:Int))) (fun i a=>a.length<=i/\∀ z,z∈a<->∃ e∈u.E.take i,InP u p k e.F/\Nin p e/\vl1 u p e=z) (fun r=>r.length<=1000/\∀ z,z∈r<->∃ e∈u.E,InP u p k e.F/\Nin p e/\vl1 u p e=z) (fun i a hi hI=>?_) (fun a hI=>?_) u.E.length 0 [] (by omega) ⟨by simp,by simp⟩
 ·obtain ⟨l,h1,h2⟩:=key
  have h1':loop (fun s:List Int × Int=>mX u p al s.1 s.2) (([]:List Int),0)=some l:=h1
  rw [h1',aA]
  exact ⟨l,rfl,h2⟩
 ·obtain ⟨hI,hM⟩:=hI
  have he:=List.getElem_mem hi
  have hin:=hu.inn _ he
  have hw:wr ((i:Int)+1)=((i+1:Nat):Int):=bK hi (by omega)
  have hno:oU p a (i:Int) u.E[i] false=some (.inl (a,((i+1:Nat):Int))):=by
   unfold oU sA
   rw [if_neg (by simp),hw]
  have htk:∀ e,e∈u.E.take (i+1)<->e∈u.E.take i\/e=u.E[i]:=fun e=>by
   rw [List.take_add_one,List.getElem?_eq_getElem hi,List.mem_append];simp
  have stay:¬ (InP u p k u.E[i].F/\Nin p u.E[i])->∃ a':List Int,some (Sum.inl (a,((i+1:Nat):Int)):(List Int × Int) ⊕ (List Int))=some (.inl (a',((i+1:Nat):Int)))/\a'.length<=i+1/\∀ z,z∈a'<->∃ e∈u.E.take (i+1),InP u p k e.F/\Nin p e/\vl1 u p e=z:=fun hn=>by
   refine ⟨a,rfl,by omega,fun z=>?_⟩
   rw [hM]
   constructor
   ·rintro ⟨e,h1,h2⟩;exact ⟨e,(htk e).2 (.inl h1),h2⟩
   ·rintro ⟨e,h1,h2,h3,h4⟩
    rcases (htk e).1 h1 with h1|rfl
    ·exact ⟨e,h1,h2,h3,h4⟩
    ·exact absurd ⟨h2,h3⟩ hn
  show ∃ a',mX u p al a (i:Int)=_/\_
  unfold mX
  rw [if_pos (bU hi),bR hi,aA,ixG hl hin.1,aA]
  by_cases hF:al.getD u.E[i].F.toNat false=true
  ·rw [if_pos hF,aKs hu hp he,aA]
   have hF':=(hr _ hin.1).1 hF
   cases hc:inL p u.E[i] with
   |true=>rw [show (!true)=false from rfl,hno];exact stay fun h=>h.2 (xJ.1 hc)
   |false=>
    have hN:Nin p u.E[i]:=fun h=>by rw [xJ.2 h] at hc;cases hc
    obtain ⟨l',h1,h2,h3⟩:=put_mem a (vl1 u p u.E[i]) (by omega)
    have hv:wr (wr (u.E[i].B * (p.length:Int))+p.getD u.E[i].To.toNat 0)=vl1 u p u.E[i]:=by rw [hpl];exact vl1_wr hu hp he
    unfold oU sA
    rw [if_pos (by rfl),(jX hp hin.2.1).1,aA,hv,h1,aA,hw]
    refine ⟨l',rfl,by omega,fun z=>?_⟩
    rw [h3,hM]
    constructor
    ·rintro (h|⟨e,k1,k2⟩)
     ·exact ⟨_,(htk _).2 (.inr rfl),hF',hN,h.symm⟩
     ·exact ⟨e,(htk e).2 (.inl k1),k2⟩
    ·rintro ⟨e,k1,k2,k3,k4⟩
     rcases (htk e).1 k1 with k1|rfl
     ·exact .inr ⟨e,k1,k2,k3,k4⟩
     ·exact .inl k4.symm
  ·rw [if_neg hF,hno]
   exact stay fun h=>hF ((hr _ hin.1).2 h.1)
 ·obtain ⟨hI,hM⟩:=hI
  rw [List.take_length] at hM
  refine ⟨a,?_,by omega,hM⟩
  show mX u p al a (u.E.length:Int)=_
  unfold mX
  rw [if_neg (by simp)]
end
section
variable {p:List Int} {rows:List (List Int)}
theorem aOY (hl:rows.length=p.length) (hs:p.length<=1000) (hr:∀ r∈rows,r.length<=100000) {k:Nat} (hk:k < p.length):
  loop (fun s:Int × Int=>oW p rows (cn ((kz p rows).take k)) (k:Int) s.1 s.2) (-1,0)=some (if (kz p rows)[k]'(by rw [aEx hl];exact hk)∈(kz p rows).take k then pos (dd ((kz p rows).take k)) ((kz p rows)[k]'(by rw [aEx hl];exact hk)) else -1):=by
 have hkz:=aEx hl
 have hkk:k < (kz p rows).length:=by omega
 have hcl:(cn ((kz p rows).take k)).length=k:=by rw [xS,List.length_take];omega
 have key:=lD (step:=fun s:Int × Int=>oW p rows (cn ((kz p rows).take k)) (k:Int) s.1 s.2)
  (fun s=>∃ j:Nat,s.2=(j:Int)/\j<=k/\((s.1=-1/\∀ i,(hi:i < j)->(hj:j<=k)->(kz p rows)[i]'(by omega)≠(kz p rows)[k])\/((kz p rows)[k]∈(kz p rows).take k/\s.1=pos (dd ((kz p rows).take k)) (kz p rows)[k])))
  (fun s=>k+1 - s.2.toNat) (fun r=>r=if (kz p rows)[k]∈(kz p rows).take k then pos (dd ((kz p rows).take k)) (kz p rows)[k] else -1) (fun s hI=>?_) (s:=(-1,0)) ⟨0,rfl,Nat.zero_le _,.inl ⟨rfl,fun i hi=>by omega⟩⟩
 ·obtain ⟨r,h1,h2⟩:=key
  rw [h1,h2]
 ·obtain ⟨n,jj⟩:=s
  obtain ⟨j,rfl,hjk,hI⟩:=hI
  simp only at hI ⊢
  have hout:oV p rows (cn ((kz p rows).take k)) (k:Int) n (j:Int) false=some (.inr n):=by unfold oV;rw [if_neg (by simp)]
  rcases hI with ⟨rfl,hno⟩|⟨hin,rfl⟩
  ·by_cases hj:j < k
   ·left
    have hw:wr ((j:Int)+1)=((j+1:Nat):Int):=bK hj (by omega)
    have hjp:j < p.length:=by omega
    have e1:=aJr hl hjp
    have e2:=aJr hl hk
    unfold oW
    rw [if_pos (bU hj),show decide ((-1:Int) < 0)=true from rfl]
    unfold oV
    rw [if_pos rfl,bR hjp,aA,bR hk,aA]
    have hgo:sC (cn ((kz p rows).take k)) (-1) (j:Int) false=some (.inl (-1,((j+1:Nat):Int))):=by
     unfold sC sB
     rw [if_neg (by simp),hw]
    have hstay:(kz p rows)[j]'(by omega)≠(kz p rows)[k]->∃ j':Nat,((j+1:Nat):Int)=(j':Int)/\j'<=k/\(((-1:Int)=-1/\∀ i,(hi:i < j')->(hj:j'<=k)->(kz p rows)[i]'(by omega)≠(kz p rows)[k])\/((kz p rows)[k]∈(kz p rows).take k/\(-1:Int)=pos (dd ((kz p rows).take k)) (kz p rows)[k])):=fun hne=>by
     refine ⟨j+1,rfl,hj,.inl ⟨rfl,fun i hi _=>?_⟩⟩
     by_cases e:i=j
     ·subst e;exact hne
     ·exact hno i (by omega) hjk
    by_cases hp:p[j]=p[k]
    ·rw [if_pos (by simpa using hp),bR (show j < rows.length by omega),aA,bR (show k < rows.length by omega),aA,aOK _ _ (by have:=hr _ (List.getElem_mem (show j < rows.length by omega));omega),aA]
     by_cases hrr:rows[j]'(by omega)=rows[k]'(by omega)
     ·have hkey:(kz p rows)[j]'(by omega)=(kz p rows)[k]:=by rw [e1,e2,hp,hrr]
      have hin:(kz p rows)[k]∈(kz p rows).take k:=by
       rw [←hkey,List.mem_take_iff_getElem]
       exact ⟨j,by omega,rfl⟩
      have hc:(cn ((kz p rows).take k))[j]?=some (pos (dd ((kz p rows).take k)) (kz p rows)[k]):=by
       rw [aJp (show j < ((kz p rows).take k).length by rw [List.length_take];omega),List.getElem_take,hkey]
      rw [hrr]
      unfold sC sB
      rw [decide_eq_true rfl,if_pos rfl,sT,hc]
      show ∃ s',ob (some _) _=_/\_
      rw [aA,hw]
      exact ⟨(_,((j+1:Nat):Int)),rfl,⟨j+1,rfl,hj,.inr ⟨hin,rfl⟩⟩,by simp only;omega⟩
     ·rw [decide_eq_false hrr,hgo]
      refine ⟨(-1,((j+1:Nat):Int)),rfl,hstay (fun e=>?_),by simp only;omega⟩
      rw [e1,e2,List.cons.injEq] at e
      exact hrr e.2
    ·rw [if_neg (by simpa using hp),hgo]
     refine ⟨(-1,((j+1:Nat):Int)),rfl,hstay (fun e=>?_),by simp only;omega⟩
     rw [e1,e2,List.cons.injEq] at e
     exact hp e.1
   ·right
    obtain rfl:j=k:=by omega
    refine ⟨-1,?_,?_⟩
    ·unfold oW
     rw [if_neg (by simp),hout]
    ·rw [if_neg]
     rw [List.mem_take_iff_getElem]
     rintro ⟨i,hi,e⟩
     exact hno i (by omega) (Nat.le_refl _) e
  ·right
   refine ⟨_,?_,by rw [if_pos hin]⟩
   have hpos:0<=pos (dd ((kz p rows).take k)) (kz p rows)[k]:=xH.2 (aBw.2 hin)
   unfold oW
   rw [show decide (pos (dd ((kz p rows).take k)) (kz p rows)[k] < 0)=false from decide_eq_false (by omega),hout]
   split<;>rfl
theorem num15_eq (hl:rows.length=p.length) (hs:p.length<=1000) (hr:∀ r∈rows,r.length<=100000):tS p rows=some (cn (kz p rows)):=by
 have hkz:=aEx hl
 have key:=gS (step:=fun s:List Int × Int × Int=>mY p rows s.1 s.2.1 s.2.2) p.length (fun k (a:List Int × Int)=>(a.1,a.2,(k:Int))) (fun k a=>a.1=cn ((kz p rows).take k)/\a.2=((dd ((kz p rows).take k)).length:Int)) (fun r=>r=cn (kz p rows)) (fun k a hk hI=>?_) (fun a hI=>?_) p.length 0 ([],0) (by omega) ⟨rfl,rfl⟩
 ·obtain ⟨r,h1,rfl⟩:=key
  have h1':loop (fun s:List Int × Int × Int=>mY p rows s.1 s.2.1 s.2.2) (([]:List Int),0,0)=some (cn (kz p rows)):=h1
  unfold tS
  rw [h1',aA];rfl
 ·obtain ⟨o,m⟩:=a
  obtain ⟨rfl,rfl⟩:=hI
  have hkk:k < (kz p rows).length:=by omega
  have hcl:(cn ((kz p rows).take k)).length=k:=by rw [xS,List.length_take];omega
  have hw:wr ((k:Int)+1)=((k+1:Nat):Int):=bK hk (by omega)
  have e1:(kz p rows).take (k+1)=(kz p rows).take k++[(kz p rows)[k]]:=by rw [List.take_add_one,List.getElem?_eq_getElem hkk];rfl
  have hdl:(dd ((kz p rows).take k)).length<=1000:=by
   have h2:(dd ((kz p rows).take k)).length<=((kz p rows).take k).length:=by
    have:∀ (l:List (List Int)),(dd l).length<=l.length:=by
     intro l
     unfold dd
     have hg:∀ (m F:List (List Int)),(m.foldl (uU id) F).length<=F.length+m.length:=by
      intro m
      induction m with
      |nil=>intro F;simp
      |cons x m ih=>
       intro F
       have:=ih (uU id F x)
       have h3:=aLk (key:=id) F x
       simp only [List.foldl_cons,List.length_cons];omega
     have:=hg l []
     simpa using this
    exact this _
   rw [List.length_take] at h2;omega
  show ∃ a':List Int × Int,mY p rows (cn ((kz p rows).take k)) _ (k:Int)=_/\_
  unfold mY
  rw [if_pos (bU hk),aOY hl hs hr hk,aA,e1,aKg,aGV,aLm]
  unfold aAE aAD aAC
  by_cases hin:(kz p rows)[k]∈(kz p rows).take k
  ·have hpos:0<=pos (dd ((kz p rows).take k)) (kz p rows)[k]:=xH.2 (aBw.2 hin)
   rw [if_pos hin,if_neg (by simp;omega),cQ (by simp [jA];omega),aA,hw,if_pos (aBw.2 hin)]
   refine ⟨(_,_),rfl,rfl,?_⟩
   have:uU id (dd ((kz p rows).take k)) (kz p rows)[k]=dd ((kz p rows).take k):=by
    unfold uU
    rw [if_pos (by rw [List.map_id];exact aBw.2 hin)]
   simp only [this]
  ·rw [if_neg hin,if_pos (by simp),cQ (by simp [jA];omega),aA,hw,if_neg (fun h=>hin (aBw.1 h))]
   refine ⟨(_,_),rfl,rfl,?_⟩
   have:uU id (dd ((kz p rows).take k)) (kz p rows)[k]=dd ((kz p rows).take k)++[(kz p rows)[k]]:=by
    unfold uU
    rw [if_neg (by rw [List.map_id];exact fun h=>hin (aBw.1 h))]
   simp only [this,List.length_append,List.length_singleton]
   first
    |omega
    |(rw [dS (by omega) (by omega)];omega)
 ·obtain ⟨o,m⟩:=a
  obtain ⟨rfl,rfl⟩:=hI
  refine ⟨_,?_,rfl⟩
  show mY p rows (cn ((kz p rows).take p.length)) _ (p.length:Int)=_
  unfold mY
  rw [if_neg (by simp),List.take_of_length_le (by omega)]
end
section
variable {u:bB} {p:List Int}
def aMG (u:bB) (p:List Int) (k:Nat) (r:List Int):Prop:=r.length<=1001/\(-1∈r<->Dv u p (k:Int))/\∀ z,0<=z->(z∈r<->∃ e∈u.E,InP u p (k:Int) e.F/\Nin p e/\vl1 u p e=z)
theorem row15_eq (hv:bW u) (hp:iC u p) {x y:Int} (hx:inT u x) (hy:inT u y) {r:List Int} (h1:aMG u p x.toNat r) (h2:aMG u p y.toNat r):(Dv u p x<->Dv u p y)/\BrEq u p x y:=by
 have ex:((x.toNat:Nat):Int)=x:=by unfold inT at hx;omega
 have ey:((y.toNat:Nat):Int)=y:=by unfold inT at hy;omega
 obtain ⟨_,d1,o1⟩:=h1
 obtain ⟨_,d2,o2⟩:=h2
 rw [ex] at d1 o1
 rw [ey] at d2 o2
 refine ⟨d1.symm.trans d2,fun e he hi hn=>?_⟩
 have hnn:=vl1_nn (aJs hv) hp he
 obtain ⟨f,hf,f1,f2,f3⟩:=(o2 _ hnn).1 ((o1 _ hnn).2 ⟨e,he,hi,hn,rfl⟩)
 have:=aOL (aCU hv).big hp hf he f3
 exact ⟨f,hf,f1,f2,this.1,this.2.symm⟩
theorem refine15 (hv:bW u) (hp:iC u p):∃ q,aBS u p true=some q/\iC u q/\cn q=q/\aHV q p/\∀ x y,inT u x->inT u y->kW q x y->(Dv u p x<->Dv u p y)/\BrEq u p x y:=by
 have hu:=aJs hv
 have h3:=hu.st
 obtain ⟨al,e,hal⟩:=aMF hu hp
 have hall:al.length=u.N.toNat:=hal.len
 unfold aBS
 rw [e,aA]
 have key:=gS (step:=fun s:List (List Int) × Int=>lP u p true al s.1 s.2) u.N.toNat (fun k (a:List (List Int))=>(a,(k:Int))) (fun k a=>a.length=k/\∀ j r,a[j]?=some r->aMG u p j r) (fun a=>a.length=u.N.toNat/\∀ j r,a[j]?=some r->aMG u p j r) (fun k a hk hI=>?_) (fun a hI=>?_) u.N.toNat 0 [] (by omega) ⟨rfl,by simp⟩
 ·obtain ⟨rows,h1,h2,h4⟩:=key
  have h1':loop (fun s:List (List Int) × Int=>lP u p true al s.1 s.2) (([]:List (List Int)),0)=some rows:=h1
  have hl:rows.length=p.length:=by rw [h2,hp.1]
  rw [h1',aA,num15_eq hl (by rw [hp.1];omega) (fun r hr=>by
   obtain ⟨j,hj,rfl⟩:=List.getElem_of_mem hr
   have:=(h4 j _ (List.getElem?_eq_getElem hj)).1;omega)]
  refine ⟨_,rfl,part_cn hu (by rw [aEx hl,hp.1]),cn_cn _,kz_splits hl,fun x y hx hy hs=>?_⟩
  have hx':=hx
  have hy':=hy
  unfold inT at hx' hy'
  have hk:=aEx hl
  have lx:x.toNat < p.length:=by rw [hp.1];omega
  have ly:y.toNat < p.length:=by rw [hp.1];omega
  have:=(cn_same ⟨hx.1,by omega⟩ ⟨hy.1,by omega⟩).1 hs
  rw [List.getElem?_eq_getElem (by omega),List.getElem?_eq_getElem (by omega),aJr hl lx,aJr hl ly,Option.some.injEq,List.cons.injEq] at this
  have r1:=h4 x.toNat _ (List.getElem?_eq_getElem (by omega))
  have r2:=h4 y.toNat _ (List.getElem?_eq_getElem (by omega))
  rw [←this.2] at r2
  exact row15_eq hv hp hx hy r1 r2
 ·obtain ⟨g1,g2⟩:=hI
  have hkT:inT u (k:Int):=by unfold inT;omega
  obtain ⟨l,e,hl,hm⟩:=offers15 hu hp hkT
  have hw:wr ((k:Int)+1)=((k+1:Nat):Int):=bK hk (by omega)
  have hdv:=aNS (aCU hv) hal hkT
  have hneg:(-1:Int)∉l:=fun h=>by
   obtain ⟨e,he,_,_,h2⟩:=(hm _).1 h
   have:=vl1_nn hu hp he
   omega
  have hgo:∀ r:List Int,aMG u p k r->∃ a',qG a (k:Int) r=some (.inl (a',((k+1:Nat):Int)))/\a'.length=k+1/\∀ j r,a'[j]?=some r->aMG u p j r:=by
   intro r hr
   unfold qG
   rw [cQ (by simp [jA];omega),aA,hw]
   refine ⟨_,rfl,by simp;omega,fun j x hx=>?_⟩
   by_cases hj:j < a.length
   ·rw [List.getElem?_append_left hj] at hx;exact g2 j x hx
   ·have h5:=(List.getElem?_eq_some_iff.1 hx).1
    simp at h5
    have:j=k:=by omega
    subst this
    rw [List.getElem?_append_right (by omega),g1,Nat.sub_self] at hx
    simp at hx
    subst hx;exact hr
  show ∃ a',lP u p true al a (k:Int)=_/\_
  unfold lP
  rw [if_pos (by simp;omega),e,aA,if_pos rfl,ixG hall hkT,aA]
  unfold tT
  by_cases hb:al.getD (k:Int).toNat false=true
  ·rw [if_pos hb,cQ (by simp [jA];omega),aA]
   refine hgo _ ⟨by simp;omega,⟨fun _=>hdv.1 hb,fun _=>by simp⟩,fun z hz=>?_⟩
   rw [List.mem_append,hm]
   constructor
   ·rintro (h|h)
    ·exact h
    ·simp at h;omega
   ·exact .inl
  ·rw [if_neg hb]
   exact hgo _ ⟨by omega,⟨fun h=>absurd h hneg,fun h=>absurd (hdv.2 h) hb⟩,fun z _=>hm z⟩
 ·refine ⟨a,?_,hI⟩
  show lP u p true al a ((u.N.toNat:Nat):Int)=_
  unfold lP
  rw [if_neg (by simp;omega)]
theorem part15 (hv:bW u):∃ p,aEN u true=some p/\iC u p/\Stab u p:=by
 have hu:=aJs hv
 obtain ⟨hm,h0⟩:=part0 hu
 have h3:=hu.st
 unfold aEN
 rw [hm,aA]
 have key:=aLp (step:=fun s:List Int=>aAF u true s) u.N.toNat (fun p s=>s=p/\iC u p) (fun r=>iC u r/\Stab u r) (fun p s hl hc hI=>?_) (List.replicate u.N.toNat 0) (List.replicate u.N.toNat 0) (by simp) (aOI _) ⟨rfl,h0⟩
 ·obtain ⟨p,h1,h2⟩:=key
  rw [h1,aA]
  exact ⟨p,rfl,h2⟩
 ·obtain ⟨rfl,hp⟩:=hI
  obtain ⟨r,e,g1,g2,g3,g4⟩:=refine15 hv hp
  have hstep:aAF u true s=if decide (r=s)=true then some (.inr s) else some (.inl r):=by
   unfold aAF
   rw [e,aA,aOK _ _ (by rw [g1.1];omega),aA]
  by_cases h:r=s
  ·left
   rw [hstep,if_pos (by simpa using h)]
   subst h
   exact ⟨_,rfl,hp,fun x y hx hy hs=>g4 x y hx hy hs⟩
  ·right
   refine ⟨r,r,g3,g2,h,?_,rfl,g1⟩
   rw [hstep,if_neg (by simpa using h)]
end
end Gv
namespace Gv
open Go
section
variable {t:bB} {p:List Int}
theorem pos_own {L:List aI} (hn:L.Nodup) {i:Nat} (hi:i < L.length):pos L (L.getD i [])=(i:Int):=by
 rw [List.getD_eq_getElem?_getD,List.getElem?_eq_getElem hi]
 obtain ⟨j,e,g⟩:=yY (List.getElem_mem hi)
 obtain ⟨hj,g'⟩:=List.getElem?_eq_some_iff.1 g
 show pos L L[i]=_
 rw [e,(List.getElem_inj hn).1 g']
theorem lab_nodup (hv:bW t):t.L.Nodup:=by
 obtain ⟨M,hM,hs⟩:=hv.2.2.1.cons
 rw [hM,List.nodup_cons]
 exact ⟨hs.2,hs.1.imp fun {a b} h e=>by subst e;rw [mP] at h;cases h⟩
theorem aMH (hv:bW t) {E:List Edge} (hE:E.length < 1000000) (hl:∀ e∈E,0<=e.B/\e.B < t.L.length) (st ini:Int):qE st ini t.L E=some ⟨st,ini,t.L,eC (qD bM E)⟩:=by
 obtain ⟨M,hM,hs⟩:=hv.2.2.1.cons
 have h12:=hv.2.2.1.2.1
 have hnd:=lab_nodup hv
 have:=aOF (texts:=t.L) (M:=M) (edges:=E) (Eo:=eC (qD bM E)) (by omega) hs (fun s=>by
  rw [hM,List.mem_cons]
  constructor
  ·intro h;exact ⟨.inr h,fun e=>hs.2 (e ▸ h)⟩
  ·rintro ⟨h|h,h2⟩
   ·exact absurd h h2
   ·exact h) hE hl (aGY E) (fun x=>by
  rw [aAY]
  have key:∀ e∈E,(⟨e.F,pos (bF::M) (t.L.getD e.B.toNat []),e.To⟩:Edge)=e:=fun e he=>by
   have h:=hl e he
   rw [←hM,pos_own hnd (by omega)]
   exact aKi rfl (by show ((e.B.toNat:Nat):Int)=e.B;omega) rfl
  constructor
  ·intro h;exact ⟨x,h,(key x h).symm⟩
  ·rintro ⟨e,he,rfl⟩;rw [key e he];exact he) st ini
 rw [this,hM]
theorem true15 {al:List Bool} (hal:al.length<=1000):aCZ al=some (((List.range al.length).filter fun k=>al.getD k false).map Int.ofNat):=by
 unfold aCZ
 have:=aAo (step:=fun s:List Int × Int=>wV al s.1 s.2) (List.range al.length) (fun k=>al.getD k false) Int.ofNat id (fun k out x hk ho hx=>by
  rw [List.length_range] at hk
  have hxk:x=k:=by rw [sT,List.getElem?_range hk] at hx;exact (Option.some.inj hx).symm
  subst hxk
  have hw:=bK hk (show al.length < 4611686018427387904 by omega)
  show wV al out (x:Int)=_
  unfold wV aAB
  have hg:al.getD x false=al[x]:=by rw [List.getD_eq_getElem?_getD,List.getElem?_eq_getElem hk];rfl
  rw [if_pos (bU hk),bR hk,aA,hg]
  cases al[x] with
  |true=>rw [if_pos rfl,if_pos rfl,cQ (by simp [jA];omega),aA,hw];rfl
  |false=>rw [if_neg (by simp),if_neg (by simp),hw]) (fun out=>by
  rw [List.length_range]
  simp only [wV,cO];rfl)
 rw [this,aA];rfl
theorem quo15a (hv:bW t) (hp:iC t p):loop (fun s:List Edge × Int=>mF t p s.1 s.2) (([]:List Edge),0)=some (qE1 t p):=by
 have h300:=hv.2.2.2.1
 exact aAo (step:=fun s:List Edge × Int=>mF t p s.1 s.2) t.E (fun e=>!inL p e) (fun e=>(⟨bk p e.F,e.B,bk p e.To⟩:Edge)) id (fun k out x hk ho hx=>by
  have hm:=aBx hx
  have hT:=pP hv hm
  have h1:=hT.1
  have h2:=hT.2.1
  unfold inT at h1 h2
  have hw:=bK hk (show t.E.length < 4611686018427387904 by omega)
  show mF t p out (k:Int)=_
  unfold mF rZ
  rw [if_pos (bU hk),hx,aA,aKs (aJs hv) hp hm,aA]
  cases hc:!inL p x with
  |true=>rw [if_pos rfl,if_pos rfl,bk_ix hp.1 (s:=x.F) (by omega),aA,bk_ix hp.1 (s:=x.To) (by omega),aA,cQ (by simp [jA];omega),aA,hw]
  |false=>rw [if_neg (by simp),if_neg (by simp),hw]) (fun out=>by simp only [mF,cO];rfl)
def dg (p:List Int) (k:Int):Edge:=⟨p.getD k.toNat 0,0,p.getD k.toNat 0⟩
theorem quo15b {l:List Int} (hl:l.length<=300) (hlm:∀ k∈l,ix p k=some (p.getD k.toNat 0)) {E:List Edge} (hE:E.length<=300):loop (fun s:List Edge × Int=>jQ p l s.1 s.2) (E,0)=some (E++l.map (dg p)):=by
 refine kH (step:=fun s:List Edge × Int=>jQ p l s.1 s.2) l (fun k (a:List Edge)=>(a,(k:Int))) (fun m a=>a++m.map (dg p)) (fun k a=>a.length<=300+k) (fun k a x m hk hx hI=>?_) (fun a _=>?_) hE
 ·left
  have hI':a.length<=300+k:=hI
  have hw:=bK hk (show l.length < 4611686018427387904 by omega)
  refine ⟨a++[dg p x],?_,by rw [List.length_append,List.length_singleton];omega,by rw [List.map_cons,List.append_assoc];rfl⟩
  show jQ p l a (k:Int)=_
  unfold jQ
  rw [if_pos (bU hk),hx,aA,hlm x (aBx hx),aA,cQ (by simp [jA];omega),aA,hw]
  rfl
 ·show jQ p l a (l.length:Int)=_
  unfold jQ
  rw [if_neg (by simp),List.map_nil,List.append_nil]
theorem quo15 (hv:bW t) (he:t.E.length+t.N.toNat<=300) (hp:iC t p):∃ c,yA t p true=some c/\Quo t p c/\bW c/\c.I=p.getD t.I.toNat 0/\c.E.length<=t.E.length+t.N.toNat:=by
 have h40:=hv.1
 have hi:=hv.2.1
 have hu:=aCU hv
 have hlab:=hv.2.2.1.1
 have hpl:=hp.1
 obtain ⟨b,hb1,hb2⟩:=aPS (p:=p) (by omega) (by omega) (fun z hz=>by have:=hp.2 z hz;omega)
 obtain ⟨al,d1,d2⟩:=aMF (aJs hv) hp
 have hal:al.length=t.N.toNat:=d2.len
 obtain ⟨l,hld⟩:∃ l:List Int,l=((List.range al.length).filter fun k=>al.getD k false).map Int.ofNat:=⟨_,rfl⟩
 have hl:l.length<=t.N.toNat:=by
  rw [hld,List.length_map]
  exact Nat.le_trans (List.length_filter_le _ _) (by rw [List.length_range];omega)
 have hlm:∀ k,k∈l<->inT t k/\Dv t p k:=fun k=>by
  rw [hld,List.mem_map]
  constructor
  ·rintro ⟨a,ha,rfl⟩
   obtain ⟨h1,h2⟩:=List.mem_filter.1 ha
   rw [List.mem_range] at h1
   have hin:inT t (Int.ofNat a):=by unfold inT;exact ⟨Int.natCast_nonneg a,by show (a:Int) < _;omega⟩
   exact ⟨hin,(aNS hu d2 hin).1 h2⟩
  ·rintro ⟨h1,h2⟩
   have h3:=(aNS hu d2 h1).2 h2
   unfold inT at h1
   exact ⟨k.toNat,List.mem_filter.2 ⟨by rw [List.mem_range];omega,h3⟩,by show ((k.toNat:Nat):Int)=k;omega⟩
 have htr:aCZ al=some l:=by rw [hld];exact true15 (by omega)
 have hE1:=aKr (t:=t) (p:=p)
 obtain ⟨E2,hE2⟩:∃ E2:List Edge,E2=l.map (dg p):=⟨_,rfl⟩
 have hE2l:E2.length=l.length:=by rw [hE2,List.length_map]
 have h3':loop (fun s:List Edge × Int=>jQ p l s.1 s.2) (qE1 t p,0)=some (qE1 t p++E2):=by
  rw [hE2]
  exact quo15b (by omega) (fun k hk=>(jX hp ((hlm k).1 hk).1).1) (by omega)
 have hE2m:∀ e,e∈E2<->∃ k,k∈l/\(⟨p.getD k.toNat 0,0,p.getD k.toNat 0⟩:Edge)=e:=fun e=>by rw [hE2,List.mem_map];rfl
 clear hE2 hld
 have hlen:(qE1 t p++E2).length<=t.E.length+t.N.toNat:=by
  rw [List.length_append];omega
 have hmk:=aMH hv (E:=qE1 t p++E2) (by omega) (fun e he=>by
  rcases List.mem_append.1 he with he|he
  ·unfold qE1 at he
   obtain ⟨d,hd,rfl⟩:=List.mem_map.1 he
   exact (pP hv (List.mem_filter.1 hd).1).2.2
  ·obtain ⟨k,_,rfl⟩:=(hE2m e).1 he
   exact ⟨by show (0:Int)<=0;omega,by show (0:Int) < _;omega⟩) b (p.getD t.I.toNat 0)
 have hq:Quo t p ⟨b,p.getD t.I.toNat 0,t.L,eC (qD bM (qE1 t p++E2))⟩:=by
  refine ⟨rfl,fun e=>?_⟩
  show e∈eC (qD bM _)<->_
  rw [aAY,List.mem_append]
  refine or_congr ?_ ?_
  ·unfold qE1
   rw [List.mem_map]
   constructor
   ·rintro ⟨d,hd,rfl⟩
    obtain ⟨h1,h2⟩:=List.mem_filter.1 hd
    refine ⟨d,h1,fun hn=>?_,rfl⟩
    rw [xJ.2 hn] at h2;cases h2
   ·rintro ⟨d,hd,hn,rfl⟩
    refine ⟨d,List.mem_filter.2 ⟨hd,?_⟩,rfl⟩
    cases h:inL p d with
    |false=>rfl
    |true=>exact absurd (xJ.1 h) hn
  ·rw [hE2m]
   constructor
   ·rintro ⟨k,hk,rfl⟩
    have:=(hlm k).1 hk
    exact ⟨k,this.1,this.2,rfl⟩
   ·rintro ⟨k,hk,hd,rfl⟩
    exact ⟨k,(hlm k).2 ⟨hk,hd⟩,rfl⟩
 have hle:=aDO (qE1 t p++E2)
 refine ⟨_,?_,hq,aMB hv hp hb2 hq rfl rfl (aGY _) (by show (eC _).length<=300;omega),rfl,by show (eC _).length<=_;omega⟩
 unfold yA
 rw [quo15a hv hp,aA]
 unfold wY
 rw [if_pos rfl,d1,aA,htr,aA,h3',aA]
 unfold aBn rY
 rw [(jX hp (s:=t.I) (by unfold inT;omega)).1,aA,hb1,aA,hmk,aA]
theorem aQj (hv:bW t) (he:t.E.length+t.N.toNat<=300):∃ c,aDs t true=some c/\Like t c/\c.E.length<=t.E.length+t.N.toNat:=by
 have hr:=aKh hv
 have hl:=RL_len t
 have k5:(sS t (RL t)).E.length<=t.E.length:=aDb t (RL t)
 have k6:(sS t (RL t)).N.toNat=(RL t).length:=by show ((RL t).length:Int).toNat=_;omega
 have h1:=hv.1
 obtain ⟨p,e1,hp,hst⟩:=part15 hr
 obtain ⟨c,e2,hq,hc,hi,hle⟩:=quo15 hr (by omega) hp
 refine ⟨c,?_,⟨⟨RQ t p,aMD hv hst hq,by rw [hi];exact aME hv⟩,hc,fun s hs=>by rw [hq.lab] at hs;exact hs⟩,by omega⟩
 unfold aDs
 rw [aOD hv,aA,aPK hv (by omega),aA,e1,aA,e2,aA]
end
end Gv
namespace Gv
open Go
section
variable {t:bB} {sh more:Int} (cs:aI)
def gL (t:bB) (sh k:Int):Int:=if k < t.N then k else (k+sh).tmod t.N
def Tg (t:bB) (sh more to d:Int):Prop:=to=d\/(to=t.N/\0 < more/\d=(t.N+sh).tmod t.N)
theorem rm_eq {x n:Int} (hx:0<=x) (hn:1<=n):rm x n=some (x.tmod n)/\0<=x.tmod n/\x.tmod n < n:=by
 obtain ⟨v,e,h1,h2⟩:=rm_ok hx hn
 have:rm x n=some (x.tmod n):=by unfold rm;rw [if_neg (by omega)]
 rw [this] at e
 cases e
 exact ⟨this,h1,h2⟩
structure Row (t:bB) (sh more:Int) (k old:Int) (l:List Edge) (new:List Edge):Prop where
 snd:∀ e∈new,e.F=k/\∃ d∈l,e.B=d.B/\Tg t sh more e.To d.To
 cmp:∀ d∈l,∃ e∈new,e.F=k/\e.B=d.B/\Tg t sh more e.To d.To
 len:new.length=l.length
theorem row_snoc {k old:Int} {l new:List Edge} (h:Row t sh more k old l new) {d:Edge} {to:Int} (ht:Tg t sh more to d.To):Row t sh more k old (l++[d]) (new++[⟨k,d.B,to⟩]):=by
 refine ⟨fun e he=>?_,fun x hx=>?_,by simp [h.len]⟩
 ·rcases List.mem_append.1 he with he|he
  ·obtain ⟨h1,y,h2,h3⟩:=h.snd e he
   exact ⟨h1,y,List.mem_append_left _ h2,h3⟩
  ·rw [List.mem_singleton] at he
   subst he
   exact ⟨rfl,d,by simp,rfl,ht⟩
 ·rcases List.mem_append.1 hx with hx|hx
  ·obtain ⟨e,h1,h2⟩:=h.cmp x hx
   exact ⟨e,List.mem_append_left _ h1,h2⟩
  ·rw [List.mem_singleton] at hx
   subst hx
   exact ⟨_,List.mem_append_right _ (List.mem_singleton_self _),rfl,rfl,ht⟩
theorem like_row2 (hv:bW t) (he:t.E.length<=60) {r18:Int × Int × Int} (hr:0<=r18.1/\r18.1 < t.N) {more:Int} (hm:0<=more/\more<=2) {k old:Int} (hk:0<=k/\k < t.N+more) {s1:Int} (s2:Int) (hs:0<=s1/\s1<=1000000000) {E:List Edge} (hl:E.length<=1000):
  ∃ s1' s2' new,mG cs t r18 more s1 s2 E k old=some (.inl (s1',s2',E++new,k+1))/\Row t r18.1 more k old (t.E.filter fun e=>e.F == old) new/\s1<=s1'/\s1'<=s1+120:=by
 have h1:=hv.1
 unfold mG
 rw [l11Out_eq _ _ (by omega),aA]
 have hout:(t.E.filter fun e=>e.F == old).length<=60:=Nat.le_trans (List.length_filter_le _ _) he
 generalize ho:(t.E.filter fun e=>e.F == old)=O at hout ⊢
 have key:=gS (step:=fun s:Int × Int × List Edge × Int=>kT cs t r18 more k O s.1 s.2.1 s.2.2.1 s.2.2.2) O.length (fun i (q:Int × Int × List Edge)=>(q.1,q.2.1,q.2.2,(i:Int))) (fun i q=>(∃ new,q.2.2=E++new/\Row t r18.1 more k old (O.take i) new)/\s1<=q.1/\q.1<=s1+2 * i)
  (fun r=>(∃ new,r.2.2=E++new/\Row t r18.1 more k old O new)/\s1<=r.1/\r.1<=s1+120) (fun i q hi hI=>?_) (fun q hI=>?_) O.length 0 (s1,s2,E) (by omega) ⟨⟨[],by simp,⟨by simp,by simp,rfl⟩⟩,Int.le_refl _,by simp⟩
 ·obtain ⟨⟨a1,b1,E'⟩,e1,⟨new,g1,g2⟩,g3,g4⟩:=key
  have e1':loop (fun s:Int × Int × List Edge × Int=>kT cs t r18 more k O s.1 s.2.1 s.2.2.1 s.2.2.2) (s1,s2,E,0)=some (a1,b1,E'):=e1
  simp only at g1
  rw [e1',aA]
  unfold aBo xA
  rw [dS (x:=k+1) (by omega) (by omega)]
  exact ⟨a1,b1,new,by rw [←g1],g2,g3,g4⟩
 ·obtain ⟨a1,b1,E'⟩:=q
  obtain ⟨⟨new,g1,g2⟩,g3,g4⟩:=hI
  simp only at g1 g3 g4 ⊢
  subst g1
  have hnl:=g2.len
  rw [List.length_take] at hnl
  have hfin:∀ x y to,Tg t r18.1 more to O[i].To->s1<=x/\x<=s1+2 * ((i:Int)+1)->
    ∃ q:Int × Int × List Edge,sD k (E++new) (i:Int) O[i] x y to=some (.inl (q.1,q.2.1,q.2.2,((i+1:Nat):Int)))/\(∃ new,q.2.2=E++new/\Row t r18.1 more k old (O.take (i+1)) new)/\s1<=q.1/\q.1<=s1+2 * ((i+1:Nat):Int):=by
   intro x y to hto hx
   unfold sD
   rw [cQ (by simp only [List.length_append,List.length_singleton];unfold jA;omega),aA,bK hi (by omega)]
   refine ⟨(x,y,E++new++[⟨k,O[i].B,to⟩]),rfl,⟨new++[⟨k,O[i].B,to⟩],by rw [List.append_assoc],?_⟩,hx.1,by simp only;omega⟩
   rw [List.take_add_one,List.getElem?_eq_getElem hi]
   exact row_snoc g2 hto
  have hj5:∀ x y (b:Bool),(b=true->0 < more/\O[i].To=(t.N+r18.1).tmod t.N)->s1<=x/\x<=s1+2 * ((i:Int)+1)->
    ∃ q:Int × Int × List Edge,oP t k (E++new) (i:Int) O[i] x y b=some (.inl (q.1,q.2.1,q.2.2,((i+1:Nat):Int)))/\(∃ new,q.2.2=E++new/\Row t r18.1 more k old (O.take (i+1)) new)/\s1<=q.1/\q.1<=s1+2 * ((i+1:Nat):Int):=by
   intro x y b hb hx
   unfold oP
   cases b with
   |true=>have:=hb rfl;rw [if_pos rfl];exact hfin _ _ _ (.inr ⟨rfl,this⟩) hx
   |false=>rw [if_neg (by simp)];exact hfin _ _ _ (.inl rfl) hx
  show ∃ q:Int × Int × List Edge,kT cs t r18 more k O a1 b1 (E++new) (i:Int)=some (.inl (q.1,q.2.1,q.2.2,((i+1:Nat):Int)))/\_
  unfold kT
  rw [if_pos (bU hi),bR hi,aA]
  by_cases hm0:0 < more
  ·rw [if_pos (by simpa using hm0)]
   obtain ⟨hv,_⟩:=rm_eq (x:=t.N+r18.1) (n:=t.N) (by omega) (by omega)
   rw [dS (x:=t.N+r18.1) (by omega) (by omega),hv,aA]
   by_cases hz:((t.N+r18.1).tmod t.N == O[i].To)=true
   ·rw [if_pos hz]
    obtain ⟨b,x,y,e,h5,h6⟩:=aND cs b1 (s1:=a1) (n:=2) (by omega) (by omega)
    rw [e,aA]
    exact hj5 _ _ _ (fun _=>⟨hm0,(beq_iff_eq.1 hz).symm⟩) (by simp only;omega)
   ·rw [if_neg hz]
    exact hj5 _ _ _ (fun h=>by cases h) (by omega)
  ·rw [if_neg (by simpa using hm0)]
   exact hj5 _ _ _ (fun h=>by cases h) (by omega)
 ·obtain ⟨a1,b1,E'⟩:=q
  obtain ⟨g1,g3,g4⟩:=hI
  rw [List.take_length] at g1
  refine ⟨(a1,b1,E'),?_,g1,g3,by simp only at g4 ⊢;omega⟩
  show kT cs t r18 more k O a1 b1 E' (O.length:Int)=_
  unfold kT
  rw [if_neg (by simp)]
structure LkI (t:bB) (sh more:Int) (k:Nat) (E:List Edge):Prop where
 snd:∀ e∈E,(0<=e.F/\e.F < k)/\∃ d∈t.E,d.F=gL t sh e.F/\e.B=d.B/\Tg t sh more e.To d.To
 cmp:∀ j:Nat,j < k->∀ d∈t.E,d.F=gL t sh (j:Int)->∃ e∈E,e.F=(j:Int)/\e.B=d.B/\Tg t sh more e.To d.To
 len:E.length<=t.E.length * k
theorem aQk (hv:bW t) (he:t.E.length<=5) (hst:t.N<=4) {r18:Int × Int × Int} (hr:0<=r18.1/\r18.1 < t.N) {more:Int} (hm:0<=more/\more<=2) {s1:Int} (s2:Int) (hs:0<=s1/\s1<=100000000):
  ∃ E s1' s2',loop (fun s:Int × Int × List Edge × Int=>jR cs t r18 more s.1 s.2.1 s.2.2.1 s.2.2.2) (s1,s2,([]:List Edge),0)=some (E,s1',s2')/\LkI t r18.1 more (t.N+more).toNat E:=by
 have h1:=hv.1
 have h2:=hv.2.1
 have key:=gS (step:=fun s:Int × Int × List Edge × Int=>jR cs t r18 more s.1 s.2.1 s.2.2.1 s.2.2.2) (t.N+more).toNat (fun k (q:Int × Int × List Edge)=>(q.1,q.2.1,q.2.2,(k:Int))) (fun k q=>LkI t r18.1 more k q.2.2/\s1<=q.1/\q.1<=s1+120 * k)
  (fun r=>LkI t r18.1 more (t.N+more).toNat r.1) (fun k q hk hI=>?_) (fun q hI=>?_) (t.N+more).toNat 0 (s1,s2,[]) (by omega) ⟨⟨by simp,fun j hj=>by omega,by simp⟩,Int.le_refl _,by simp⟩
 ·obtain ⟨⟨E,a1,b1⟩,e1,g1⟩:=key
  exact ⟨E,a1,b1,e1,g1⟩
 ·obtain ⟨a1,b1,E⟩:=q
  obtain ⟨g1,g3,g4⟩:=hI
  simp only at g1 g3 g4 ⊢
  have hEl:=g1.len
  have hkk:k<=6:=by omega
  have hEl2:E.length<=1000:=by
   have:t.E.length * k<=5 * 6:=Nat.mul_le_mul he hkk
   omega
  have hold:∃ old,old=gL t r18.1 (k:Int)/\jR cs t r18 more a1 b1 E (k:Int)=mG cs t r18 more a1 b1 E (k:Int) old:=by
   unfold jR
   rw [dS (x:=t.N+more) (by omega) (by omega),if_pos (by simp;omega)]
   by_cases ho:t.N<=(k:Int)
   ·obtain ⟨hv,_⟩:=rm_eq (x:=(k:Int)+r18.1) (n:=t.N) (by omega) (by omega)
    rw [if_pos (by simpa using ho),dS (x:=(k:Int)+r18.1) (by omega) (by omega),hv,aA]
    exact ⟨_,by unfold gL;rw [if_neg (by omega)],rfl⟩
   ·rw [if_neg (by simpa using ho)]
    exact ⟨_,by unfold gL;rw [if_pos (by omega)],rfl⟩
  obtain ⟨old,ho,hs8⟩:=hold
  obtain ⟨x,y,new,e,f1,f3,f4⟩:=like_row2 cs hv (by omega) hr hm (k:=(k:Int)) (old:=old) (by omega) (s1:=a1) b1 (by omega) hEl2
  refine ⟨(x,y,E++new),?_,⟨fun e he=>?_,fun j hj d hd hdf=>?_,?_⟩,by simp only;omega,by simp only;omega⟩
  ·show jR cs t r18 more a1 b1 E (k:Int)=_
   rw [hs8,e];rfl
  ·rcases List.mem_append.1 he with he|he
   ·obtain ⟨k1,k2⟩:=g1.snd e he
    exact ⟨by omega,k2⟩
   ·obtain ⟨k1,d,k2,k3,k4⟩:=f1.snd e he
    obtain ⟨k5,k6⟩:=List.mem_filter.1 k2
    rw [beq_iff_eq] at k6
    exact ⟨by omega,d,k5,by rw [k6,ho,k1],k3,k4⟩
  ·by_cases hjk:j=k
   ·subst hjk
    obtain ⟨e,k1,k2⟩:=f1.cmp d (List.mem_filter.2 ⟨hd,by rw [beq_iff_eq,hdf,ho]⟩)
    exact ⟨e,List.mem_append_right _ k1,k2⟩
   ·obtain ⟨e,k1,k2⟩:=g1.cmp j (by omega) d hd hdf
    exact ⟨e,List.mem_append_left _ k1,k2⟩
  ·have k1:=f1.len
   have k2:(t.E.filter fun e=>e.F == old).length<=t.E.length:=List.length_filter_le _ _
   simp only [List.length_append,Nat.mul_succ]
   omega
 ·obtain ⟨a1,b1,E⟩:=q
  refine ⟨(E,a1,b1),?_,hI.1⟩
  show jR cs t r18 more a1 b1 E (((t.N+more).toNat:Nat):Int)=_
  unfold jR
  rw [dS (x:=t.N+more) (by omega) (by omega),if_neg (by simp;omega)]
theorem like_bbd (hv:bW t) (he:t.E.length<=5) (hst:t.N<=4) (hr:0<=sh/\sh < t.N) (hm:0<=more/\more<=2) {E:List Edge} (hE:LkI t sh more (t.N+more).toNat E):
  Like t ⟨t.N+more,t.I,t.L,eC (qD bM E)⟩/\(eC (qD bM E)).length<=30:=by
 have h1:=hv.1
 have h2:=hv.2.1
 have hlen:(eC (qD bM E)).length<=30:=by
  have k1:=aDO E
  have k2:=hE.len
  have:t.E.length * (t.N+more).toNat<=5 * 6:=Nat.mul_le_mul he (by omega)
  omega
 have hz:=rm_eq (x:=t.N+sh) (n:=t.N) (by omega) (by omega)
 have hdT:∀ d∈t.E,0<=d.To/\d.To < t.N:=fun d hd=>(pP hv hd).2.1
 have htg:∀ {to d:Int},0<=d/\d < t.N->Tg t sh more to d->(0<=to/\to < t.N+more)/\gL t sh to=d:=fun {to d} hd ht=>by
  rcases ht with rfl|⟨rfl,m0,rfl⟩
  ·exact ⟨by omega,by unfold gL;rw [if_pos hd.2]⟩
  ·exact ⟨by omega,by unfold gL;rw [if_neg (by omega)]⟩
 refine ⟨⟨⟨fun s k=>(0<=k/\k < t.N+more)/\s=gL t sh k,bbd_fun (g:=gL t sh) (P:=fun k=>0<=k/\k < t.N+more) ?_ ?_,⟨by show 0<=t.I/\t.I < _;omega,by show t.I=gL t sh t.I;unfold gL;rw [if_pos (by omega)]⟩⟩,⟨by show 1<=t.N+more/\t.N+more<=40;omega,by show 0<=t.I/\t.I<=t.N+more - 1;omega,hv.2.2.1,aGI (by show (eC _).length<=300;omega) (aGY E) fun e hem=>?_⟩,fun s hs=>hs⟩,hlen⟩
 ·rintro k l k' hk ⟨e,hem,rfl,rfl,rfl⟩
  obtain ⟨_,d,d1,d2,d3,d4⟩:=hE.snd e (aAY.1 hem)
  obtain ⟨a1,a2⟩:=htg (hdT d d1) d4
  refine ⟨a1,d,d1,d2,?_,a2.symm⟩
  unfold sQ
  rw [d3]
 ·rintro k l s hk ⟨d,hd,d1,d2,rfl⟩
  have e0:((k.toNat:Nat):Int)=k:=by omega
  obtain ⟨e,k1,k2,k3,k4⟩:=hE.cmp k.toNat (by omega) d hd (by rw [e0];exact d1)
  refine ⟨e.To,⟨e,aAY.2 k1,by rw [k2,e0],?_,rfl⟩,(htg (hdT d hd) k4).2⟩
  rw [←d2]
  unfold sQ
  rw [k3]
 ·obtain ⟨a,d,d1,d2,d3,d4⟩:=hE.snd e (aAY.1 hem)
  obtain ⟨a1,_⟩:=htg (hdT d d1) d4
  obtain ⟨_,_,b3⟩:=pP hv d1
  exact ⟨⟨a.1,by show e.F<=t.N+more - 1;omega⟩,⟨a1.1,by show e.To<=t.N+more - 1;omega⟩,by omega,by show e.B<=(t.L.length:Int) - 1;omega⟩
theorem like_at (hv:bW t) (he:t.E.length<=5) (hst:t.N<=4) {s1:Int} (s2:Int) (hs:0<=s1/\s1<=1000000):∃ c s1' s2',yB cs s1 s2 t=some (c,s1',s2')/\Like t c/\c.E.length<=30:=by
 have h1:=hv.1
 obtain ⟨v,x,y,e,hvv,h5,h6⟩:=xI cs s2 (s1:=s1) (n:=t.N) (by omega) (by omega)
 obtain ⟨v2,x2,y2,e2,hv2,h52,h62⟩:=xI cs y (s1:=x) (n:=3) (by omega) (by omega)
 unfold yB
 rw [e,aA,if_pos (by simp;omega)]
 show ∃ c s1' s2',(ob (dZ cs x y 3) fun r317=>oQ cs t (v,x,y) r317.2.1 r317.2.2 r317.1)=_/\_
 rw [e2,aA]
 obtain ⟨E,a1,b1,e3,hE⟩:=aQk cs hv he hst (r18:=(v,x,y)) hvv (more:=v2) (by omega) y2 (s1:=x2) (by omega)
 obtain ⟨k1,k2⟩:=like_bbd hv he hst (sh:=v) hvv (more:=v2) (by omega) hE
 have hEl:E.length < 1000000:=by
  have:=hE.len
  have:t.E.length * (t.N+v2).toNat<=5 * 6:=Nat.mul_le_mul he (by omega)
  omega
 have hmk:=aMH hv hEl (fun e he=>by
  obtain ⟨_,d,d1,d2,d3,d4⟩:=hE.snd e he
  obtain ⟨_,_,b3⟩:=pP hv d1
  omega) (t.N+v2) t.I
 unfold oQ
 simp only
 rw [e3,aA]
 unfold wZ
 rw [dS (x:=t.N+v2) (by omega) (by omega),hmk,aA]
 exact ⟨_,a1,b1,rfl,k1,k2⟩
theorem r8like_at (hv:bW t) (he:t.E.length<=5) (hst:t.N<=4):∃ c,aGp cs t=some c/\Like t c/\c.E.length<=30:=by
 have h1:=hv.1
 obtain ⟨b,x,y,e,h5,h6⟩:=aND cs 0 (s1:=0) (n:=2) (by omega) (by omega)
 unfold aGp aEG
 rw [aA]
 simp only
 rw [e,aA]
 cases b with
 |true=>
  obtain ⟨c,e1,e2,e3⟩:=aQj hv (by omega)
  rw [if_pos rfl,e1,aA]
  exact ⟨c,rfl,e2,by omega⟩
 |false=>
  obtain ⟨c,x',y',e1,e2,e3⟩:=like_at cs hv he hst (s1:=x) y (by omega)
  rw [if_neg (by simp)]
  simp only
  rw [e1,aA]
  exact ⟨c,rfl,e2,e3⟩
end
end Gv
namespace Gv
open Go
theorem T6_lab:∀ s∈T6,aGE s=true:=by decide
theorem T6_len:∀ s∈T6,s.length<=6:=by decide
theorem labs6 {M:List aI} (hM:pZ M) (hn:∀ s∈M,s∈T6):aHR (bF::M):=by
 have hnd:M.Nodup:=hM.1.imp fun {a b} h e=>by subst e;rw [mP] at h;cases h
 have hl:M.length<=5:=by
  have:=List.Nodup.length_le_of_subset (l₁:=bF::M) (l₂:=T6) (List.nodup_cons.2 ⟨hM.2,hnd⟩) (fun x hx=>by
   rcases List.mem_cons.1 hx with rfl|hx
   ·simp [T6]
   ·exact hn x hx)
  have h6:T6.length=6:=rfl
  rw [List.length_cons] at this
  omega
 refine ⟨by simp,by simp;omega,fun _=>rfl,fun k h1 hk=>?_⟩
 obtain ⟨k,rfl⟩:∃ j,k=j+1:=⟨k - 1,by omega⟩
 have hk':k < M.length:=by simpa using hk
 have hm:M[k]∈M:=List.getElem_mem hk'
 rw [List.getElem_cons_succ]
 refine ⟨T6_lab _ (hn _ hm),fun e=>hM.2 (e ▸ hm),fun h2=>?_⟩
 obtain ⟨k,rfl⟩:∃ j,k=j+1:=⟨k - 1,by omega⟩
 have:=List.pairwise_iff_getElem.1 hM.1 k (k+1) (by omega) hk' (by omega)
 simpa using this
structure Prt (t:bB):Prop where
 ok:bW t
 lab:∀ s∈t.L,s∈T6
 st:t.N<=3
 ed:t.E.length<=4
theorem make6 {T:List aI} (hT:∀ s∈T,s∈T6) (hTl:T.length<=400) {st ini:Int} (h1:1<=st/\st<=3) (h2:0<=ini/\ini < st) {edges:List Edge} (hl:edges.length<=4)
  (he:∀ e∈edges,(0<=e.F/\e.F < st)/\(0<=e.To/\e.To < st)/\0<=e.B/\e.B < T.length):
  ∃ t',qE st ini T edges=some t'/\Prt t'/\t'.N=st/\t'.I=ini:=by
 obtain ⟨M,_,j2,j3,j4⟩:=aIN T (by omega)
 have hM:∀ s∈M,s∈T6:=fun s hs=>hT s ((j3 s).1 hs).1
 obtain ⟨E,hE⟩:∃ E:List Edge,E=edges.map fun e=>(⟨e.F,pos (bF::M) (T.getD e.B.toNat []),e.To⟩:Edge):=⟨_,rfl⟩
 have hmem:∀ x,x∈eC (qD bM E)<->∃ e∈edges,x=⟨e.F,pos (bF::M) (T.getD e.B.toNat []),e.To⟩:=fun x=>by
  rw [aAY,hE,List.mem_map]
  exact ⟨fun ⟨e,h,g⟩=>⟨e,h,g.symm⟩,fun ⟨e,h,g⟩=>⟨e,h,g.symm⟩⟩
 have hmk:=aOF (by omega) j2 j3 (by omega) (fun e h=>(he e h).2.2) (aGY E) hmem st ini
 have hlen:(eC (qD bM E)).length<=4:=by
  have:=aDO E
  rw [hE,List.length_map] at this
  rw [hE];omega
 have hL:=labs6 j2 hM
 refine ⟨_,hmk,⟨⟨by show 1<=st/\st<=40;omega,by show 0<=ini/\ini<=st - 1;omega,hL,aGI (by show (eC _).length<=300;omega) (aGY E) fun x hx=>?_⟩,fun s hs=>?_,h1.2,hlen⟩,rfl,rfl⟩
 ·obtain ⟨e,h,rfl⟩:=(hmem x).1 hx
  obtain ⟨a1,a2,a3⟩:=he e h
  have hg:T.getD e.B.toNat []∈bF::M:=by
   have hmT:T.getD e.B.toNat []∈T:=by
    rw [List.getD_eq_getElem?_getD,List.getElem?_eq_getElem (by omega)]
    exact List.getElem_mem _
   exact tau_or j3 hmT
  have hp:=aKj hg
  exact ⟨⟨a1.1,by show e.F<=st - 1;omega⟩,⟨a2.1,by show e.To<=st - 1;omega⟩,hp.1,by show pos (bF::M) _<=((bF::M).length:Int) - 1;omega⟩
 ·rcases List.mem_cons.1 hs with rfl|hs
  ·simp [T6]
  ·exact hM s hs
theorem used6 {t:bB} (h:Prt t):∃ t',aCY t=some t'/\Prt t':=by
 have hed:=h.ed
 have hs:=h.ok.1
 have hi:=h.ok.2.1
 have hst:=h.st
 have key:=gS (step:=fun s:List aI × List Edge × Int=>tA t s.1 s.2.1 s.2.2) t.E.length (fun k (a:List aI × List Edge)=>(a.1,a.2,(k:Int)))
  (fun k a=>a.1.length=k+1/\(∀ s∈a.1,s∈T6)/\a.2.length=k/\∀ e∈a.2,(0<=e.F/\e.F < t.N)/\(0<=e.To/\e.To < t.N)/\0<=e.B/\e.B < a.1.length)
  (fun a=>a.1.length<=5/\(∀ s∈a.1,s∈T6)/\a.2.length<=4/\∀ e∈a.2,(0<=e.F/\e.F < t.N)/\(0<=e.To/\e.To < t.N)/\0<=e.B/\e.B < a.1.length) (fun k a hk hI=>?_) (fun a hI=>?_) t.E.length 0 ([bF],[]) (by omega) ⟨rfl,by simp [T6],rfl,by simp⟩
 ·obtain ⟨⟨T,E⟩,h1,g1,g2,g3,g4⟩:=key
  have h1':loop (fun s:List aI × List Edge × Int=>tA t s.1 s.2.1 s.2.2) (([([116,97,117]:aI)]:List aI),([]:List Edge),0)=some (T,E):=h1
  obtain ⟨t',e1,e2,_⟩:=make6 (T:=T) g2 (by simp only at g1;omega) (st:=t.N) (ini:=t.I) (by omega) (by omega) (edges:=E) g3 g4
  unfold aCY
  rw [h1',aA]
  unfold aCJ
  simp only
  rw [e1,aA]
  exact ⟨t',rfl,e2⟩
 ·obtain ⟨T,E⟩:=a
  obtain ⟨g1,g2,g3,g4⟩:=hI
  simp only at g1 g2 g3 g4 ⊢
  have he:=List.getElem_mem hk
  obtain ⟨a1,a2,a3,a4⟩:=pP h.ok he
  have hlb:ix t.L t.E[k].B=some (sQ t t.E[k]):=by
   have e0:t.E[k].B=((t.E[k].B.toNat:Nat):Int):=by omega
   have:=bR (xs:=t.L) (k:=t.E[k].B.toNat) (by omega)
   rw [←e0] at this
   rw [this]
   unfold sQ
   rw [List.getD_eq_getElem?_getD,List.getElem?_eq_getElem (by omega)];rfl
  unfold tA
  have hw2:wr (((T++[sQ t t.E[k]]).length:Int) - 1)=((k+1:Nat):Int):=by
   rw [List.length_append,List.length_singleton,g1,dS (by omega) (by omega)];omega
  rw [if_pos (bU hk),bR hk,aA,hlb,aA,cQ (by simp [jA];omega),aA,hw2,cQ (by simp [jA];omega),aA,bK hk (by omega)]
  refine ⟨(T++[sQ t t.E[k]],E++[⟨t.E[k].F,((k+1:Nat):Int),t.E[k].To⟩]),rfl,by simp;omega,fun s hs=>?_,by simp;omega,fun e he=>?_⟩
  ·rcases List.mem_append.1 hs with hs|hs
   ·exact g2 s hs
   ·rw [List.mem_singleton] at hs
    subst hs
    exact h.lab _ (aAX h.ok (List.getElem_mem hk))
  ·simp only [List.length_append,List.length_singleton]
   rcases List.mem_append.1 he with he|he
   ·have:=g4 e he;omega
   ·rw [List.mem_singleton] at he
    subst he
    unfold inT at a1 a2
    exact ⟨a1,a2,by simp only;omega,by simp only;omega⟩
 ·obtain ⟨T,E⟩:=a
  obtain ⟨g1,g2,g3,g4⟩:=hI
  refine ⟨(T,E),?_,by simp only at g1 ⊢;omega,g2,by simp only at g3 ⊢;omega,g4⟩
  show tA t T E (t.E.length:Int)=_
  unfold tA
  rw [if_neg (by simp)]
section
variable (cs:aI)
theorem aMI {s1:Int} (s2:Int) (hs:0<=s1/\s1<=1000000):∃ t s1' s2',oO cs s1 s2=some (t,s1',s2')/\Prt t/\s1<=s1'/\s1'<=s1+100:=by
 obtain ⟨v,x,y,e,hv,h1,h2⟩:=xI cs s2 (s1:=s1) (n:=3) (by omega) (by omega)
 obtain ⟨m,x2,y2,e2,hm,h12,h22⟩:=xI cs y (s1:=x) (n:=5) (by omega) (by omega)
 have hwv:wr (1+v)=1+v:=dS (by omega) (by omega)
 unfold oO
 rw [e,aA]
 simp only
 rw [e2,aA]
 simp only
 obtain ⟨r,hr,⟨g1,g2,g3,g4⟩⟩:=lD (step:=fun s:Int × Int × List Edge × Int=>nY cs (v,x,y) s.1 s.2.1 s.2.2.1 s.2.2.2) (fun s=>(0<=s.2.2.2/\(s.2.2.1.length:Int)+s.2.2.2<=4)/\(x2<=s.1/\s.1+6 * s.2.2.2<=x2+24)/\∀ e∈s.2.2.1,(0<=e.F/\e.F < 1+v)/\(0<=e.To/\e.To < 1+v)/\0<=e.B/\e.B < 6) (fun s=>s.2.2.2.toNat)
  (fun r=>r.2.2.length<=4/\x2<=r.1/\r.1<=x2+24/\∀ e∈r.2.2,(0<=e.F/\e.F < 1+v)/\(0<=e.To/\e.To < 1+v)/\0<=e.B/\e.B < 6) (fun s hI=>by
  obtain ⟨a,b,E,k⟩:=s
  obtain ⟨⟨i1,i2⟩,⟨i3,i4⟩,i5⟩:=hI
  simp only at i1 i2 i3 i4 i5 ⊢
  by_cases hk:0 < k
  ·left
   obtain ⟨f,a1,b1,q1,q2,q3,q4⟩:=xI cs b (s1:=a) (n:=1+v) (by omega) (by omega)
   obtain ⟨l,a2,b2,w1,w2,w3,w4⟩:=xI cs b1 (s1:=a1) (n:=6) (by omega) (by omega)
   obtain ⟨u,a3,b3,z1,z2,z3,z4⟩:=xI cs b2 (s1:=a2) (n:=1+v) (by omega) (by omega)
   refine ⟨(a3,b3,E++[⟨f,l,u⟩],k - 1),?_,⟨⟨by simp only;omega,by simp only [List.length_append,List.length_singleton];omega⟩,⟨by simp only;omega,by simp only;omega⟩,fun e he=>?_⟩,by simp only;omega⟩
   ·unfold nY
    rw [if_pos (by simpa using hk),hwv,q1,aA]
    simp only
    rw [w1,aA]
    simp only
    rw [z1,aA,cQ (by simp [jA];omega),aA,dS (by omega) (by omega)]
   ·rcases List.mem_append.1 he with he|he
    ·exact i5 e he
    ·rw [List.mem_singleton] at he
     subst he
     exact ⟨q2,z2,w2⟩
  ·right
   refine ⟨(a,b,E),?_,by simp only;omega,by simp only;omega,by simp only;omega,i5⟩
   unfold nY
   rw [if_neg (by simpa using hk)]) (s:=(x2,y2,([]:List Edge),m)) ⟨⟨by simp only;omega,by simp only [List.length_nil];omega⟩,⟨by simp only;omega,by simp only;omega⟩,by simp⟩
 obtain ⟨a,b,E⟩:=r
 simp only at g1 g2 g3 g4
 rw [hr,aA]
 unfold rO
 obtain ⟨i0,a1,b1,q1,q2,q3,q4⟩:=xI cs b (s1:=a) (n:=1+v) (by omega) (by omega)
 simp only
 rw [hwv,q1,aA]
 obtain ⟨t',e1,e2,_,_⟩:=make6 (T:=T6) (fun s hs=>hs) (by decide) (st:=1+v) (ini:=i0) (by omega) q2 (edges:=E) g1 (fun e he=>by have:=g4 e he;have h6:(T6.length:Int)=6:=rfl;omega)
 have e1':qE (1+v) i0 ([([116,97,117]:aI),([97]:aI),([103,101,116,40,48,41]:aI),([103,101,116,40,49,41]:aI),([112,117,116,40,48,41]:aI),([112,117,116,40,49,41]:aI)]:List aI) E=some t':=e1
 simp only
 rw [e1',aA]
 unfold rN
 obtain ⟨t2,f1,f2⟩:=used6 e2
 rw [show (⟨t'.N,t'.I,t'.L,t'.E⟩:bB)=t' from rfl,f1,aA]
 exact ⟨t2,a1,b1,rfl,f2,by omega,by omega⟩
def Nm6:List aI:=[[97],[98],[103,101,116],[109,111,118,101],[112,97,105,114],[112,117,116]]
theorem aLB {s1:Int} (s2:Int) (hs:0<=s1/\s1<=1000000) (often:Bool):∃ L s1' s2',rU cs s1 s2 often=some (L,s1',s2')/\L.Sublist Nm6/\s1<=s1'/\s1'<=s1+12:=by
 have key:=gS (step:=fun s:Int × Int × List aI × Int=>kC cs often s.1 s.2.1 s.2.2.1 s.2.2.2) 6 (fun k (a:Int × Int × List aI)=>(a.1,a.2.1,a.2.2,(k:Int))) (fun k a=>a.2.2.Sublist (Nm6.take k)/\s1<=a.1/\a.1<=s1+2 * k) (fun r=>r.1.Sublist Nm6/\s1<=r.2.1/\r.2.1<=s1+12) (fun k a hk hI=>?_) (fun a hI=>?_) 6 0 (s1,s2,[]) (by omega) ⟨List.nil_sublist _,Int.le_refl _,by simp⟩
 ·obtain ⟨⟨L,a,b⟩,h1,g1,g2,g3⟩:=key
  have h1':loop (fun s:Int × Int × List aI × Int=>kC cs often s.1 s.2.1 s.2.2.1 s.2.2.2) (s1,s2,([]:List aI),0)=some (L,a,b):=h1
  unfold rU
  rw [h1',aA]
  exact ⟨L,a,b,rfl,g1,g2,g3⟩
 ·obtain ⟨a,b,L⟩:=a
  obtain ⟨g1,g2,g3⟩:=hI
  simp only at g1 g2 g3 ⊢
  have hw:wr ((k:Int)+1)=((k+1:Nat):Int):=bK hk (by omega)
  have hkl:k < Nm6.length:=hk
  have hix:ix ([([97]:aI),([98]:aI),([103,101,116]:aI),([109,111,118,101]:aI),([112,97,105,114]:aI),([112,117,116]:aI)]:List aI) (k:Int)=some Nm6[k]:=bR hkl
  have hLl:L.length<=6:=by
   have:=g1.length_le
   rw [List.length_take] at this;omega
  have htk:Nm6.take (k+1)=Nm6.take k++[Nm6[k]]:=by rw [List.take_add_one,List.getElem?_eq_getElem hkl];rfl
  have hj:∀ (x y:Int) (v:Bool),s1<=x->x<=s1+2 * ((k:Int)+1)->∃ q:Int × Int × List aI,nF L (k:Int) x y v=some (.inl (q.1,q.2.1,q.2.2,((k+1:Nat):Int)))/\q.2.2.Sublist (Nm6.take (k+1))/\s1<=q.1/\q.1<=s1+2 * ((k+1:Nat):Int):=by
   intro x y v hx1 hx2
   unfold nF qN
   cases v with
   |true=>
    rw [if_pos rfl,hix,aA,cQ (by simp [jA];omega),aA,hw]
    exact ⟨(x,y,L++[Nm6[k]]),rfl,by rw [htk];exact List.Sublist.append g1 (List.Sublist.refl _),hx1,by simp only;omega⟩
   |false=>
    rw [if_neg (by simp),hw]
    exact ⟨(x,y,L),rfl,by rw [htk];exact g1.trans (List.sublist_append_left _ _),hx1,by simp only;omega⟩
  show ∃ q:Int × Int × List aI,kC cs often a b L (k:Int)=some (.inl (q.1,q.2.1,q.2.2,((k+1:Nat):Int)))/\_
  unfold kC
  rw [if_pos (by simp;omega)]
  cases often with
  |true=>
   obtain ⟨v,x,y,e,_,h5,h6⟩:=xI cs b (s1:=a) (n:=4) (by omega) (by omega)
   rw [if_pos rfl,e,aA]
   split
   ·exact hj _ _ _ (by simp only;omega) (by simp only;omega)
   ·exact hj _ _ _ (by simp only;omega) (by simp only;omega)
  |false=>
   obtain ⟨v,x,y,e,h5,h6⟩:=aND cs b (s1:=a) (n:=4) (by omega) (by omega)
   rw [if_neg (by simp),e,aA]
   exact hj _ _ _ (by simp only;omega) (by simp only;omega)
 ·obtain ⟨a,b,L⟩:=a
  obtain ⟨g1,g2,g3⟩:=hI
  refine ⟨(L,a,b),?_,g1,g2,by simp only at g3 ⊢;omega⟩
  show kC cs often a b L ((6:Nat):Int)=_
  unfold kC
  rw [if_neg (by simp)]
end
end Gv
namespace Gv
open Go
theorem aJQ {o:List Int} {i:Int} (h:0<=i/\i < o.length):∃ v,ix o i=some v:=⟨_,aHg h.1 (by omega)⟩
theorem st_in {o:List Int} {i:Int} (v:Int) (h:0<=i/\i < o.length):st o i v=some (o.set i.toNat v):=by
 unfold Gv.st
 rw [if_pos ⟨h.1,by omega⟩]
theorem aQl {o:List Int} (h:2<=o.length/\o.length<=10):∃ b o',aEI o=some (b,o')/\o'.length=o.length:=by
 obtain ⟨h2,h10⟩:=h
 have hw1:wr ((o.length:Int) - 2)=(o.length:Int) - 2:=dS (by omega) (by omega)
 have hw2:wr ((o.length:Int) - 1)=(o.length:Int) - 1:=dS (by omega) (by omega)
 obtain ⟨i,e1,i1,i2,i3⟩:=lD (step:=fun s:Int=>aCP o s) (fun i=>-1<=i/\i<=(o.length:Int) - 2) (fun i=>(i+1).toNat) (fun r=>-1<=r/\r<=(o.length:Int) - 2/\(0<=r->∃ x y,ix o r=some x/\ix o (r+1)=some y/\¬ y < x)) (fun i hI=>by
  unfold aCP aCO
  by_cases h0:0<=i
  ·obtain ⟨x,hx⟩:=aJQ (o:=o) (i:=i) ⟨h0,by omega⟩
   obtain ⟨y,hy⟩:=aJQ (o:=o) (i:=i+1) ⟨by omega,by omega⟩
   rw [if_pos (by simpa using h0),hx,aA,dS (x:=i+1) (by omega) (by omega),hy,aA]
   by_cases hxy:y < x
   ·left
    rw [if_pos (by simpa using hxy),dS (x:=i - 1) (by omega) (by omega)]
    exact ⟨_,rfl,by omega,by omega⟩
   ·right
    rw [if_neg (by simpa using hxy)]
    exact ⟨_,rfl,hI.1,hI.2,fun _=>⟨x,y,by first|exact hx|rfl,by first|exact hy|rfl,hxy⟩⟩
  ·right
   rw [if_neg (by simpa using h0),if_neg (by simp)]
   exact ⟨_,rfl,hI.1,hI.2,fun h=>absurd h h0⟩) (s:=(o.length:Int) - 2) ⟨by omega,by omega⟩
 unfold aEI
 rw [hw1,e1,aA]
 unfold aCN
 by_cases h0:i < 0
 ·rw [if_pos (by simpa using h0)]
  exact ⟨_,_,rfl,rfl⟩
 obtain ⟨x,y,hx,hy,hxy⟩:=i3 (by omega)
 rw [if_neg (by simpa using h0),hw2]
 obtain ⟨k,e2,k1,k2⟩:=lD (step:=fun s:Int=>aCM o i s) (fun k=>i+1<=k/\k<=(o.length:Int) - 1) (fun k=>k.toNat) (fun k=>i+1<=k/\k<=(o.length:Int) - 1) (fun k hI=>by
  obtain ⟨z,hz⟩:=aJQ (o:=o) (i:=k) ⟨by omega,by omega⟩
  unfold aCM
  rw [hz,aA,hx,aA]
  by_cases hzx:z < x
  ·left
   have hne:k≠i+1:=fun e=>by rw [e,hy] at hz;cases hz;exact hxy hzx
   rw [if_pos (by simpa using hzx),dS (x:=k - 1) (by omega) (by omega)]
   exact ⟨_,rfl,by omega,by omega⟩
  ·right
   rw [if_neg (by simpa using hzx)]
   exact ⟨_,rfl,hI⟩) (s:=(o.length:Int) - 1) ⟨by omega,by omega⟩
 rw [e2,aA]
 unfold aCL
 obtain ⟨z,hz⟩:=aJQ (o:=o) (i:=k) ⟨by omega,by omega⟩
 rw [hx,aA,hz,aA,st_in z ⟨by omega,by omega⟩,aA]
 obtain ⟨z2,hz2⟩:=aJQ (o:=o.set i.toNat z) (i:=k) ⟨by omega,by rw [List.length_set];omega⟩
 rw [hz2,aA,st_in x ⟨by omega,by rw [List.length_set];omega⟩,aA]
 have hlen:((o.set i.toNat z).set k.toNat x).length=o.length:=by rw [List.length_set,List.length_set]
 generalize (o.set i.toNat z).set k.toNat x=o2 at hlen
 rw [hlen,hw2,dS (x:=i+1) (by omega) (by omega)]
 obtain ⟨r,e3,r1⟩:=lD (step:=fun s:List Int × Int × Int=>aCK s.1 s.2.1 s.2.2) (fun s=>s.1.length=o.length/\0<=s.2.1/\s.2.1<=100/\s.2.2<=(o.length:Int) - 1/\-100<=s.2.2) (fun s=>(s.2.2 - s.2.1).toNat) (fun r=>r.length=o.length) (fun s hI=>by
  obtain ⟨p,a,b⟩:=s
  obtain ⟨a1,a2,a3,a4,a5⟩:=hI
  simp only at a1 a2 a3 a4 a5 ⊢
  unfold aCK
  by_cases hab:a < b
  ·left
   obtain ⟨u,hu⟩:=aJQ (o:=p) (i:=a) ⟨by omega,by omega⟩
   obtain ⟨v,hv⟩:=aJQ (o:=p) (i:=b) ⟨by omega,by omega⟩
   obtain ⟨v2,hv2⟩:=aJQ (o:=p.set a.toNat v) (i:=b) ⟨by omega,by rw [List.length_set];omega⟩
   rw [if_pos (by simpa using hab),hu,aA,hv,aA,st_in v ⟨by omega,by omega⟩,aA,hv2,aA,st_in u ⟨by omega,by rw [List.length_set];omega⟩,aA,dS (x:=a+1) (by omega) (by omega),dS (x:=b - 1) (by omega) (by omega)]
   exact ⟨(_,_,_),rfl,⟨by simp only [List.length_set];exact a1,by simp only;omega,by simp only;omega,by simp only;omega,by simp only;omega⟩,by simp only;omega⟩
  ·right
   rw [if_neg (by simpa using hab)]
   exact ⟨_,rfl,a1⟩) (s:=(o2,i+1,(o.length:Int) - 1)) ⟨hlen,by simp only;omega,by simp only;omega,by simp only;omega,by simp only;omega⟩
 rw [e3,aA]
 exact ⟨_,_,rfl,r1⟩
structure aJY (n:aX):Prop where
 len:2<=n.Parts.length/\n.Parts.length<=3
 part:∀ t∈n.Parts,Prt t
 meet:n.Meetings=[]\/n.Meetings=[⟨[97],[97],[112,97,105,114]⟩]\/n.Meetings=[⟨[103,101,116],[112,117,116],[109,111,118,101]⟩]\/n.Meetings=[⟨[97],[97],[112,97,105,114]⟩,⟨[103,101,116],[112,117,116],[109,111,118,101]⟩]
 al:n.Allowed.Sublist Nm6
 hid:n.Hidden.Sublist Nm6
section
variable (cs:aI)
theorem aIS (t:bB):(⟨t.N,t.I,t.L,t.E⟩:bB)=t:=rfl
theorem net_draw:∃ n s1' s2',aBO cs 0 0=some (n,s1',s2')/\(1<=n.Parts.length/\n.Parts.length<=4)/\(∀ t∈n.Parts,Prt t)/\(n.Meetings=[]\/n.Meetings=[⟨[97],[97],[112,97,105,114]⟩]\/n.Meetings=[⟨[103,101,116],[112,117,116],[109,111,118,101]⟩]\/n.Meetings=[⟨[97],[97],[112,97,105,114]⟩,⟨[103,101,116],[112,117,116],[109,111,118,101]⟩])/\n.Allowed.Sublist Nm6/\n.Hidden.Sublist Nm6/\0<=s1'/\s1'<=10000:=by
 obtain ⟨m,x,y,e,hm,h1,h2⟩:=among_ok cs 0 (s1:=0) (l:=[1,2,2,2,3,3,4]) (by omega) (by simp)
 have hm':1<=m/\m<=4:=by
  simp only [List.mem_cons,List.not_mem_nil,or_false] at hm
  omega
 unfold aBO
 rw [e,aA]
 simp only
 obtain ⟨r,hr,⟨g1,g2,g3,g4⟩⟩:=lD (step:=fun s:Int × Int × List bB × Int=>vP cs s.1 s.2.1 s.2.2.1 s.2.2.2) (fun s=>(0<=s.2.2.2/\(s.2.2.1.length:Int)+s.2.2.2=m)/\(0<=s.1/\s.1+100 * s.2.2.2<=402)/\∀ t∈s.2.2.1,Prt t) (fun s=>s.2.2.2.toNat)
  (fun r=>(r.2.2.length:Int)=m/\0<=r.1/\r.1<=402/\∀ t∈r.2.2,Prt t) (fun s hI=>by
  obtain ⟨a,b,E,k⟩:=s
  obtain ⟨⟨i1,i2⟩,⟨i3,i4⟩,i5⟩:=hI
  simp only at i1 i2 i3 i4 i5 ⊢
  by_cases hk:0 < k
  ·left
   obtain ⟨t,a1,b1,q1,q2,q3,q4⟩:=aMI cs b (s1:=a) (by omega)
   refine ⟨(a1,b1,E++[t],k - 1),?_,⟨⟨by simp only;omega,by simp only [List.length_append,List.length_singleton];omega⟩,⟨by simp only;omega,by simp only;omega⟩,fun e he=>?_⟩,by simp only;omega⟩
   ·unfold vP
    rw [if_pos (by simpa using hk),q1,aA]
    simp only
    rw [aIS,cQ (by simp [jA];omega),aA,dS (by omega) (by omega)]
   ·rcases List.mem_append.1 he with he|he
    ·exact i5 e he
    ·rw [List.mem_singleton] at he;subst he;exact q2
  ·right
   refine ⟨(a,b,E),?_,by simp only;omega,by simp only;omega,by simp only;omega,i5⟩
   unfold vP
   rw [if_neg (by simpa using hk)]) (s:=(x,y,([]:List bB),m)) ⟨⟨by simp only;omega,by simp only [List.length_nil];omega⟩,⟨by simp only;omega,by simp only;omega⟩,by simp⟩
 obtain ⟨a,b,P⟩:=r
 simp only at g1 g2 g3 g4
 rw [hr,aA]
 have hj1:∀ (a b:Int) (M:List cF),0<=a->a<=1000->∃ n s1' s2',rV cs P a b M=some (n,s1',s2')/\n.Parts=P/\n.Meetings=M/\n.Allowed.Sublist Nm6/\n.Hidden.Sublist Nm6/\0<=s1'/\s1'<=10000:=by
  intro a b M ha1 ha2
  obtain ⟨L,a1,b1,q1,q2,q3,q4⟩:=aLB cs b (s1:=a) (by omega) true
  obtain ⟨L2,a2,b2,w1,w2,w3,w4⟩:=aLB cs b1 (s1:=a1) (by omega) false
  unfold rV
  rw [q1,aA]
  simp only
  rw [w1,aA]
  exact ⟨_,a2,b2,rfl,rfl,rfl,q2,w2,by omega,by omega⟩
 have hj2:∀ (a b:Int) (M:List cF),M.length<=1->0<=a->a<=900->∃ n s1' s2',rW cs P a b M=some (n,s1',s2')/\n.Parts=P/\(n.Meetings=M\/n.Meetings=M++[⟨[103,101,116],[112,117,116],[109,111,118,101]⟩])/\n.Allowed.Sublist Nm6/\n.Hidden.Sublist Nm6/\0<=s1'/\s1'<=10000:=by
  intro a b M hM ha1 ha2
  obtain ⟨v,a1,b1,q1,q2,q3,q4⟩:=xI cs b (s1:=a) (n:=5) (by omega) (by omega)
  unfold rW
  rw [q1,aA]
  simp only
  split
  ·rw [cQ (by simp [jA];omega),aA]
   obtain ⟨n,x,y,e,f1,f2,f3⟩:=hj1 a1 b1 (M++[⟨[103,101,116],[112,117,116],[109,111,118,101]⟩]) (by omega) (by omega)
   exact ⟨n,x,y,e,f1,.inr f2,f3⟩
  ·obtain ⟨n,x,y,e,f1,f2,f3⟩:=hj1 a1 b1 M (by omega) (by omega)
   exact ⟨n,x,y,e,f1,.inl f2,f3⟩
 obtain ⟨v,a1,b1,q1,q3,q4⟩:=aND cs b (s1:=a) (n:=4) (by omega) (by omega)
 unfold aAx
 simp only
 rw [q1,aA]
 have fin:∀ n:aX,n.Parts=P->(1<=n.Parts.length/\n.Parts.length<=4)/\∀ t∈n.Parts,Prt t:=fun n hP=>by
  rw [hP];exact ⟨by omega,g4⟩
 simp only
 cases v with
 |true=>
  rw [if_pos rfl,cQ (by simp [jA]),aA,List.nil_append]
  obtain ⟨n,x,y,e,f1,f2,f3,f4,f5⟩:=hj2 a1 b1 [⟨[97],[97],[112,97,105,114]⟩] (by simp) (by omega) (by omega)
  refine ⟨n,x,y,e,(fin n f1).1,(fin n f1).2,?_,f3,f4,f5⟩
  rcases f2 with f2|f2
  ·exact .inr (.inl f2)
  ·exact .inr (.inr (.inr f2))
 |false=>
  rw [if_neg (by simp)]
  obtain ⟨n,x,y,e,f1,f2,f3,f4,f5⟩:=hj2 a1 b1 [] (by simp) (by omega) (by omega)
  refine ⟨n,x,y,e,(fin n f1).1,(fin n f1).2,?_,f3,f4,f5⟩
  rcases f2 with f2|f2
  ·exact .inl f2
  ·exact .inr (.inr (.inl f2))
end
end Gv
namespace Gv
open Go
section
variable (cs:aI)
theorem r8net:∃ n o,aBP cs=some (n,o)/\aJY n:=by
 obtain ⟨n,a,b,e,h1,h2,h3,h4,h5,h6,h7⟩:=net_draw cs
 unfold aBP aEG
 rw [aA]
 simp only
 rw [e,aA]
 simp only
 obtain ⟨r,hr,⟨g1,g2,g3,g4⟩⟩:=lD (step:=fun s:Int × Int × List bB=>vR cs s.1 s.2.1 s.2.2) (fun s=>(1<=s.2.2.length/\s.2.2.length<=4)/\(0<=s.1/\s.1+200<=10400+100 * (s.2.2.length:Int))/\∀ t∈s.2.2,Prt t) (fun s=>2 - s.2.2.length)
  (fun r=>(2<=r.2.2.length/\r.2.2.length<=4)/\0<=r.1/\r.1<=20000/\∀ t∈r.2.2,Prt t) (fun s hI=>by
  obtain ⟨x,y,P⟩:=s
  obtain ⟨⟨i1,i2⟩,⟨i3,i4⟩,i5⟩:=hI
  simp only at i1 i2 i3 i4 i5 ⊢
  by_cases hk:(P.length:Int) < 2
  ·left
   obtain ⟨t,a1,b1,q1,q2,q3,q4⟩:=aMI cs y (s1:=x) (by omega)
   refine ⟨(a1,b1,P++[t]),?_,⟨⟨by simp,by simp;omega⟩,⟨by simp only;omega,by simp only [List.length_append,List.length_singleton];omega⟩,fun e he=>?_⟩,by simp only [List.length_append,List.length_singleton];omega⟩
   ·unfold vR
    rw [if_pos (by simpa using hk),q1,aA]
    simp only
    rw [aIS,cQ (by simp [jA];omega),aA]
   ·rcases List.mem_append.1 he with he|he
    ·exact i5 e he
    ·rw [List.mem_singleton] at he;subst he;exact q2
  ·right
   refine ⟨(x,y,P),?_,⟨by simp only;omega,by simp only;omega⟩,by simp only;omega,by simp only;omega,i5⟩
   unfold vR
   rw [if_neg (by simpa using hk)]) (s:=(a,b,n.Parts)) ⟨h1,⟨by simp only;omega,by simp only;omega⟩,h2⟩
 obtain ⟨x,y,P⟩:=r
 simp only at g1 g2 g3 g4
 rw [hr,aA]
 have hj5:∀ Q:List bB,(2<=Q.length/\Q.length<=3)->(∀ t∈Q,Prt t)->∃ n' o,rX cs (n,a,b) x y Q=some (n',o)/\aJY n':=by
  intro Q hQ hP
  obtain ⟨o,e1,e2⟩:=gS (step:=fun s:List Int × Int=>oT Q s.1 s.2) Q.length (fun k (a:List Int)=>(a,(k:Int))) (fun k a=>a.length=k) (fun r=>r.length=Q.length) (fun k o hk hI=>by
   refine ⟨o++[(k:Int)],?_,by rw [List.length_append,hI];rfl⟩
   show oT Q o (k:Int)=_
   unfold oT
   rw [if_pos (bU hk),cQ (by simp [jA];omega),aA,bK hk (by omega)]) (fun o hI=>by
   refine ⟨o,?_,hI⟩
   show oT Q o (Q.length:Int)=_
   unfold oT
   rw [if_neg (by simp)]) Q.length 0 [] (by omega) rfl
  have e1':loop (fun s:List Int × Int=>oT Q s.1 s.2) (([]:List Int),0)=some o:=e1
  unfold rX
  rw [e1',aA]
  unfold aAA
  obtain ⟨m,a1,b1,q1,q2,q3,q4⟩:=xI cs y (s1:=x) (n:=6) (by omega) (by omega)
  rw [q1,aA]
  simp only
  obtain ⟨o2,e3,_⟩:=lD (step:=fun s:List Int × Int=>aAz s.1 s.2) (fun s=>s.1.length=Q.length/\0<=s.2/\s.2<=10) (fun s=>s.2.toNat) (fun _=>True) (fun s hI=>by
   obtain ⟨o,k⟩:=s
   obtain ⟨i1,i2,i3⟩:=hI
   simp only at i1 i2 i3 ⊢
   unfold aAz
   by_cases hk:0 < k
   ·left
    obtain ⟨c,o',f1,f2⟩:=aQl (o:=o) (by omega)
    rw [if_pos (by simpa using hk),f1,aA,dS (x:=k - 1) (by omega) (by omega)]
    exact ⟨(o',k - 1),rfl,⟨by simp only;omega,by simp only;omega,by simp only;omega⟩,by simp only;omega⟩
   ·right
    rw [if_neg (by simpa using hk)]
    exact ⟨_,rfl,trivial⟩) (s:=(o,m)) ⟨e2,by simp only;omega,by simp only;omega⟩
  rw [e3,aA]
  unfold aAy
  exact ⟨_,_,rfl,⟨hQ,hP,h3,h4,h5⟩⟩
 have hj:∃ n' o,vQ cs (n,a,b) x y P=some (n',o)/\aJY n':=by
  unfold vQ
  by_cases hP:(3:Int) < P.length
  ·have hs:zX P 0 3=some (P.take 3):=by
    unfold zX
    rw [if_pos ⟨by omega,by omega,by show 3<=P.length;omega⟩]
    rfl
   rw [if_pos (by simpa using hP),hs,aA]
   exact hj5 _ (by rw [List.length_take];omega) fun t ht=>g4 t (List.mem_of_mem_take ht)
  ·rw [if_neg (by simpa using hP)]
   exact hj5 _ (by omega) g4
 exact hj
end
theorem idx_any {β:Type} {p:β->Bool} (l:List β):(match l.findIdx? p with|none=>(-1:Int)|some i=>(i:Int)) < 0<->l.any p=false:=by
 rcases aLx (p:=p) l with ⟨h1,h2⟩|⟨i,hi,h1,h2⟩
 ·rw [h1]
  simp only
  constructor
  ·intro _
   rw [List.any_eq_false]
   intro x hx
   have:=List.find?_eq_none.1 h2 x hx
   exact this
  ·intro _;omega
 ·rw [h1]
  simp only
  constructor
  ·intro h;omega
  ·intro h
   have:=List.find?_some h2
   rw [List.any_eq_false] at h
   exact absurd this (h _ (List.getElem_mem hi))
theorem contM (ms:List cF) (m:cF) (h:ms.length < 1000000):dD ms m=some (ms.any fun o=>o.Left == m.Result||o.Right == m.Result):=by
 unfold dD dM
 have hl:=uO (step:=fun s=>cL ms m s) ms (fun o=>o.Left == m.Result||o.Right == m.Result) (fun k x hk hx=>by
  have hw:=bK hk (show ms.length < 4611686018427387904 by omega)
  simp only [cL,bU hk,if_pos,hx,aA,hw]
  unfold yP tD
  by_cases h1:(x.Left == m.Result)=true
  ·rw [if_pos h1,h1,Bool.true_or,aA]
  ·have h1':(x.Left == m.Result)=false:=by simpa using h1
   rw [if_neg h1,h1',Bool.false_or,aA]) (by simp only [cL,cO];rfl)
 rw [hl,aA]
 have:=idx_any (p:=fun o:cF=>o.Left == m.Result||o.Right == m.Result) ms
 cases hf:ms.findIdx? (fun o:cF=>o.Left == m.Result||o.Right == m.Result) with
 |none=>
  rw [hf] at this
  have:=this.1 (by simp)
  rw [this];rfl
 |some i=>
  rw [hf] at this
  cases ha:ms.any (fun o:cF=>o.Left == m.Result||o.Right == m.Result) with
  |false=>have:=this.2 ha;simp at this;omega
  |true=>simp [aA]
theorem aHb (ms:List cF) (h6:ms.length<=6) (hA:∀ m∈ms,(xN m.Left=true/\xN m.Right=true/\xN m.Result=true)/\(m.Left.length<=100/\m.Right.length<=100/\m.Result.length<=100)/\(vJ m.Left m.Right||m.Left == m.Right)=true/\(ms.any fun o=>o.Left == m.Result||o.Right == m.Result)=false)
  (hC:∀ k (hk:k+1 < ms.length),∃ v,nG ms[k] ms[k+1]=some v/\v < 0):tE ms=some true:=by
 unfold tE
 have:=aAV (step:=fun s:Int=>lQ ms s) ms.length (fun k (_:Unit)=>(k:Int)) (fun _ _=>.inl ()) (fun _ _=>True) (fun k a hk _=>?_) (fun a _=>?_) ms.length 0 () (by omega) trivial
 ·rw [show loop (fun s:Int=>lQ ms s) 0=_ from this,aA]
  unfold aCl
  simp;omega
 ·left
  obtain ⟨⟨a1,a2,a3⟩,⟨b1,b2,b3⟩,c1,c2⟩:=hA _ (List.getElem_mem hk)
  refine ⟨(),?_,trivial,rfl⟩
  have hj:jL ms (k:Int) ms[k] false=some (.inl ((k+1:Nat):Int)):=by
   unfold jL
   rw [if_neg (by simp),contM _ _ (by omega),aA,c2,if_neg (by simp),bK hk (by omega)]
  show lQ ms (k:Int)=_
  unfold lQ
  rw [if_pos (bU hk),bR hk,aA,aCf _ (by omega),aA,a1,if_neg (by simp),aCf _ (by omega),aA,a2,if_neg (by simp),aCf _ (by omega),aA,a3,if_neg (by simp),c1,if_neg (by simp)]
  by_cases hk0:0 < k
  ·obtain ⟨j,rfl⟩:∃ j,k=j+1:=⟨k - 1,by omega⟩
   obtain ⟨v,v1,v2⟩:=hC j hk
   have hw:wr (((j+1:Nat):Int) - 1)=(j:Int):=by rw [dS (by omega) (by omega)];omega
   rw [if_pos (by simp only [decide_eq_true_eq];omega),hw,bR (show j < ms.length by omega),aA,v1,aA,decide_eq_false (by omega)]
   exact hj
  ·rw [if_neg (by simp;omega)];exact hj
 ·show lQ ms (ms.length:Int)=_
  unfold lQ
  rw [if_neg (by simp)]
theorem cmp_two:nG ⟨[97],[97],[112,97,105,114]⟩ ⟨[103,101,116],[112,117,116],[109,111,118,101]⟩=some (-1):=by
 unfold nG iG
 have hs:dI [[97],[97]] [[103,101,116],[112,117,116]] 0=some (.inr (.inr (-1))):=by
  unfold dI
  rw [if_pos (by decide),show ix ([[97],[97]]:List aI) 0=some [97] from rfl,aA,if_neg (by decide),show ix ([[103,101,116],[112,117,116]]:List aI) 0=some [103,101,116] from rfl,aA]
  unfold pR nZ
  rw [aA,aA,if_neg (by decide),if_neg (by decide),if_pos (by decide),aA,if_pos (by decide)]
 rw [show loop (fun s:Int=>dI [[97],[97]] [[103,101,116],[112,117,116]] s) 0=some (.inr (-1)) from aDM (step:=fun s:Int=>dI [[97],[97]] [[103,101,116],[112,117,116]] s) hs,aA,aA]
theorem aLC {n:aX} (h:aJY n):aHW n.Meetings/\tE n.Meetings=some true:=by
 rcases h.meet with e|e|e|e<;>rw [e]
 ·exact ⟨⟨by simp,by simp,by simp⟩,aHb _ (by simp) (by simp) (fun k hk=>by simp at hk)⟩
 ·exact ⟨⟨by simp,by decide,by decide⟩,aHb _ (by simp) (by decide) (fun k hk=>by simp at hk)⟩
 ·exact ⟨⟨by simp,by decide,by decide⟩,aHb _ (by simp) (by decide) (fun k hk=>by simp at hk)⟩
 ·refine ⟨⟨by simp,by decide,by decide⟩,aHb _ (by simp) (by decide) (fun k hk=>?_)⟩
  have:k=0:=by simp at hk;omega
  subst this
  exact ⟨-1,cmp_two,by omega⟩
theorem aHc {L:List aI} (h:L.Sublist Nm6):xB L=some true/\L.length<=6:=by
 have hl:L.length<=6:=h.length_le
 have hm:∀ s∈L,s∈Nm6:=fun s hs=>h.subset hs
 have h2:∀ s∈Nm6,s.length < 1000000000/\xN s=true:=by decide
 have hp:Nm6.Pairwise fun a b=>vJ a b=true:=by decide
 have hpL:=hp.sublist h
 rw [aPG L (by omega) (fun s hs=>(h2 s (hm s hs)).1),aIH ⟨by omega,fun s hs=>(h2 s (hm s hs)).2,fun k h1 hk=>List.pairwise_iff_getElem.1 hpL (k - 1) k (by omega) hk (by omega)⟩]
 exact ⟨rfl,hl⟩
theorem contL (P:List bB) (hl:P.length<=100) (hP:∀ t∈P,bW t/\vG 999999999 t):eR P=some false:=by
 unfold eR fO
 have:=aAV (step:=fun s:Int=>bP P s) P.length (fun k (_:Unit)=>(k:Int)) (fun _ _=>.inl ()) (fun _ _=>True) (fun k a hk _=>?_) (fun a _=>?_) P.length 0 () (by omega) trivial
 ·rw [show loop (fun s:Int=>bP P s) 0=_ from this,aA]
  unfold gU
  rw [aA];rfl
 ·left
  obtain ⟨a1,a2⟩:=hP _ (List.getElem_mem hk)
  refine ⟨(),?_,trivial,rfl⟩
  show bP P (k:Int)=_
  unfold bP aAG
  rw [if_pos (bU hk),bR hk,aA,aEl _ a2,aIH a1,aA,aA,if_neg (by simp),bK hk (by omega)]
 ·show bP P (P.length:Int)=_
  unfold bP
  rw [if_neg (by simp)]
theorem valid_net {n:aX} (hl:1<=n.Parts.length/\n.Parts.length<=4) (hP:∀ t∈n.Parts,bW t/\vG 999999999 t) (hm:tE n.Meetings=some true) (ha:xB n.Allowed=some true) (hh:xB n.Hidden=some true):oX n=some true:=by
 unfold oX
 have hw:tR (n.Parts.length:Int) 1 4=some true:=by
  rw [aBu]
  simp;omega
 rw [hw,aA,if_neg (by simp),contL _ (by omega) hP,aA]
 unfold qP qO
 rw [if_neg (by simp),hm,aA,if_pos rfl,ha,aA,if_pos rfl,hh,aA]
theorem aNL.fits {t:bB} (h:aNL t):vG 999999999 t:=by
 have h1:=h.ok.2.2.1.2.1
 have h2:=h.ed
 exact ⟨by omega,fun s hs=>by have:=T6_len s (h.lab s hs);omega,by omega⟩
end Gv
namespace Gv
open Go
structure Sib (n n':aX):Prop where
 len:n'.Parts.length=n.Parts.length
 meet:n'.Meetings=n.Meetings
 al:n'.Allowed=n.Allowed
 hid:n'.Hidden=n.Hidden
 part:∀ i,i < n.Parts.length->Like (eX n i) (eX n' i)/\(eX n' i).E.length<=30
theorem aJY.ok {n:aX} (h:aJY n):nN n:=by
 have:=h.len
 exact ⟨by omega,fun t ht=>⟨(h.part t ht).ok,(h.part t ht).lab,by have:=(h.part t ht).ed;omega⟩,(aLC h).1,by have:=(aHc h.al).2;omega,by have:=(aHc h.hid).2;omega⟩
theorem Sib.ok {n n':aX} (h:nN n) (hs:Sib n n'):nN n':=by
 have:=h.len
 refine ⟨by rw [hs.len];exact h.len,fun t ht=>?_,by rw [hs.meet];exact h.meet,by rw [hs.al];exact h.al,by rw [hs.hid];exact h.hid⟩
 obtain ⟨i,hi,rfl⟩:=List.getElem_of_mem ht
 have hi':i < n.Parts.length:=by rw [←hs.len];exact hi
 have e:eX n' i=n'.Parts[i]:=by unfold eX;rw [List.getD_eq_getElem?_getD,List.getElem?_eq_getElem hi];rfl
 obtain ⟨h1,h2⟩:=hs.part i hi'
 rw [e] at h1 h2
 exact ⟨h1.ok,fun s hs=>(h.at hi').lab s (h1.lab s hs),h2⟩
theorem aMJ {t:bB} (h:bW t):Like t t:=⟨⟨fun x y=>x=y,bbd_refl t,rfl⟩,h,fun s hs=>hs⟩
theorem aOZ {n:aX} (h:aJY n) {n':aX} (hs:Sib n n'):oX n'=some true:=by
 have hn:=hs.ok h.ok
 have:=hn.len
 exact valid_net hn.len (fun t ht=>⟨(hn.part t ht).ok,(hn.part t ht).fits⟩) (by rw [hs.meet];exact (aLC h).2) (by rw [hs.al];exact (aHc h.al).1) (by rw [hs.hid];exact (aHc h.hid).1)
theorem aPa {n:aX} (h:aJY n):Sib n n:=⟨rfl,rfl,rfl,rfl,fun i hi=>⟨aMJ (h.ok.at hi).ok,(h.ok.at hi).ed⟩⟩
theorem aHY {n:aX} (h:aJY n) {n':aX} (hs:Sib n n'):∃ t F c,mO n'=some (t,F,c)/\(c=5\/(c=0/\aDP n' (n'.Parts.map (·.I)) t F)):=by
 obtain ⟨t,F,v,e1,e2⟩:=aOW (hs.ok h.ok)
 unfold mO
 rw [aOZ h hs,aA,if_neg (by simp),e1,aA]
 cases v with
 |false=>exact ⟨⟨0,0,[],[]⟩,[],5,by simp only [Bool.not_false,if_true],.inl rfl⟩
 |true=>rw [if_neg (by simp)];exact ⟨t,F,0,rfl,.inr ⟨rfl,e2 rfl⟩⟩
theorem aMK {n n':aX} (h:aJY n) (hs:Sib n n') {t t':bB} {F F':List (List Int)} (he:aDP n (n.Parts.map (·.I)) t F) (he':aDP n' (n'.Parts.map (·.I)) t' F'):lK t t' true=some (true,0):=by
 have hsh:shN n'=shN n:=by
  funext l
  unfold shN
  rw [hs.al,hs.hid]
 have hR:∀ i,∃ R,i < n.Parts.length->Bbd (eX n i) (eX n' i) R/\R (eX n i).I (eX n' i).I:=fun i=>by
  by_cases hi:i < n.Parts.length
  ·obtain ⟨R,h1,h2⟩:=(hs.part i hi).1.ex
   exact ⟨R,fun _=>⟨h1,h2⟩⟩
  ·exact ⟨fun _ _=>True,fun h=>absurd h hi⟩
 refine aQf (R:=fun i=>Classical.choose (hR i)) he he' hs.len hsh hs.meet h.ok.meet (fun i hi=>(Classical.choose_spec (hR i) hi).1) ⟨List.length_map ..,by rw [List.length_map];exact hs.len,fun i hi=>?_⟩
 have hini:∀ (m:aX),i < m.Parts.length->(m.Parts.map (·.I)).getD i 0=(eX m i).I:=fun m hm=>by
  rw [List.getD_eq_getElem?_getD,List.getElem?_map,(yN hm).2];rfl
 rw [hini n hi,hini n' (by rw [hs.len];exact hi)]
 exact (Classical.choose_spec (hR i) hi).2
theorem getD_snoc {P:List bB} {t:bB} {i:Nat}:(P++[t]).getD i ⟨0,0,[],[]⟩=if i < P.length then P.getD i ⟨0,0,[],[]⟩ else if i=P.length then t else ⟨0,0,[],[]⟩:=by
 rw [List.getD_eq_getElem?_getD,List.getD_eq_getElem?_getD]
 by_cases h:i < P.length
 ·rw [if_pos h,List.getElem?_append_left h]
 ·rw [if_neg h,List.getElem?_append_right (by omega)]
  by_cases h2:i=P.length
  ·rw [if_pos h2,h2,Nat.sub_self];rfl
  ·rw [if_neg h2,List.getElem?_eq_none (by simp;omega)];rfl
structure Pre (n:aX) (k:Nat) (P:List bB):Prop where
 len:P.length=k
 part:∀ i,i < k->Like (eX n i) (P.getD i ⟨0,0,[],[]⟩)/\(P.getD i ⟨0,0,[],[]⟩).E.length<=30
theorem Pre.snoc {n:aX} {k:Nat} {P:List bB} (h:Pre n k P) {t:bB} (ht:Like (eX n k) t) (he:t.E.length<=30):Pre n (k+1) (P++[t]):=by
 refine ⟨by rw [List.length_append,h.len];rfl,fun i hi=>?_⟩
 rw [getD_snoc,h.len]
 by_cases hik:i < k
 ·rw [if_pos hik];exact h.part i hik
 ·have:i=k:=by omega
  rw [if_neg hik,if_pos this,this];exact ⟨ht,he⟩
theorem aPb {n:aX} (h:aJY n):∃ n',yT n 2=some (n',0)/\Sib n n':=by
 have hl:=h.len
 have hmt:n.Meetings.length<=6:=h.ok.meet.len
 have hal:=h.ok.al
 have hhi:=h.ok.hid
 obtain ⟨P,e1,hP⟩:=gS (step:=fun s:List bB × Int=>gF n 2 s.1 s.2) n.Parts.length (fun k (a:List bB)=>(a,(k:Int))) (fun k P=>Pre n k P) (fun P=>Pre n n.Parts.length P) (fun k P hk hI=>by
  have hp:=h.part _ (yN hk).1
  have h1:=hp.st
  have h2:=hp.ed
  obtain ⟨c,c1,c2,c3⟩:=aQh hp.ok (by omega)
  refine ⟨P++[c],?_,hI.snoc c2 (by omega)⟩
  show gF n 2 P (k:Int)=_
  unfold gF pI aEv
  rw [if_pos (bU hk),sT,(yN hk).2,aA,if_neg (by decide),show ((2:Int) == 2)=true from rfl,c1,aA,aA,aA,aIS,cQ (by have:=hI.len;simp [jA];omega),aA,bK hk (by omega)]) (fun P hI=>by
  refine ⟨P,?_,hI⟩
  show gF n 2 P (n.Parts.length:Int)=_
  unfold gF
  rw [if_neg (by simp)]) n.Parts.length 0 [] (by omega) ⟨rfl,fun i hi=>by omega⟩
 have e1':loop (fun s:List bB × Int=>gF n 2 s.1 s.2) ([],0)=some P:=e1
 refine ⟨⟨P,n.Meetings,n.Allowed,n.Hidden⟩,?_,⟨hP.len,rfl,rfl,rfl,hP.part⟩⟩
 unfold yT nK tI aEu
 rw [aOZ h (aPa h),aA,if_neg (by simp),aBu,aA,aA,if_neg (by decide),e1',aA]
 unfold pS aAJ eD bZ
 rw [cQ (by simp [jA];omega),aA,aA,cQ (by simp [jA];omega),aA,aA,cQ (by simp [jA];omega),aA,aA,aA,aA,aA]
 simp only [List.nil_append]
theorem other_at {n:aX} (h:aJY n) (ms:aI) (r:Int):∃ P,loop (fun s:List bB × Int=>iY ms (n,([]:List Int)) r s.1 s.2) ([],0)=some P/\Pre n n.Parts.length P:=by
 have hl:=h.len
 exact gS (step:=fun s:List bB × Int=>iY ms (n,([]:List Int)) r s.1 s.2) n.Parts.length (fun k (a:List bB)=>(a,(k:Int))) (fun k P=>Pre n k P) (fun P=>Pre n n.Parts.length P) (fun k P hk hI=>by
  have hp:=h.part _ (yN hk).1
  have h1:=hp.st
  have h2:=hp.ed
  have hw:=bK hk (show n.Parts.length < 4611686018427387904 by omega)
  have hPl:=hI.len
  show ∃ a',iY ms (n,[]) r P (k:Int)=_/\_
  unfold iY qV
  by_cases hkr:((k:Int) == r)=true
  ·obtain ⟨c,c1,c2,c3⟩:=r8like_at ms hp.ok (by omega) (by omega)
   rw [if_pos (bU hk),if_pos hkr,sT,(yN hk).2,aA,c1,aA,aIS,cQ (by simp [jA];omega),aA,hw]
   exact ⟨_,rfl,hI.snoc c2 c3⟩
  ·rw [if_pos (bU hk),if_neg hkr,sT,(yN hk).2,aA,cQ (by simp [jA];omega),aA,hw]
   exact ⟨_,rfl,hI.snoc (aMJ hp.ok) (by omega)⟩) (fun P hI=>by
  refine ⟨P,?_,hI⟩
  show iY ms (n,[]) r P (n.Parts.length:Int)=_
  unfold iY
  rw [if_neg (by simp)]) n.Parts.length 0 [] (by omega) ⟨rfl,fun i hi=>by omega⟩
theorem lawCong (cs ms:aI):aAP cs ms=some true:=by
 obtain ⟨b,hb⟩:=long_ok cs ms
 unfold aAP
 rw [hb,aA]
 cases b with
 |true=>rw [if_pos rfl]
 |false=>
  rw [if_neg (by simp)]
  obtain ⟨n,o,e1,h⟩:=r8net cs
  have hl:=h.len
  obtain ⟨r,e2,_,_⟩:=at_ok ms (k:=60) (n:=(n.Parts.length:Int)) (by omega) (by omega)
  obtain ⟨P,e3,hP⟩:=other_at h ms r
  have hso:Sib n ⟨P,n.Meetings,n.Allowed,n.Hidden⟩:=⟨hP.len,rfl,rfl,rfl,hP.part⟩
  obtain ⟨n',e4,hsm⟩:=aPb h
  obtain ⟨t1,F1,c1,f1,g1⟩:=aHY h (aPa h)
  obtain ⟨t2,F2,c2,f2,g2⟩:=aHY h hso
  obtain ⟨t3,F3,c3,f3,g3⟩:=aHY h hsm
  rw [e1,aA]
  simp only
  rw [e2,aA,show loop (fun s:List bB × Int=>iY ms (n,o) r s.1 s.2) ([],0)=some P from e3,aA]
  unfold qU
  simp only
  rw [e4,aA,f1,aA,f2,aA]
  simp only
  rw [f3,aA,if_neg (by simp)]
  have htrue:∀ v,v=true->iX (n',0) (t1,F1,c1) (t2,F2,c2) (t3,F3,c3) v=some true:=fun v hv=>by
   unfold iX
   rw [if_pos hv];rfl
  by_cases k1:c1=5
  ·rw [if_pos (by simpa using k1)];exact htrue _ rfl
  rw [if_neg (by simpa using k1)]
  by_cases k2:c2=5
  ·rw [if_pos (by simpa using k2)];exact htrue _ rfl
  rw [if_neg (by simpa using k2)]
  by_cases k3:c3=5
  ·exact htrue _ (by simpa using k3)
  obtain ⟨rfl,x1⟩:=g1.resolve_left k1
  obtain ⟨rfl,x2⟩:=g2.resolve_left k2
  obtain ⟨rfl,x3⟩:=g3.resolve_left k3
  unfold iX
  rw [if_neg (by simp)]
  simp only
  rw [aMK h hso x1 x2,aA,aMK h hsm x1 x3,aA]
  rfl
end Gv
