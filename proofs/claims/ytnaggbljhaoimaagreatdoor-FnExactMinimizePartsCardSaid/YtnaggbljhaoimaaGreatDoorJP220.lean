/- The program's least system for branching bisimilarity with divergence is like the system itself. -/
import Derived.Test.YtnaggbljhaoimaaGreatDoorJP210
set_option linter.all false
namespace Gv
open Go
theorem aDI {t:aW} (h:cP t):aBK t:=by
 obtain ⟨L,e,hs⟩:=h.2.2.1.cons
 exact ⟨(aJG h).hug,L,e,hs⟩
theorem blocksC {p:List Int} (hl:p.length < 1000000) (h1:1<=p.length) (hp:∀ z∈p,0<=z/\z < 40):∃ b,sL p=some b/\aEa p b:=by
 have h0:=hp _ (List.getElem_mem (show 0 < p.length by omega))
 have key0:=iA (step:=fun s:Int × Int=>eS p s.1 s.2) p.length (fun i (a:Int)=>(a,(i:Int)))
  (fun i a=>aEa (p.take i) (a+1)) (fun r=>aEa p (r+1)) (fun i a hi hI=>?_) (fun a hI=>?_) (p.length - 1) 1 (p[0]'(by omega)) (by omega) ?_
 ·obtain ⟨r,g1,g2⟩:=key0
  have g1':loop (fun s:Int × Int=>eS p s.1 s.2) (p[0]'(by omega),1)=some r:=g1
  refine ⟨r+1,?_,g2⟩
  obtain ⟨⟨z,hz,e⟩,_⟩:=g2
  have hzz:=hp z hz
  unfold sL iM
  rw [if_neg (by simp;omega)]
  unfold gJ
  rw [show (0:Int)=((0:Nat):Int) from rfl,bA (xs:=p) (k:=0) (by omega),aA,g1',aA]
  simp only [jQ,aA]
  rw [dH (by omega) (by omega)]
 ·have hz:=hp _ (List.getElem_mem hi)
  have htk:p.take (i+1)=p.take i++[p[i]]:=by rw [List.take_add_one,List.getElem?_eq_getElem hi];rfl
  simp only [eS,bI hi,if_pos,bA hi,aA,bD hi (show p.length < 4611686018427387904 by omega)]
  refine ⟨_,rfl,?_⟩
  obtain ⟨⟨x,hx,h2⟩,h3⟩:=hI
  rw [htk]
  unfold mxI
  by_cases h:p[i] > a
  ·rw [if_pos h]
   refine ⟨⟨p[i],List.mem_append_right _ (by simp),rfl⟩,fun z hz=>?_⟩
   rcases List.mem_append.1 hz with hz|hz
   ·have:=h3 z hz;omega
   ·simp at hz;subst hz;omega
  ·rw [if_neg h]
   refine ⟨⟨x,List.mem_append_left _ hx,h2⟩,fun z hz=>?_⟩
   rcases List.mem_append.1 hz with hz|hz
   ·exact h3 z hz
   ·simp at hz;subst hz;omega
 ·refine ⟨a,by simp only [eS,bJ];rfl,?_⟩
  rwa [List.take_length] at hI
 ·have:p.take 1=[p[0]'(by omega)]:=by
   rcases p with _|⟨a,l⟩
   ·simp at h1
   ·simp
  rw [this]
  exact ⟨⟨_,by simp,rfl⟩,fun z hz=>by simp at hz;subst hz;omega⟩
section
variable {t:aW} {p:List Int}
def qE1 (t:aW) (p:List Int):List Edge:=(t.E.filter fun e=>!inL p e).map fun e=>(⟨bk p e.F,e.B,bk p e.To⟩:Edge)
noncomputable def qE2 (t:aW) (p:List Int):List Edge:=((List.range t.N.toNat).filter fun k=>(yZ (cN t p)).getD k false).map fun k=>(⟨p.getD k 0,0,p.getD k 0⟩:Edge)
noncomputable def quoB (t:aW) (p:List Int) (b:Int):aW:=⟨b,bk p t.I,t.L,eW (yE bQ (eW (yE bQ (qE1 t p))++qE2 t p))⟩
theorem aLV:(qE1 t p).length<=t.E.length:=by unfold qE1;rw [List.length_map];exact List.length_filter_le _ _
theorem qE2_len:(qE2 t p).length<=t.N.toNat:=by
 unfold qE2
 rw [List.length_map]
 exact Nat.le_trans (List.length_filter_le _ _) (by rw [List.length_range];exact Nat.le_refl _)
theorem tidy_eq {a b:Int} {L:List aV} {E:List Edge} (h:E.length < 1000000):qC a b L E=some (eW (yE bQ E)):=by
 unfold qC uF
 rw [if_pos (by unfold iQ;omega),aA,aKi _ (by unfold yE;rw [List.length_mergeSort];omega),aA]
theorem keep_c1 (hv:cP t) (hp:fQ t p) {e:Edge} (he:e∈t.E):gB e p=some (!inL p e):=by
 obtain ⟨h1,h2,_⟩:=aGa hv he
 unfold gB gU inL
 by_cases h0:e.B=0
 ·rw [if_neg (by simpa using h0),(jM hp h1).1,aA,(jM hp h2).1,aA,h0]
  simp [bne]
 ·rw [if_pos (by simpa using h0)]
  have:(e.B == 0)=false:=by simpa using h0
  rw [this];rfl
theorem quo1_eq (hv:cP t) (hp:fQ t p) {b:Int} (hb:sL p=some b):rI t p p=some ⟨b,bk p t.I,t.L,eW (yE bQ (qE1 t p))⟩:=by
 have h300:=hv.2.2.2.1
 have h12:=hv.2.2.1.2.1
 have h40:=hv.1
 have hi:=hv.2.1
 unfold rI
 rw [bk_ix hp.1 (s:=t.I) (by omega),aA,hb,aA,aDe _ (by unfold iQ;omega),aA]
 unfold qP
 have hl:=yY (step:=fun s:List Edge × Int=>kF t p p s.1 s.2) t.E (fun e=>!inL p e) (fun e=>(⟨bk p e.F,e.B,bk p e.To⟩:Edge)) id (fun k out x hk ho hx=>by
  have hm:=aFh hx
  have hT:=aGa hv hm
  have h1:=hT.1
  have h2:=hT.2.1
  unfold jY at h1 h2
  have hw:=bD hk (show t.E.length < 4611686018427387904 by omega)
  show kF t p p out (k:Int)=_
  unfold kF
  rw [if_pos (bI hk),hx,aA,keep_c1 hv hp hm,aA]
  cases hc:!inL p x with
  |true=>
   rw [if_pos rfl,if_pos rfl,bk_ix hp.1 (s:=x.F) (by omega),aA,bk_ix hp.1 (s:=x.To) (by omega),aA,dM (by simp [iQ];omega),aA]
   unfold kE
   rw [hw]
  |false=>
   rw [if_neg (by simp),if_neg (by simp)]
   unfold kE
   rw [hw]) (fun out=>by simp only [kF,bJ];rfl)
 rw [hl,aA]
 unfold qO
 have:=aLV (t:=t) (p:=p)
 rw [show id ((t.E.filter fun e=>!inL p e).map fun e=>(⟨bk p e.F,e.B,bk p e.To⟩:Edge))=qE1 t p from rfl,tidy_eq (by omega),aA]
theorem quo2_eq (hv:cP t) (hp:fQ t p) {E:List Edge} (hE:E.length<=300):loop (fun s:List Edge × Int=>dR p (yZ (cN t p)) s.1 s.2) (E,0)=some (E++qE2 t p):=by
 have h40:=hv.1
 have hd:=(aIz (aDf (q:=p) (aDI hv)).big).2.len
 have hd':(yZ (cN t p)).length=t.N.toNat:=hd
 have:=aLP (step:=fun s:List Edge × Int=>dR p (yZ (cN t p)) s.1 s.2) (List.range t.N.toNat) (fun k=>(yZ (cN t p)).getD k false) (fun k=>(⟨p.getD k 0,0,p.getD k 0⟩:Edge)) id 300 (fun k out x hk ho hx=>by
  rw [List.length_range] at hk
  have hxk:x=k:=by rw [uE,List.getElem?_range hk] at hx;exact (Option.some.inj hx).symm
  subst hxk
  have hkd:x < (yZ (cN t p)).length:=by omega
  have hw:=bD hkd (show (yZ (cN t p)).length < 4611686018427387904 by omega)
  show dR p (yZ (cN t p)) out (x:Int)=_
  unfold dR
  have hg:(yZ (cN t p)).getD x false=(yZ (cN t p))[x]:=by rw [List.getD_eq_getElem?_getD,List.getElem?_eq_getElem hkd];rfl
  rw [if_pos (bI hkd),bA hkd,aA,hg]
  cases (yZ (cN t p))[x] with
  |true=>
   have hpx:ix p (x:Int)=some (p.getD x 0):=by
    have:=(jM hp (s:=(x:Int)) (by unfold jY;omega)).1
    rw [Int.toNat_natCast] at this;exact this
   rw [if_pos rfl,if_pos rfl,hpx,aA,dM (by simp [iQ];omega),aA]
   unfold eU
   rw [hw]
  |false=>
   rw [if_neg (by simp),if_neg (by simp)]
   unfold eU
   rw [hw]) (fun out=>by
  rw [List.length_range,←hd']
  simp only [dR,bJ];rfl) (o:=E) hE
 rw [this];rfl
theorem quoB_eq (hv:cP t) (hp:fQ t p) {b:Int} (hb:sL p=some b):eV t p true=some (quoB t p b):=by
 have h300:=hv.2.2.2.1
 have h40:=hv.1
 have hu:=aDI hv
 have hl1:=aLV (t:=t) (p:=p)
 have hl2:=qE2_len (t:=t) (p:=p)
 have hl3:=aJF (qE1 t p)
 unfold eV
 rw [quo1_eq hv hp hb,aA,if_pos rfl,aMU hu.big hp,aA,(aIz (aDf (q:=p) hu).big).1,aA]
 simp only
 rw [quo2_eq hv hp (by omega),aA]
 unfold lP
 rw [tidy_eq (by rw [List.length_append];omega),aA]
 rfl
theorem quoB_quo (hv:cP t) (b:Int):Quo t p (quoB t p b):=by
 have hu:=aDI hv
 refine ⟨rfl,fun e=>?_⟩
 show e∈eW (yE bQ _)<->_
 rw [aGP,List.mem_append,aGP]
 refine or_congr ?_ ?_
 ·unfold qE1
  rw [List.mem_map]
  constructor
  ·rintro ⟨d,hd,rfl⟩
   obtain ⟨h1,h2⟩:=List.mem_filter.1 hd
   refine ⟨d,h1,fun hn=>?_,rfl⟩
   rw [sS.2 hn] at h2;cases h2
  ·rintro ⟨d,hd,hn,rfl⟩
   refine ⟨d,List.mem_filter.2 ⟨hd,?_⟩,rfl⟩
   cases h:inL p d with
   |false=>rfl
   |true=>exact absurd (sS.1 h) hn
 ·unfold qE2
  rw [List.mem_map]
  constructor
  ·rintro ⟨k,hk,rfl⟩
   obtain ⟨h1,h2⟩:=List.mem_filter.1 hk
   rw [List.mem_range] at h1
   have hin:jY t (k:Int):=by unfold jY;omega
   exact ⟨(k:Int),hin,(dv_iff hu hin).1 (by rw [Int.toNat_natCast];exact h2),by rw [Int.toNat_natCast]⟩
  ·rintro ⟨k,hk,hd,rfl⟩
   have hk':=hk
   unfold jY at hk'
   exact ⟨k.toNat,List.mem_filter.2 ⟨by rw [List.mem_range];omega,(dv_iff hu hk).2 hd⟩,rfl⟩
structure Like (t c:aW):Prop where
 ex:∃ R,Bbd t c R/\R t.I c.I
 ok:cP c
 lab:∀ s∈c.L,s∈t.L
end
end Gv
namespace Gv
open Go
theorem put_mem (l:List Int) (n:Int) (hl:l.length<=1000000):∃ l',aBj l n=some l'/\l'.length<=l.length+1/\∀ z,z∈l'<->z=n\/z∈l:=by
 have key:=iA (step:=fun s:List Int × Bool × Int=>jB l n s.1 s.2.1 s.2.2) l.length (fun k (a:List Int × Bool)=>(a.1,a.2,(k:Int))) (fun k a=>a.1.length<=k+(if a.2=true then 1 else 0)/\∀ z,z∈a.1<->(a.2=true/\z=n)\/z∈l.take k)
  (fun r=>r.1.length<=l.length+(if r.2=true then 1 else 0)/\∀ z,z∈r.1<->(r.2=true/\z=n)\/z∈l) (fun k a hk hI=>?_) (fun a hI=>?_) l.length 0 ([],false) (by omega) (by simp)
 ·obtain ⟨⟨o,d⟩,h1,h2,h3⟩:=key
  have h1':loop (fun s:List Int × Bool × Int=>jB l n s.1 s.2.1 s.2.2) (([]:List Int),false,0)=some (o,d):=h1
  unfold aBj
  rw [h1',aA]
  unfold yM yL
  simp only at h2 h3 ⊢
  cases d with
  |true=>rw [if_neg (by simp)];exact ⟨_,rfl,by simpa using h2,fun z=>by rw [h3];simp⟩
  |false=>
   simp at h2
   rw [if_pos (by simp),dM (by simp [iQ];omega),aA]
   refine ⟨_,rfl,by simp;omega,fun z=>?_⟩
   rw [List.mem_append,h3,List.mem_singleton]
   simp [or_comm]
 ·obtain ⟨o,d⟩:=a
  obtain ⟨hI,hM⟩:=hI
  simp only at hI hM ⊢
  have hw:wr ((k:Int)+1)=((k+1:Nat):Int):=bD hk (by omega)
  have h3:∀ o':List Int,∀ d',o'.length<=2000000->oM l (k:Int) o' d'=some (.inl (o'++[l[k]],d',((k+1:Nat):Int))):=fun o' d' ho=>by
   unfold oM
   rw [bA hk,aA,dM (by simp [iQ];omega),aA,hw]
  have ho:o.length<=k+1:=by
   cases d<;>simp at hI<;>omega
  have htk:∀ z,z∈l.take (k+1)<->z∈l.take k\/z=l[k]:=fun z=>by
   rw [List.take_add_one,List.getElem?_eq_getElem hk,List.mem_append];simp
  unfold jB
  rw [if_pos (bI hk)]
  have hno:∃ a':List Int × Bool,kX l n o d (k:Int) false=some (.inl (a'.1,a'.2,((k+1:Nat):Int)))/\a'.1.length<=(k+1)+(if a'.2=true then 1 else 0)/\∀ z,z∈a'.1<->(a'.2=true/\z=n)\/z∈l.take (k+1):=by
   unfold kX
   rw [if_neg (by simp),h3 o d (by omega)]
   exact ⟨(o++[l[k]],d),rfl,by simp only [List.length_append,List.length_singleton];omega,fun z=>by rw [List.mem_append,hM,htk,List.mem_singleton,or_assoc]⟩
  cases d with
  |true=>rw [if_neg (by simp)];exact hno
  |false=>
   rw [if_pos (by simp),bA hk,aA]
   by_cases hle:n<=l[k]
   ·rw [decide_eq_true hle]
    unfold kX
    rw [if_pos rfl,bA hk,aA]
    simp at hI
    by_cases hlt:n < l[k]
    ·rw [if_pos (by simpa using hlt),dM (by simp [iQ];omega),aA,h3 _ _ (by simp;omega)]
     refine ⟨(o++[n]++[l[k]],true),rfl,by simp;omega,fun z=>?_⟩
     simp only [List.mem_append,List.mem_singleton,hM,htk,Bool.false_eq_true,false_and,false_or,true_and]
     constructor
     ·rintro ((h|h)|h)
      ·exact .inr (.inl h)
      ·exact .inl h
      ·exact .inr (.inr h)
     ·rintro (h|h|h)
      ·exact .inl (.inr h)
      ·exact .inl (.inl h)
      ·exact .inr h
    ·rw [if_neg (by simpa using hlt),h3 _ _ (by omega)]
     have he:n=l[k]:=by omega
     refine ⟨(o++[l[k]],true),rfl,by simp;omega,fun z=>?_⟩
     simp only [List.mem_append,List.mem_singleton,hM,htk,Bool.false_eq_true,false_and,false_or,true_and]
     constructor
     ·rintro (h|h)
      ·exact .inr (.inl h)
      ·exact .inr (.inr h)
     ·rintro (h|h|h)
      ·exact .inr (h.trans he)
      ·exact .inl h
      ·exact .inr h
   ·rw [decide_eq_false hle];exact hno
 ·refine ⟨a,?_,by have:=hI.1;simpa using this,fun z=>by have:=hI.2 z;rwa [List.take_length] at this⟩
  show jB l n a.1 a.2 (l.length:Int)=_
  unfold jB
  rw [if_neg (by simp)]
section
variable {u:aW} {p:List Int}
theorem aGR (hu:Big u) (hp:fQ u p) {e:Edge} (he:e∈u.E):rD e p=some (inL p e):=by
 have h:=hu.inn e he
 unfold rD xT inL
 by_cases h0:e.B=0
 ·rw [if_pos (by simpa using h0),(jM hp h.1).1,aA,(jM hp h.2.1).1,aA,h0];rfl
 ·have:(e.B == 0)=false:=by simpa using h0
  rw [if_neg (by simpa using h0),this];rfl
def goes15 (u:aW) (p:List Int) (al:List Bool) (k:Int):Bool:=u.E.any fun e=>e.F == k&&inL p e&&al.getD e.To.toNat false
theorem goes15_eq {al:List Bool} {k:Int}:goes15 u p al k=vD (cN u p) al k:=by
 rw [Bool.eq_iff_iff,aDg]
 unfold goes15
 rw [List.any_eq_true]
 constructor
 ·rintro ⟨e,he,h⟩
  rw [Bool.and_eq_true,Bool.and_eq_true,beq_iff_eq] at h
  have hi:=sS.1 h.1.2
  exact ⟨e,xN.2 ⟨he,hi⟩,h.1.1,hi.1,h.2⟩
 ·rintro ⟨e,he,h1,h2,h3⟩
  obtain ⟨g1,g2⟩:=xN.1 he
  exact ⟨e,g1,by rw [Bool.and_eq_true,Bool.and_eq_true,beq_iff_eq];exact ⟨⟨h1,sS.2 g2⟩,h3⟩⟩
theorem ixG {l:List Bool} {s:Int} (hl:l.length=u.N.toNat) (hs:jY u s):ix l s=some (l.getD s.toNat false):=by
 obtain ⟨hk,e⟩:=ixB hl hs
 rw [e,List.getD_eq_getElem?_getD,List.getElem?_eq_getElem hk];rfl
theorem aNW (hu:Big u) (hp:fQ u p) {al:List Bool} (hl:al.length=u.N.toNat) (k:Int):loop (fun s:Bool × Int=>jA u p al k s.1 s.2) (false,0)=some (vD (cN u p) al k):=by
 have h5:=hu.ed
 rw [←goes15_eq]
 have:=lB (step:=fun s:Bool × Int=>jA u p al k s.1 s.2) u.E (fun i (a:Bool)=>(a,(i:Int))) (fun l a=>a||l.any fun e=>e.F == k&&inL p e&&al.getD e.To.toNat false) (fun _ _=>True) (fun i a e l hi hx _=>?_) (fun a _=>?_) (a:=false) trivial
 ·exact this
 ·left
  have he:=aFh hx
  have hin:=hu.inn _ he
  have hw:wr ((i:Int)+1)=((i+1:Nat):Int):=bD hi (by omega)
  have hj:∀ b,iZ (i:Int) b=some (.inl (b,((i+1:Nat):Int))):=fun b=>by unfold iZ;rw [hw]
  refine ⟨a||(e.F == k&&inL p e&&al.getD e.To.toNat false),?_,trivial,by rw [List.any_cons,Bool.or_assoc]⟩
  show jA u p al k a (i:Int)=_
  unfold jA
  rw [if_pos (bI hi),hx,aA]
  cases a with
  |true=>rw [if_pos rfl,hj];rfl
  |false=>
   rw [if_neg (by simp)]
   cases h1:e.F == k with
   |false=>rw [if_neg (by simp),hj];rfl
   |true=>
    rw [if_pos rfl,aGR hu hp he,aA]
    cases h2:inL p e with
    |false=>rw [if_neg (by simp),hj];rfl
    |true=>rw [if_pos rfl,ixG hl hin.2.1,aA,hj];rfl
 ·show jA u p al k a (u.E.length:Int)=_
  unfold jA
  rw [if_neg (by simp)]
  simp
def Maxi (u:aW) (p:List Int) (d:List Bool):Prop:=∀ X,aGQ (cN u p) X->∀ k:Nat,k < d.length->X (k:Int)->d[k]?=some true
theorem maxi_goes (hu:Big u) {d:List Bool} (hl:d.length=u.N.toNat) (hm:Maxi u p d) {X:Int->Prop} (hX:aGQ (cN u p) X) {k:Int} (hk:X k):vD (cN u p) d k=true:=by
 obtain ⟨e,he,h1,h2,h3⟩:=hX k hk
 have hT:=(hu.inn e (xN.1 he).1).2.1
 unfold jY at hT
 have e0:((e.To.toNat:Nat):Int)=e.To:=by omega
 have:=hm X hX e.To.toNat (by omega) (by rw [e0];exact h3)
 exact aDg.2 ⟨e,he,h1,h2,by rw [List.getD_eq_getElem?_getD,this];rfl⟩
theorem aMW (hu:Big u) (hp:fQ u p) {al:List Bool} (hl:al.length=u.N.toNat) (hm:Maxi u p al):∃ al' m,loop (fun s:List Bool × Bool × Int=>kK u p s.1 s.2.1 s.2.2) (al,false,0)=some (al',m)/\al'.length=u.N.toNat/\Maxi u p al'/\cnt al'<=cnt al/\(m=true->cnt al' < cnt al)/\
  (m=false->∀ k:Nat,al'[k]?=some true->vD (cN u p) al' (k:Int)=true):=by
 have h3:=hu.st
 have key:=iA (step:=fun s:List Bool × Bool × Int=>kK u p s.1 s.2.1 s.2.2) u.N.toNat (fun k (a:List Bool × Bool)=>(a.1,a.2,(k:Int)))
  (fun k a=>a.1.length=u.N.toNat/\Maxi u p a.1/\cnt a.1<=cnt al/\(a.2=true->cnt a.1 < cnt al)/\(a.2=false->∀ j:Nat,j < k->a.1[j]?=some true->vD (cN u p) a.1 (j:Int)=true))
  (fun r=>r.1.length=u.N.toNat/\Maxi u p r.1/\cnt r.1<=cnt al/\(r.2=true->cnt r.1 < cnt al)/\(r.2=false->∀ j:Nat,r.1[j]?=some true->vD (cN u p) r.1 (j:Int)=true)) (fun k a hk hI=>?_) (fun a hI=>?_) u.N.toNat 0 (al,false) (by omega) ⟨hl,hm,Nat.le_refl _,by simp,fun _ j hj=>by omega⟩
 ·obtain ⟨⟨al',m⟩,h1,h2⟩:=key
  exact ⟨al',m,h1,h2⟩
 ·obtain ⟨b,m⟩:=a
  obtain ⟨g1,g2,g3,g4,g5⟩:=hI
  simp only at g1 g2 g3 g4 g5 ⊢
  have hw:wr ((k:Int)+1)=((k+1:Nat):Int):=bD hk (by omega)
  have hkb:k < b.length:=by omega
  have hj:∀ c n,kJ (k:Int) c n=some (.inl (c,n,((k+1:Nat):Int))):=fun c n=>by unfold kJ;rw [hw]
  unfold kK
  rw [if_pos (by simp;omega),bA hkb,aA]
  by_cases hb:b[k]=true
  ·rw [if_neg (by simp [hb]),aNW hu hp g1 (k:Int),aA]
   unfold tV
   by_cases hc:vD (cN u p) b (k:Int)=true
   ·rw [if_neg (by simp [hc]),hj]
    refine ⟨(b,m),rfl,g1,g2,g3,g4,fun hm0 j hjk hjt=>?_⟩
    by_cases e:j=k
    ·subst e;exact hc
    ·exact g5 hm0 j (by omega) hjt
   ·have hst:st b (k:Int) false=some (b.set k false):=by
     unfold Gv.st
     rw [if_pos ⟨by omega,by omega⟩,Int.toNat_natCast]
    have hlt:=cnt_off hkb hb
    rw [if_pos (by simp [hc]),hst,aA,hj]
    refine ⟨(b.set k false,true),rfl,by simp only [List.length_set];exact g1,fun X hX j hj hx=>?_,by simp only;omega,fun _=>by simp only;omega,fun h=>by simp at h⟩
    simp only [List.length_set] at hj
    by_cases e:k=j
    ·subst e;exact absurd (maxi_goes hu g1 g2 hX hx) hc
    ·rw [List.getElem?_set_ne e];exact g2 X hX j hj hx
  ·rw [if_pos (by simp [hb]),hj]
   refine ⟨(b,m),rfl,g1,g2,g3,g4,fun hm0 j hjk hjt=>?_⟩
   by_cases e:j=k
   ·subst e;rw [List.getElem?_eq_getElem hkb] at hjt;exact absurd (Option.some.inj hjt) hb
   ·exact g5 hm0 j (by omega) hjt
 ·obtain ⟨b,m⟩:=a
  obtain ⟨g1,g2,g3,g4,g5⟩:=hI
  refine ⟨(b,m),?_,g1,g2,g3,g4,fun h j hj=>g5 h j ?_ hj⟩
  ·show kK u p b m ((u.N.toNat:Nat):Int)=_
   unfold kK
   rw [if_neg (by simp;omega)]
  ·have:=(List.getElem?_eq_some_iff.1 hj).1
   simp only at g1 this;omega
theorem aKX (hu:Big u) (hp:fQ u p):∃ al,sH u p=some al/\DivS (cN u p) al:=by
 have h3:=hu.st
 have hm:mkz u.N false=some (List.replicate u.N.toNat false):=by
  unfold mkz
  rw [if_pos ⟨by omega,by unfold iQ;omega⟩]
 unfold sH
 rw [hm,aA]
 have key:=iA (step:=fun s:List Bool × Int=>iH u s.1 s.2) u.N.toNat (fun k (a:List Bool)=>(a,(k:Int))) (fun k a=>a.length=u.N.toNat/\∀ j:Nat,j < k->a[j]?=some true) (fun r=>r.length=u.N.toNat/\∀ j:Nat,j < u.N.toNat->r[j]?=some true) (fun k a hk hI=>?_) (fun a hI=>?_) u.N.toNat 0 (List.replicate u.N.toNat false) (by omega) ⟨by simp,fun j hj=>by omega⟩
 ·obtain ⟨al,h1,h2,h2'⟩:=key
  have h1':loop (fun s:List Bool × Int=>iH u s.1 s.2) (List.replicate u.N.toNat false,0)=some al:=h1
  rw [h1',aA]
  unfold sG zO
  have key2:=kN (step:=fun s:List Bool × Bool=>mB u p s.1 s.2) (fun s=>s.1.length=u.N.toNat/\Maxi u p s.1/\(s.2=false->∀ k:Nat,s.1[k]?=some true->vD (cN u p) s.1 (k:Int)=true)) (fun s=>2 * cnt s.1+(if s.2=true then 1 else 0)) (fun r=>DivS (cN u p) r) (fun s hI=>?_) (s:=(al,true)) ⟨h2,fun X _ k hk _=>h2' k (by have:k < al.length:=hk;omega),fun h=>by simp at h⟩
  ·obtain ⟨r,h3,h4⟩:=key2
   rw [h3,aA]
   exact ⟨r,rfl,h4⟩
  ·obtain ⟨x,m⟩:=s
   obtain ⟨k1,k2,k3⟩:=hI
   simp only at k1 k2 k3
   show (∃ s',mB u p x m=_/\_)\/_
   cases m with
   |false=>right;exact ⟨x,by unfold mB;rw [if_neg (by simp)],⟨k1,fun k hk=>k3 rfl k hk,k2⟩⟩
   |true=>
    left
    obtain ⟨al',m',e,g1,g2,g3,g4,g5⟩:=aMW hu hp k1 k2
    refine ⟨(al',m'),?_,⟨g1,g2,g5⟩,?_⟩
    ·unfold mB
     rw [if_pos rfl,e,aA];rfl
    ·show 2 * cnt al'+(if m'=true then 1 else 0) < 2 * cnt x+(if true=true then 1 else 0)
     rw [if_pos rfl]
     cases m' with
     |false=>rw [if_neg (by simp)];omega
     |true=>have:=g4 rfl;rw [if_pos rfl];omega
 ·obtain ⟨hI,hJ⟩:=hI
  have hw:wr ((k:Int)+1)=((k+1:Nat):Int):=bD hk (by omega)
  have hka:k < a.length:=by omega
  show ∃ a',iH u a (k:Int)=_/\_
  unfold iH
  have hst:st a (k:Int) true=some (a.set k true):=by
   unfold Gv.st
   rw [if_pos ⟨by omega,by omega⟩,Int.toNat_natCast]
  rw [if_pos (by simp;omega),bA hka,aA,hst,aA,hw]
  refine ⟨_,rfl,by simp only [List.length_set];exact hI,fun j hj=>?_⟩
  by_cases e:k=j
  ·subst e;rw [List.getElem?_set_self hka]
  ·rw [List.getElem?_set_ne e];exact hJ j (by omega)
 ·refine ⟨a,?_,hI⟩
  show iH u a ((u.N.toNat:Nat):Int)=_
  unfold iH
  rw [if_neg (by simp;omega)]
theorem aLW (hu:aBK u) {d:List Bool} (hd:DivS (cN u p) d) {x:Int} (hx:jY u x):d.getD x.toNat false=true<->Dv u p x:=by
 have hl:d.length=u.N.toNat:=hd.len
 have hx':=hx
 unfold jY at hx'
 have e0:((x.toNat:Nat):Int)=x:=by omega
 rw [List.getD_eq_getElem?_getD,List.getElem?_eq_getElem (by omega)]
 constructor
 ·intro h
  refine ⟨fun z=>0<=z/\d[z.toNat]?=some true,fun z hz=>?_,hx'.1,by rw [List.getElem?_eq_getElem (by omega)];exact congrArg some h⟩
  have h2:=hd.step z.toNat hz.2
  have e1:((z.toNat:Nat):Int)=z:=by have:=hz.1;omega
  rw [e1] at h2
  obtain ⟨e,he,a1,a2,a3⟩:=aDg.1 h2
  have hT:=(hu.big.inn e (xN.1 he).1).2.1
  unfold jY at hT
  exact ⟨e,he,a1,a2,hT.1,aFf.1 a3⟩
 ·rintro ⟨X,hX,h0⟩
  have:=hd.max X hX x.toNat (by omega) (by rw [e0];exact h0)
  rw [List.getElem?_eq_getElem (by omega)] at this
  exact Option.some.inj this
end
end Gv
namespace Gv
open Go
section
variable {u:aW} {p:List Int}
theorem aKk (hu:Big u) (hp:fQ u p) {k0:Int} {al:List Bool} (hl:al.length=u.N.toNat) (hs:∀ z,jY u z->al.getD z.toNat false=true->InP u p k0 z):∃ al' m,loop (fun s:List Bool × Bool × Int=>nE u p s.1 s.2.1 s.2.2) (al,false,0)=some (al',m)/\al'.length=u.N.toNat/\
  (∀ z,jY u z->al'.getD z.toNat false=true->InP u p k0 z)/\(∀ z:Int,al.getD z.toNat false=true->al'.getD z.toNat false=true)/\cnt al<=cnt al'/\(m=true->cnt al < cnt al')/\
  (m=false->∀ e∈u.E,inL p e=true->al'.getD e.F.toNat false=true->al'.getD e.To.toNat false=true):=by
 have h5:=hu.ed
 have key:=iA (step:=fun s:List Bool × Bool × Int=>nE u p s.1 s.2.1 s.2.2) u.E.length (fun k (a:List Bool × Bool)=>(a.1,a.2,(k:Int)))
  (fun i a=>a.1.length=u.N.toNat/\(∀ z,jY u z->a.1.getD z.toNat false=true->InP u p k0 z)/\(∀ z:Int,al.getD z.toNat false=true->a.1.getD z.toNat false=true)/\cnt al<=cnt a.1/\(a.2=true->cnt al < cnt a.1)/\(a.2=false->∀ e∈u.E.take i,inL p e=true->a.1.getD e.F.toNat false=true->a.1.getD e.To.toNat false=true))
  (fun r=>r.1.length=u.N.toNat/\(∀ z,jY u z->r.1.getD z.toNat false=true->InP u p k0 z)/\(∀ z:Int,al.getD z.toNat false=true->r.1.getD z.toNat false=true)/\cnt al<=cnt r.1/\(r.2=true->cnt al < cnt r.1)/\(r.2=false->∀ e∈u.E,inL p e=true->r.1.getD e.F.toNat false=true->r.1.getD e.To.toNat false=true))
  (fun i a hi hI=>?_) (fun a hI=>?_) u.E.length 0 (al,false) (by omega) ⟨hl,hs,fun _ h=>h,Nat.le_refl _,by simp,by simp⟩
 ·obtain ⟨⟨al',m⟩,h1,h2⟩:=key
  exact ⟨al',m,h1,h2⟩
 ·obtain ⟨b,m⟩:=a
  obtain ⟨g1,g2,g3,g4,g5,g6⟩:=hI
  simp only at g1 g2 g3 g4 g5 g6 ⊢
  have he:=List.getElem_mem hi
  have hin:=hu.inn _ he
  have hw:wr ((i:Int)+1)=((i+1:Nat):Int):=bD hi (by omega)
  have hj:∀ c n,pU (i:Int) c n=some (.inl (c,n,((i+1:Nat):Int))):=fun c n=>by unfold pU;rw [hw]
  have f1:=ixG g1 hin.1
  have f2:=ixG g1 hin.2.1
  obtain ⟨hk,_⟩:=ixB g1 hin.2.1
  have hT:=hin.2.1
  unfold jY at hT
  have hno:kW b m (i:Int) u.E[i] false=some (.inl (b,m,((i+1:Nat):Int))):=by unfold kW;rw [if_neg (by simp),hj]
  have htk:∀ e,e∈u.E.take (i+1)->e∈u.E.take i\/e=u.E[i]:=fun e h=>by
   rw [List.take_add_one,List.getElem?_eq_getElem hi,List.mem_append] at h;simpa using h
  have stay:(inL p u.E[i]=true->b.getD u.E[i].F.toNat false=true->b.getD u.E[i].To.toNat false=true)->∃ a':List Bool × Bool,some (Sum.inl (b,m,((i+1:Nat):Int)):(List Bool × Bool × Int) ⊕ (List Bool × Bool))=some (.inl (a'.1,a'.2,((i+1:Nat):Int)))/\a'.1.length=u.N.toNat/\(∀ z,jY u z->a'.1.getD z.toNat false=true->InP u p k0 z)/\(∀ z:Int,al.getD z.toNat false=true->a'.1.getD z.toNat false=true)/\cnt al<=cnt a'.1/\(a'.2=true->cnt al < cnt a'.1)/\(a'.2=false->∀ e∈u.E.take (i+1),inL p e=true->a'.1.getD e.F.toNat false=true->a'.1.getD e.To.toNat false=true):=fun hc=>by
   refine ⟨(b,m),rfl,g1,g2,g3,g4,g5,fun h e hm=>?_⟩
   rcases htk e hm with hm|rfl
   ·exact g6 h e hm
   ·exact hc
  unfold nE
  rw [if_pos (bI hi),bA hi,aA,f1,aA]
  by_cases hF:b.getD u.E[i].F.toNat false=true
  ·rw [if_pos hF,f2,aA]
   by_cases hb:b.getD u.E[i].To.toNat false=true
   ·rw [if_neg (by rw [hb];simp),hno]
    exact stay fun _ _=>hb
   ·have hb':b.getD u.E[i].To.toNat false=false:=by simpa using hb
    rw [if_pos (by rw [hb'];rfl),aGR hu hp he,aA]
    cases hc:inL p u.E[i] with
    |false=>rw [hno];exact stay fun h=>by rw [hc] at h;cases h
    |true=>
     have hst:st b u.E[i].To true=some (b.set u.E[i].To.toNat true):=by
      unfold Gv.st
      rw [if_pos ⟨hT.1,by omega⟩]
     have hbk:b[u.E[i].To.toNat]=false:=by
      rw [List.getD_eq_getElem?_getD,List.getElem?_eq_getElem hk] at hb';exact hb'
     have hlt:=cnt_on hk hbk
     unfold kW
     rw [if_pos rfl,f2,aA,hst,aA,hj]
     refine ⟨(b.set u.E[i].To.toNat true,true),rfl,by simp only [List.length_set];exact g1,fun z hz h=>?_,fun z h=>?_,by simp only;omega,fun _=>by simp only;omega,fun h=>by simp at h⟩
     ·by_cases e:u.E[i].To.toNat=z.toNat
      ·have:z=u.E[i].To:=by unfold jY at hz;omega
       rw [this]
       have hi2:=sS.1 hc
       exact InP.step he hi2.1 hi2.2 (g2 _ hin.1 hF)
      ·rw [List.getD_eq_getElem?_getD,List.getElem?_set_ne e,←List.getD_eq_getElem?_getD] at h
       exact g2 z hz h
     ·have:=g3 z h
      by_cases e:u.E[i].To.toNat=z.toNat
      ·rw [←e,List.getD_eq_getElem?_getD,List.getElem?_set_self hk];rfl
      ·rw [List.getD_eq_getElem?_getD,List.getElem?_set_ne e,←List.getD_eq_getElem?_getD];exact this
  ·rw [if_neg hF,hno]
   exact stay fun _ h=>absurd h hF
 ·obtain ⟨b,m⟩:=a
  refine ⟨(b,m),?_,by rw [List.take_length] at hI;exact hI⟩
  show nE u p b m (u.E.length:Int)=_
  unfold nE
  rw [if_neg (by simp)]
theorem reach15 (hu:Big u) (hp:fQ u p) {k:Int} (hk:jY u k):∃ al,aBi u p k=some al/\al.length=u.N.toNat/\∀ z,jY u z->(al.getD z.toNat false=true<->InP u p k z):=by
 have h3:=hu.st
 have hk':=hk
 unfold jY at hk'
 have hm:mkz u.N false=some (List.replicate u.N.toNat false):=by
  unfold mkz
  rw [if_pos ⟨by omega,by unfold iQ;omega⟩]
 have hst:st (List.replicate u.N.toNat false) k true=some ((List.replicate u.N.toNat false).set k.toNat true):=by
  unfold Gv.st
  rw [if_pos ⟨hk'.1,by simp;omega⟩]
 obtain ⟨_,f⟩:=ixB (u:=u) (l:=List.replicate u.N.toNat false) (by simp) hk
 unfold aBi
 rw [hm,aA,f,aA,hst,aA]
 have hset:∀ z:Nat,((List.replicate u.N.toNat false).set k.toNat true).getD z false=true->z=k.toNat:=fun z h=>by
  refine Classical.byContradiction fun hne=>?_
  rw [List.getD_eq_getElem?_getD,List.getElem?_set_ne (fun e=>hne e.symm)] at h
  by_cases hz:z < u.N.toNat
  ·rw [List.getElem?_eq_getElem (by simpa using hz)] at h;simp at h
  ·rw [List.getElem?_eq_none (by simpa using hz)] at h;simp at h
 have key2:=kN (step:=fun s:List Bool × Bool=>pV u p s.1 s.2) (fun s=>s.1.length=u.N.toNat/\(∀ z,jY u z->s.1.getD z.toNat false=true->InP u p k z)/\s.1.getD k.toNat false=true/\(s.2=false->∀ e∈u.E,inL p e=true->s.1.getD e.F.toNat false=true->s.1.getD e.To.toNat false=true)) (fun s=>2 * (u.N.toNat - cnt s.1)+(if s.2=true then 1 else 0))
  (fun r=>r.length=u.N.toNat/\∀ z,jY u z->(r.getD z.toNat false=true<->InP u p k z)) (fun s hI=>?_) (s:=((List.replicate u.N.toNat false).set k.toNat true,true)) ⟨by simp,fun z hz h=>?_,?_,fun h=>by simp at h⟩
 ·obtain ⟨r,h3,h4⟩:=key2
  rw [h3,aA]
  exact ⟨r,rfl,h4⟩
 ·obtain ⟨x,m⟩:=s
  obtain ⟨k1,k2,k3,k4⟩:=hI
  simp only at k1 k2 k3 k4
  show (∃ s',pV u p x m=_/\_)\/_
  cases m with
  |false=>
   right
   refine ⟨x,by unfold pV;rw [if_neg (by simp)],k1,fun z hz=>⟨k2 z hz,fun h=>?_⟩⟩
   exact InP.ind (C:=fun z=>x.getD z.toNat false=true) k3 (fun e he h0 hs _ ih=>k4 rfl e he (sS.2 ⟨h0,hs⟩) ih) h
  |true=>
   left
   obtain ⟨al',m',e,g1,g2,g2',g3,g4,g5⟩:=aKk hu hp k1 k2
   have hle:cnt al'<=al'.length:=cnt_le al'
   refine ⟨(al',m'),?_,⟨g1,g2,g2' k k3,g5⟩,?_⟩
   ·unfold pV
    rw [if_pos rfl,e,aA];rfl
   ·show 2 * (u.N.toNat - cnt al')+(if m'=true then 1 else 0) < 2 * (u.N.toNat - cnt x)+(if true=true then 1 else 0)
    rw [if_pos rfl]
    cases m' with
    |false=>rw [if_neg (by simp)];omega
    |true=>have:=g4 rfl;rw [if_pos rfl];omega
 ·have:=hset z.toNat h
  have e:z=k:=by unfold jY at hz;omega
  rw [e];exact .refl
 ·simp only
  rw [List.getD_eq_getElem?_getD,List.getElem?_set_self (by simp;omega)];rfl
theorem vl1_nn (hu:Big u) (hp:fQ u p) {e:Edge} (he:e∈u.E):0<=vl1 u p e:=by
 obtain ⟨h1,h2,h3,_⟩:=hu.inn e he
 have:=(jM hp h2).2.1
 have h4:=hu.st
 unfold vl1
 have:=Int.mul_nonneg h3 (show 0<=u.N by omega)
 omega
theorem offers15 (hu:Big u) (hp:fQ u p) {k:Int} (hk:jY u k):∃ l,oN u p k=some l/\l.length<=1000/\∀ z,z∈l<->∃ e∈u.E,InP u p k e.F/\Nin p e/\vl1 u p e=z:=by
 have h5:=hu.ed
 have h3:=hu.st
 have hpl:(p.length:Int)=u.N:=by rw [hp.1];omega
 obtain ⟨al,e,hl,hr⟩:=reach15 hu hp hk
 unfold oN
 rw [e,aA]
 have key:=iA (step:=fun s:List Int × Int=>eG u p al s.1 s.2) u.E.length (fun i (a:List Int)=>(a,(i:Int))) (fun i a=>a.length<=i/\∀ z,z∈a<->∃ e∈u.E.take i,InP u p k e.F/\Nin p e/\vl1 u p e=z) (fun r=>r.length<=1000/\∀ z,z∈r<->∃ e∈u.E,InP u p k e.F/\Nin p e/\vl1 u p e=z) (fun i a hi hI=>?_) (fun a hI=>?_) u.E.length 0 [] (by omega) ⟨by simp,by simp⟩
 ·obtain ⟨l,h1,h2⟩:=key
  have h1':loop (fun s:List Int × Int=>eG u p al s.1 s.2) (([]:List Int),0)=some l:=h1
  rw [h1',aA]
  exact ⟨l,rfl,h2⟩
 ·obtain ⟨hI,hM⟩:=hI
  have he:=List.getElem_mem hi
  have hin:=hu.inn _ he
  have hw:wr ((i:Int)+1)=((i+1:Nat):Int):=bD hi (by omega)
  have hno:gX p a (i:Int) u.E[i] false=some (.inl (a,((i+1:Nat):Int))):=by
   unfold gX kB
   rw [if_neg (by simp),hw]
  have htk:∀ e,e∈u.E.take (i+1)<->e∈u.E.take i\/e=u.E[i]:=fun e=>by
   rw [List.take_add_one,List.getElem?_eq_getElem hi,List.mem_append];simp
  have stay:¬ (InP u p k u.E[i].F/\Nin p u.E[i])->∃ a':List Int,some (Sum.inl (a,((i+1:Nat):Int)):(List Int × Int) ⊕ (List Int))=some (.inl (a',((i+1:Nat):Int)))/\a'.length<=i+1/\∀ z,z∈a'<->∃ e∈u.E.take (i+1),InP u p k e.F/\Nin p e/\vl1 u p e=z:=fun hn=>by
   refine ⟨a,rfl,by omega,fun z=>?_⟩
   rw [hM]
   constructor
   ·rintro ⟨e,h1,h2⟩;exact ⟨e,(htk e).2 (.inl h1),h2⟩
   ·rintro ⟨e,h1,h2,h3,h4⟩
    rcases (htk e).1 h1 with h1|rfl
    ·exact ⟨e,h1,h2,h3,h4⟩
    ·exact absurd ⟨h2,h3⟩ hn
  show ∃ a',eG u p al a (i:Int)=_/\_
  unfold eG
  rw [if_pos (bI hi),bA hi,aA,ixG hl hin.1,aA]
  by_cases hF:al.getD u.E[i].F.toNat false=true
  ·rw [if_pos hF,aGR hu hp he,aA]
   have hF':=(hr _ hin.1).1 hF
   cases hc:inL p u.E[i] with
   |true=>rw [show (!true)=false from rfl,hno];exact stay fun h=>h.2 (sS.1 hc)
   |false=>
    have hN:Nin p u.E[i]:=fun h=>by rw [sS.2 h] at hc;cases hc
    obtain ⟨l',h1,h2,h3⟩:=put_mem a (vl1 u p u.E[i]) (by omega)
    have hv:wr (wr (u.E[i].B * (p.length:Int))+p.getD u.E[i].To.toNat 0)=vl1 u p u.E[i]:=by rw [hpl];exact vl1_wr hu hp he
    unfold gX kB
    rw [if_pos (by rfl),(jM hp hin.2.1).1,aA,hv,h1,aA,hw]
    refine ⟨l',rfl,by omega,fun z=>?_⟩
    rw [h3,hM]
    constructor
    ·rintro (h|⟨e,k1,k2⟩)
     ·exact ⟨_,(htk _).2 (.inr rfl),hF',hN,h.symm⟩
     ·exact ⟨e,(htk e).2 (.inl k1),k2⟩
    ·rintro ⟨e,k1,k2,k3,k4⟩
     rcases (htk e).1 k1 with k1|rfl
     ·exact .inr ⟨e,k1,k2,k3,k4⟩
     ·exact .inl k4.symm
  ·rw [if_neg hF,hno]
   exact stay fun h=>hF ((hr _ hin.1).2 h.1)
 ·obtain ⟨hI,hM⟩:=hI
  rw [List.take_length] at hM
  refine ⟨a,?_,by omega,hM⟩
  show eG u p al a (u.E.length:Int)=_
  unfold eG
  rw [if_neg (by simp)]
end
section
variable {p:List Int} {rows:List (List Int)}
theorem aMX (hl:rows.length=p.length) (hs:p.length<=1000) (hr:∀ r∈rows,r.length<=100000) {k:Nat} (hk:k < p.length):
  loop (fun s:Int × Int=>lI p rows (cn ((kz p rows).take k)) (k:Int) s.1 s.2) (-1,0)=some (if (kz p rows)[k]'(by rw [aHw hl];exact hk)∈(kz p rows).take k then pos (dd ((kz p rows).take k)) ((kz p rows)[k]'(by rw [aHw hl];exact hk)) else -1):=by
 have hkz:=aHw hl
 have hkk:k < (kz p rows).length:=by omega
 have hcl:(cn ((kz p rows).take k)).length=k:=by rw [aBJ,List.length_take];omega
 have key:=kN (step:=fun s:Int × Int=>lI p rows (cn ((kz p rows).take k)) (k:Int) s.1 s.2)
  (fun s=>∃ j:Nat,s.2=(j:Int)/\j<=k/\((s.1=-1/\∀ i,(hi:i < j)->(hj:j<=k)->(kz p rows)[i]'(by omega)≠(kz p rows)[k])\/((kz p rows)[k]∈(kz p rows).take k/\s.1=pos (dd ((kz p rows).take k)) (kz p rows)[k])))
  (fun s=>k+1 - s.2.toNat) (fun r=>r=if (kz p rows)[k]∈(kz p rows).take k then pos (dd ((kz p rows).take k)) (kz p rows)[k] else -1) (fun s hI=>?_) (s:=(-1,0)) ⟨0,rfl,Nat.zero_le _,.inl ⟨rfl,fun i hi=>by omega⟩⟩
 ·obtain ⟨r,h1,h2⟩:=key
  rw [h1,h2]
 ·obtain ⟨n,jj⟩:=s
  obtain ⟨j,rfl,hjk,hI⟩:=hI
  simp only at hI ⊢
  have hout:lH p rows (cn ((kz p rows).take k)) (k:Int) n (j:Int) false=some (.inr n):=by unfold lH;rw [if_neg (by simp)]
  rcases hI with ⟨rfl,hno⟩|⟨hin,rfl⟩
  ·by_cases hj:j < k
   ·left
    have hw:wr ((j:Int)+1)=((j+1:Nat):Int):=bD hj (by omega)
    have hjp:j < p.length:=by omega
    have e1:=aLS hl hjp
    have e2:=aLS hl hk
    unfold lI
    rw [if_pos (bI hj),show decide ((-1:Int) < 0)=true from rfl]
    unfold lH
    rw [if_pos rfl,bA hjp,aA,bA hk,aA]
    have hgo:oD (cn ((kz p rows).take k)) (-1) (j:Int) false=some (.inl (-1,((j+1:Nat):Int))):=by
     unfold oD oC
     rw [if_neg (by simp),hw]
    have hstay:(kz p rows)[j]'(by omega)≠(kz p rows)[k]->∃ j':Nat,((j+1:Nat):Int)=(j':Int)/\j'<=k/\(((-1:Int)=-1/\∀ i,(hi:i < j')->(hj:j'<=k)->(kz p rows)[i]'(by omega)≠(kz p rows)[k])\/((kz p rows)[k]∈(kz p rows).take k/\(-1:Int)=pos (dd ((kz p rows).take k)) (kz p rows)[k])):=fun hne=>by
     refine ⟨j+1,rfl,hj,.inl ⟨rfl,fun i hi _=>?_⟩⟩
     by_cases e:i=j
     ·subst e;exact hne
     ·exact hno i (by omega) hjk
    by_cases hp:p[j]=p[k]
    ·rw [if_pos (by simpa using hp),bA (show j < rows.length by omega),aA,bA (show k < rows.length by omega),aA,aMT _ _ (by have:=hr _ (List.getElem_mem (show j < rows.length by omega));omega),aA]
     by_cases hrr:rows[j]'(by omega)=rows[k]'(by omega)
     ·have hkey:(kz p rows)[j]'(by omega)=(kz p rows)[k]:=by rw [e1,e2,hp,hrr]
      have hin:(kz p rows)[k]∈(kz p rows).take k:=by
       rw [←hkey,List.mem_take_iff_getElem]
       exact ⟨j,by omega,rfl⟩
      have hc:(cn ((kz p rows).take k))[j]?=some (pos (dd ((kz p rows).take k)) (kz p rows)[k]):=by
       rw [aHv (show j < ((kz p rows).take k).length by rw [List.length_take];omega),List.getElem_take,hkey]
      rw [hrr]
      unfold oD oC
      rw [decide_eq_true rfl,if_pos rfl,uE,hc]
      show ∃ s',ob (some _) _=_/\_
      rw [aA,hw]
      exact ⟨(_,((j+1:Nat):Int)),rfl,⟨j+1,rfl,hj,.inr ⟨hin,rfl⟩⟩,by simp only;omega⟩
     ·rw [decide_eq_false hrr,hgo]
      refine ⟨(-1,((j+1:Nat):Int)),rfl,hstay (fun e=>?_),by simp only;omega⟩
      rw [e1,e2,List.cons.injEq] at e
      exact hrr e.2
    ·rw [if_neg (by simpa using hp),hgo]
     refine ⟨(-1,((j+1:Nat):Int)),rfl,hstay (fun e=>?_),by simp only;omega⟩
     rw [e1,e2,List.cons.injEq] at e
     exact hp e.1
   ·right
    obtain rfl:j=k:=by omega
    refine ⟨-1,?_,?_⟩
    ·unfold lI
     rw [if_neg (by simp),hout]
    ·rw [if_neg]
     rw [List.mem_take_iff_getElem]
     rintro ⟨i,hi,e⟩
     exact hno i (by omega) (Nat.le_refl _) e
  ·right
   refine ⟨_,?_,by rw [if_pos hin]⟩
   have hpos:0<=pos (dd ((kz p rows).take k)) (kz p rows)[k]:=aAA.2 (xM.2 hin)
   unfold lI
   rw [show decide (pos (dd ((kz p rows).take k)) (kz p rows)[k] < 0)=false from decide_eq_false (by omega),hout]
   split<;>rfl
theorem num15_eq (hl:rows.length=p.length) (hs:p.length<=1000) (hr:∀ r∈rows,r.length<=100000):pF p rows=some (cn (kz p rows)):=by
 have hkz:=aHw hl
 have key:=iA (step:=fun s:List Int × Int × Int=>kC p rows s.1 s.2.1 s.2.2) p.length (fun k (a:List Int × Int)=>(a.1,a.2,(k:Int))) (fun k a=>a.1=cn ((kz p rows).take k)/\a.2=((dd ((kz p rows).take k)).length:Int)) (fun r=>r=cn (kz p rows)) (fun k a hk hI=>?_) (fun a hI=>?_) p.length 0 ([],0) (by omega) ⟨rfl,rfl⟩
 ·obtain ⟨r,h1,rfl⟩:=key
  have h1':loop (fun s:List Int × Int × Int=>kC p rows s.1 s.2.1 s.2.2) (([]:List Int),0,0)=some (cn (kz p rows)):=h1
  unfold pF
  rw [h1',aA];rfl
 ·obtain ⟨o,m⟩:=a
  obtain ⟨rfl,rfl⟩:=hI
  have hkk:k < (kz p rows).length:=by omega
  have hcl:(cn ((kz p rows).take k)).length=k:=by rw [aBJ,List.length_take];omega
  have hw:wr ((k:Int)+1)=((k+1:Nat):Int):=bD hk (by omega)
  have e1:(kz p rows).take (k+1)=(kz p rows).take k++[(kz p rows)[k]]:=by rw [List.take_add_one,List.getElem?_eq_getElem hkk];rfl
  have hdl:(dd ((kz p rows).take k)).length<=1000:=by
   have h2:(dd ((kz p rows).take k)).length<=((kz p rows).take k).length:=by
    have:∀ (l:List (List Int)),(dd l).length<=l.length:=by
     intro l
     unfold dd
     have hg:∀ (m F:List (List Int)),(m.foldl (aBI id) F).length<=F.length+m.length:=by
      intro m
      induction m with
      |nil=>intro F;simp
      |cons x m ih=>
       intro F
       have:=ih (aBI id F x)
       have h3:=aMM (key:=id) F x
       simp only [List.foldl_cons,List.length_cons];omega
     have:=hg l []
     simpa using this
    exact this _
   rw [List.length_take] at h2;omega
  show ∃ a':List Int × Int,kC p rows (cn ((kz p rows).take k)) _ (k:Int)=_/\_
  unfold kC
  rw [if_pos (bI hk),aMX hl hs hr hk,aA,e1,aIy,aFd,aJB]
  unfold vW vV vU
  by_cases hin:(kz p rows)[k]∈(kz p rows).take k
  ·have hpos:0<=pos (dd ((kz p rows).take k)) (kz p rows)[k]:=aAA.2 (xM.2 hin)
   rw [if_pos hin,if_neg (by simp;omega),dM (by simp [iQ];omega),aA,hw,if_pos (xM.2 hin)]
   refine ⟨(_,_),rfl,rfl,?_⟩
   have:aBI id (dd ((kz p rows).take k)) (kz p rows)[k]=dd ((kz p rows).take k):=by
    unfold aBI
    rw [if_pos (by rw [List.map_id];exact xM.2 hin)]
   simp only [this]
  ·rw [if_neg hin,if_pos (by simp),dM (by simp [iQ];omega),aA,hw,if_neg (fun h=>hin (xM.1 h))]
   refine ⟨(_,_),rfl,rfl,?_⟩
   have:aBI id (dd ((kz p rows).take k)) (kz p rows)[k]=dd ((kz p rows).take k)++[(kz p rows)[k]]:=by
    unfold aBI
    rw [if_neg (by rw [List.map_id];exact fun h=>hin (xM.1 h))]
   simp only [this,List.length_append,List.length_singleton]
   first
    |omega
    |(rw [dH (by omega) (by omega)];omega)
 ·obtain ⟨o,m⟩:=a
  obtain ⟨rfl,rfl⟩:=hI
  refine ⟨_,?_,rfl⟩
  show kC p rows (cn ((kz p rows).take p.length)) _ (p.length:Int)=_
  unfold kC
  rw [if_neg (by simp),List.take_of_length_le (by omega)]
end
section
variable {u:aW} {p:List Int}
end
end Gv
namespace Gv
open Go
section
variable {t:aW} {p:List Int}
theorem pos_own {L:List aV} (hn:L.Nodup) {i:Nat} (hi:i < L.length):pos L (L.getD i [])=(i:Int):=by
 rw [List.getD_eq_getElem?_getD,List.getElem?_eq_getElem hi]
 obtain ⟨j,e,g⟩:=aIx (List.getElem_mem hi)
 obtain ⟨hj,g'⟩:=List.getElem?_eq_some_iff.1 g
 show pos L L[i]=_
 rw [e,(List.getElem_inj hn).1 g']
theorem lab_nodup (hv:cP t):t.L.Nodup:=by
 obtain ⟨M,hM,hs⟩:=hv.2.2.1.cons
 rw [hM,List.nodup_cons]
 exact ⟨hs.2,hs.1.imp fun {a b} h e=>by subst e;rw [rV] at h;cases h⟩
theorem aKY (hv:cP t) {E:List Edge} (hE:E.length < 1000000) (hl:∀ e∈E,0<=e.B/\e.B < t.L.length) (st ini:Int):aAF st ini t.L E=some ⟨st,ini,t.L,eW (yE bQ E)⟩:=by
 obtain ⟨M,hM,hs⟩:=hv.2.2.1.cons
 have h12:=hv.2.2.1.2.1
 have hnd:=lab_nodup hv
 have:=make_gen (texts:=t.L) (M:=M) (edges:=E) (Eo:=eW (yE bQ E)) (by omega) hs (fun s=>by
  rw [hM,List.mem_cons]
  constructor
  ·intro h;exact ⟨.inr h,fun e=>hs.2 (e ▸ h)⟩
  ·rintro ⟨h|h,h2⟩
   ·exact absurd h h2
   ·exact h) hE hl (aLR E) (fun x=>by
  rw [aGP]
  have key:∀ e∈E,(⟨e.F,pos (dN::M) (t.L.getD e.B.toNat []),e.To⟩:Edge)=e:=fun e he=>by
   have h:=hl e he
   rw [←hM,pos_own hnd (by omega)]
   exact edge_eq rfl (by show ((e.B.toNat:Nat):Int)=e.B;omega) rfl
  constructor
  ·intro h;exact ⟨x,h,(key x h).symm⟩
  ·rintro ⟨e,he,rfl⟩;rw [key e he];exact he) st ini
 rw [this,hM]
theorem true15 {al:List Bool} (hal:al.length<=1000):aAD al=some (((List.range al.length).filter fun k=>al.getD k false).map Int.ofNat):=by
 unfold aAD
 have:=yY (step:=fun s:List Int × Int=>sF al s.1 s.2) (List.range al.length) (fun k=>al.getD k false) Int.ofNat id (fun k out x hk ho hx=>by
  rw [List.length_range] at hk
  have hxk:x=k:=by rw [uE,List.getElem?_range hk] at hx;exact (Option.some.inj hx).symm
  subst hxk
  have hw:=bD hk (show al.length < 4611686018427387904 by omega)
  show sF al out (x:Int)=_
  unfold sF vR
  have hg:al.getD x false=al[x]:=by rw [List.getD_eq_getElem?_getD,List.getElem?_eq_getElem hk];rfl
  rw [if_pos (bI hk),bA hk,aA,hg]
  cases al[x] with
  |true=>rw [if_pos rfl,if_pos rfl,dM (by simp [iQ];omega),aA,hw];rfl
  |false=>rw [if_neg (by simp),if_neg (by simp),hw]) (fun out=>by
  rw [List.length_range]
  simp only [sF,bJ];rfl)
 rw [this,aA];rfl
theorem quo15a (hv:cP t) (hp:fQ t p):loop (fun s:List Edge × Int=>jO t p s.1 s.2) (([]:List Edge),0)=some (qE1 t p):=by
 have h300:=hv.2.2.2.1
 exact yY (step:=fun s:List Edge × Int=>jO t p s.1 s.2) t.E (fun e=>!inL p e) (fun e=>(⟨bk p e.F,e.B,bk p e.To⟩:Edge)) id (fun k out x hk ho hx=>by
  have hm:=aFh hx
  have hT:=aGa hv hm
  have h1:=hT.1
  have h2:=hT.2.1
  unfold jY at h1 h2
  have hw:=bD hk (show t.E.length < 4611686018427387904 by omega)
  show jO t p out (k:Int)=_
  unfold jO oB
  rw [if_pos (bI hk),hx,aA,aGR (aJG hv) hp hm,aA]
  cases hc:!inL p x with
  |true=>rw [if_pos rfl,if_pos rfl,bk_ix hp.1 (s:=x.F) (by omega),aA,bk_ix hp.1 (s:=x.To) (by omega),aA,dM (by simp [iQ];omega),aA,hw]
  |false=>rw [if_neg (by simp),if_neg (by simp),hw]) (fun out=>by simp only [jO,bJ];rfl)
def dg (p:List Int) (k:Int):Edge:=⟨p.getD k.toNat 0,0,p.getD k.toNat 0⟩
theorem quo15b {l:List Int} (hl:l.length<=300) (hlm:∀ k∈l,ix p k=some (p.getD k.toNat 0)) {E:List Edge} (hE:E.length<=300):loop (fun s:List Edge × Int=>gI p l s.1 s.2) (E,0)=some (E++l.map (dg p)):=by
 refine lB (step:=fun s:List Edge × Int=>gI p l s.1 s.2) l (fun k (a:List Edge)=>(a,(k:Int))) (fun m a=>a++m.map (dg p)) (fun k a=>a.length<=300+k) (fun k a x m hk hx hI=>?_) (fun a _=>?_) hE
 ·left
  have hI':a.length<=300+k:=hI
  have hw:=bD hk (show l.length < 4611686018427387904 by omega)
  refine ⟨a++[dg p x],?_,by rw [List.length_append,List.length_singleton];omega,by rw [List.map_cons,List.append_assoc];rfl⟩
  show gI p l a (k:Int)=_
  unfold gI
  rw [if_pos (bI hk),hx,aA,hlm x (aFh hx),aA,dM (by simp [iQ];omega),aA,hw]
  rfl
 ·show gI p l a (l.length:Int)=_
  unfold gI
  rw [if_neg (by simp),List.map_nil,List.append_nil]
end
end Gv
namespace Gv
open Go
def Asc (l:List Int):Prop:=l.Pairwise (· < ·)
theorem asc_ext {a b:List Int} (ha:Asc a) (hb:Asc b) (h:∀ z,z∈a<->z∈b):a=b:=
 aBG (R:=(· < ·)) (fun a=>by omega) (fun h1 h2=>by omega) ha hb h
theorem asc_le {l:List Int} (h:Asc l) {i j:Nat} (hj:j < l.length) (hi:i < j):l[i]'(by omega) < l[j]:=List.pairwise_iff_getElem.1 h i j (by omega) hj hi
theorem aBL {l:List Int} {x:Int}:Asc (l++[x])<->Asc l/\∀ z∈l,z < x:=by
 unfold Asc
 rw [List.pairwise_append]
 simp
theorem put_asc (l:List Int) (n:Int) (hl:l.length<=1000000) (ha:Asc l):∃ l',aBj l n=some l'/\Asc l':=by
 have htk:∀ {k:Nat} (hk:k < l.length),l.take (k+1)=l.take k++[l[k]]:=fun hk=>by rw [List.take_add_one];simp [hk]
 have hat:∀ {k:Nat},Asc (l.take k):=fun {k}=>ha.sublist (List.take_sublist k l)
 have hlt:∀ {k:Nat} (hk:k < l.length),∀ z∈l.take k,z < l[k]:=fun hk=>(aBL.1 (htk hk ▸ hat)).2
 have key:=iA (step:=fun s:List Int × Bool × Int=>jB l n s.1 s.2.1 s.2.2) l.length (fun k (a:List Int × Bool)=>(a.1,a.2,(k:Int)))
  (fun k a=>a.1.length<=k+(if a.2=true then 1 else 0)/\Asc a.1/\(a.2=false->a.1=l.take k/\∀ z∈a.1,z < n)/\(a.2=true->∀ (hk:k < l.length),∀ z∈a.1,z < l[k]))
  (fun r=>r.1.length<=l.length+(if r.2=true then 1 else 0)/\Asc r.1/\(r.2=false->∀ z∈r.1,z < n)) (fun k a hk hI=>?_) (fun a hI=>?_) l.length 0 ([],false) (by omega) ⟨by simp,List.Pairwise.nil,by simp,by simp⟩
 ·obtain ⟨⟨o,d⟩,h1,h2,h3,h4⟩:=key
  have h1':loop (fun s:List Int × Bool × Int=>jB l n s.1 s.2.1 s.2.2) (([]:List Int),false,0)=some (o,d):=h1
  unfold aBj
  rw [h1',aA]
  unfold yM yL
  simp only at h2 h3 h4 ⊢
  cases d with
  |true=>rw [if_neg (by simp)];exact ⟨_,rfl,h3⟩
  |false=>
   simp at h2
   rw [if_pos (by simp),dM (by simp [iQ];omega),aA]
   exact ⟨_,rfl,aBL.2 ⟨h3,h4 rfl⟩⟩
 ·obtain ⟨o,d⟩:=a
  obtain ⟨hI,hA,hF,hT⟩:=hI
  simp only at hI hA hF hT ⊢
  have hw:wr ((k:Int)+1)=((k+1:Nat):Int):=bD hk (by omega)
  have h3:∀ o':List Int,∀ d',o'.length<=2000000->oM l (k:Int) o' d'=some (.inl (o'++[l[k]],d',((k+1:Nat):Int))):=fun o' d' ho=>by
   unfold oM
   rw [bA hk,aA,dM (by simp [iQ];omega),aA,hw]
  have ho:o.length<=k+1:=by
   cases d<;>simp at hI<;>omega
  have hnx:∀ {z:Int},z<=l[k]->∀ (hk1:k+1 < l.length),z < l[k+1]:=fun hz hk1=>by
   have:=asc_le ha hk1 (Nat.lt_succ_self k);omega
  unfold jB
  rw [if_pos (bI hk)]
  cases d with
  |true=>
   rw [if_neg (by simp)]
   unfold kX
   rw [if_neg (by simp),h3 o true (by omega)]
   have hz:=hT rfl hk
   refine ⟨(o++[l[k]],true),rfl,by simp at hI ⊢;omega,aBL.2 ⟨hA,hz⟩,by simp,fun _ hk1 z hm=>?_⟩
   rcases List.mem_append.1 hm with h|h
   ·exact hnx (by have:=hz z h;omega) hk1
   ·simp at h;exact hnx (by omega) hk1
  |false=>
   obtain ⟨e1,e2⟩:=hF rfl
   rw [if_pos (by simp),bA hk,aA]
   by_cases hle:n<=l[k]
   ·rw [decide_eq_true hle]
    unfold kX
    rw [if_pos rfl,bA hk,aA]
    simp at hI
    have hok:∀ z∈o,z < l[k]:=fun z hz=>by have:=e2 z hz;omega
    by_cases hlt2:n < l[k]
    ·rw [if_pos (by simpa using hlt2),dM (by simp [iQ];omega),aA,h3 _ _ (by simp;omega)]
     have hmm:∀ z∈o++[n],z < l[k]:=fun z hz=>by
      rcases List.mem_append.1 hz with h|h
      ·exact hok z h
      ·simp at h;omega
     refine ⟨(o++[n]++[l[k]],true),rfl,by simp;omega,aBL.2 ⟨aBL.2 ⟨hA,e2⟩,hmm⟩,by simp,fun _ hk1 z hm=>?_⟩
     rcases List.mem_append.1 hm with h|h
     ·exact hnx (by have:=hmm z h;omega) hk1
     ·simp at h;exact hnx (by omega) hk1
    ·rw [if_neg (by simpa using hlt2),h3 _ _ (by omega)]
     refine ⟨(o++[l[k]],true),rfl,by simp;omega,aBL.2 ⟨hA,hok⟩,by simp,fun _ hk1 z hm=>?_⟩
     rcases List.mem_append.1 hm with h|h
     ·exact hnx (by have:=hok z h;omega) hk1
     ·simp at h;exact hnx (by omega) hk1
   ·rw [decide_eq_false hle]
    unfold kX
    rw [if_neg (by simp),h3 o false (by omega)]
    simp at hI
    have hok:∀ z∈o,z < l[k]:=fun z hz=>hlt hk z (e1 ▸ hz)
    refine ⟨(o++[l[k]],false),rfl,by simp;omega,aBL.2 ⟨hA,hok⟩,fun _=>⟨by rw [htk hk,←e1],fun z hz=>?_⟩,by simp⟩
    rcases List.mem_append.1 hz with h|h
    ·exact e2 z h
    ·simp at h;omega
 ·obtain ⟨o,d⟩:=a
  obtain ⟨hI,hA,hF,hT⟩:=hI
  refine ⟨(o,d),?_,by simpa using hI,hA,fun h=>(hF h).2⟩
  show jB l n o d (l.length:Int)=_
  unfold jB
  rw [if_neg (by simp)]
section
variable {u:aW} {p:List Int}
theorem aNY (hu:Big u) (hp:fQ u p) {k:Int} (hk:jY u k) {l:List Int} (hl:oN u p k=some l):Asc l:=by
 have h5:=hu.ed
 have h3:=hu.st
 obtain ⟨al,e,hal,hr⟩:=reach15 hu hp hk
 unfold oN at hl
 rw [e,aA] at hl
 have key:=iA (step:=fun s:List Int × Int=>eG u p al s.1 s.2) u.E.length (fun i (a:List Int)=>(a,(i:Int))) (fun i a=>a.length<=i/\Asc a) (fun r=>Asc r) (fun i a hi hI=>?_) (fun a hI=>?_) u.E.length 0 [] (by omega) ⟨Nat.le_refl _,List.Pairwise.nil⟩
 ·obtain ⟨l2,h1,h2⟩:=key
  have h1':loop (fun s:List Int × Int=>eG u p al s.1 s.2) (([]:List Int),0)=some l2:=h1
  rw [h1',aA] at hl
  cases hl;exact h2
 ·obtain ⟨hI,hA⟩:=hI
  have he:=List.getElem_mem hi
  have hin:=hu.inn _ he
  have hw:wr ((i:Int)+1)=((i+1:Nat):Int):=bD hi (by omega)
  have hno:gX p a (i:Int) u.E[i] false=some (.inl (a,((i+1:Nat):Int))):=by
   unfold gX kB
   rw [if_neg (by simp),hw]
  show ∃ a',eG u p al a (i:Int)=_/\_
  unfold eG
  rw [if_pos (bI hi),bA hi,aA,ixG hal hin.1,aA]
  by_cases hF:al.getD u.E[i].F.toNat false=true
  ·rw [if_pos hF,aGR hu hp he,aA]
   cases hc:inL p u.E[i] with
   |true=>rw [show (!true)=false from rfl,hno];exact ⟨a,rfl,by omega,hA⟩
   |false=>
    unfold gX kB
    rw [if_pos (by rfl),(jM hp hin.2.1).1,aA]
    generalize wr (wr (u.E[i].B * (p.length:Int))+p.getD u.E[i].To.toNat 0)=v
    obtain ⟨l',h1,h2⟩:=put_asc a v (by omega) hA
    obtain ⟨l2,g1,g2,_⟩:=put_mem a v (by omega)
    rw [h1] at g1;cases g1
    rw [h1,aA,hw]
    exact ⟨l',rfl,by omega,h2⟩
  ·rw [if_neg hF,hno]
   exact ⟨a,rfl,by omega,hA⟩
 ·refine ⟨a,?_,hI.2⟩
  show eG u p al a (u.E.length:Int)=_
  unfold eG
  rw [if_neg (by simp)]
end
end Gv
namespace Gv
open Go
section
variable {u:aW} {p:List Int} {dv:Bool}
noncomputable def aEQ (u:aW) (p:List Int) (dv:Bool) (k:Nat):List Int:=sgB u p k++(if dvB u p dv k=1 then [-1] else [])
theorem sgB_asc (k:Nat):Asc (sgB u p k):=by unfold sgB;exact aHt.ord
theorem sgB_nn (hB:Big u) (hu:aBK u) (hp:fQ u p) {k:Nat} (hk:jY u (k:Int)):∀ z∈sgB u p k,0<=z:=fun z hz=>by
 obtain ⟨e,he,_,_,rfl⟩:=(sgB_mem hu hk).1 hz
 exact vl1_nn hB hp he
theorem dvB_01 (k:Nat):dvB u p dv k=0\/dvB u p dv k=1:=by unfold dvB;split<;>simp
theorem row_iff (hB:Big u) (hu:aBK u) (hp:fQ u p) {x y:Nat} (hx:jY u (x:Int)) (hy:jY u (y:Int)):aEQ u p dv x=aEQ u p dv y<->dvB u p dv x=dvB u p dv y/\sgB u p x=sgB u p y:=by
 have nx:(-1:Int)∉sgB u p x:=fun h=>by have:=sgB_nn hB hu hp hx _ h;omega
 have ny:(-1:Int)∉sgB u p y:=fun h=>by have:=sgB_nn hB hu hp hy _ h;omega
 unfold aEQ
 rcases dvB_01 (u:=u) (p:=p) (dv:=dv) x with h1|h1<;>rcases dvB_01 (u:=u) (p:=p) (dv:=dv) y with h2|h2<;>rw [h1,h2]
 ·simp
 ·simp only [show (0:Int)=1<->False by simp,if_false,if_true,List.append_nil,false_and,iff_false]
  intro h
  exact nx (by rw [h];simp)
 ·simp only [show (1:Int)=0<->False by simp,show (0:Int)=1<->False by simp,if_false,if_true,List.append_nil,false_and,iff_false]
  intro h
  exact ny (by rw [←h];simp)
 ·simp
theorem ker_rows (hB:Big u) (hu:aBK u) (hp:fQ u p):Ker (kz p ((List.range u.N.toNat).map (aEQ u p dv))) (kyB u dv p):=by
 have hl:((List.range u.N.toNat).map (aEQ u p dv)).length=p.length:=by rw [List.length_map,List.length_range,hp.1]
 have hk:=aHw hl
 refine ⟨by rw [hk,aFg,hp.1],fun i j hi hj=>?_⟩
 rw [hk] at hi hj
 have hi':i < u.N.toNat:=by rw [←hp.1];exact hi
 have hj':j < u.N.toNat:=by rw [←hp.1];exact hj
 rw [List.getElem?_eq_getElem (by rw [hk];exact hi),List.getElem?_eq_getElem (by rw [hk];exact hj),aLS hl hi,aLS hl hj,aIA hi',aIA hj']
 have gi:p.getD i 0=p[i]:=by rw [List.getD_eq_getElem?_getD,List.getElem?_eq_getElem hi];rfl
 have gj:p.getD j 0=p[j]:=by rw [List.getD_eq_getElem?_getD,List.getElem?_eq_getElem hj];rfl
 have tx:jY u (i:Int):=by unfold jY;omega
 have ty:jY u (j:Int):=by unfold jY;omega
 rw [gi,gj]
 simp only [Option.some.injEq,List.cons.injEq,List.getElem_map,List.getElem_range]
 rw [row_iff hB hu hp tx ty]
theorem refineX (hv:cP u) (hp:fQ u p) (dv:Bool):yN u p dv=some (brF u dv p):=by
 have hu:=aJG hv
 have hU:=aDI hv
 have h3:=hu.st
 obtain ⟨al,e,hal⟩:=aKX hu hp
 have hall:al.length=u.N.toNat:=hal.len
 have hl:((List.range u.N.toNat).map (aEQ u p dv)).length=p.length:=by rw [List.length_map,List.length_range,hp.1]
 have hoff:∀ k:Nat,jY u (k:Int)->oN u p (k:Int)=some (sgB u p k)/\(sgB u p k).length<=1000:=fun k hk=>by
  obtain ⟨l,e1,e2,e3⟩:=offers15 hu hp hk
  have:l=sgB u p k:=asc_ext (aNY hu hp hk e1) (sgB_asc k) fun z=>by rw [e3,sgB_mem hU hk]
  subst this
  exact ⟨e1,e2⟩
 have hdv:∀ k:Nat,jY u (k:Int)->al.getD k false=(yZ (cN u p)).getD k false:=fun k hk=>by
  have a1:=aLW hU hal hk
  have a2:=dv_iff (q:=p) hU hk
  have:al.getD (k:Int).toNat false=true<->(yZ (cN u p)).getD (k:Int).toNat false=true:=a1.trans a2.symm
  rw [Int.toNat_natCast] at this
  cases h1:al.getD k false<;>cases h2:(yZ (cN u p)).getD k false<;>simp_all
 unfold yN
 rw [e,aA]
 have key:=iA (step:=fun s:List (List Int) × Int=>jC u p dv al s.1 s.2) u.N.toNat (fun k (a:List (List Int))=>(a,(k:Int))) (fun k a=>a=(List.range k).map (aEQ u p dv)) (fun a=>a=(List.range u.N.toNat).map (aEQ u p dv)) (fun k a hk hI=>?_) (fun a hI=>?_) u.N.toNat 0 [] (by omega) rfl
 ·obtain ⟨rows,h1,rfl⟩:=key
  have h1':loop (fun s:List (List Int) × Int=>jC u p dv al s.1 s.2) (([]:List (List Int)),0)=some ((List.range u.N.toNat).map (aEQ u p dv)):=h1
  rw [h1',aA,num15_eq hl (by rw [hp.1];omega) (fun r hr=>by
   obtain ⟨k,hk,rfl⟩:=List.mem_map.1 hr
   have hkT:jY u (k:Int):=by rw [List.mem_range] at hk;unfold jY;omega
   have:=(hoff k hkT).2
   unfold aEQ
   rw [List.length_append]
   split<;>simp<;>omega)]
  unfold brF
  rw [aGO (ker_rows hu hU hp)]
 ·subst hI
  have hkT:jY u (k:Int):=by unfold jY;omega
  have hw:wr ((k:Int)+1)=((k+1:Nat):Int):=bD hk (by omega)
  obtain ⟨o1,o2⟩:=hoff k hkT
  refine ⟨(List.range (k+1)).map (aEQ u p dv),?_,rfl⟩
  show jC u p dv al _ (k:Int)=_
  have hgo:mC ((List.range k).map (aEQ u p dv)) (k:Int) (aEQ u p dv k)=some (.inl ((List.range (k+1)).map (aEQ u p dv),((k+1:Nat):Int))):=by
   unfold mC
   rw [dM (by simp [iQ];omega),aA,hw,List.range_succ,List.map_append];rfl
  unfold jC
  rw [if_pos (by simp;omega),o1,aA]
  have hj:∀ b:Bool,(dvB u p dv k=1<->b=true)->mD ((List.range k).map (aEQ u p dv)) (k:Int) (sgB u p k) b=some (.inl ((List.range (k+1)).map (aEQ u p dv),((k+1:Nat):Int))):=by
   intro b hb
   unfold mD
   rw [←hgo]
   unfold aEQ
   cases b with
   |true=>
    rw [if_pos rfl,dM (by simp [iQ];omega),aA,if_pos (hb.2 rfl)]
   |false=>
    rw [if_neg (by simp),if_neg (fun h=>by have:=hb.1 h;cases this),List.append_nil]
  cases dv with
  |false=>
   rw [if_neg (by simp)]
   exact hj false (by unfold dvB;simp)
  |true=>
   rw [if_pos rfl,ixG hall hkT,aA,Int.toNat_natCast,hdv k hkT]
   exact hj _ (by unfold dvB;simp)
 ·subst hI
  refine ⟨_,?_,rfl⟩
  show jC u p dv al _ ((u.N.toNat:Nat):Int)=_
  unfold jC
  rw [if_neg (by simp;omega)]
end
def itF (F:List Int->List Int):Nat->List Int->List Int
 |0,z=>z
 |n+1,z=>F (itF F n z)
theorem aJK {F:List Int->List Int} {n:Nat} {z:List Int} (h:F (itF F n z)=itF F n z):∀ k,itF F (n+k) z=itF F n z
 |0=>rfl
 |k+1=>by
  show F (itF F (n+k) z)=_
  rw [aJK h k,h]
theorem itF_uniq {F:List Int->List Int} {n m:Nat} {z:List Int} (h:F (itF F n z)=itF F n z) (h':F (itF F m z)=itF F m z):itF F n z=itF F m z:=by
 rcases Nat.le_total n m with hl|hl
 ·obtain ⟨k,rfl⟩:=Nat.exists_eq_add_of_le hl
  exact (aJK h k).symm
 ·obtain ⟨k,rfl⟩:=Nat.exists_eq_add_of_le hl
  exact aJK h' k
def zP (u:aW):List Int:=List.replicate u.N.toNat 0
section
variable {u:aW}
structure Lim (u:aW) (F:List Int->List Int) (p:List Int):Prop where
 part:fQ u p
 fix:F p=p
 it:∃ n,p=itF F n (zP u)
theorem Lim.uniq {F:List Int->List Int} {p q:List Int} (h:Lim u F p) (h':Lim u F q):p=q:=by
 obtain ⟨n,hn⟩:=h.it
 obtain ⟨m,hm⟩:=h'.it
 rw [hn,hm]
 exact itF_uniq (by rw [←hn];exact h.fix) (by rw [←hm];exact h'.fix)
theorem aNZ (hu:Hug u) {F:List Int->List Int} (hF:∀ p,fQ u p->cn p=p->fQ u (F p)/\cn (F p)=F p/\aJC (F p) p) {nx:List Int->Option (List Int)} (hn:∀ p,fQ u p->nx p=some (F p))
  {step:List (List Int)->Option (List (List Int) ⊕ List (List Int))}
  (hs:∀ out,step out=ob (ix out (wr ((out.length:Int) - 1))) fun e=>ob (nx e) fun r=>ob (cV e r) fun b=>if b then (some (.inr out)) else (ob (vE out ([r]:List (List Int))) fun xs=>some (.inl xs))):
  ∃ p,(ob (mkz u.N (0:Int)) fun z=>ob (loop step ([z]:List (List Int))) fun r=>pJ r)=some p/\Lim u F p:=by
 have h3:=hu.st
 have hm:mkz u.N (0:Int)=some (zP u):=by
  unfold mkz zP
  rw [if_pos ⟨by omega,by unfold iQ;omega⟩]
 rw [hm,aA]
 have hh:∀ q:List Int,(nL q u.N.toNat).length<=100:=fun q=>Nat.le_trans (aKU q _) (by omega)
 have key:=aJE (step:=step) u.N.toNat (fun p s=>(∃ l,s=l++[p])/\s.length<=(nL p u.N.toNat).length/\fQ u p/\∃ n,p=itF F n (zP u)) (fun r=>∃ l p,r=l++[p]/\Lim u F p/\r.length<=100) (fun p s hl hc hI=>?_) (zP u) [zP u] (by simp [zP]) (aMQ _) ⟨⟨[],rfl⟩,?_,?_,0,rfl⟩
 ·obtain ⟨r,h1,l,p,rfl,hp,hl⟩:=key
  rw [h1,aA]
  unfold pJ
  rw [List.length_append,List.length_singleton] at hl
  have hw:wr ((((l++[p]).length:Nat):Int) - 1)=((l.length:Nat):Int):=by
   rw [List.length_append,List.length_singleton,dH (by omega) (by omega)];omega
  refine ⟨p,?_,hp⟩
  rw [hw,uE,List.getElem?_append_right (Nat.le_refl _),Nat.sub_self]
  rfl
 ·obtain ⟨⟨l,rfl⟩,hlen,hp,m,hm⟩:=hI
  have hb:=hh p
  rw [List.length_append,List.length_singleton] at hlen
  have hw:wr ((((l++[p]).length:Nat):Int) - 1)=((l.length:Nat):Int):=by
   rw [List.length_append,List.length_singleton,dH (by omega) (by omega)];omega
  obtain ⟨hpF,hcc,hsp⟩:=hF p hp hc
  have hstep:step (l++[p])=if decide (p=F p)=true then some (.inr (l++[p])) else some (.inl (l++[p]++[F p])):=by
   rw [hs,hw,uE,List.getElem?_append_right (Nat.le_refl _),Nat.sub_self]
   show ob (some p) _=_
   rw [aA,hn p hp,aA,aKR _ _ (by rw [hl];omega),aA,dM (by simp only [iQ,List.length_append,List.length_singleton];omega),aA]
  rw [hstep]
  by_cases e:p=F p
  ·left
   rw [if_pos (by simpa using e)]
   exact ⟨_,rfl,l,p,rfl,⟨hp,e.symm,m,hm⟩,by rw [List.length_append,List.length_singleton];omega⟩
  ·right
   rw [if_neg (by simpa using e)]
   have hmore:=(aEP hc hcc hsp).resolve_left (fun h=>e h.symm)
   rw [hl] at hmore
   refine ⟨_,_,hsp,hcc,fun h=>e h.symm,rfl,⟨l++[p],rfl⟩,?_,hpF,m+1,by rw [itF,←hm]⟩
   rw [List.length_append,List.length_append,List.length_singleton,List.length_singleton];omega
 ·have:0∈nL (zP u) u.N.toNat:=by
   unfold nL zP
   rw [List.mem_filter,List.mem_range,decide_eq_true_iff]
   exact ⟨by omega,fun k hk=>by omega⟩
  exact List.length_pos_of_mem this
 ·exact ⟨by simp [zP],fun z hz=>by unfold zP at hz;rw [List.mem_replicate] at hz;omega⟩
theorem aOa (h:aBK u) (dv:Bool):∃ p,mH u dv=some p/\Lim u (brF u dv) p:=by
 obtain ⟨p,h1,h2⟩:=aNZ h.big (F:=brF u dv) (fun p hp hc=>⟨aJH h.big aFg,cn_cn _,aJI hp.1⟩) (nx:=fun p=>pA p u dv) (fun p hp=>by
  unfold pA
  rw [aNU h hp,aA];rfl) (step:=fun s=>aCg u dv s) (fun out=>rfl)
 refine ⟨p,?_,h2⟩
 rw [←h1]
 unfold mH aGB aGA
 cases hm:mkz u.N (0:Int) with
 |none=>rfl
 |some z=>
  simp only [aA]
  cases loop (fun s=>aCg u dv s) [z] with
  |none=>rfl
  |some r=>
   simp only [aA]
   cases pJ r<;>rfl
theorem part_lim (hv:cP u) (dv:Bool):∃ p,aAH u dv=some p/\Lim u (brF u dv) p:=by
 have hu:=aJG hv
 have hU:=aDI hv
 obtain ⟨hm,h0⟩:=part0 hu
 have h3:=hu.st
 unfold aAH
 rw [hm,aA]
 have key:=aJE (step:=fun s:List Int=>vX u dv s) u.N.toNat (fun p s=>s=p/\fQ u p/\∃ n,p=itF (brF u dv) n (zP u)) (fun r=>Lim u (brF u dv) r) (fun p s hl hc hI=>?_) (List.replicate u.N.toNat 0) (List.replicate u.N.toNat 0) (by simp) (aMQ _) ⟨rfl,h0,0,rfl⟩
 ·obtain ⟨p,h1,h2⟩:=key
  rw [h1,aA]
  exact ⟨p,rfl,h2⟩
 ·obtain ⟨rfl,hp,m,hm⟩:=hI
  have hpF:fQ u (brF u dv s):=aJH hU.big aFg
  have hstep:vX u dv s=if decide (brF u dv s=s)=true then some (.inr s) else some (.inl (brF u dv s)):=by
   unfold vX
   rw [refineX hv hp,aA,aMT _ _ (by rw [hpF.1];omega),aA]
  by_cases h:brF u dv s=s
  ·left
   rw [hstep,if_pos (by simpa using h)]
   exact ⟨_,rfl,hp,h,m,hm⟩
  ·right
   refine ⟨brF u dv s,brF u dv s,aJI hp.1,cn_cn _,h,?_,rfl,aJH hU.big aFg,m+1,by rw [itF,←hm]⟩
   rw [hstep,if_neg (by simpa using h)]
theorem part_same (hv:cP u) (dv:Bool):∃ p,mH u dv=some p/\aAH u dv=some p/\fQ u p:=by
 obtain ⟨p,h1,h2⟩:=aOa (aDI hv) dv
 obtain ⟨q,h3,h4⟩:=part_lim hv dv
 have:=h2.uniq h4
 subst this
 exact ⟨p,h1,h3,h2.part⟩
end
end Gv
namespace Gv
theorem szList {β:Type} {f:β->Int->Option Int} {step:(Int × Int)->Option ((Int × Int) ⊕ (Int ⊕ Int))} {a:List β} {ok:β->Prop} {left:Int} (h0:0<=left) (hl:left<=sz) (ha:a.length < 9223372036854775808)
  (hf:∀ x∈a,∀ l:Int,0<=l->l<=sz->∃ r,f x l=some r/\(0<=r->r<=l/\ok x))
  (hs:∀ (k:Nat) (l:Int) x,k < a.length->a.length<=sz->ix a (k:Int)=some x->step (l,(k:Int))=ob (f x l) fun r=>if decide (r < 0)=true then some (.inr (.inr (-1))) else some (.inl (r,((k+1:Nat):Int))))
  (hs':∀ l,step (l,(a.length:Int))=some (.inr (.inl l))):
  ∃ r,(if (decide (wr (left - (a.length:Int)) < 0)) then (some (-1)) else (ob (loop step (wr (left - (a.length:Int)),0)) fun r=>match r with|.inl r=>some r|.inr r=>some r))=some r/\(0<=r->r<=left/\(a.length:Int)<=left/\∀ x∈a,ok x):=by
 have e1:wr (left - (a.length:Int))=left - (a.length:Int):=by unfold wr;unfold sz at hl;omega
 rw [e1]
 by_cases hneg:left - (a.length:Int) < 0
 ·exact ⟨-1,by rw [if_pos (by simpa using hneg)],by omega⟩
 rw [if_neg (by simpa using hneg)]
 have hal:a.length<=sz:=by omega
 have hL:=kN (step:=step) (fun s=>0<=s.1/\s.1<=left - a.length/\0<=s.2/\s.2<=a.length/\∀ j x,j < s.2.toNat->a[j]?=some x->ok x) (fun s=>a.length - s.2.toNat) (fun r=>r=.inr (-1)\/∃ l,r=.inl l/\l<=left/\∀ x∈a,ok x) (fun s hI=>?_) (s:=(left - (a.length:Int),0)) ⟨by simp only;omega,by simp only;omega,by simp,by simp,fun j x hj _=>by simp at hj⟩
 ·obtain ⟨r,hr,hR⟩:=hL
  rw [hr,aA]
  rcases hR with rfl|⟨l,rfl,h1,h2⟩
  ·exact ⟨-1,rfl,by omega⟩
  ·exact ⟨l,rfl,fun _=>⟨h1,by omega,h2⟩⟩
 ·obtain ⟨l,i⟩:=s
  obtain ⟨h1,h2,h3,h4,h5⟩:=hI
  simp only at h1 h2 h3 h4 h5 ⊢
  obtain ⟨k,rfl⟩:∃ k:Nat,i=(k:Int):=⟨i.toNat,by omega⟩
  by_cases hk:k < a.length
  ·have hx:ix a (k:Int)=some a[k]:=by rw [uE];simp [hk]
   obtain ⟨r,hr,hok⟩:=hf a[k] (List.getElem_mem hk) l h1 (by omega)
   rw [hs k l _ hk hal hx,hr,aA]
   by_cases hn:r < 0
   ·right;rw [if_pos (by simpa using hn)];exact ⟨_,rfl,.inl rfl⟩
   ·left
    rw [if_neg (by simpa using hn)]
    obtain ⟨g1,g2⟩:=hok (by omega)
    refine ⟨_,rfl,⟨by simp only;omega,by simp only;omega,by simp only;omega,by simp only;omega,?_⟩,by simp only;omega⟩
    intro j x hj hx
    simp only at hj
    by_cases e:j=k
    ·obtain ⟨_,rfl⟩:=List.getElem?_eq_some_iff.1 hx;subst e;exact g2
    ·exact h5 j x (by omega) hx
  ·obtain rfl:k=a.length:=by omega
   right
   rw [hs' l]
   refine ⟨_,rfl,.inr ⟨l,rfl,by omega,?_⟩⟩
   intro x hx
   obtain ⟨j,hj,rfl⟩:=List.mem_iff_getElem.1 hx
   exact h5 j _ (by omega) (by simp [hj])
def zD (n:Nat) (m:aT):Prop:=m.Left.length<=n/\m.Right.length<=n/\m.Result.length<=n
structure lW (n:Nat) (a:bB):Prop where
 parts:a.Parts.length<=n
 part:∀ t∈a.Parts,gK n t
 meets:a.Meetings.length<=n
 meet:∀ m∈a.Meetings,zD n m
 alls:a.Allowed.length<=n
 all:∀ s∈a.Allowed,s.length<=n
 hids:a.Hidden.length<=n
 hid:∀ s∈a.Hidden,s.length<=n
theorem aMZ {a:List aW} {left:Int} (h0:0<=left) (hl:left<=sz) (ha:a.length<=9223372036854775807) (hp:∀ t∈a,gK 9223372036854775807 t):
  ∃ r,aGp a left=some r/\(0<=r->r<=left/\(a.length:Int)<=left/\∀ t∈a,gK sz t):=by
 refine szList (f:=aGo) (step:=fun s=>aBZ a s.1 s.2) h0 hl (by omega) (fun t ht l g0 g1=>aNz g0 g1 (hp t ht)) (fun k l x hk hz hx=>?_) (fun l=>?_)
 ·simp only [aBZ,bI hk,if_true,hx,aA,bD hk (show a.length < 4611686018427387904 by unfold sz at hz;omega)]
 ·simp only [aBZ,bJ];rfl
theorem aJL {m:aT} {left:Int} (h0:0<=left) (hl:left<=sz) (hm:zD 9223372036854775807 m):∃ r,yH m left=some r/\(0<=r->r<=left/\zD sz m):=by
 obtain ⟨g1,g2,g3⟩:=hm
 unfold sz at hl
 unfold yH zD sz
 have e1:wr (left - (m.Left.length:Int))=left - (m.Left.length:Int):=by unfold wr;omega
 rw [e1]
 by_cases n1:left - (m.Left.length:Int) < 0
 ·exact ⟨-1,by rw [if_pos (by simpa using n1)],by omega⟩
 rw [if_neg (by simpa using n1)]
 have e2:wr (left - (m.Left.length:Int) - (m.Right.length:Int))=left - (m.Left.length:Int) - (m.Right.length:Int):=by unfold wr;omega
 rw [e2]
 by_cases n2:left - (m.Left.length:Int) - (m.Right.length:Int) < 0
 ·exact ⟨-1,by rw [if_pos (by simpa using n2)],by omega⟩
 rw [if_neg (by simpa using n2)]
 have e3:wr (left - (m.Left.length:Int) - (m.Right.length:Int) - (m.Result.length:Int))=left - (m.Left.length:Int) - (m.Right.length:Int) - (m.Result.length:Int):=by unfold wr;omega
 rw [e3]
 by_cases n3:left - (m.Left.length:Int) - (m.Right.length:Int) - (m.Result.length:Int) < 0
 ·exact ⟨-1,by rw [if_pos (by simpa using n3)],by omega⟩
 rw [if_neg (by simpa using n3)]
 exact ⟨_,rfl,fun _=>⟨by omega,by omega,by omega,by omega⟩⟩
theorem aIi {a:List aT} {left:Int} (h0:0<=left) (hl:left<=sz) (ha:a.length<=9223372036854775807) (hp:∀ m∈a,zD 9223372036854775807 m):
  ∃ r,aAq a left=some r/\(0<=r->r<=left/\(a.length:Int)<=left/\∀ m∈a,zD sz m):=by
 refine szList (f:=yH) (step:=fun s=>tS a s.1 s.2) h0 hl (by omega) (fun t ht l g0 g1=>aJL g0 g1 (hp t ht)) (fun k l x hk hz hx=>?_) (fun l=>?_)
 ·simp only [tS,bI hk,if_true,hx,aA,bD hk (show a.length < 4611686018427387904 by unfold sz at hz;omega)]
 ·simp only [tS,bJ];rfl
theorem aJM {a:bB} {left:Int} (h0:0<=left) (hl:left<=sz) (ha:lW 9223372036854775807 a):∃ r,aCa a left=some r/\(0<=r->lW sz a):=by
 obtain ⟨p1,p2,p3,p4,p5,p6,p7,p8⟩:=ha
 obtain ⟨r,hr,h1⟩:=aMZ h0 hl p1 p2
 unfold aCa
 rw [hr,aA]
 by_cases n1:r < 0
 ·exact ⟨-1,by rw [if_pos (by simpa using n1)],by omega⟩
 rw [if_neg (by simpa using n1)]
 obtain ⟨i1,i2,i3⟩:=h1 (by omega)
 obtain ⟨r2,hr2,h2⟩:=aIi (a:=a.Meetings) (left:=r) (by omega) (by omega) p3 p4
 rw [hr2,aA]
 by_cases n2:r2 < 0
 ·exact ⟨-1,by rw [if_pos (by simpa using n2)],by omega⟩
 rw [if_neg (by simpa using n2)]
 obtain ⟨j1,j2,j3⟩:=h2 (by omega)
 obtain ⟨r3,hr3,h3⟩:=aBD (a:=a.Allowed) (left:=r2) (by omega) (by omega) (by omega) (fun s hs=>by have:=p6 s hs;omega)
 rw [hr3,aA]
 by_cases n3:r3 < 0
 ·exact ⟨-1,by rw [if_pos (by simpa using n3)],by omega⟩
 rw [if_neg (by simpa using n3)]
 obtain ⟨k1,k2,k3⟩:=h3 (by omega)
 obtain ⟨r4,hr4,h4⟩:=aBD (a:=a.Hidden) (left:=r3) (by omega) (by omega) (by omega) (fun s hs=>by have:=p8 s hs;omega)
 rw [hr4,aA]
 by_cases n4:r4 < 0
 ·exact ⟨-1,by rw [if_pos (by simpa using n4)],by omega⟩
 rw [if_neg (by simpa using n4)]
 obtain ⟨l1,l2,l3⟩:=h4 (by omega)
 exact ⟨_,rfl,fun _=>⟨by omega,i3,by omega,j3,by omega,fun s hs=>by have:=k3 s hs;omega,by omega,fun s hs=>by have:=l3 s hs;omega⟩⟩
theorem toLtsS_eq {a:List aW} (h:a.length<=iQ) (hp:∀ t∈a,gK iQ t):aEA a=some a:=by
 have h2:a.length < 4611686018427387904:=by unfold iQ at h;omega
 unfold aEA
 rw [aDx _ h,aA,rU (a:=a) (z:=(⟨0,0,[],[]⟩:aW))]
 ·rfl
 ·intro k out x hk ho hx
  have hxm:x∈a:=by rw [bA hk] at hx;cases hx;exact List.getElem_mem hk
  simp only [aCf,bI hk,if_true,hx,aA,toLts_eq (hp x hxm),bA (xs:=out) (k:=k) (by omega),kS (xs:=out) (k:=k) _ (show k < out.length by omega),bD hk h2]
 ·intro out;simp only [aCf,bJ];rfl
theorem aKl {a:List aT} (h:a.length<=iQ):vZ a=some a:=by
 have h2:a.length < 4611686018427387904:=by unfold iQ at h;omega
 unfold vZ
 rw [aDx _ h,aA,rU (a:=a) (z:=(⟨[],[],[]⟩:aT))]
 ·rfl
 ·intro k out x hk ho hx
  simp only [tW,bI hk,if_true,hx,aA,aEB,bA (xs:=out) (k:=k) (by omega),kS (xs:=out) (k:=k) _ (show k < out.length by omega),bD hk h2]
 ·intro out;simp only [tW,bJ];rfl
theorem lW.mono {n m:Nat} {a:bB} (h:lW n a) (hn:n<=m):lW m a:=
 ⟨Nat.le_trans h.1 hn,fun t ht=>let ⟨x,y,z⟩:=h.2 t ht;⟨Nat.le_trans x hn,fun s hs=>Nat.le_trans (y s hs) hn,Nat.le_trans z hn⟩,Nat.le_trans h.3 hn,fun t ht=>let ⟨x,y,z⟩:=h.4 t ht;⟨Nat.le_trans x hn,Nat.le_trans y hn,Nat.le_trans z hn⟩,Nat.le_trans h.5 hn,fun t ht=>Nat.le_trans (h.6 t ht) hn,Nat.le_trans h.7 hn,fun t ht=>Nat.le_trans (h.8 t ht) hn⟩
theorem aLX {a:bB} (h:lW iQ a):oO a=some a:=by
 unfold oO
 rw [toLtsS_eq h.1 h.2,aA,aKl h.3,aA,aDy h.5,aA,aDy h.7,aA]
theorem eqLtsS_eq (a b:List aW) (h:a.length < 4611686018427387904) (hp:∀ t∈a,gK 4611686018427387903 t):aEE a b=some (decide (a=b)):=by
 unfold aEE
 by_cases e:a.length=b.length
 ·rw [if_neg (by simp [e])]
  refine Eq.trans ?_ (aGK e (step:=fun s=>aCh a b s) ?_ ?_)
  ·rfl
  ·intro k x y hk hx hy
   have hxm:x∈a:=by rw [bA hk] at hx;cases hx;exact List.getElem_mem hk
   simp only [aCh,bI hk,if_true,hx,hy,aA,bD hk h,eqLts_eq x y (hp x hxm)]
   by_cases e:x=y<;>simp [e]
  ·simp only [aCh,bJ];rfl
 ·rw [if_pos (by simp only [bne_iff_ne,ne_eq];omega)]
  have:¬ a=b:=fun h=>e (by rw [h])
  simp [this]
theorem aLY (a b:aT):aCi a b=some (decide (a=b)):=by
 obtain ⟨a1,a2,a3⟩:=a;obtain ⟨b1,b2,b3⟩:=b
 simp only [aCi,aT.mk.injEq]
 by_cases h1:a1=b1<;>by_cases h2:a2=b2<;>by_cases h3:a3=b3<;>simp [h1,h2,h3]
theorem aKm (a b:List aT) (h:a.length < 4611686018427387904):wM a b=some (decide (a=b)):=by
 unfold wM
 by_cases e:a.length=b.length
 ·rw [if_neg (by simp [e])]
  refine Eq.trans ?_ (aGK e (step:=fun s=>uB a b s) ?_ ?_)
  ·rfl
  ·intro k x y hk hx hy
   simp only [uB,bI hk,if_true,hx,hy,aA,bD hk h,aLY]
   by_cases e:x=y<;>simp [e]
  ·simp only [uB,bJ];rfl
 ·rw [if_pos (by simp only [bne_iff_ne,ne_eq];omega)]
  have:¬ a=b:=fun h=>e (by rw [h])
  simp [this]
theorem aGS (a b:bB) (h:lW sz a):rK a b=some (decide (a=b)):=by
 obtain ⟨a1,a2,a3,a4⟩:=a;obtain ⟨b1,b2,b3,b4⟩:=b
 have g1:=h.1;have g3:=h.3;have g5:=h.5;have g7:=h.7
 simp only [sz] at g1 g3 g5 g7
 simp only [rK,bB.mk.injEq,eqLtsS_eq a1 b1 (by omega) (fun t ht=>(h.2 t ht).mono (by decide)),aKm a2 b2 (by omega),aDz a3 b3 (by omega),aDz a4 b4 (by omega),aA]
 by_cases e1:a1=b1<;>by_cases e2:a2=b2<;>by_cases e3:a3=b3<;>by_cases e4:a4=b4<;>simp [e1,e2,e3,e4]
end Gv
namespace Gv
noncomputable def mLt (k:Int) (t:aW):aW:=⟨k,k+1,mS (k+2) t.L.length,mE (k+2+t.L.length) t.E.length⟩
def wL (t:aW):Int:=2+t.L.length+3 * t.E.length
noncomputable def mLs:Int->List aW->List aW
 |_,[]=>[]
 |k,t::ts=>mLt k t::mLs (k+wL t) ts
def kL:Int->List aW->Int
 |k,[]=>k
 |k,t::ts=>kL (k+wL t) ts
theorem wL_le {t:aW} (h:gK sz t):0<=wL t/\wL t<=4194306:=by
 have h1:=h.1;have h2:=h.2.2
 unfold sz at h1 h2
 unfold wL;omega
theorem kL_app:∀ (a b:List aW) (k:Int),kL k (a++b)=kL (kL k a) b
 |[],_,_=>rfl
 |t::ts,b,k=>kL_app ts b (k+wL t)
theorem aLZ:∀ (a b:List aW) (k:Int),mLs k (a++b)=mLs k a++mLs (kL k a) b
 |[],_,_=>rfl
 |t::ts,b,k=>by rw [List.cons_append,mLs,mLs,aLZ ts b (k+wL t)];rfl
theorem aDJ:∀ (a:List aW) (k:Int),(mLs k a).length=a.length
 |[],_=>rfl
 |t::ts,k=>by rw [mLs,List.length_cons,List.length_cons,aDJ ts]
theorem kL_le:∀ {a:List aW} (k:Int),(∀ t∈a,gK sz t)->k<=kL k a/\kL k a<=k+4194306 * a.length
 |[],k,_=>by simp [kL]
 |t::ts,k,h=>by
  have h1:=wL_le (h t (by simp))
  have h2:=kL_le (a:=ts) (k+wL t) (fun s hs=>h s (List.mem_cons_of_mem _ hs))
  rw [kL,List.length_cons];omega
theorem aKZ {α:Type} {a:List α} {i:Nat} (h:i < a.length):a.take (i+1)=a.take i++[a[i]]:=by rw [List.take_add_one];simp [h]
theorem kL_step {a:List aW} {i:Nat} (h:i < a.length) (k:Int):kL k (a.take (i+1))=kL k (a.take i)+wL a[i]:=by rw [aKZ h,kL_app];rfl
theorem mLs_at {a:List aW} {i:Nat} (h:i < a.length) (k:Int):(mLs k a)[i]'(by rw [aDJ];exact h)=mLt (kL k (a.take i)) a[i]:=by
 have e:mLs k a=mLs k (a.take i)++mLs (kL k (a.take i)) (a.drop i):=by rw [←aLZ,List.take_append_drop]
 have hl:(mLs k (a.take i)).length=i:=by rw [aDJ];simp;omega
 have e2:a.drop i=a[i]::a.drop (i+1):=List.drop_eq_getElem_cons h
 have e3:(mLs k a)[i]?=some (mLt (kL k (a.take i)) a[i]):=by
  rw [e,List.getElem?_append_right (by omega),hl,Nat.sub_self,e2];rfl
 exact (List.getElem?_eq_some_iff.1 e3).2
theorem kL_in {a:List aW} (ha:a.length<=sz) (hp:∀ t∈a,gK sz t) {k:Int} (h0:0<=k) (hk:k<=1000) (i:Nat):0<=kL k (a.take i)/\kL k (a.take i)<=4398048610304+1000:=by
 have h1:=kL_le (a:=a.take i) k (fun t ht=>hp t (List.mem_of_mem_take ht))
 have h2:(a.take i).length<=a.length:=by simp;omega
 unfold sz at ha
 omega
theorem aNa {a:List aW} {k:Int} (h0:0<=k) (hk:k<=1000) (ha:a.length<=sz) (hp:∀ t∈a,gK sz t):aBs a k=some (kL k a,mLs k a):=by
 unfold aBs
 have hlt:a.length < 4611686018427387904:=by unfold sz at ha;omega
 have:=mY (step:=fun s:List aW × Int × Int=>tN s.1 s.2.1 s.2.2) a.length (fun i (s:List aW × Int)=>(s.1,s.2,(i:Int))) (fun _ _=>(kL k a,mLs k a)) (fun i s=>s.1=mLs k (a.take i)++a.drop i/\s.2=kL k (a.take i)) (fun i s hi hI=>?_) (fun s hI=>?_) a.length 0 (a,k) (by omega) ⟨by simp [mLs],by simp [kL]⟩
 ·simp only [Int.natCast_zero] at this
  rw [this];rfl
 ·left
  obtain ⟨out,kk⟩:=s
  obtain ⟨e1,e2⟩:=hI
  simp only at e1 e2 ⊢
  have hb:=kL_in ha hp h0 hk i
  rw [←e2] at hb
  have hl1:(mLs k (a.take i)).length=i:=by rw [aDJ];simp;omega
  have ho:out.length=a.length:=by rw [e1];simp [aDJ];omega
  have hio:i < out.length:=by omega
  have hx:out[i]=a[i]:=by
   have:out[i]?=some a[i]:=by rw [e1,List.getElem?_append_right (by omega),hl1,Nat.sub_self,List.drop_eq_getElem_cons hi];rfl
   exact (List.getElem?_eq_some_iff.1 this).2
  have hf:=hp a[i] (List.getElem_mem hi)
  obtain ⟨f1,_,f3⟩:=hf
  unfold sz at f1 f3
  refine ⟨(out.set i (mLt kk a[i]),kk+wL a[i]),?_,⟨?_,?_⟩,trivial⟩
  ·simp only [tN,ho,bI hi,if_true,bA hio,kS _ hio,aA,hx]
   generalize hy:(⟨kk,a[i].I,a[i].L,a[i].E⟩:aW)=y
   have c1:i < (out.set i y).length:=by simpa using hio
   simp only [bA c1,kS _ c1,aA,List.getElem_set_self,List.set_set]
   have w1:wr (kk+1)=kk+1:=dH (by omega) (by omega)
   have w2:wr (kk+1+1)=kk+2:=by rw [dH (by omega) (by omega)];omega
   rw [w1,w2]
   generalize hz:(⟨y.N,kk+1,y.L,y.E⟩:aW)=z
   have c2:i < (out.set i z).length:=by simpa using hio
   simp only [bA c2,kS _ c2,aA,List.getElem_set_self,List.set_set]
   have hzL:z.L=a[i].L:=by subst hz;subst hy;rfl
   have hzE:z.E=a[i].E:=by subst hz;subst hy;rfl
   rw [hzL,aBE (by omega) (by omega) (by omega),aA]
   simp only [bA c2,kS _ c2,aA,List.set_set]
   generalize hu:(⟨z.N,z.I,mS (kk+2) a[i].L.length,z.E⟩:aW)=u
   have c3:i < (out.set i u).length:=by simpa using hio
   simp only [bA c3,kS _ c3,aA,List.getElem_set_self,List.set_set]
   have huE:u.E=a[i].E:=by subst hu;exact hzE
   rw [huE,aLA (by omega) (by omega) (by omega),aA]
   simp only [bA c3,kS _ c3,aA,List.set_set,bD hi hlt]
   subst hu;subst hz;subst hy
   simp only [mLt,wL,Option.some.injEq,Sum.inl.injEq,Prod.mk.injEq,true_and,and_true]
   omega
  ·rw [aKZ hi,aLZ,←e2,e1]
   have hd:a.drop i=a[i]::a.drop (i+1):=List.drop_eq_getElem_cons hi
   rw [List.set_append_right _ _ (by omega),hl1,Nat.sub_self,hd,List.set_cons_zero]
   simp [mLs]
  ·rw [kL_step hi,e2]
 ·obtain ⟨out,kk⟩:=s
  obtain ⟨e1,e2⟩:=hI
  simp only at e1 e2 ⊢
  have ho:out=mLs k a:=by rw [e1];simp
  have hk2:kk=kL k a:=by rw [e2];simp
  have hol:out.length=a.length:=by rw [ho,aDJ]
  simp only [tN,hol,bJ]
  subst ho;subst hk2;rfl
theorem aNb {a:List aW} {k:Int} (h0:0<=k) (hk:k<=1000) (ha:a.length<=sz) (hp:∀ t∈a,gK sz t):aBt (mLs k a) k=some (kL k a):=by
 unfold aBt
 have hlt:a.length < 4611686018427387904:=by unfold sz at ha;omega
 have hl:=aDJ a k
 have:=mY (step:=fun s:Int × Int=>xZ (mLs k a) s.1 s.2) a.length (fun i (_:Unit)=>(kL k (a.take i),(i:Int))) (fun _ _=>.inl (kL k a)) (fun _ _=>True) (fun i s hi _=>?_) (fun s _=>?_) a.length 0 () (by omega) trivial
 ·simp only [List.take_zero,kL] at this
  rw [show (k,(0:Int))=(k,((0:Nat):Int)) from rfl,this];rfl
 ·left
  refine ⟨(),?_,trivial,rfl⟩
  have hi':i < (mLs k a).length:=by omega
  have hb:=kL_in ha hp h0 hk i
  have hf:=hp a[i] (List.getElem_mem hi)
  obtain ⟨f1,_,f3⟩:=hf
  unfold sz at f1 f3
  generalize hkk:kL k (a.take i)=kk at hb
  have w1:wr (kk+1)=kk+1:=dH (by omega) (by omega)
  have w2:wr (kk+1+1)=kk+2:=by rw [dH (by omega) (by omega)];omega
  simp only [xZ,hl,bI hi,if_true,bA hi',aA,mLs_at hi,hkk,mLt,w1,w2,bne_self_eq_false,Bool.false_eq_true,if_false]
  rw [aBF (by omega) (by omega) (by omega),aA,if_neg (by simp;omega),aLB (by omega) (by omega) (by omega),aA,if_neg (by simp;omega),bD hi hlt,kL_step hi,hkk]
  simp only [wL,Option.some.injEq,Sum.inl.injEq,Prod.mk.injEq,and_true]
  omega
 ·rw [List.take_of_length_le (Nat.le_refl _)]
  simp only [xZ,hl,bJ];rfl
noncomputable def mM (k:Int) (n:Nat):List aT:=(List.range n).map fun i=>⟨mt (k+(3:Nat) * (i:Nat)),mt (k+(3:Nat) * (i:Nat)+1),mt (k+(3:Nat) * (i:Nat)+2)⟩
theorem aIk {a:List aT} {k:Int} (h0:0<=k) (hk:k<=1125899906842624) (ha:a.length<=1099511627776):rL a k=some (k+3 * a.length,mM k a.length):=by
 unfold rL
 rw [aHo (f:=fun k=>⟨mt k,mt (k+1),mt (k+2)⟩) (c:=3) (k0:=k) (a:=a)]
 ·simp [wO,mM]
 ·intro i out hi ho
  have hi':i < out.length:=by omega
  have w1:wr (k+(3:Nat) * (i:Nat)+1)=k+(3:Nat) * (i:Nat)+1:=dH (by omega) (by omega)
  have w2:wr (k+(3:Nat) * (i:Nat)+1+1)=k+(3:Nat) * (i:Nat)+2:=by rw [dH (by omega) (by omega)];omega
  have w3:wr (k+(3:Nat) * (i:Nat)+2+1)=k+(3:Nat) * (i+1:Nat):=by rw [dH (by omega) (by omega)];omega
  simp only [qS,ho,bI hi,if_true,bA hi',kS _ hi',aA,bD hi (show a.length < _ by omega),w1,w2,w3,aHK (k:=k+(3:Nat) * (i:Nat)) (by omega),aHK (k:=k+(3:Nat) * (i:Nat)+1) (by omega),aHK (k:=k+(3:Nat) * (i:Nat)+2) (by omega)]
  generalize hx:(⟨mt (k+(3:Nat) * (i:Nat)),out[i].Right,out[i].Result⟩:aT)=x
  have e1:i < (out.set i x).length:=by simpa using hi'
  simp only [bA e1,kS _ e1,aA,List.getElem_set_self,List.set_set]
  generalize hy:(⟨x.Left,mt (k+(3:Nat) * (i:Nat)+1),x.Result⟩:aT)=y
  have e2:i < (out.set i y).length:=by simpa using hi'
  simp only [bA e2,kS _ e2,aA,List.getElem_set_self,List.set_set]
  subst hy hx
  rfl
 ·intro out k ho
  simp only [qS,ho,bJ];rfl
theorem aIl {n:Nat} {k:Int} (h0:0<=k) (hk:k<=1125899906842624) (hn:n<=1099511627776):rM (mM k n) k=some (k+3 * n):=by
 unfold rM
 have hl:(mM k n).length=n:=by simp [mM]
 have:=mY (step:=fun s:Int × Int=>qT (mM k n) s.1 s.2) n (fun i (_:Unit)=>(k+(3:Nat) * (i:Nat),(i:Int))) (fun _ _=>.inl (k+(3:Nat) * n)) (fun _ _=>True) (fun i a hi _=>?_) (fun a _=>?_) n 0 () (by omega) trivial
 ·simp only [Int.natCast_zero,Int.mul_zero,Int.add_zero] at this
  rw [show (k,(0:Int))=(k,((0:Nat):Int)) from rfl] at *
  rw [this];rfl
 ·left
  refine ⟨(),?_,trivial,rfl⟩
  have hi':i < (mM k n).length:=by omega
  have w1:wr (k+(3:Nat) * (i:Nat)+1)=k+(3:Nat) * (i:Nat)+1:=dH (by omega) (by omega)
  have w2:wr (k+(3:Nat) * (i:Nat)+1+1)=k+(3:Nat) * (i:Nat)+2:=by rw [dH (by omega) (by omega)];omega
  have w3:wr (k+(3:Nat) * (i:Nat)+2+1)=k+(3:Nat) * (i+1:Nat):=by rw [dH (by omega) (by omega)];omega
  simp only [qT,hl,bI hi,if_true,bA hi',aA,bD hi (show n < _ by omega),w1,w2,w3,aHK (k:=k+(3:Nat) * (i:Nat)) (by omega),aHK (k:=k+(3:Nat) * (i:Nat)+1) (by omega),aHK (k:=k+(3:Nat) * (i:Nat)+2) (by omega)]
  rw [show (mM k n)[i]=⟨mt (k+(3:Nat) * (i:Nat)),mt (k+(3:Nat) * (i:Nat)+1),mt (k+(3:Nat) * (i:Nat)+2)⟩ by simp [mM]]
  simp
 ·simp only [qT,hl,bJ];rfl
theorem aNc {a:bB} (h:lW sz a):∃ k Ps Ms As Hs,qE a.Parts a.Meetings a.Allowed a.Hidden 1=some (k,Ps,Ms,As,Hs)/\tO ⟨Ps,Ms,As,Hs⟩ 1=some k/\0<=k:=by
 have g1:=h.1;have g3:=h.3;have g5:=h.5;have g7:=h.7
 have hb:=kL_in h.1 h.2 (k:=1) (by omega) (by omega) a.Parts.length
 rw [List.take_of_length_le (Nat.le_refl _)] at hb
 simp only [sz] at g3 g5 g7
 generalize hk:kL 1 a.Parts=k1 at hb
 refine ⟨k1+3 * a.Meetings.length+a.Allowed.length+a.Hidden.length,mLs 1 a.Parts,mM k1 a.Meetings.length,mS (k1+3 * a.Meetings.length) a.Allowed.length,mS (k1+3 * a.Meetings.length+a.Allowed.length) a.Hidden.length,?_,?_,by omega⟩
 ·unfold qE
  rw [aNa (by omega) (by omega) h.1 h.2,aA,hk]
  simp only
  rw [aIk (by omega) (by omega) (by omega),aA]
  simp only
  rw [aBE (by omega) (by omega) (by omega),aA]
  simp only
  rw [aBE (by omega) (by omega) (by omega),aA]
 ·unfold tO
  rw [aNb (by omega) (by omega) h.1 h.2,aA,hk,if_neg (by simp;omega),aIl (by omega) (by omega) (by omega),aA,if_neg (by simp;omega),aBF (by omega) (by omega) (by omega),aA,if_neg (by simp;omega),aBF (by omega) (by omega) (by omega),aA,if_neg (by simp;omega)]
end Gv
namespace Gv
def mlt (a b:aT):Bool:=mZ a.Left b.Left||(a.Left == b.Left&&mZ a.Right b.Right)
def cS (x y:aV):Int:=if mZ x y then -1 else if x=y then 0 else 1
theorem cmpS_eq (x y:aV):jJ x y=some (cS x y):=by
 unfold jJ nR cS
 simp only [BEq.rfl,Bool.not_true,aA,Bool.false_eq_true,if_false]
 by_cases h1:mZ x y=true
 ·simp [h1]
 ·have h1':mZ x y=false:=by simpa using h1
  by_cases h2:x=y
  ·subst h2;simp [h1']
  ·simp [h1',h2]
theorem cmpM (a b:aT):∃ v,mP a b=some v/\decide (0<=v)=!mlt a b:=by
 unfold mP fI mlt
 have s0:bP [a.Left,a.Right] [b.Left,b.Right] 0=if (cS a.Left b.Left != 0)=true then some (.inr (.inr (cS a.Left b.Left))) else some (.inl 1):=by
  unfold bP
  rw [if_pos (by simp),show ix ([a.Left,a.Right]:List aV) 0=some a.Left from rfl,aA,if_neg (by simp),show ix ([b.Left,b.Right]:List aV) 0=some b.Left from rfl,aA,cmpS_eq,aA]
  rfl
 have s1:bP [a.Left,a.Right] [b.Left,b.Right] 1=if (cS a.Right b.Right != 0)=true then some (.inr (.inr (cS a.Right b.Right))) else some (.inl 2):=by
  unfold bP
  rw [if_pos (by simp),show ix ([a.Left,a.Right]:List aV) 1=some a.Right from rfl,aA,if_neg (by simp),show ix ([b.Left,b.Right]:List aV) 1=some b.Right from rfl,aA,cmpS_eq,aA]
  rfl
 have s2:bP [a.Left,a.Right] [b.Left,b.Right] 2=some (.inr (.inl ())):=by
  unfold bP
  rw [if_neg (by simp)]
 by_cases h1:mZ a.Left b.Left=true
 ·have c0:cS a.Left b.Left=-1:=by unfold cS;rw [if_pos h1]
  rw [c0] at s0
  rw [bR,s0]
  exact ⟨-1,rfl,by rw [h1];rfl⟩
 have h1':mZ a.Left b.Left=false:=by simpa using h1
 by_cases h2:a.Left=b.Left
 ·have c0:cS a.Left b.Left=0:=by unfold cS;rw [if_neg h1,if_pos h2]
  rw [c0] at s0
  have s0':bP [a.Left,a.Right] [b.Left,b.Right] 0=some (.inl 1):=s0
  rw [bR,s0']
  have e2:(a.Left == b.Left)=true:=by rw [h2];exact BEq.rfl
  by_cases h3:mZ a.Right b.Right=true
  ·have c1:cS a.Right b.Right=-1:=by unfold cS;rw [if_pos h3]
   rw [c1] at s1
   simp only
   rw [bR,s1]
   exact ⟨-1,rfl,by rw [h1',e2,h3];rfl⟩
  have h3':mZ a.Right b.Right=false:=by simpa using h3
  by_cases h4:a.Right=b.Right
  ·have c1:cS a.Right b.Right=0:=by unfold cS;rw [if_neg h3,if_pos h4]
   rw [c1] at s1
   have s1':bP [a.Left,a.Right] [b.Left,b.Right] 1=some (.inl 2):=s1
   simp only
   rw [bR,s1']
   simp only
   rw [bR,s2]
   exact ⟨0,rfl,by rw [h1',e2,h3'];rfl⟩
  ·have c1:cS a.Right b.Right=1:=by unfold cS;rw [if_neg h3,if_neg h4]
   rw [c1] at s1
   simp only
   rw [bR,s1]
   exact ⟨1,rfl,by rw [h1',e2,h3'];rfl⟩
 ·have c0:cS a.Left b.Left=1:=by unfold cS;rw [if_neg h1,if_neg h2]
  rw [c0] at s0
  rw [bR,s0]
  have e2:(a.Left == b.Left)=false:=by simpa using h2
  exact ⟨1,rfl,by rw [h1',e2];rfl⟩
def aFJ (ms:List aT) (m:aT):Bool:=ms.any fun o=>o.Left == m.Result||o.Right == m.Result
theorem clash_i (ms:List aT) (m:aT) (h:ms.length < 4000000):cI ms m=some (aFJ ms m):=by
 unfold cI cR
 have hl:=sQ (step:=fun s=>cA ms m s) ms (fun o=>o.Left == m.Result||o.Right == m.Result) (fun k x hk hx=>by
  have hw:=bD hk (show ms.length < 4611686018427387904 by omega)
  simp only [cA,bI hk,if_pos,hx,aA,hw]
  unfold tX oX
  by_cases h1:(x.Left == m.Result)=true
  ·rw [if_pos h1,h1,Bool.true_or,aA]
  ·have h1':(x.Left == m.Result)=false:=by simpa using h1
   rw [if_neg h1,h1',Bool.false_or,aA]) (by simp only [cA,bJ];rfl)
 rw [hl,aA]
 unfold aFJ
 cases hf:ms.findIdx? (fun o:aT=>o.Left == m.Result||o.Right == m.Result) with
 |none=>
  have:ms.any (fun o:aT=>o.Left == m.Result||o.Right == m.Result)=false:=by
   rw [List.any_eq_false]
   intro x hx
   exact List.findIdx?_eq_none_iff.1 hf x hx ▸ (by simp)
  rw [this];rfl
 |some i=>
  obtain ⟨hi,hp,_⟩:=List.findIdx?_eq_some_iff_getElem.1 hf
  have:ms.any (fun o:aT=>o.Left == m.Result||o.Right == m.Result)=true:=List.any_eq_true.2 ⟨_,List.getElem_mem hi,hp⟩
  rw [this];simp [aA]
def mtB (ms:List aT) (k:Nat) (m:aT):Bool:=kI m.Left&&kI m.Right&&kI m.Result&&!mZ m.Right m.Left&&(k == 0||mlt (ms.getD (k - 1) ⟨[],[],[]⟩) m)&&!aFJ ms m
theorem le_not (a b:aV):(mZ a b||a == b)=!mZ b a:=aLF b a
theorem meet_i (ms:List aT) (hl:ms.length<=sz) (hm:∀ m∈ms,zD sz m) {k:Nat} (hk:k < ms.length):mF ms (k:Int)=if mtB ms k ms[k]=true then some (.inl ((k+1:Nat):Int)) else some (.inr (.inr false)):=by
 obtain ⟨b1,b2,b3⟩:=hm _ (List.getElem_mem hk)
 unfold sz at b1 b2 b3 hl
 generalize hx:ms[k]=x at *
 have hwk:=bD hk (show ms.length < 4611686018427387904 by omega)
 have hj:∀ v,gD ms (k:Int) x v=if (!v&&!aFJ ms x)=true then some (.inl ((k+1:Nat):Int)) else some (.inr (.inr false)):=by
  intro v
  unfold gD
  rw [clash_i _ _ (by omega),hwk]
  cases v<;>cases aFJ ms x<;>rfl
 unfold mF mtB
 rw [if_pos (bI hk),bA hk,hx,aA,yX _ (by omega),aA]
 cases kI x.Left with
 |false=>simp [hj]
 |true=>
  rw [if_neg (by simp),yX _ (by omega),aA]
  cases kI x.Right with
  |false=>simp [hj]
  |true=>
   rw [if_neg (by simp),yX _ (by omega),aA]
   cases kI x.Result with
   |false=>simp [hj]
   |true=>
    rw [if_neg (by simp),le_not]
    cases mZ x.Right x.Left with
    |true=>simp [hj]
    |false=>
     rw [if_neg (by simp)]
     by_cases h0:0 < k
     ·have hw:wr ((k:Int) - 1)=((k - 1:Nat):Int):=by rw [dH (by omega) (by omega)];omega
      obtain ⟨v,v1,v2⟩:=cmpM (ms[k - 1]'(by omega)) x
      rw [if_pos (by simp only [decide_eq_true_eq];omega),hw,bA (show k - 1 < ms.length by omega),aA,v1,aA,v2,hj]
      have e:ms.getD (k - 1) ⟨[],[],[]⟩=ms[k - 1]'(by omega):=by rw [List.getD_eq_getElem?_getD,List.getElem?_eq_getElem (by omega)];rfl
      have e0:(k == 0)=false:=by simp;omega
      rw [e,e0]
      simp
     ·obtain rfl:k=0:=by omega
      rw [if_neg (by simp),hj]
      simp
theorem meet_s (ms:List aT) (hl:ms.length<=sz) {k:Nat} (hk:k < ms.length):kZ ms (k:Int)=if mtB ms k ms[k]=true then some (.inl ((k+1:Nat):Int)) else some (.inr (.inr false)):=by
 unfold sz at hl
 generalize hx:ms[k]=x at *
 have hwk:=bD hk (show ms.length < 4611686018427387904 by omega)
 have hj6:∀ v,iF ms (k:Int) x v=if (!v&&!aFJ ms x)=true then some (.inl ((k+1:Nat):Int)) else some (.inr (.inr false)):=by
  intro v
  unfold iF
  cases v with
  |true=>rfl
  |false=>
   rw [if_neg (by simp),aCZ (step:=fun s=>nW ms x s) ms (fun o=>!(o.Left == x.Result||o.Right == x.Result)) (.inr false) (.inl ()) (fun j y hj hy=>by
    have hwj:=bD hj (show ms.length < 4611686018427387904 by omega)
    simp only [nW,bI hj,if_pos,hy,aA,sC,hwj]
    cases (y.Left == x.Result)<;>cases (y.Right == x.Result)<;>rfl) (by simp only [nW,bJ];rfl),aA]
   have e:ms.all (fun o=>!(o.Left == x.Result||o.Right == x.Result))=!aFJ ms x:=by
    unfold aFJ
    rw [List.not_any_eq_all_not]
   rw [e]
   unfold xA sB
   rw [hwk]
   cases aFJ ms x<;>rfl
 have hj7:∀ v,iG ms (k:Int) x v=if (!v&&(k == 0||mlt (ms.getD (k - 1) ⟨[],[],[]⟩) x)&&!aFJ ms x)=true then some (.inl ((k+1:Nat):Int)) else some (.inr (.inr false)):=by
  intro v
  unfold iG
  cases v with
  |true=>rfl
  |false=>
   rw [if_neg (by simp)]
   by_cases h0:0 < k
   ·have hw:wr ((k:Int) - 1)=((k - 1:Nat):Int):=by rw [dH (by omega) (by omega)];omega
    have e:ms.getD (k - 1) ⟨[],[],[]⟩=ms[k - 1]'(by omega):=by rw [List.getD_eq_getElem?_getD,List.getElem?_eq_getElem (by omega)];rfl
    have e0:(k == 0)=false:=by simp;omega
    rw [if_pos (by simp only [decide_eq_true_eq];omega),hw,bA (show k - 1 < ms.length by omega),aA,e,e0]
    generalize ms[k - 1]'(by omega)=p
    unfold mlt
    by_cases h1:p.Left=x.Left
    ·have e1:(p.Left == x.Left)=true:=by rw [h1];exact BEq.rfl
     have e2:mZ p.Left x.Left=false:=by rw [h1];exact rV _
     simp only [e1,e2,Bool.or_true,Bool.not_true,Bool.false_eq_true,if_false,if_true,hj6,Bool.not_not,Bool.false_or,Bool.true_and,Bool.not_false]
    ·have e1:(p.Left == x.Left)=false:=by simpa using h1
     cases h2:mZ p.Left x.Left with
     |true=>simp [e1,hj6]
     |false=>simp [e1,hj6]
   ·obtain rfl:k=0:=by omega
    rw [if_neg (by simp),hj6]
    simp
 unfold kZ mtB
 rw [if_pos (bI hk),bA hk,hx,aA,wU,aA]
 cases kI x.Left with
 |false=>simp [hj7]
 |true=>
  rw [if_neg (by simp),wU,aA]
  cases kI x.Right with
  |false=>simp [hj7]
  |true=>
   rw [if_neg (by simp),wU,aA]
   cases kI x.Result with
   |false=>simp [hj7]
   |true=>
    rw [if_neg (by simp),le_not,hj7]
    simp
theorem aOb (ms:List aT) (hl:ms.length<=sz) (hm:∀ m∈ms,zD sz m):∃ B,wB ms=some B/\tB ms=some B:=by
 have hget:∀ {k:Nat} (hk:k < ms.length),ms.getD k ⟨[],[],[]⟩=ms[k]:=fun hk=>by rw [List.getD_eq_getElem?_getD,List.getElem?_eq_getElem hk];rfl
 obtain ⟨b,hb,hi⟩:=aDa (step:=fun s=>mF ms s) ms.length 0 (fun k=>mtB ms k (ms.getD k ⟨[],[],[]⟩)) (.inr false) (.inl ()) (Nat.zero_le _) (fun k _ hk=>by rw [hget hk];exact meet_i ms hl hm hk) (by simp only [mF,bJ];rfl)
 obtain ⟨c,hc,hs⟩:=aDa (step:=fun s=>kZ ms s) ms.length 0 (fun k=>mtB ms k (ms.getD k ⟨[],[],[]⟩)) (.inr false) (.inl ()) (Nat.zero_le _) (fun k _ hk=>by rw [hget hk];exact meet_s ms hl hk) (by simp only [kZ,bJ];rfl)
 have hbc:c=b:=by
  cases b<;>cases c<;>first|rfl|(have:=hb.2 (hc.1 rfl);simp at this)|(have:=hc.2 (hb.1 rfl);simp at this)
 subst hbc
 refine ⟨c&&decide ((ms.length:Int)<=6),?_,?_⟩
 ·unfold wB
  rw [show (0:Int)=((0:Nat):Int) from rfl,hi,aA]
  cases c<;>rfl
 ·unfold tB
  by_cases h6:6 < ms.length
  ·rw [if_pos (by simp only [decide_eq_true_eq];omega),decide_eq_false (by omega),Bool.and_false]
  ·rw [if_neg (by simp only [decide_eq_true_eq];omega),show (0:Int)=((0:Nat):Int) from rfl,hs,aA,decide_eq_true (by omega),Bool.and_true]
   cases c<;>rfl
theorem parts_i (P:List aW) (hl:P.length<=sz) (hp:∀ t∈P,gK 999999999 t):dJ P=some (!P.all fun t=>cl (cP t)):=by
 unfold sz at hl
 unfold dJ eA
 have hl:=sQ (step:=fun s=>cJ P s) P (fun t=>!cl (cP t)) (fun k x hk hx=>by
  have hw:=bD hk (show P.length < 4611686018427387904 by omega)
  have hxm:x∈P:=by rw [bA hk] at hx;cases hx;exact List.getElem_mem hk
  simp only [cJ,bI hk,if_pos,hx,aA,hw,wA,aMB x (hp x hxm)]) (by simp only [cJ,bJ];rfl)
 rw [hl,aA]
 cases hf:P.findIdx? (fun t=>!cl (cP t)) with
 |none=>
  have:P.all (fun t=>cl (cP t))=true:=by
   rw [List.all_eq_true]
   intro x hx
   have:=List.findIdx?_eq_none_iff.1 hf x hx
   simpa using this
  rw [this];rfl
 |some i=>
  obtain ⟨hi,hp,_⟩:=List.findIdx?_eq_some_iff_getElem.1 hf
  have:P.all (fun t=>cl (cP t))=false:=by
   rw [List.all_eq_false]
   exact ⟨_,List.getElem_mem hi,by simpa using hp⟩
  rw [this];simp [aA]
theorem lW.big {a:bB} (h:lW sz a):∀ t∈a.Parts,gK 999999999 t:=fun t ht=>(h.part t ht).mono (by decide)
theorem aOc {n:bB} (h:lW sz n):∃ B,rH n=some B/\aGs n=some B/\(B=true->∀ t∈n.Parts,cP t):=by
 obtain ⟨m,m1,m2⟩:=aOb n.Meetings h.meets h.meet
 have e1:n.Allowed.length < 1000000000:=by have:=h.alls;unfold sz at this;omega
 have e2:n.Hidden.length < 1000000000:=by have:=h.hids;unfold sz at this;omega
 have a1:=aJy n.Allowed e1 (fun s hs=>by have:=h.all s hs;unfold sz at this;omega)
 have a2:=aHO n.Allowed e1
 have b1:=aJy n.Hidden e2 (fun s hs=>by have:=h.hid s hs;unfold sz at this;omega)
 have b2:=aHO n.Hidden e2
 have hpl:=h.parts
 have hsl:loop (fun s=>aBf n s) 0=some (if n.Parts.all (fun t=>cl (cP t))=true then .inl () else .inr false):=
  aCZ (step:=fun s=>aBf n s) n.Parts (fun t=>cl (cP t)) (.inr false) (.inl ()) (fun k x hk hx=>by
   have hw:=bD hk (show n.Parts.length < 4611686018427387904 by unfold sz at hpl;omega)
   have hxm:x∈n.Parts:=by rw [bA hk] at hx;cases hx;exact List.getElem_mem hk
   simp only [aBf,bI hk,if_pos,hx,aA,hw,l11Is_eq x (h.big x hxm)]
   cases cl (cP x)<;>rfl) (by simp only [aBf,bJ];rfl)
 refine ⟨decide (1<=n.Parts.length/\n.Parts.length<=4)&&n.Parts.all (fun t=>cl (cP t))&&m&&cl (aAj n.Allowed)&&cl (aAj n.Hidden),?_,?_,fun hB t ht=>?_⟩
 ·unfold rH
  by_cases hw:1<=n.Parts.length/\n.Parts.length<=4
  ·have:kP (n.Parts.length:Int) 1 4=some true:=by
    unfold kP uT
    rw [if_pos (by simp;omega)];simp;omega
   rw [this,aA,if_neg (by simp),parts_i _ hpl h.big,aA,decide_eq_true hw,Bool.true_and]
   unfold mR mQ
   cases n.Parts.all (fun t=>cl (cP t)) with
   |false=>rfl
   |true=>
    rw [m1,aA,a1,aA,b1,aA]
    cases m<;>cases cl (aAj n.Allowed)<;>cases cl (aAj n.Hidden)<;>rfl
  ·have:kP (n.Parts.length:Int) 1 4=some false:=by
    unfold kP uT
    by_cases h1:(1:Int)<=n.Parts.length
    ·rw [if_pos (by simpa using h1)];simp;omega
    ·rw [if_neg (by simpa using h1)]
   rw [this,aA,if_pos (show (!false)=true from rfl),decide_eq_false hw]
   rfl
 ·unfold aGs
  by_cases h0:n.Parts.length=0
  ·rw [if_pos (by simp [h0]),decide_eq_false (p:=1<=n.Parts.length/\n.Parts.length<=4) (by omega)];rfl
  rw [if_neg (by simp only [beq_iff_eq];omega)]
  by_cases h4:4 < n.Parts.length
  ·rw [if_pos (by simp only [decide_eq_true_eq];omega),decide_eq_false (p:=1<=n.Parts.length/\n.Parts.length<=4) (by omega)];rfl
  rw [if_neg (by simp only [decide_eq_true_eq];omega),m2,aA,a2,b2,decide_eq_true (p:=1<=n.Parts.length/\n.Parts.length<=4) (by omega),Bool.true_and]
  unfold rC
  rw [hsl]
  cases m with
  |false=>cases n.Parts.all (fun t=>cl (cP t))<;>rfl
  |true=>
   cases cl (aAj n.Allowed) with
   |false=>cases n.Parts.all (fun t=>cl (cP t))<;>rfl
   |true=>cases cl (aAj n.Hidden)<;>cases n.Parts.all (fun t=>cl (cP t))<;>rfl
 ·simp only [Bool.and_eq_true] at hB
  exact aCA.1 (List.all_eq_true.1 hB.1.1.1.2 t ht)
end Gv
namespace Gv
open Go
theorem aOd {p:List Int} {b c:Int} (h:aEa p b) (h':aEa p c):b=c:=by
 obtain ⟨⟨z,hz,rfl⟩,h2⟩:=h
 obtain ⟨⟨y,hy,rfl⟩,h3⟩:=h'
 have:=h2 y hy
 have:=h3 z hz
 omega
section
variable {t:aW} {p:List Int}
theorem quo_same (hv:cP t) (hp:fQ t p) (dv:Bool):∃ c,eV t p dv=some c/\pT t p dv=some c/\c.L=t.L/\c.E.length<=1000:=by
 have h40:=hv.1
 have h300:=hv.2.2.2.1
 have hi:=hv.2.1
 have hu:=aDI hv
 have hlab:=hv.2.2.1.1
 have hpl:=hp.1
 obtain ⟨b,hb1,hb2⟩:=aNR (p:=p) (by omega) (by omega) (fun z hz=>by have:=hp.2 z hz;omega)
 obtain ⟨b',hc1,hc2⟩:=blocksC (p:=p) (by omega) (by omega) (fun z hz=>by have:=hp.2 z hz;omega)
 have hbb:=aOd hc2 hb2
 subst hbb
 have hE1:=aLV (t:=t) (p:=p)
 have hini:=(jM hp (s:=t.I) (by unfold jY;omega)).1
 cases dv with
 |false=>
  have hmk:=aKY hv (E:=qE1 t p) (by omega) (fun e he=>by
   unfold qE1 at he
   obtain ⟨d,hd,rfl⟩:=List.mem_map.1 he
   exact (aGa hv (List.mem_filter.1 hd).1).2.2) b' (p.getD t.I.toNat 0)
  have hle:=aJF (qE1 t p)
  refine ⟨⟨b',bk p t.I,t.L,eW (yE bQ (qE1 t p))⟩,?_,?_,rfl,by show (eW _).length<=_;omega⟩
  ·unfold eV
   rw [quo1_eq hv hp hc1,aA,if_neg (by simp)]
   rfl
  ·unfold pT
   rw [quo15a hv hp,aA]
   unfold oA
   rw [if_neg (by simp)]
   unfold lA
   rw [hini,aA,hb1,aA,hmk,aA]
   rfl
 |true=>
  obtain ⟨al,d1,d2⟩:=aKX (aJG hv) hp
  have hal:al.length=t.N.toNat:=d2.len
  obtain ⟨l,hld⟩:∃ l:List Int,l=((List.range al.length).filter fun k=>al.getD k false).map Int.ofNat:=⟨_,rfl⟩
  have hl:l.length<=t.N.toNat:=by
   rw [hld,List.length_map]
   exact Nat.le_trans (List.length_filter_le _ _) (by rw [List.length_range];omega)
  have hlm:∀ k,k∈l<->jY t k/\Dv t p k:=fun k=>by
   rw [hld,List.mem_map]
   constructor
   ·rintro ⟨a,ha,rfl⟩
    obtain ⟨h1,h2⟩:=List.mem_filter.1 ha
    rw [List.mem_range] at h1
    have hin:jY t (Int.ofNat a):=by unfold jY;exact ⟨Int.natCast_nonneg a,by show (a:Int) < _;omega⟩
    exact ⟨hin,(aLW hu d2 hin).1 h2⟩
   ·rintro ⟨h1,h2⟩
    have h3:=(aLW hu d2 h1).2 h2
    unfold jY at h1
    exact ⟨k.toNat,List.mem_filter.2 ⟨by rw [List.mem_range];omega,h3⟩,by show ((k.toNat:Nat):Int)=k;omega⟩
  have htr:aAD al=some l:=by rw [hld];exact true15 (by omega)
  obtain ⟨E2,hE2⟩:∃ E2:List Edge,E2=l.map (dg p):=⟨_,rfl⟩
  have hE2l:E2.length=l.length:=by rw [hE2,List.length_map]
  have h3':loop (fun s:List Edge × Int=>gI p l s.1 s.2) (qE1 t p,0)=some (qE1 t p++E2):=by
   rw [hE2]
   exact quo15b (by omega) (fun k hk=>(jM hp ((hlm k).1 hk).1).1) (by omega)
  have hE2m:∀ e,e∈E2<->∃ k,k∈l/\(⟨p.getD k.toNat 0,0,p.getD k.toNat 0⟩:Edge)=e:=fun e=>by rw [hE2,List.mem_map];rfl
  clear hE2 hld
  have hlen:(qE1 t p++E2).length<=t.E.length+t.N.toNat:=by
   rw [List.length_append];omega
  have hmk:=aKY hv (E:=qE1 t p++E2) (by omega) (fun e he=>by
   rcases List.mem_append.1 he with he|he
   ·unfold qE1 at he
    obtain ⟨d,hd,rfl⟩:=List.mem_map.1 he
    exact (aGa hv (List.mem_filter.1 hd).1).2.2
   ·obtain ⟨k,_,rfl⟩:=(hE2m e).1 he
    exact ⟨by show (0:Int)<=0;omega,by show (0:Int) < _;omega⟩) b' (p.getD t.I.toNat 0)
  have hq:∀ e,e∈eW (yE bQ (qE1 t p++E2))<->(∃ d∈t.E,Nin p d/\e=⟨p.getD d.F.toNat 0,d.B,p.getD d.To.toNat 0⟩)\/∃ k,jY t k/\Dv t p k/\e=⟨p.getD k.toNat 0,0,p.getD k.toNat 0⟩:=fun e=>by
   rw [aGP,List.mem_append]
   refine or_congr ?_ ?_
   ·unfold qE1
    rw [List.mem_map]
    constructor
    ·rintro ⟨d,hd,rfl⟩
     obtain ⟨h1,h2⟩:=List.mem_filter.1 hd
     refine ⟨d,h1,fun hn=>?_,rfl⟩
     rw [sS.2 hn] at h2;cases h2
    ·rintro ⟨d,hd,hn,rfl⟩
     refine ⟨d,List.mem_filter.2 ⟨hd,?_⟩,rfl⟩
     cases h:inL p d with
     |false=>rfl
     |true=>exact absurd (sS.1 h) hn
   ·rw [hE2m]
    constructor
    ·rintro ⟨k,hk,rfl⟩
     have:=(hlm k).1 hk
     exact ⟨k,this.1,this.2,rfl⟩
    ·rintro ⟨k,hk,hd,rfl⟩
     exact ⟨k,(hlm k).2 ⟨hk,hd⟩,rfl⟩
  have hle:=aJF (qE1 t p++E2)
  have hsame:eW (yE bQ (eW (yE bQ (qE1 t p))++qE2 t p))=eW (yE bQ (qE1 t p++E2)):=
   se_uniq (aLR _) (aLR _) fun e=>((quoB_quo (p:=p) hv b').ed e).trans (hq e).symm
  refine ⟨quoB t p b',quoB_eq hv hp hc1,?_,rfl,?_⟩
  ·unfold pT
   rw [quo15a hv hp,aA]
   unfold oA
   rw [if_pos rfl,d1,aA,htr,aA,h3',aA]
   unfold xD lA
   rw [hini,aA,hb1,aA,hmk,aA,←hsame]
   rfl
  ·show (eW (yE bQ (eW (yE bQ (qE1 t p))++qE2 t p))).length<=1000
   rw [hsame];omega
theorem aMa (hv:cP t) (dv:Bool):∃ c,iW t dv=some c/\aBk t dv=some c/\c.L=t.L/\c.E.length<=1000:=by
 have hr:=keep_ok hv
 have hl:=RL_len t
 have h1:=hv.1
 obtain ⟨p,e1,e2,hp⟩:=part_same hr dv
 obtain ⟨c,c1,c2,c3,c4⟩:=quo_same hr hp dv
 refine ⟨c,?_,?_,c3,c4⟩
 ·unfold iW
  rw [aLM hv,aA,part_eq hv (by omega) (RL_pair _),aA]
  unfold jH
  rw [show (⟨(aHR t (RL t)).N,(aHR t (RL t)).I,(aHR t (RL t)).L,(aHR t (RL t)).E⟩:aW)=aHR t (RL t) from rfl,e1,aA,c1,aA]
 ·unfold aBk
  rw [aMJ hv,aA,aNM hv (by omega),aA,e2,aA,c2,aA]
theorem clone_fit (h:gK sz t):yO t=some t:=by
 obtain ⟨h1,_,h3⟩:=h
 unfold sz at h1 h3
 unfold yO eK
 rw [aDe _ (by unfold iQ;omega),aA,dM (by simp [iQ];omega),aA,aA,List.nil_append]
theorem aNd (h:gK sz t):aCM t=some t:=by
 obtain ⟨h1,_,h3⟩:=h
 unfold sz at h1 h3
 unfold aCM
 rw [dM (by simp [iQ];omega),aA,dM (by simp [iQ];omega),aA,List.nil_append,List.nil_append]
theorem aMb (hv:cP t) (hf:gK sz t) (kind:Int):∃ c,qD t kind=some c/\xE t kind=some c/\gK sz c:=by
 unfold qD xE
 by_cases hk:(kind == 0)=true
 ·refine ⟨t,?_,?_,hf⟩
  ·rw [if_pos hk,clone_fit hf,aA]
  ·rw [if_pos hk,aNd hf,aA]
 ·obtain ⟨c,c1,c2,c3,c4⟩:=aMa hv (kind == 2)
  refine ⟨c,?_,?_,by rw [c3];exact hf.1,by rw [c3];exact hf.2.1,by unfold sz;omega⟩
  ·rw [if_neg hk,c1,aA]
  ·rw [if_neg hk,c2,aA]
end
section
variable {n:bB} {kind:Int}
theorem parts_red {P:List aW} (hP:∀ t∈P,cP t/\gK sz t):∃ Q:List aW,Q.length=P.length/\∀ k (hk:k < P.length) (hk':k < Q.length),qD P[k] kind=some Q[k]/\xE P[k] kind=some Q[k]/\gK sz Q[k]:=by
 induction P with
 |nil=>exact ⟨[],rfl,fun k hk=>by simp at hk⟩
 |cons t ts ih=>
  obtain ⟨Q,q1,q2⟩:=ih (fun s hs=>hP s (List.mem_cons_of_mem _ hs))
  obtain ⟨c,c1,c2,c3⟩:=aMb (hP t (by simp)).1 (hP t (by simp)).2 kind
  refine ⟨c::Q,by simp [q1],fun k hk hk'=>?_⟩
  cases k with
  |zero=>exact ⟨c1,c2,c3⟩
  |succ k=>exact q2 k (by simpa using hk) (by simpa using hk')
theorem clone_m {l:List aT} (h:l.length<=sz):cG l=some l:=by
 unfold sz at h
 unfold cG
 rw [dM (by simp [iQ];omega),aA,List.nil_append]
theorem min_i (h:lW sz n) {Q:List aW} (hl:Q.length=n.Parts.length) (hQ:∀ k (hk:k < n.Parts.length) (hk':k < Q.length),qD n.Parts[k] kind=some Q[k]):iL n kind=some ⟨Q,n.Meetings,n.Allowed,n.Hidden⟩:=by
 have h1:=h.parts
 have h5:=h.alls
 have h7:=h.hids
 unfold sz at h1 h5 h7
 unfold iL pB
 have:=mY (step:=fun s:List aW × Int=>eO n kind s.1 s.2) n.Parts.length (fun k (a:List aW)=>(a,(k:Int))) (fun _ _=>Q) (fun k a=>a=Q.take k) (fun k a hk hI=>?_) (fun a hI=>?_) n.Parts.length 0 [] (by omega) rfl
 ·have h2:loop (fun s:List aW × Int=>eO n kind s.1 s.2) (([]:List aW),0)=some Q:=this
  rw [h2,aA]
  unfold qH wE
  rw [clone_m h.meets,aA,aDe _ (by unfold iQ;omega),aA,aDe _ (by unfold iQ;omega),aA,aA,aA]
 ·left
  subst hI
  have hk':k < Q.length:=by omega
  refine ⟨Q.take (k+1),?_,rfl,rfl⟩
  show eO n kind (Q.take k) (k:Int)=_
  unfold eO lT
  rw [if_pos (bI hk),bA hk,aA,hQ k hk hk',aA,aA,dM (by simp [iQ];omega),aA,bD hk (by omega)]
  rw [List.take_add_one,List.getElem?_eq_getElem hk']
  rfl
 ·subst hI
  show eO n kind _ (n.Parts.length:Int)=_
  unfold eO
  rw [if_neg (by simp),←hl,List.take_length]
theorem own_net (h:lW sz n):aEu n=some n:=by
 have h1:=h.parts
 have h3:=h.meets
 have h5:=h.alls
 have h7:=h.hids
 unfold sz at h1 h3 h5 h7
 unfold aEu
 have:=mY (step:=fun s:List aW × Int=>oL n s.1 s.2) n.Parts.length (fun k (a:List aW)=>(a,(k:Int))) (fun _ _=>n.Parts) (fun k a=>a=n.Parts.take k) (fun k a hk hI=>?_) (fun a hI=>?_) n.Parts.length 0 [] (by omega) rfl
 ·have h2:loop (fun s:List aW × Int=>oL n s.1 s.2) (([]:List aW),0)=some n.Parts:=this
  rw [h2,aA]
  unfold aCc
  rw [dM (by simp [iQ];omega),aA,dM (by simp [iQ];omega),aA,dM (by simp [iQ];omega),aA]
  rfl
 ·left
  subst hI
  refine ⟨n.Parts.take (k+1),?_,rfl,rfl⟩
  show oL n (n.Parts.take k) (k:Int)=_
  unfold oL
  rw [if_pos (bI hk),bA hk,aA,aNd (h.part _ (List.getElem_mem hk)),aA,dM (by simp [iQ];omega),aA,bD hk (by omega)]
  rw [List.take_add_one,List.getElem?_eq_getElem hk]
  rfl
 ·subst hI
  show oL n _ (n.Parts.length:Int)=_
  unfold oL
  rw [if_neg (by simp),List.take_length]
theorem min_s (h:lW sz n) {Q:List aW} (hl:Q.length=n.Parts.length) (hQ:∀ k (hk:k < n.Parts.length) (hk':k < Q.length),xE n.Parts[k] kind=some Q[k]):tI n kind=some ⟨Q,n.Meetings,n.Allowed,n.Hidden⟩:=by
 have h1:=h.parts
 unfold sz at h1
 unfold tI
 rw [own_net h,aA]
 have:=mY (step:=fun s:List aW × Int=>iI n kind s.1 s.2) n.Parts.length (fun k (a:List aW)=>(a,(k:Int))) (fun _ _=>Q) (fun k a=>a=Q.take k++n.Parts.drop k) (fun k a hk hI=>?_) (fun a hI=>?_) n.Parts.length 0 n.Parts (by omega) rfl
 ·have h2:loop (fun s:List aW × Int=>iI n kind s.1 s.2) (n.Parts,0)=some Q:=this
  rw [h2,aA]
  rfl
 ·left
  subst hI
  have hk':k < Q.length:=by omega
  have hol:(Q.take k++n.Parts.drop k).length=n.Parts.length:=by rw [List.length_append,List.length_take,List.length_drop];omega
  have htl:(Q.take k).length=k:=by rw [List.length_take];omega
  refine ⟨Q.take (k+1)++n.Parts.drop (k+1),?_,rfl,rfl⟩
  show iI n kind (Q.take k++n.Parts.drop k) (k:Int)=_
  unfold iI
  rw [hol,if_pos (bI hk),bA hk,aA,hQ k hk hk',aA,bA (by rw [hol];exact hk),aA,kS _ (by rw [hol];exact hk),aA,bD hk (by omega)]
  have e:Q.take (k+1)=Q.take k++[Q[k]]:=by rw [List.take_add_one,List.getElem?_eq_getElem hk'];rfl
  rw [List.set_append_right _ _ (by omega),htl,Nat.sub_self,List.drop_eq_getElem_cons hk,List.set_cons_zero,e,List.append_assoc]
  rfl
 ·subst hI
  have e:Q.take n.Parts.length++n.Parts.drop n.Parts.length=Q:=by rw [←hl,List.take_length,hl,List.drop_length,List.append_nil]
  rw [e]
  show iI n kind Q (n.Parts.length:Int)=_
  unfold iI
  rw [hl,if_neg (by simp)]
theorem kind_same (kind:Int):∃ B,xV kind=some B/\aFa kind=some B:=by
 unfold xV aFa kP uT tU aDp
 by_cases h1:(0:Int)<=kind
 ·exact ⟨decide (kind<=2),by simp [h1],by simp [h1]⟩
 ·exact ⟨false,by simp [h1],by simp [h1]⟩
theorem aOe (h:lW sz n) (kind:Int):∃ r,mI n kind=some r/\pG n kind=some r/\lW sz r.1:=by
 obtain ⟨B,b1,b2,b3⟩:=aOc h
 have hz:lW sz ⟨[],[],[],[]⟩:=⟨by simp,by simp,by simp,by simp,by simp,by simp,by simp,by simp⟩
 unfold mI pG
 rw [b1,b2,aA,aA]
 cases B with
 |false=>exact ⟨(⟨[],[],[],[]⟩,1),rfl,rfl,hz⟩
 |true=>
  obtain ⟨C,c1,c2⟩:=kind_same kind
  rw [if_neg (by simp),if_neg (by simp),c1,c2,aA,aA]
  cases C with
  |false=>exact ⟨(⟨[],[],[],[]⟩,2),rfl,rfl,hz⟩
  |true=>
   obtain ⟨Q,q1,q2⟩:=parts_red (P:=n.Parts) (kind:=kind) (fun t ht=>⟨b3 rfl t ht,h.part t ht⟩)
   rw [if_neg (by simp),if_neg (by simp),min_i h q1 (fun k hk hk'=>(q2 k hk hk').1),min_s h q1 (fun k hk hk'=>(q2 k hk hk').2.1),aA]
   refine ⟨_,rfl,rfl,⟨by rw [q1];exact h.parts,fun t ht=>?_,h.meets,h.meet,h.alls,h.all,h.hids,h.hid⟩⟩
   obtain ⟨k,hk,rfl⟩:=List.getElem_of_mem ht
   exact (q2 k (by rw [←q1];exact hk) hk).2.2
end
end Gv
namespace Gv
open Go
theorem aNe (a:bB) (kind:Int) (h:lW 9223372036854775807 a):kU a kind=some true:=by
 obtain ⟨r,hr,h1⟩:=aJM (a:=a) (left:=1048576) (by omega) (by unfold sz;omega) h
 unfold kU
 rw [hr,aA]
 by_cases hn:r < 0
 ·rw [if_pos (by simpa using hn)]
 rw [if_neg (by simpa using hn)]
 have hf:=h1 (by omega)
 have ht:=aLX (hf.mono (show sz<=iQ by decide))
 obtain ⟨c,c1,c2,c3⟩:=aOe hf kind
 have e1:=aGS c.1 c.1 c3
 have e2:=aGS a a hf
 rw [decide_eq_true rfl] at e1 e2
 obtain ⟨k,Ps,Ms,As,Hs,m1,m2,m3⟩:=aNc hf
 obtain ⟨k',Ps',Ms',As',Hs',n1,n2,n3⟩:=aNc c3
 have hbne:(c.2 != c.2)=false:=by simp
 rw [ht,aA,show (⟨a.Parts,a.Meetings,a.Allowed,a.Hidden⟩:bB)=a from rfl,c2,aA,aA,c1,aA,e1,aA,if_neg (by simp),hbne]
 unfold gN
 rw [if_neg (by simp),ht,aA,e2,aA,if_neg (by simp),m1,aA,if_neg (by simp;omega),e1,aA,if_neg (by simp),hbne]
 unfold fA
 rw [if_neg (by simp),n1,aA]
 simp only
 rw [n2,aA,if_neg (by simp;omega),if_neg (by simp),ht,aA,c1,aA,e1,aA,if_neg (by simp),hbne]
 unfold gM
 simp only
 rw [if_neg (by simp),n2,aA,if_neg (by simp;omega),if_neg (by simp)]
end Gv
