/- Slices whose elements own further slices ("deep"): an array of heads, and the rows. No program in sight. -/
import Derived.Test.YthbfapccpmppoaaGreatDoorJN
set_option linter.all false
namespace Gv
open Gv.Hp renaming le_trans→zL,le_refl→zR
open Go
structure Cells (n:Nat) where
 val:List Value
 len:val.length=n+1
 one:∀ v∈val,v.oneCell'=true
instance (n:Nat):iQ (Cells n) where
 sz:=n+1
 enc c:=c.val
 len c:=c.len
 one c:=c.one
 pos:=Nat.succ_pos n
class Dp (α:Type) where
 Hd:Type
 sz1:Nat
 enc:Hd->α->List Value
 pcs:List TypeId->Hd->α->List eW
 len:∀ hd x,(enc hd x).length=sz1+1
 one:∀ hd x,∀ v∈enc hd x,v.oneCell'=true
def Hp.nil:Hp:=fun _=>none
theorem Hp.nil_dj (h:Hp):Hp.nil.dj h:=fun _=>.inl rfl
theorem Hp.nil_le (h:Hp):Hp.nil.le h:=fun _ _ e=>by cases e
theorem fQ.app:∀ {A B:List eW} {h1 h2:Hp},fQ A h1->fQ B h2->h1.dj h2->fQ (A++B) (h1.un h2)
 |[],_,_,_,_,b,d=>b.le (Hp.le_un_right d)
 |_::_,_,_,_,⟨g1,g2,a,dd,l1,l2,r⟩,b,d=>by
  have d2:=Hp.dj_mono d l2 (zR _)
  have d1:=Hp.dj_mono d l1 (zR _)
  refine ⟨g1,g2.un _,a,?_,zL l1 (Hp.le_un_left _ _),?_,fQ.app r b d2⟩
  ·exact Hp.dj_symm (Hp.un_dj (Hp.dj_symm dd) (Hp.dj_symm d1))
  ·exact Hp.un_le (zL l2 (Hp.le_un_left _ _)) (Hp.le_un_right d)
theorem fQ.split:∀ {A B:List eW} {h:Hp},fQ (A++B) h->∃ h1 h2:Hp,h1.dj h2/\h1.le h/\h2.le h/\fQ A h1/\fQ B h2
 |[],_,h,b=>⟨Hp.nil,h,Hp.nil_dj _,Hp.nil_le _,zR _,trivial,b⟩
 |_::_,_,h,⟨g1,g2,a,dd,l1,l2,r⟩=>by
  obtain ⟨k1,k2,d,m1,m2,ra,rb⟩:=fQ.split r
  refine ⟨g1.un k1,k2,?_,Hp.un_le l1 (zL m1 l2),zL m2 l2,?_,rb⟩
  ·exact Hp.un_dj (Hp.dj_mono dd (zR _) m2) d
  ·exact ⟨g1,k1,a,Hp.dj_mono dd (zR _) m1,Hp.le_un_left _ _,Hp.le_un_right (Hp.dj_mono dd (zR _) m1),ra⟩
theorem fQ.swap {A B C:List eW} {h:Hp} (s:fQ (A++(B++C)) h):fQ (B++(A++C)) h:=by
 obtain ⟨h1,h2,d,l1,l2,a,r⟩:=s.split
 obtain ⟨h3,h4,d',l3,l4,b,c⟩:=r.split
 have d13:h1.dj h3:=Hp.dj_mono d (zR _) l3
 have d14:h1.dj h4:=Hp.dj_mono d (zR _) l4
 refine (fQ.app b (fQ.app a c d14) (Hp.dj_symm (Hp.un_dj d13 (Hp.dj_symm d')))).le ?_
 exact Hp.un_le (zL l3 l2) (Hp.un_le l1 (zL l4 l2))
theorem aDx {β:Type} {ls:List (List β)} {j:Nat} {l:List β} (e:ls[j]?=some l):ls.flatten=(ls.take j).flatten++(l++(ls.drop (j+1)).flatten)/\(ls.eraseIdx j).flatten=(ls.take j).flatten++(ls.drop (j+1)).flatten:=by
 have hj:j < ls.length:=(List.getElem?_eq_some_iff.1 e).1
 have he:ls[j]=l:=(List.getElem?_eq_some_iff.1 e).2
 constructor
 ·conv=>lhs;rw [←List.take_append_drop j ls,List.drop_eq_getElem_cons hj,he]
  simp
 ·rw [List.eraseIdx_eq_take_drop_succ];simp
theorem fQ.nth {ls:List (List eW)} {j:Nat} {l:List eW} {h:Hp} (s:fQ ls.flatten h) (e:ls[j]?=some l):fQ (l++(ls.eraseIdx j).flatten) h:=by
 obtain ⟨e1,e2⟩:=aDx e
 rw [e1] at s;rw [e2]
 exact s.swap
theorem fQ.nthIn {ls:List (List eW)} {j:Nat} {l:List eW} {h:Hp} (hj:j < ls.length) (s:fQ (l++(ls.eraseIdx j).flatten) h):fQ (ls.set j l).flatten h:=by
 have e:(ls.set j l)[j]?=some l:=by simp [hj]
 obtain ⟨e1,_⟩:=aDx e
 obtain ⟨_,e3⟩:=aDx (ls:=ls) (j:=j) (l:=ls[j]) (by simp [hj])
 rw [e1]
 rw [e3] at s
 have:=s.swap
 simpa [List.take_set_of_le,List.drop_set_of_lt] using this
namespace aF
variable {G:kH} {K:Hp} {L:List eW} {w:World}
def many (As:List eW):eW:=fun h=>fQ As h
theorem expand {As:List eW} (s:aF G K (many As::L) w):aF G K (As++L) w:=by
 obtain ⟨e,g,gd,gl,d,k,l,h1,h2,a,dd,l1,l2,r⟩:=s
 have:=fQ.app a r dd
 exact ⟨e,_,Hp.dj_mono gd (zR _) (Hp.un_le l1 l2),gl,Hp.dj_mono d (zR _) (Hp.un_le l1 l2),k,zL (Hp.un_le l1 l2) l,this⟩
theorem collect {As:List eW} (s:aF G K (As++L) w):aF G K (many As::L) w:=by
 obtain ⟨e,g,gd,gl,d,k,l,r⟩:=s
 obtain ⟨h1,h2,dd,l1,l2,a,b⟩:=r.split
 exact ⟨e,g,gd,gl,d,k,l,h1,h2,a,dd,l1,l2,b⟩
end aF
def trA:eW:=fun _=>True
def nthA:List eW->Nat->eW
 |[],_=>trA
 |a::_,0=>a
 |_::l,i+1=>nthA l i
def drpA (l:List eW):Nat->List eW
 |0=>l
 |n+1=>(drpA l n).tail
def selA (L:List eW) (n:Nat):List Nat->List eW
 |[]=>drpA L n
 |i::is=>nthA L i::selA L n is
def arrB (n:Nat):List Nat->Bool
 |[]=>true
 |i::is=>Nat.blt i n&&!is.contains i&&arrB n is
theorem aKY:∀ {L:List eW} {i j:Nat},i≠j->nthA (L.set i trA) j=nthA L j
 |[],_,_,_=>rfl
 |_::_,0,0,h=>absurd rfl h
 |_::_,0,_+1,_=>rfl
 |_::_,_+1,0,_=>rfl
 |_::l,i+1,j+1,h=>aKY (L:=l) (by omega)
theorem aOT (l:List eW):∀ n,drpA l n=l.drop n
 |0=>rfl
 |n+1=>by rw [drpA,aOT l n,List.tail_drop]
theorem drpA_set {L:List eW} {i n:Nat} (h:i < n):drpA (L.set i trA) n=drpA L n:=by
 rw [aOT,aOT,List.drop_set_of_lt h]
theorem aPW {L:List eW} {i n:Nat} (hi:i < n):∀ {is:List Nat},is.contains i=false->selA (L.set i trA) n is=selA L n is
 |[],_=>drpA_set hi
 |j::is,h=>by
  simp only [List.contains_cons,Bool.or_eq_false_iff,beq_eq_false_iff_ne] at h
  simp only [selA,aKY h.1,aPW hi h.2]
theorem aPX:∀ {L:List eW} {i:Nat} {A:eW},L[i]?=some A->nthA L i=A
 |[],_,_,h=>by simp at h
 |_::_,0,_,h=>by simpa [nthA] using h
 |_::l,i+1,_,h=>aPX (L:=l) (by simpa using h)
theorem aOq:∀ {L:List eW} {i:Nat},L[i]?=none->nthA L i=trA
 |[],_,_=>rfl
 |_::_,0,h=>by simp at h
 |_::l,i+1,h=>aOq (L:=l) (by simpa using h)
theorem fQ.tl:∀ {L:List eW} {h:Hp},fQ L h->fQ L.tail h
 |[],_,s=>s
 |_::_,_,⟨_,_,_,_,_,l2,r⟩=>r.le l2
theorem fQ.drp {L:List eW} {h:Hp} (s:fQ L h):∀ n:Nat,fQ (drpA L n) h
 |0=>s
 |n+1=>(fQ.drp s n).tl
theorem fQ.sel:∀ {is:List Nat} {L:List eW} {h:Hp} {n:Nat},arrB n is=true->fQ L h->fQ (selA L n is) h
 |[],_,_,n,_,s=>s.drp n
 |i::is,L,h,n,hb,s=>by
  simp only [arrB,Bool.and_eq_true,Nat.blt_eq,Bool.not_eq_true'] at hb
  cases hA:L[i]? with
  |none=>
   have:=fQ.sel (is:=is) hb.2 s
   exact ⟨Hp.nil,h,by rw [aOq hA];exact trivial,Hp.nil_dj _,Hp.nil_le _,zR _,this⟩
  |some A=>
   obtain ⟨h1,h2,a,d,l1,l2,r⟩:=s.pick hA
   have hlt:i < L.length:=(List.getElem?_eq_some_iff.1 hA).1
   have r2:fQ (L.set i trA) h2:=(fQ.put (A:=trA) (h1:=Hp.nil) trivial (Hp.nil_dj _) r hlt).le (Hp.un_le (Hp.nil_le _) (zR _))
   have:=fQ.sel (is:=is) hb.2 r2
   rw [aPW hb.1.1 hb.1.2] at this
   exact ⟨h1,h2,by rw [aPX hA];exact a,d,l1,l2,this⟩
theorem aF.arr {G:kH} {K:Hp} {L:List eW} {w:World} (n:Nat) (is:List Nat) (s:aF G K L w) (hb:arrB n is=true):aF G K (selA L n is) w:=
 let ⟨e,h,gd,gl,d,k,l,r⟩:=s;⟨e,h,gd,gl,d,k,l,r.sel hb⟩
section
variable {α:Type} [Dp α]
def aFx (hd:Dp.Hd α) (x:α):Cells (Dp.sz1 α):=⟨Dp.enc hd x,Dp.len hd x,Dp.one hd x⟩
def cI (hds:List (Dp.Hd α)) (xs:List α):List (Cells (Dp.sz1 α)):=List.zipWith aFx hds xs
def xW (tys:List TypeId) (hds:List (Dp.Hd α)) (xs:List α):List (List eW):=List.zipWith (Dp.pcs tys) hds xs
def rows (tys:List TypeId) (hds:List (Dp.Hd α)) (xs:List α):eW:=aF.many (xW tys hds xs).flatten
theorem xX {hds:List (Dp.Hd α)} {xs:List α} (h:hds.length=xs.length):(cI hds xs).length=xs.length:=by simp [cI,h]
theorem aRb {tys:List TypeId} {hds:List (Dp.Hd α)} {xs:List α} (h:hds.length=xs.length):(xW tys hds xs).length=xs.length:=by simp [xW,h]
theorem aIW {β γ δ:Type} (f:β->γ->δ):∀ {l:List β} {m:List γ} {j:Nat} {b:β} {c:γ},l[j]?=some b->m[j]?=some c->(List.zipWith f l m)[j]?=some (f b c):=by
 intro l m j b c h1 h2;simp only [List.getElem?_zipWith,h1,h2]
theorem aKp {β γ δ:Type} (f:β->γ->δ):∀ (l:List β) (m:List γ) (j:Nat),(List.zipWith f l m).eraseIdx j=List.zipWith f (l.eraseIdx j) (m.eraseIdx j)
 |[],[],j=>by simp
 |[],_::_,j=>by simp
 |_::_,[],j=>by simp
 |a::l,b::m,0=>by simp
 |a::l,b::m,j+1=>by simp [aKp f l m j]
theorem aOU {β γ δ:Type} (f:β->γ->δ):∀ (l:List β) (m:List γ) (j:Nat) (b:β) (c:γ),(List.zipWith f l m).set j (f b c)=List.zipWith f (l.set j b) (m.set j c)
 |[],[],j,_,_=>by simp
 |[],_::_,j,_,_=>by simp
 |_::_,[],j,_,_=>by simp
 |a::l,b::m,0,_,_=>by simp
 |a::l,b::m,j+1,x,y=>by simp [aOU f l m j x y]
theorem aBN {hds:List (Dp.Hd α)} {xs:List α} {j:Int} {hd:Dp.Hd α} {x:α} (h:hds.length=xs.length) (hj:ix xs j=some x) (hh:hds[j.toNat]?=some hd):ix (cI hds xs) j=some (aFx hd x):=by
 obtain ⟨h0,h1,h2⟩:=aAO hj
 unfold ix;rw [if_pos h0];exact aIW aFx hh h2
namespace aF
variable {G:kH} {K:Hp} {L:List eW} {w:World} {tys:List TypeId} {hds:List (Dp.Hd α)} {xs:List α}
theorem rowOut {i j:Nat} {hd:Dp.Hd α} {x:α} (s:aF G K L w) (hi:L[i]?=some (rows tys hds xs)) (hh:hds[j]?=some hd) (hx:xs[j]?=some x):
  aF G K (Dp.pcs tys hd x++rows tys (hds.eraseIdx j) (xs.eraseIdx j)::L.eraseIdx i) w:=by
 have s1:=s.pull hi
 have hp:∀ h,aF.many (xW tys hds xs).flatten h->aF.many (Dp.pcs tys hd x++(xW tys (hds.eraseIdx j) (xs.eraseIdx j)).flatten) h:=fun h a=>by
  have:=fQ.nth (j:=j) a (aIW (Dp.pcs tys) hh hx)
  rw [xW,aKp] at this
  exact this
 have s2:=(s1.weak (i:=0) rfl hp).expand
 rw [List.append_assoc] at s2
 have s3:aF G K (many (xW tys (hds.eraseIdx j) (xs.eraseIdx j)).flatten::(Dp.pcs tys hd x++L.eraseIdx i)) w:=by
  refine aF.collect ?_
  obtain ⟨e,g,gd,gl,d,k,l,r⟩:=s2
  exact ⟨e,g,gd,gl,d,k,l,r.swap⟩
 obtain ⟨e,g,gd,gl,d,k,l,r⟩:=s3
 refine ⟨e,g,gd,gl,d,k,l,?_⟩
 exact fQ.swap (A:=[many (xW tys (hds.eraseIdx j) (xs.eraseIdx j)).flatten]) r
theorem rowIn {j:Nat} {hd:Dp.Hd α} {x:α} (s:aF G K (Dp.pcs tys hd x++rows tys (hds.eraseIdx j) (xs.eraseIdx j)::L) w) (hl:hds.length=xs.length) (hj:j < xs.length):
  aF G K (rows tys (hds.set j hd) (xs.set j x)::L) w:=by
 obtain ⟨e,g,gd,gl,d,k,l,r⟩:=s
 have r1:fQ (rows tys (hds.eraseIdx j) (xs.eraseIdx j)::(Dp.pcs tys hd x++L)) g:=fQ.swap (B:=[rows tys (hds.eraseIdx j) (xs.eraseIdx j)]) r
 have s2:aF G K ((xW tys (hds.eraseIdx j) (xs.eraseIdx j)).flatten++(Dp.pcs tys hd x++L)) w:=aF.expand ⟨e,g,gd,gl,d,k,l,r1⟩
 obtain ⟨e,g,gd,gl,d,k,l,r⟩:=s2
 have r2:=r.swap
 rw [←List.append_assoc] at r2
 have s3:aF G K (many (Dp.pcs tys hd x++(xW tys (hds.eraseIdx j) (xs.eraseIdx j)).flatten)::L) w:=aF.collect ⟨e,g,gd,gl,d,k,l,r2⟩
 refine s3.weak (i:=0) rfl (fun h a=>?_)
 have a':fQ (Dp.pcs tys hd x++((xW tys hds xs).eraseIdx j).flatten) h:=by rw [xW,aKp];exact a
 have:=fQ.nthIn (by rw [aRb hl];exact hj) a'
 rw [xW,aOU] at this
 exact this
end aF
end
instance (priority:=50) {β:Type} [iQ β]:Dp (List β) where
 Hd:=Option Addr × Nat
 sz1:=0
 enc hd xs:=[.slice hd.1 xs.length hd.2]
 pcs tys hd xs:=[aV (tys.headD 0) Hp.nil hd.1 hd.2 xs]
 len _ _:=rfl
 one _ _ v h:=by simp at h;subst h;rfl
class DpEl (α:Type) [Dp α] [El α]:Prop where
 sz:El.sz α=Dp.sz1 α+1
 rd:∀ {tys:List TypeId} {hd:Dp.Hd α} {x:α} {h K:Hp},fQ (Dp.pcs tys hd x) h->h.le K->El.rd K (Dp.enc hd x) x
instance {β:Type} [iQ β]:DpEl (List β) where
 sz:=rfl
 rd:=fun {tys hd x h K} a hK=>by
  obtain ⟨h1,h2,a,_,l1,_,_⟩:=a
  exact ⟨hd.1,hd.2,rfl,aV.rd a (zL l1 hK) (Hp.nil_le _)⟩
section
variable {α:Type} [Dp α] [El α] [DpEl α] {G:kH} {K:Hp} {L:List eW} {w:World} {tys:List TypeId} {hds:List (Dp.Hd α)} {xs:List α}
theorem aOV {h K:Hp} (a:rows tys hds xs h) (hK:h.le K) {j:Nat} {hd:Dp.Hd α} {x:α} (hh:hds[j]?=some hd) (hx:xs[j]?=some x):El.rd K (Dp.enc hd x) x:=by
 have:=fQ.nth (j:=j) a (aIW (Dp.pcs tys) hh hx)
 obtain ⟨h1,h2,_,l1,_,b,_⟩:=this.split
 exact DpEl.rd b (zL l1 hK)
theorem aF.lendD {E:TypeId} {Ke:Hp} {a:Option Addr} {cap:Nat} (s:aF G K (aV E Ke a cap (cI hds xs)::rows tys hds xs::L) w) (hl:hds.length=xs.length):
  ∃ K',K.le K'/\aW K' a cap xs/\(∀ (j:Nat) (hd:Dp.Hd α) (x:α),hds[j]?=some hd->xs[j]?=some x->El.rd K' (Dp.enc hd x) x)/\aF G K' L w/\
   ∀ L' w',aF G K' L' w'->aF G K (aV E Ke a cap (cI hds xs)::rows tys hds xs::L') w':=by
 obtain ⟨K1,h1,a1,l1,k1,s1,b1⟩:=s.lend (i:=0) rfl
 obtain ⟨K2,h2,a2,l2,k2,s2,b2⟩:=s1.lend (i:=0) rfl
 have hr:aW K2 a cap (cI hds xs):=aV.rd (K:=Hp.nil) (show aV E Hp.nil a cap (cI hds xs) h1 from a1) (zL l1 k2) (Hp.nil_le _)
 refine ⟨K2,zL k1 k2,⟨?_,?_,?_⟩,fun j hd x hh hx=>aOV a2 l2 hh hx,s2,fun L' w' t=>b1 _ _ (b2 _ _ t)⟩
 ·have:=hr.room;rwa [xX hl] at this
 ·intro e
  obtain ⟨e1,e2⟩:=hr.nil e
  refine ⟨?_,e2⟩
  have:=xX hl
  rw [e1] at this
  exact List.length_eq_zero_iff.1 this.symm
 ·intro i d e
  have hi:i < hds.length:=by rw [hl];exact (List.getElem?_eq_some_iff.1 e).1
  have hh:hds[i]?=some hds[i]:=by simp [hi]
  obtain ⟨cs,hc,hcs⟩:=hr.cell i _ (aIW aFx hh e)
  have hcs':cs=Dp.enc hds[i] d:=hcs
  subst hcs'
  refine ⟨_,?_,aOV a2 l2 hh e⟩
  rw [DpEl.sz]
  exact hc
end
theorem aMe {β γ:Type} {hds:List β} {xs:List γ} {j:Int} {x:γ} (hl:hds.length=xs.length) (hj:ix xs j=some x):∃ hd,hds[j.toNat]?=some hd:=by
 obtain ⟨h0,h1,h2⟩:=aAO hj
 exact ⟨_,List.getElem?_eq_getElem (by rw [hl];exact h1)⟩
section
variable {α:Type} [Dp α] {G:kH} {K:Hp} {L:List eW} {w:World} {tys:List TypeId} {hds:List (Dp.Hd α)} {xs:List α}
theorem heads_set {j:Nat} {hd:Dp.Hd α} {x:α}:cI (hds.set j hd) (xs.set j x)=(cI hds xs).set j (aFx hd x):=(aOU aFx hds xs j hd x).symm
theorem aF.rowSet {i:Nat} {j:Int} {hd':Dp.Hd α} {x':α} {zz:List α} (s:aF G K (Dp.pcs tys hd' x'++L) w) (hl:hds.length=xs.length) (hz:st xs j x'=some zz) (hi:L[i]?=some (rows tys hds xs)):
  aF G K (rows tys (hds.set j.toNat hd') zz::L.eraseIdx i) w:=by
 obtain ⟨h0,h1,rfl⟩:=aIP hz
 have h1':j.toNat < hds.length:=by rw [hl];exact h1
 have hh:hds[j.toNat]?=some hds[j.toNat]:=List.getElem?_eq_getElem h1'
 have hx:xs[j.toNat]?=some xs[j.toNat]:=by simp [h1]
 have s1:aF G K (rows tys hds xs::(Dp.pcs tys hd' x'++L.eraseIdx i)) w:=by
  have hi':(Dp.pcs tys hd' x'++L)[(Dp.pcs tys hd' x').length+i]?=some (rows tys hds xs):=by
   rw [List.getElem?_append_right (by omega),Nat.add_sub_cancel_left];exact hi
  have:=aF.pull s hi'
  rwa [List.eraseIdx_append_of_length_le (by omega),Nat.add_sub_cancel_left] at this
 have s2:=aF.rowOut (i:=0) s1 rfl hh hx
 simp only [List.eraseIdx_zero,List.tail_cons] at s2
 obtain ⟨e,g,gd,gl,d,k,l,r⟩:=s2
 obtain ⟨k1,k2,dd,l1,l2,_,r2⟩:=r.split
 have r3:fQ (Dp.pcs tys hd' x'++rows tys (hds.eraseIdx j.toNat) (xs.eraseIdx j.toNat)::L.eraseIdx i) k2:=by
  have:fQ ([rows tys (hds.eraseIdx j.toNat) (xs.eraseIdx j.toNat)]++(Dp.pcs tys hd' x'++L.eraseIdx i)) k2:=r2
  exact this.swap
 exact aF.rowIn (hd:=hd') (x:=x') ⟨e,k2,Hp.dj_mono gd (zR _) l2,gl,Hp.dj_mono d (zR _) l2,k,zL l2 l,r3⟩ hl h1
theorem st_heads {j:Int} {hd:Dp.Hd α} {x:α} {zz:List α} (hl:hds.length=xs.length) (hz:st xs j x=some zz):st (cI hds xs) j (aFx hd x)=some (cI (hds.set j.toNat hd) zz):=by
 obtain ⟨h0,h1,rfl⟩:=aIP hz
 rw [heads_set]
 unfold st
 rw [if_pos ⟨h0,by rw [xX hl];exact h1⟩]
end
section
variable {α:Type} [Dp α] {G:kH} {K:Hp} {L:List eW} {w:World} {tys:List TypeId} {hds hds2:List (Dp.Hd α)} {xs ys:List α}
theorem heads_rep (n:Nat) (hd:Dp.Hd α) (x:α):cI (List.replicate n hd) (List.replicate n x)=List.replicate n (aFx hd x):=by
 simp [cI]
theorem aF.rowsRep (s:aF G K L w) {hd:Dp.Hd α} {x:α} (h:fQ (Dp.pcs tys hd x) Hp.nil) (n:Nat):aF G K (rows tys (List.replicate n hd) (List.replicate n x)::L) w:=by
 refine s.new (eI.refl w) (h1:=Hp.nil) ?_ (Hp.nil_le _) (Hp.nil_dj _)
 show fQ _ Hp.nil
 induction n with
 |zero=>exact trivial
 |succ n ih=>
  have:=fQ.app h ih (Hp.nil_dj _)
  refine this.le (Hp.un_le (Hp.nil_le _) (Hp.nil_le _))
theorem aDN {n:Int} {x:α} {hd:Dp.Hd α} {zz:List α} (h:mkz n x=some zz):mkz n (aFx hd x)=some (cI (List.replicate n.toNat hd) zz)/\(List.replicate n.toNat hd).length=zz.length/\zz=List.replicate n.toNat x:=by
 unfold mkz at *
 split at h
 ·cases h
  rw [if_pos (by assumption),heads_rep]
  simp
 ·cases h
end
section
variable {G:kH} {K:Hp} {L:List eW} {w:World}
theorem aF.rowsMk {α:Type} [Dp α] {tys:List TypeId} {hd:Dp.Hd α} {x:α} {n:Nat} {zz:List α} (s:aF G K L w) (h:fQ (Dp.pcs tys hd x) Hp.nil) (e:zz=List.replicate n x):aF G K (rows tys (List.replicate n hd) zz::L) w:=by
 subst e;exact s.rowsRep h n
theorem pcs_nil {β:Type} [iQ β] (tys:List TypeId):fQ (Dp.pcs tys ((none,0):Option Addr × Nat) ([]:List β)) Hp.nil:=
 ⟨Hp.nil,Hp.nil,aV.nil _ _ _,Hp.nil_dj _,Hp.nil_le _,Hp.nil_le _,trivial⟩
theorem aLR {β γ:Type} {hds:List β} {xs zz:List γ} {j:Int} {x:γ} {hd:β} (hl:hds.length=xs.length) (h:st xs j x=some zz):(hds.set j.toNat hd).length=zz.length:=by
 obtain ⟨_,_,rfl⟩:=aIP h
 simp [hl]
end
end Gv
