/- Slices whose elements own further slices ("deep"): an array of heads, and the rows. No program in sight. -/
import Derived.Test.YtiipffjapfalhaaGreatDoorJN
set_option linter.all false
namespace Gv
open Gv.Hp renaming le_trans→zL,le_refl→zR
open Go
structure Cells (n:Nat) where
 val:List Value
 len:val.length=n+1
 one:∀ v∈val,v.oneCell'=true
instance (n:Nat):eL (Cells n) where
 sz:=n+1
 enc c:=c.val
 len c:=c.len
 one c:=c.one
 pos:=Nat.succ_pos n
class Dp (α:Type) where
 Hd:Type
 sz1:Nat
 enc:Hd->α->List Value
 pcs:List TypeId->Hd->α->List fJ
 len:∀ hd x,(enc hd x).length=sz1+1
 one:∀ hd x,∀ v∈enc hd x,v.oneCell'=true
def Hp.nil:Hp:=fun _=>none
theorem Hp.nil_dj (h:Hp):Hp.nil.dj h:=fun _=>.inl rfl
theorem Hp.nil_le (h:Hp):Hp.nil.le h:=fun _ _ e=>by cases e
theorem fL.app:∀ {A B:List fJ} {h1 h2:Hp},fL A h1->fL B h2->h1.dj h2->fL (A++B) (h1.un h2)
 |[],_,_,_,_,b,d=>b.le (Hp.le_un_right d)
 |_::_,_,_,_,⟨g1,g2,a,dd,l1,l2,r⟩,b,d=>by
  have d2:=Hp.dj_mono d l2 (zR _)
  have d1:=Hp.dj_mono d l1 (zR _)
  refine ⟨g1,g2.un _,a,?_,zL l1 (Hp.le_un_left _ _),?_,fL.app r b d2⟩
  ·exact Hp.dj_symm (Hp.un_dj (Hp.dj_symm dd) (Hp.dj_symm d1))
  ·exact Hp.un_le (zL l2 (Hp.le_un_left _ _)) (Hp.le_un_right d)
theorem fL.split:∀ {A B:List fJ} {h:Hp},fL (A++B) h->∃ h1 h2:Hp,h1.dj h2/\h1.le h/\h2.le h/\fL A h1/\fL B h2
 |[],_,h,b=>⟨Hp.nil,h,Hp.nil_dj _,Hp.nil_le _,zR _,trivial,b⟩
 |_::_,_,h,⟨g1,g2,a,dd,l1,l2,r⟩=>by
  obtain ⟨k1,k2,d,m1,m2,ra,rb⟩:=fL.split r
  refine ⟨g1.un k1,k2,?_,Hp.un_le l1 (zL m1 l2),zL m2 l2,?_,rb⟩
  ·exact Hp.un_dj (Hp.dj_mono dd (zR _) m2) d
  ·exact ⟨g1,k1,a,Hp.dj_mono dd (zR _) m1,Hp.le_un_left _ _,Hp.le_un_right (Hp.dj_mono dd (zR _) m1),ra⟩
theorem fL.swap {A B C:List fJ} {h:Hp} (s:fL (A++(B++C)) h):fL (B++(A++C)) h:=by
 obtain ⟨h1,h2,d,l1,l2,a,r⟩:=s.split
 obtain ⟨h3,h4,d',l3,l4,b,c⟩:=r.split
 have d13:h1.dj h3:=Hp.dj_mono d (zR _) l3
 have d14:h1.dj h4:=Hp.dj_mono d (zR _) l4
 refine (fL.app b (fL.app a c d14) (Hp.dj_symm (Hp.un_dj d13 (Hp.dj_symm d')))).le ?_
 exact Hp.un_le (zL l3 l2) (Hp.un_le l1 (zL l4 l2))
theorem aFT {β:Type} {ls:List (List β)} {j:Nat} {l:List β} (e:ls[j]?=some l):ls.flatten=(ls.take j).flatten++(l++(ls.drop (j+1)).flatten)/\(ls.eraseIdx j).flatten=(ls.take j).flatten++(ls.drop (j+1)).flatten:=by
 have hj:j < ls.length:=(List.getElem?_eq_some_iff.1 e).1
 have he:ls[j]=l:=(List.getElem?_eq_some_iff.1 e).2
 constructor
 ·conv=>lhs;rw [←List.take_append_drop j ls,List.drop_eq_getElem_cons hj,he]
  simp
 ·rw [List.eraseIdx_eq_take_drop_succ];simp
theorem fL.nth {ls:List (List fJ)} {j:Nat} {l:List fJ} {h:Hp} (s:fL ls.flatten h) (e:ls[j]?=some l):fL (l++(ls.eraseIdx j).flatten) h:=by
 obtain ⟨e1,e2⟩:=aFT e
 rw [e1] at s;rw [e2]
 exact s.swap
theorem fL.nthIn {ls:List (List fJ)} {j:Nat} {l:List fJ} {h:Hp} (hj:j < ls.length) (s:fL (l++(ls.eraseIdx j).flatten) h):fL (ls.set j l).flatten h:=by
 have e:(ls.set j l)[j]?=some l:=by simp [hj]
 obtain ⟨e1,_⟩:=aFT e
 obtain ⟨_,e3⟩:=aFT (ls:=ls) (j:=j) (l:=ls[j]) (by simp [hj])
 rw [e1]
 rw [e3] at s
 have:=s.swap
 simpa [List.take_set_of_le,List.drop_set_of_lt] using this
namespace aF
variable {G:nX} {K:Hp} {L:List fJ} {w:World}
def many (As:List fJ):fJ:=fun h=>fL As h
theorem expand {As:List fJ} (s:aF G K (many As::L) w):aF G K (As++L) w:=by
 obtain ⟨e,g,gd,gl,d,k,l,h1,h2,a,dd,l1,l2,r⟩:=s
 have:=fL.app a r dd
 exact ⟨e,_,Hp.dj_mono gd (zR _) (Hp.un_le l1 l2),gl,Hp.dj_mono d (zR _) (Hp.un_le l1 l2),k,zL (Hp.un_le l1 l2) l,this⟩
theorem collect {As:List fJ} (s:aF G K (As++L) w):aF G K (many As::L) w:=by
 obtain ⟨e,g,gd,gl,d,k,l,r⟩:=s
 obtain ⟨h1,h2,dd,l1,l2,a,b⟩:=r.split
 exact ⟨e,g,gd,gl,d,k,l,h1,h2,a,dd,l1,l2,b⟩
end aF
def trA:fJ:=fun _=>True
def nthA:List fJ->Nat->fJ
 |[],_=>trA
 |a::_,0=>a
 |_::l,i+1=>nthA l i
def drpA (l:List fJ):Nat->List fJ
 |0=>l
 |n+1=>(drpA l n).tail
def selA (L:List fJ) (n:Nat):List Nat->List fJ
 |[]=>drpA L n
 |i::is=>nthA L i::selA L n is
def arrB (n:Nat):List Nat->Bool
 |[]=>true
 |i::is=>Nat.blt i n&&!is.contains i&&arrB n is
theorem aOv:∀ {L:List fJ} {i j:Nat},i≠j->nthA (L.set i trA) j=nthA L j
 |[],_,_,_=>rfl
 |_::_,0,0,h=>absurd rfl h
 |_::_,0,_+1,_=>rfl
 |_::_,_+1,0,_=>rfl
 |_::l,i+1,j+1,h=>aOv (L:=l) (by omega)
theorem aSM (l:List fJ):∀ n,drpA l n=l.drop n
 |0=>rfl
 |n+1=>by rw [drpA,aSM l n,List.tail_drop]
theorem drpA_set {L:List fJ} {i n:Nat} (h:i < n):drpA (L.set i trA) n=drpA L n:=by
 rw [aSM,aSM,List.drop_set_of_lt h]
theorem aTY {L:List fJ} {i n:Nat} (hi:i < n):∀ {is:List Nat},is.contains i=false->selA (L.set i trA) n is=selA L n is
 |[],_=>drpA_set hi
 |j::is,h=>by
  simp only [List.contains_cons,Bool.or_eq_false_iff,beq_eq_false_iff_ne] at h
  simp only [selA,aOv h.1,aTY hi h.2]
theorem aTZ:∀ {L:List fJ} {i:Nat} {A:fJ},L[i]?=some A->nthA L i=A
 |[],_,_,h=>by simp at h
 |_::_,0,_,h=>by simpa [nthA] using h
 |_::l,i+1,_,h=>aTZ (L:=l) (by simpa using h)
theorem aRO:∀ {L:List fJ} {i:Nat},L[i]?=none->nthA L i=trA
 |[],_,_=>rfl
 |_::_,0,h=>by simp at h
 |_::l,i+1,h=>aRO (L:=l) (by simpa using h)
theorem fL.tl:∀ {L:List fJ} {h:Hp},fL L h->fL L.tail h
 |[],_,s=>s
 |_::_,_,⟨_,_,_,_,_,l2,r⟩=>r.le l2
theorem fL.drp {L:List fJ} {h:Hp} (s:fL L h):∀ n:Nat,fL (drpA L n) h
 |0=>s
 |n+1=>(fL.drp s n).tl
theorem fL.sel:∀ {is:List Nat} {L:List fJ} {h:Hp} {n:Nat},arrB n is=true->fL L h->fL (selA L n is) h
 |[],_,_,n,_,s=>s.drp n
 |i::is,L,h,n,hb,s=>by
  simp only [arrB,Bool.and_eq_true,Nat.blt_eq,Bool.not_eq_true'] at hb
  cases hA:L[i]? with
  |none=>
   have:=fL.sel (is:=is) hb.2 s
   exact ⟨Hp.nil,h,by rw [aRO hA];exact trivial,Hp.nil_dj _,Hp.nil_le _,zR _,this⟩
  |some A=>
   obtain ⟨h1,h2,a,d,l1,l2,r⟩:=s.pick hA
   have hlt:i < L.length:=(List.getElem?_eq_some_iff.1 hA).1
   have r2:fL (L.set i trA) h2:=(fL.put (A:=trA) (h1:=Hp.nil) trivial (Hp.nil_dj _) r hlt).le (Hp.un_le (Hp.nil_le _) (zR _))
   have:=fL.sel (is:=is) hb.2 r2
   rw [aTY hb.1.1 hb.1.2] at this
   exact ⟨h1,h2,by rw [aTZ hA];exact a,d,l1,l2,this⟩
theorem aF.arr {G:nX} {K:Hp} {L:List fJ} {w:World} (n:Nat) (is:List Nat) (s:aF G K L w) (hb:arrB n is=true):aF G K (selA L n is) w:=
 let ⟨e,h,gd,gl,d,k,l,r⟩:=s;⟨e,h,gd,gl,d,k,l,r.sel hb⟩
section
variable {α:Type} [Dp α]
def aCY (hd:Dp.Hd α) (x:α):Cells (Dp.sz1 α):=⟨Dp.enc hd x,Dp.len hd x,Dp.one hd x⟩
def aV (hds:List (Dp.Hd α)) (xs:List α):List (Cells (Dp.sz1 α)):=List.zipWith aCY hds xs
def jM (tys:List TypeId) (hds:List (Dp.Hd α)) (xs:List α):List (List fJ):=List.zipWith (Dp.pcs tys) hds xs
def rows (tys:List TypeId) (hds:List (Dp.Hd α)) (xs:List α):fJ:=aF.many (jM tys hds xs).flatten
theorem lU {hds:List (Dp.Hd α)} {xs:List α} (h:hds.length=xs.length):(aV hds xs).length=xs.length:=by simp [aV,h]
theorem aVN {tys:List TypeId} {hds:List (Dp.Hd α)} {xs:List α} (h:hds.length=xs.length):(jM tys hds xs).length=xs.length:=by simp [jM,h]
theorem aHa {β γ δ:Type} (f:β->γ->δ):∀ {l:List β} {m:List γ} {j:Nat} {b:β} {c:γ},l[j]?=some b->m[j]?=some c->(List.zipWith f l m)[j]?=some (f b c):=by
 intro l m j b c h1 h2;simp only [List.getElem?_zipWith,h1,h2]
theorem aNz {β γ δ:Type} (f:β->γ->δ):∀ (l:List β) (m:List γ) (j:Nat),(List.zipWith f l m).eraseIdx j=List.zipWith f (l.eraseIdx j) (m.eraseIdx j)
 |[],[],j=>by simp
 |[],_::_,j=>by simp
 |_::_,[],j=>by simp
 |a::l,b::m,0=>by simp
 |a::l,b::m,j+1=>by simp [aNz f l m j]
theorem aPp {β γ δ:Type} (f:β->γ->δ):∀ (l:List β) (m:List γ) (j:Nat) (b:β) (c:γ),(List.zipWith f l m).set j (f b c)=List.zipWith f (l.set j b) (m.set j c)
 |[],[],j,_,_=>by simp
 |[],_::_,j,_,_=>by simp
 |_::_,[],j,_,_=>by simp
 |a::l,b::m,0,_,_=>by simp
 |a::l,b::m,j+1,x,y=>by simp [aPp f l m j x y]
theorem nG {hds:List (Dp.Hd α)} {xs:List α} {j:Int} {hd:Dp.Hd α} {x:α} (h:hds.length=xs.length) (hj:ix xs j=some x) (hh:hds[j.toNat]?=some hd):ix (aV hds xs) j=some (aCY hd x):=by
 obtain ⟨h0,h1,h2⟩:=aCX hj
 unfold ix;rw [if_pos h0];exact aHa aCY hh h2
namespace aF
variable {G:nX} {K:Hp} {L:List fJ} {w:World} {tys:List TypeId} {hds:List (Dp.Hd α)} {xs:List α}
theorem rowOut {i j:Nat} {hd:Dp.Hd α} {x:α} (s:aF G K L w) (hi:L[i]?=some (rows tys hds xs)) (hh:hds[j]?=some hd) (hx:xs[j]?=some x):
  aF G K (Dp.pcs tys hd x++rows tys (hds.eraseIdx j) (xs.eraseIdx j)::L.eraseIdx i) w:=by
 have s1:=s.pull hi
 have hp:∀ h,aF.many (jM tys hds xs).flatten h->aF.many (Dp.pcs tys hd x++(jM tys (hds.eraseIdx j) (xs.eraseIdx j)).flatten) h:=fun h a=>by
  have:=fL.nth (j:=j) a (aHa (Dp.pcs tys) hh hx)
  rw [jM,aNz] at this
  exact this
 have s2:=(s1.weak (i:=0) rfl hp).expand
 rw [List.append_assoc] at s2
 have s3:aF G K (many (jM tys (hds.eraseIdx j) (xs.eraseIdx j)).flatten::(Dp.pcs tys hd x++L.eraseIdx i)) w:=by
  refine aF.collect ?_
  obtain ⟨e,g,gd,gl,d,k,l,r⟩:=s2
  exact ⟨e,g,gd,gl,d,k,l,r.swap⟩
 obtain ⟨e,g,gd,gl,d,k,l,r⟩:=s3
 refine ⟨e,g,gd,gl,d,k,l,?_⟩
 exact fL.swap (A:=[many (jM tys (hds.eraseIdx j) (xs.eraseIdx j)).flatten]) r
theorem rowIn {j:Nat} {hd:Dp.Hd α} {x:α} (s:aF G K (Dp.pcs tys hd x++rows tys (hds.eraseIdx j) (xs.eraseIdx j)::L) w) (hl:hds.length=xs.length) (hj:j < xs.length):
  aF G K (rows tys (hds.set j hd) (xs.set j x)::L) w:=by
 obtain ⟨e,g,gd,gl,d,k,l,r⟩:=s
 have r1:fL (rows tys (hds.eraseIdx j) (xs.eraseIdx j)::(Dp.pcs tys hd x++L)) g:=fL.swap (B:=[rows tys (hds.eraseIdx j) (xs.eraseIdx j)]) r
 have s2:aF G K ((jM tys (hds.eraseIdx j) (xs.eraseIdx j)).flatten++(Dp.pcs tys hd x++L)) w:=aF.expand ⟨e,g,gd,gl,d,k,l,r1⟩
 obtain ⟨e,g,gd,gl,d,k,l,r⟩:=s2
 have r2:=r.swap
 rw [←List.append_assoc] at r2
 have s3:aF G K (many (Dp.pcs tys hd x++(jM tys (hds.eraseIdx j) (xs.eraseIdx j)).flatten)::L) w:=aF.collect ⟨e,g,gd,gl,d,k,l,r2⟩
 refine s3.weak (i:=0) rfl (fun h a=>?_)
 have a':fL (Dp.pcs tys hd x++((jM tys hds xs).eraseIdx j).flatten) h:=by rw [jM,aNz];exact a
 have:=fL.nthIn (by rw [aVN hl];exact hj) a'
 rw [jM,aPp] at this
 exact this
theorem rowPush {hd:Dp.Hd α} {x:α} (s:aF G K (Dp.pcs tys hd x++rows tys hds xs::L) w) (hl:hds.length=xs.length):aF G K (rows tys (hds++[hd]) (xs++[x])::L) w:=by
 obtain ⟨e,g,gd,gl,d,k,l,r⟩:=s
 have r1:fL (rows tys hds xs::(Dp.pcs tys hd x++L)) g:=fL.swap (B:=[rows tys hds xs]) r
 have s2:aF G K ((jM tys hds xs).flatten++(Dp.pcs tys hd x++L)) w:=aF.expand ⟨e,g,gd,gl,d,k,l,r1⟩
 rw [←List.append_assoc] at s2
 have s3:=aF.collect s2
 refine s3.weak (i:=0) rfl (fun h a=>?_)
 have:(jM tys (hds++[hd]) (xs++[x])).flatten=(jM tys hds xs).flatten++Dp.pcs tys hd x:=by
  simp [jM,List.zipWith_append hl]
 show fL _ h
 rw [this];exact a
theorem rowsNil (s:aF G K L w):aF G K (rows tys ([]:List (Dp.Hd α)) ([]:List α)::L) w:=
 s.new (eP.refl w) (h1:=Hp.nil) trivial (Hp.nil_le _) (Hp.nil_dj _)
end aF
end
instance (priority:=50) {β:Type} [eL β]:Dp (List β) where
 Hd:=Option Addr × Nat
 sz1:=0
 enc hd xs:=[.slice hd.1 xs.length hd.2]
 pcs tys hd xs:=[aP (tys.headD 0) Hp.nil hd.1 hd.2 xs]
 len _ _:=rfl
 one _ _ v h:=by simp at h;subst h;rfl
class aOS (α:Type) [Dp α] [El α]:Prop where
 sz:El.sz α=Dp.sz1 α+1
 rd:∀ {tys:List TypeId} {hd:Dp.Hd α} {x:α} {h K:Hp},fL (Dp.pcs tys hd x) h->h.le K->El.rd K (Dp.enc hd x) x
instance {β:Type} [eL β]:aOS (List β) where
 sz:=rfl
 rd:=fun {tys hd x h K} a hK=>by
  obtain ⟨h1,h2,a,_,l1,_,_⟩:=a
  exact ⟨hd.1,hd.2,rfl,aP.rd a (zL l1 hK) (Hp.nil_le _)⟩
section
variable {α:Type} [Dp α] [El α] [aOS α] {G:nX} {K:Hp} {L:List fJ} {w:World} {tys:List TypeId} {hds:List (Dp.Hd α)} {xs:List α}
theorem aPq {h K:Hp} (a:rows tys hds xs h) (hK:h.le K) {j:Nat} {hd:Dp.Hd α} {x:α} (hh:hds[j]?=some hd) (hx:xs[j]?=some x):El.rd K (Dp.enc hd x) x:=by
 have:=fL.nth (j:=j) a (aHa (Dp.pcs tys) hh hx)
 obtain ⟨h1,h2,_,l1,_,b,_⟩:=this.split
 exact aOS.rd b (zL l1 hK)
theorem aF.lendD {E:TypeId} {Ke:Hp} {a:Option Addr} {cap:Nat} (s:aF G K (aP E Ke a cap (aV hds xs)::rows tys hds xs::L) w) (hl:hds.length=xs.length):
  ∃ K',K.le K'/\bK K' a cap xs/\(∀ (j:Nat) (hd:Dp.Hd α) (x:α),hds[j]?=some hd->xs[j]?=some x->El.rd K' (Dp.enc hd x) x)/\aF G K' L w/\
   ∀ L' w',aF G K' L' w'->aF G K (aP E Ke a cap (aV hds xs)::rows tys hds xs::L') w':=by
 obtain ⟨K1,h1,a1,l1,k1,s1,b1⟩:=s.lend (i:=0) rfl
 obtain ⟨K2,h2,a2,l2,k2,s2,b2⟩:=s1.lend (i:=0) rfl
 have hr:bK K2 a cap (aV hds xs):=aP.rd (K:=Hp.nil) (show aP E Hp.nil a cap (aV hds xs) h1 from a1) (zL l1 k2) (Hp.nil_le _)
 refine ⟨K2,zL k1 k2,⟨?_,?_,?_⟩,fun j hd x hh hx=>aPq a2 l2 hh hx,s2,fun L' w' t=>b1 _ _ (b2 _ _ t)⟩
 ·have:=hr.room;rwa [lU hl] at this
 ·intro e
  obtain ⟨e1,e2⟩:=hr.nil e
  refine ⟨?_,e2⟩
  have:=lU hl
  rw [e1] at this
  exact List.length_eq_zero_iff.1 this.symm
 ·intro i d e
  have hi:i < hds.length:=by rw [hl];exact (List.getElem?_eq_some_iff.1 e).1
  have hh:hds[i]?=some hds[i]:=by simp [hi]
  obtain ⟨cs,hc,hcs⟩:=hr.cell i _ (aHa aCY hh e)
  have hcs':cs=Dp.enc hds[i] d:=hcs
  subst hcs'
  refine ⟨_,?_,aPq a2 l2 hh e⟩
  rw [aOS.sz]
  exact hc
end
theorem aFU {β γ:Type} {hds:List β} {xs:List γ} {j:Int} {x:γ} (hl:hds.length=xs.length) (hj:ix xs j=some x):∃ hd,hds[j.toNat]?=some hd:=by
 obtain ⟨h0,h1,h2⟩:=aCX hj
 exact ⟨_,List.getElem?_eq_getElem (by rw [hl];exact h1)⟩
theorem ix_at {γ:Type} {xs:List γ} {j:Int} {x:γ} (hj:ix xs j=some x):xs[j.toNat]?=some x:=(aCX hj).2.2
theorem aEo {β:Type} {l:List β} {j:Nat} {b:β} (h:l[j]?=some b):l.set j b=l:=by
 obtain ⟨h1,h2⟩:=List.getElem?_eq_some_iff.1 h
 rw [←h2];exact List.set_getElem_self h1
section
variable {α:Type} [Dp α] {G:nX} {K:Hp} {L:List fJ} {w:World} {tys:List TypeId} {hds:List (Dp.Hd α)} {xs:List α}
theorem aRP {j:Nat} {hd:Dp.Hd α} {x:α}:aV (hds.set j hd) (xs.set j x)=(aV hds xs).set j (aCY hd x):=(aPp aCY hds xs j hd x).symm
theorem aVO {j:Nat} {hd:Dp.Hd α} {x x':α} (hh:hds[j]?=some hd) (hx:xs[j]?=some x) (he:Dp.enc hd x'=Dp.enc hd x):aV hds (xs.set j x')=aV hds xs:=by
 have h1:aV hds (xs.set j x')=aV (hds.set j hd) (xs.set j x'):=by rw [aEo hh]
 rw [h1,aRP]
 refine aEo ?_
 rw [aV,aHa aCY hh hx]
 congr 1
 simp only [aCY]
 congr 1
 exact he.symm
theorem aF.rowSt {E:TypeId} {Ke:Hp} {a:Option Addr} {cap p:Nat} {j:Int} {hd:Dp.Hd α} {x x':α} {zz:List α} (s:aF G K (Dp.pcs tys hd x'++rows tys (hds.eraseIdx j.toNat) (xs.eraseIdx j.toNat)::L) w) (hl:hds.length=xs.length)
  (hh:hds[j.toNat]?=some hd) (hx:ix xs j=some x) (he:Dp.enc hd x'=Dp.enc hd x) (hz:st xs j x'=some zz) (hp:L[p]?=some (aP E Ke a cap (aV hds xs))):
  aF G K (aP E Ke a cap (aV hds zz)::rows tys hds zz::L.eraseIdx p) w:=by
 obtain ⟨h0,h1,h2⟩:=aCX hx
 obtain ⟨_,_,rfl⟩:=aGU hz
 have s1:=aF.rowIn s hl h1
 rw [aEo hh] at s1
 rw [aVO hh h2 he]
 exact aF.pull (i:=p+1) s1 (by simpa using hp)
theorem aF.rowSet {i:Nat} {j:Int} {hd':Dp.Hd α} {x':α} {zz:List α} (s:aF G K (Dp.pcs tys hd' x'++L) w) (hl:hds.length=xs.length) (hz:st xs j x'=some zz) (hi:L[i]?=some (rows tys hds xs)):
  aF G K (rows tys (hds.set j.toNat hd') zz::L.eraseIdx i) w:=by
 obtain ⟨h0,h1,rfl⟩:=aGU hz
 have h1':j.toNat < hds.length:=by rw [hl];exact h1
 have hh:hds[j.toNat]?=some hds[j.toNat]:=List.getElem?_eq_getElem h1'
 have hx:xs[j.toNat]?=some xs[j.toNat]:=by simp [h1]
 have s1:aF G K (rows tys hds xs::(Dp.pcs tys hd' x'++L.eraseIdx i)) w:=by
  have hi':(Dp.pcs tys hd' x'++L)[(Dp.pcs tys hd' x').length+i]?=some (rows tys hds xs):=by
   rw [List.getElem?_append_right (by omega),Nat.add_sub_cancel_left];exact hi
  have:=aF.pull s hi'
  rwa [List.eraseIdx_append_of_length_le (by omega),Nat.add_sub_cancel_left] at this
 have s2:=aF.rowOut (i:=0) s1 rfl hh hx
 simp only [List.eraseIdx_zero,List.tail_cons] at s2
 obtain ⟨e,g,gd,gl,d,k,l,r⟩:=s2
 obtain ⟨k1,k2,dd,l1,l2,_,r2⟩:=r.split
 have r3:fL (Dp.pcs tys hd' x'++rows tys (hds.eraseIdx j.toNat) (xs.eraseIdx j.toNat)::L.eraseIdx i) k2:=by
  have:fL ([rows tys (hds.eraseIdx j.toNat) (xs.eraseIdx j.toNat)]++(Dp.pcs tys hd' x'++L.eraseIdx i)) k2:=r2
  exact this.swap
 exact aF.rowIn (hd:=hd') (x:=x') ⟨e,k2,Hp.dj_mono gd (zR _) l2,gl,Hp.dj_mono d (zR _) l2,k,zL l2 l,r3⟩ hl h1
theorem aUb {j:Int} {hd:Dp.Hd α} {x:α} {zz:List α} (hl:hds.length=xs.length) (hz:st xs j x=some zz):st (aV hds xs) j (aCY hd x)=some (aV (hds.set j.toNat hd) zz):=by
 obtain ⟨h0,h1,rfl⟩:=aGU hz
 rw [aRP]
 unfold st
 rw [if_pos ⟨h0,by rw [lU hl];exact h1⟩]
end
section
variable {α:Type} [Dp α] {G:nX} {K:Hp} {L:List fJ} {w:World} {tys:List TypeId} {hds hds2:List (Dp.Hd α)} {xs ys:List α}
theorem heads_app (hl:hds.length=xs.length):aV (hds++hds2) (xs++ys)=aV hds xs++aV hds2 ys:=by
 simp [aV,List.zipWith_append hl]
theorem aPr (hl:hds.length=xs.length) (hl2:hds2.length=ys.length) {zz:List α} (h:zZ xs ys=some zz):(hds++hds2).length=zz.length:=by
 obtain ⟨_,rfl⟩:=aIu h
 simp [hl,hl2]
theorem apd_heads (hl:hds.length=xs.length) (hl2:hds2.length=ys.length) {zz:List α} (h:zZ xs ys=some zz):zZ (aV hds xs) (aV hds2 ys)=some (aV (hds++hds2) zz):=by
 obtain ⟨h1,rfl⟩:=aIu h
 unfold zZ
 rw [lU hl,lU hl2,if_pos h1,heads_app hl]
theorem aF.rowsApp {i:Nat} {zz:List α} (s:aF G K (rows tys hds2 ys::L) w) (hi:L[i]?=some (rows tys hds xs)) (hl:hds.length=xs.length) (h:zZ xs ys=some zz):aF G K (rows tys (hds++hds2) zz::L.eraseIdx i) w:=by
 obtain ⟨_,rfl⟩:=aIu h
 have s1:=aF.pull (i:=i+1) s (by simpa using hi)
 simp only [List.eraseIdx_cons_succ] at s1
 have s2:aF G K ((jM tys hds xs).flatten++(rows tys hds2 ys::L.eraseIdx i)) w:=aF.expand s1
 obtain ⟨e,g,gd,gl,d,k,l,r⟩:=s2
 have r2:fL ([rows tys hds2 ys]++((jM tys hds xs).flatten++L.eraseIdx i)) g:=fL.swap (B:=[rows tys hds2 ys]) r
 have s3:aF G K ((jM tys hds2 ys).flatten++((jM tys hds xs).flatten++L.eraseIdx i)) w:=aF.expand ⟨e,g,gd,gl,d,k,l,r2⟩
 obtain ⟨e,g,gd,gl,d,k,l,r⟩:=s3
 have r4:=r.swap
 rw [←List.append_assoc] at r4
 have s4:aF G K (many ((jM tys hds xs).flatten++(jM tys hds2 ys).flatten)::L.eraseIdx i) w:=aF.collect ⟨e,g,gd,gl,d,k,l,r4⟩
 have he:(jM tys (hds++hds2) (xs++ys)).flatten=(jM tys hds xs).flatten++(jM tys hds2 ys).flatten:=by
  simp [jM,List.zipWith_append hl]
 show aF G K (many _::_) w
 rw [he];exact s4
theorem heads_rep (n:Nat) (hd:Dp.Hd α) (x:α):aV (List.replicate n hd) (List.replicate n x)=List.replicate n (aCY hd x):=by
 simp [aV]
theorem aF.rowsRep (s:aF G K L w) {hd:Dp.Hd α} {x:α} (h:fL (Dp.pcs tys hd x) Hp.nil) (n:Nat):aF G K (rows tys (List.replicate n hd) (List.replicate n x)::L) w:=by
 refine s.new (eP.refl w) (h1:=Hp.nil) ?_ (Hp.nil_le _) (Hp.nil_dj _)
 show fL _ Hp.nil
 induction n with
 |zero=>exact trivial
 |succ n ih=>
  have:=fL.app h ih (Hp.nil_dj _)
  refine this.le (Hp.un_le (Hp.nil_le _) (Hp.nil_le _))
theorem aGj {n:Int} {x:α} {hd:Dp.Hd α} {zz:List α} (h:mkz n x=some zz):mkz n (aCY hd x)=some (aV (List.replicate n.toNat hd) zz)/\(List.replicate n.toNat hd).length=zz.length/\zz=List.replicate n.toNat x:=by
 unfold mkz at *
 split at h
 ·cases h
  rw [if_pos (by assumption),heads_rep]
  simp
 ·cases h
end
section
variable {G:nX} {K:Hp} {L:List fJ} {w:World}
theorem aF.rowsMk {α:Type} [Dp α] {tys:List TypeId} {hd:Dp.Hd α} {x:α} {n:Nat} {zz:List α} (s:aF G K L w) (h:fL (Dp.pcs tys hd x) Hp.nil) (e:zz=List.replicate n x):aF G K (rows tys (List.replicate n hd) zz::L) w:=by
 subst e;exact s.rowsRep h n
theorem pcs_nil {β:Type} [eL β] (tys:List TypeId):fL (Dp.pcs tys ((none,0):Option Addr × Nat) ([]:List β)) Hp.nil:=
 ⟨Hp.nil,Hp.nil,aP.nil _ _ _,Hp.nil_dj _,Hp.nil_le _,Hp.nil_le _,trivial⟩
theorem row_enc {β:Type} [eL β] {hd:Dp.Hd (List β)} {x y:List β} (h:x.length=y.length):Dp.enc hd y=Dp.enc hd x:=by
 simp only [Dp.enc,h]
theorem aDr {β γ:Type} {hds:List β} {xs zz:List γ} {j:Int} {x:γ} {hd:β} (hl:hds.length=xs.length) (h:st xs j x=some zz):(hds.set j.toNat hd).length=zz.length:=by
 obtain ⟨_,_,rfl⟩:=aGU h
 simp [hl]
end
end Gv
