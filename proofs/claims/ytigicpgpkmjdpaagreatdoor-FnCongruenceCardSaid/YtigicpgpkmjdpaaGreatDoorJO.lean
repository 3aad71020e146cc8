/- Slices whose elements own further slices ("deep"): an array of heads, and the rows. No program in sight. -/
import Derived.Test.YtigicpgpkmjdpaaGreatDoorJN
set_option linter.all false
namespace Gv
open Gv.Hp renaming le_trans→zL,le_refl→zR
open Go
structure Cells (n:Nat) where
 val:List Value
 len:val.length=n+1
 one:∀ v∈val,v.oneCell'=true
instance (n:Nat):fA (Cells n) where
 sz:=n+1
 enc c:=c.val
 len c:=c.len
 one c:=c.one
 pos:=Nat.succ_pos n
class Dp (α:Type) where
 Hd:Type
 sz1:Nat
 enc:Hd->α->List Value
 pcs:List TypeId->Hd->α->List jM
 len:∀ hd x,(enc hd x).length=sz1+1
 one:∀ hd x,∀ v∈enc hd x,v.oneCell'=true
def Hp.nil:Hp:=fun _=>none
theorem Hp.nil_dj (h:Hp):Hp.nil.dj h:=fun _=>.inl rfl
theorem Hp.nil_le (h:Hp):Hp.nil.le h:=fun _ _ e=>by cases e
theorem lU.app:∀ {A B:List jM} {h1 h2:Hp},lU A h1->lU B h2->h1.dj h2->lU (A++B) (h1.un h2)
 |[],_,_,_,_,b,d=>b.le (Hp.le_un_right d)
 |_::_,_,_,_,⟨g1,g2,a,dd,l1,l2,r⟩,b,d=>by
  have d2:=Hp.dj_mono d l2 (zR _)
  have d1:=Hp.dj_mono d l1 (zR _)
  refine ⟨g1,g2.un _,a,?_,zL l1 (Hp.le_un_left _ _),?_,lU.app r b d2⟩
  ·exact Hp.dj_symm (Hp.un_dj (Hp.dj_symm dd) (Hp.dj_symm d1))
  ·exact Hp.un_le (zL l2 (Hp.le_un_left _ _)) (Hp.le_un_right d)
theorem lU.split:∀ {A B:List jM} {h:Hp},lU (A++B) h->∃ h1 h2:Hp,h1.dj h2/\h1.le h/\h2.le h/\lU A h1/\lU B h2
 |[],_,h,b=>⟨Hp.nil,h,Hp.nil_dj _,Hp.nil_le _,zR _,trivial,b⟩
 |_::_,_,h,⟨g1,g2,a,dd,l1,l2,r⟩=>by
  obtain ⟨k1,k2,d,m1,m2,ra,rb⟩:=lU.split r
  refine ⟨g1.un k1,k2,?_,Hp.un_le l1 (zL m1 l2),zL m2 l2,?_,rb⟩
  ·exact Hp.un_dj (Hp.dj_mono dd (zR _) m2) d
  ·exact ⟨g1,k1,a,Hp.dj_mono dd (zR _) m1,Hp.le_un_left _ _,Hp.le_un_right (Hp.dj_mono dd (zR _) m1),ra⟩
theorem lU.swap {A B C:List jM} {h:Hp} (s:lU (A++(B++C)) h):lU (B++(A++C)) h:=by
 obtain ⟨h1,h2,d,l1,l2,a,r⟩:=s.split
 obtain ⟨h3,h4,d',l3,l4,b,c⟩:=r.split
 have d13:h1.dj h3:=Hp.dj_mono d (zR _) l3
 have d14:h1.dj h4:=Hp.dj_mono d (zR _) l4
 refine (lU.app b (lU.app a c d14) (Hp.dj_symm (Hp.un_dj d13 (Hp.dj_symm d')))).le ?_
 exact Hp.un_le (zL l3 l2) (Hp.un_le l1 (zL l4 l2))
theorem aLK {β:Type} {ls:List (List β)} {j:Nat} {l:List β} (e:ls[j]?=some l):ls.flatten=(ls.take j).flatten++(l++(ls.drop (j+1)).flatten)/\(ls.eraseIdx j).flatten=(ls.take j).flatten++(ls.drop (j+1)).flatten:=by
 have hj:j < ls.length:=(List.getElem?_eq_some_iff.1 e).1
 have he:ls[j]=l:=(List.getElem?_eq_some_iff.1 e).2
 constructor
 ·conv=>lhs;rw [←List.take_append_drop j ls,List.drop_eq_getElem_cons hj,he]
  simp
 ·rw [List.eraseIdx_eq_take_drop_succ];simp
theorem lU.nth {ls:List (List jM)} {j:Nat} {l:List jM} {h:Hp} (s:lU ls.flatten h) (e:ls[j]?=some l):lU (l++(ls.eraseIdx j).flatten) h:=by
 obtain ⟨e1,e2⟩:=aLK e
 rw [e1] at s;rw [e2]
 exact s.swap
namespace aF
variable {G:zZ} {K:Hp} {L:List jM} {w:World}
def many (As:List jM):jM:=fun h=>lU As h
theorem expand {As:List jM} (s:aF G K (many As::L) w):aF G K (As++L) w:=by
 obtain ⟨e,g,gd,gl,d,k,l,h1,h2,a,dd,l1,l2,r⟩:=s
 have:=lU.app a r dd
 exact ⟨e,_,Hp.dj_mono gd (zR _) (Hp.un_le l1 l2),gl,Hp.dj_mono d (zR _) (Hp.un_le l1 l2),k,zL (Hp.un_le l1 l2) l,this⟩
theorem collect {As:List jM} (s:aF G K (As++L) w):aF G K (many As::L) w:=by
 obtain ⟨e,g,gd,gl,d,k,l,r⟩:=s
 obtain ⟨h1,h2,dd,l1,l2,a,b⟩:=r.split
 exact ⟨e,g,gd,gl,d,k,l,h1,h2,a,dd,l1,l2,b⟩
end aF
def trA:jM:=fun _=>True
def nthA:List jM->Nat->jM
 |[],_=>trA
 |a::_,0=>a
 |_::l,i+1=>nthA l i
def drpA (l:List jM):Nat->List jM
 |0=>l
 |n+1=>(drpA l n).tail
def selA (L:List jM) (n:Nat):List Nat->List jM
 |[]=>drpA L n
 |i::is=>nthA L i::selA L n is
def arrB (n:Nat):List Nat->Bool
 |[]=>true
 |i::is=>Nat.blt i n&&!is.contains i&&arrB n is
theorem aJw:∀ {L:List jM} {i j:Nat},i≠j->nthA (L.set i trA) j=nthA L j
 |[],_,_,_=>rfl
 |_::_,0,0,h=>absurd rfl h
 |_::_,0,_+1,_=>rfl
 |_::_,_+1,0,_=>rfl
 |_::l,i+1,j+1,h=>aJw (L:=l) (by omega)
theorem aMR (l:List jM):∀ n,drpA l n=l.drop n
 |0=>rfl
 |n+1=>by rw [drpA,aMR l n,List.tail_drop]
theorem drpA_set {L:List jM} {i n:Nat} (h:i < n):drpA (L.set i trA) n=drpA L n:=by
 rw [aMR,aMR,List.drop_set_of_lt h]
theorem aNZ {L:List jM} {i n:Nat} (hi:i < n):∀ {is:List Nat},is.contains i=false->selA (L.set i trA) n is=selA L n is
 |[],_=>drpA_set hi
 |j::is,h=>by
  simp only [List.contains_cons,Bool.or_eq_false_iff,beq_eq_false_iff_ne] at h
  simp only [selA,aJw h.1,aNZ hi h.2]
theorem aOa:∀ {L:List jM} {i:Nat} {A:jM},L[i]?=some A->nthA L i=A
 |[],_,_,h=>by simp at h
 |_::_,0,_,h=>by simpa [nthA] using h
 |_::l,i+1,_,h=>aOa (L:=l) (by simpa using h)
theorem aMb:∀ {L:List jM} {i:Nat},L[i]?=none->nthA L i=trA
 |[],_,_=>rfl
 |_::_,0,h=>by simp at h
 |_::l,i+1,h=>aMb (L:=l) (by simpa using h)
theorem lU.tl:∀ {L:List jM} {h:Hp},lU L h->lU L.tail h
 |[],_,s=>s
 |_::_,_,⟨_,_,_,_,_,l2,r⟩=>r.le l2
theorem lU.drp {L:List jM} {h:Hp} (s:lU L h):∀ n:Nat,lU (drpA L n) h
 |0=>s
 |n+1=>(lU.drp s n).tl
theorem lU.sel:∀ {is:List Nat} {L:List jM} {h:Hp} {n:Nat},arrB n is=true->lU L h->lU (selA L n is) h
 |[],_,_,n,_,s=>s.drp n
 |i::is,L,h,n,hb,s=>by
  simp only [arrB,Bool.and_eq_true,Nat.blt_eq,Bool.not_eq_true'] at hb
  cases hA:L[i]? with
  |none=>
   have:=lU.sel (is:=is) hb.2 s
   exact ⟨Hp.nil,h,by rw [aMb hA];exact trivial,Hp.nil_dj _,Hp.nil_le _,zR _,this⟩
  |some A=>
   obtain ⟨h1,h2,a,d,l1,l2,r⟩:=s.pick hA
   have hlt:i < L.length:=(List.getElem?_eq_some_iff.1 hA).1
   have r2:lU (L.set i trA) h2:=(lU.put (A:=trA) (h1:=Hp.nil) trivial (Hp.nil_dj _) r hlt).le (Hp.un_le (Hp.nil_le _) (zR _))
   have:=lU.sel (is:=is) hb.2 r2
   rw [aNZ hb.1.1 hb.1.2] at this
   exact ⟨h1,h2,by rw [aOa hA];exact a,d,l1,l2,this⟩
theorem aF.arr {G:zZ} {K:Hp} {L:List jM} {w:World} (n:Nat) (is:List Nat) (s:aF G K L w) (hb:arrB n is=true):aF G K (selA L n is) w:=
 let ⟨e,h,gd,gl,d,k,l,r⟩:=s;⟨e,h,gd,gl,d,k,l,r.sel hb⟩
section
variable {α:Type} [Dp α]
def headC (hd:Dp.Hd α) (x:α):Cells (Dp.sz1 α):=⟨Dp.enc hd x,Dp.len hd x,Dp.one hd x⟩
def cP (hds:List (Dp.Hd α)) (xs:List α):List (Cells (Dp.sz1 α)):=List.zipWith headC hds xs
def yZ (tys:List TypeId) (hds:List (Dp.Hd α)) (xs:List α):List (List jM):=List.zipWith (Dp.pcs tys) hds xs
def rows (tys:List TypeId) (hds:List (Dp.Hd α)) (xs:List α):jM:=aF.many (yZ tys hds xs).flatten
theorem aBg {hds:List (Dp.Hd α)} {xs:List α} (h:hds.length=xs.length):(cP hds xs).length=xs.length:=by simp [cP,h]
theorem aMS {β γ δ:Type} (f:β->γ->δ):∀ {l:List β} {m:List γ} {j:Nat} {b:β} {c:γ},l[j]?=some b->m[j]?=some c->(List.zipWith f l m)[j]?=some (f b c):=by
 intro l m j b c h1 h2;simp only [List.getElem?_zipWith,h1,h2]
theorem aIm {hds:List (Dp.Hd α)} {xs:List α} {j:Int} {hd:Dp.Hd α} {x:α} (h:hds.length=xs.length) (hj:ix xs j=some x) (hh:hds[j.toNat]?=some hd):ix (cP hds xs) j=some (headC hd x):=by
 obtain ⟨h0,h1,h2⟩:=aDd hj
 unfold ix;rw [if_pos h0];exact aMS headC hh h2
namespace aF
variable {G:zZ} {K:Hp} {L:List jM} {w:World} {tys:List TypeId} {hds:List (Dp.Hd α)} {xs:List α}
theorem rowPush {hd:Dp.Hd α} {x:α} (s:aF G K (Dp.pcs tys hd x++rows tys hds xs::L) w) (hl:hds.length=xs.length):aF G K (rows tys (hds++[hd]) (xs++[x])::L) w:=by
 obtain ⟨e,g,gd,gl,d,k,l,r⟩:=s
 have r1:lU (rows tys hds xs::(Dp.pcs tys hd x++L)) g:=lU.swap (B:=[rows tys hds xs]) r
 have s2:aF G K ((yZ tys hds xs).flatten++(Dp.pcs tys hd x++L)) w:=aF.expand ⟨e,g,gd,gl,d,k,l,r1⟩
 rw [←List.append_assoc] at s2
 have s3:=aF.collect s2
 refine s3.weak (i:=0) rfl (fun h a=>?_)
 have:(yZ tys (hds++[hd]) (xs++[x])).flatten=(yZ tys hds xs).flatten++Dp.pcs tys hd x:=by
  simp [yZ,List.zipWith_append hl]
 show lU _ h
 rw [this];exact a
theorem rowsNil (s:aF G K L w):aF G K (rows tys ([]:List (Dp.Hd α)) ([]:List α)::L) w:=
 s.new (fJ.refl w) (h1:=Hp.nil) trivial (Hp.nil_le _) (Hp.nil_dj _)
end aF
end
instance (priority:=50) {β:Type} [fA β]:Dp (List β) where
 Hd:=Option Addr × Nat
 sz1:=0
 enc hd xs:=[.slice hd.1 xs.length hd.2]
 pcs tys hd xs:=[aL (tys.headD 0) Hp.nil hd.1 hd.2 xs]
 len _ _:=rfl
 one _ _ v h:=by simp at h;subst h;rfl
class DpEl (α:Type) [Dp α] [El α]:Prop where
 sz:El.sz α=Dp.sz1 α+1
 rd:∀ {tys:List TypeId} {hd:Dp.Hd α} {x:α} {h K:Hp},lU (Dp.pcs tys hd x) h->h.le K->El.rd K (Dp.enc hd x) x
instance {β:Type} [fA β]:DpEl (List β) where
 sz:=rfl
 rd:=fun {tys hd x h K} a hK=>by
  obtain ⟨h1,h2,a,_,l1,_,_⟩:=a
  exact ⟨hd.1,hd.2,rfl,aL.rd a (zL l1 hK) (Hp.nil_le _)⟩
theorem rd_row {β:Type} [fA β] {K:Hp} {hd:Dp.Hd (List β)} {x:List β} (h:El.rd K (Dp.enc hd x) x):bG K (Prod.fst hd) (Prod.snd hd) x:=by
 obtain ⟨a,c,e,r⟩:=h
 simp only [Dp.enc,List.cons.injEq,Value.slice.injEq,and_true] at e
 obtain ⟨rfl,-,rfl⟩:=e
 exact r
section
variable {α:Type} [Dp α] [El α] [DpEl α] {G:zZ} {K:Hp} {L:List jM} {w:World} {tys:List TypeId} {hds:List (Dp.Hd α)} {xs:List α}
theorem rows_rd {h K:Hp} (a:rows tys hds xs h) (hK:h.le K) {j:Nat} {hd:Dp.Hd α} {x:α} (hh:hds[j]?=some hd) (hx:xs[j]?=some x):El.rd K (Dp.enc hd x) x:=by
 have:=lU.nth (j:=j) a (aMS (Dp.pcs tys) hh hx)
 obtain ⟨h1,h2,_,l1,_,b,_⟩:=this.split
 exact DpEl.rd b (zL l1 hK)
theorem aF.lendD {E:TypeId} {Ke:Hp} {a:Option Addr} {cap:Nat} (s:aF G K (aL E Ke a cap (cP hds xs)::rows tys hds xs::L) w) (hl:hds.length=xs.length):
  ∃ K',K.le K'/\bG K' a cap xs/\(∀ (j:Nat) (hd:Dp.Hd α) (x:α),hds[j]?=some hd->xs[j]?=some x->El.rd K' (Dp.enc hd x) x)/\aF G K' L w/\
   ∀ L' w',aF G K' L' w'->aF G K (aL E Ke a cap (cP hds xs)::rows tys hds xs::L') w':=by
 obtain ⟨K1,h1,a1,l1,k1,s1,b1⟩:=s.lend (i:=0) rfl
 obtain ⟨K2,h2,a2,l2,k2,s2,b2⟩:=s1.lend (i:=0) rfl
 have hr:bG K2 a cap (cP hds xs):=aL.rd (K:=Hp.nil) (show aL E Hp.nil a cap (cP hds xs) h1 from a1) (zL l1 k2) (Hp.nil_le _)
 refine ⟨K2,zL k1 k2,⟨?_,?_,?_⟩,fun j hd x hh hx=>rows_rd a2 l2 hh hx,s2,fun L' w' t=>b1 _ _ (b2 _ _ t)⟩
 ·have:=hr.room;rwa [aBg hl] at this
 ·intro e
  obtain ⟨e1,e2⟩:=hr.nil e
  refine ⟨?_,e2⟩
  have:=aBg hl
  rw [e1] at this
  exact List.length_eq_zero_iff.1 this.symm
 ·intro i d e
  have hi:i < hds.length:=by rw [hl];exact (List.getElem?_eq_some_iff.1 e).1
  have hh:hds[i]?=some hds[i]:=by simp [hi]
  obtain ⟨cs,hc,hcs⟩:=hr.cell i _ (aMS headC hh e)
  have hcs':cs=Dp.enc hds[i] d:=hcs
  subst hcs'
  refine ⟨_,?_,rows_rd a2 l2 hh e⟩
  rw [DpEl.sz]
  exact hc
end
theorem get_hd {β γ:Type} {hds:List β} {xs:List γ} {j:Int} {x:γ} (hl:hds.length=xs.length) (hj:ix xs j=some x):∃ hd,hds[j.toNat]?=some hd:=by
 obtain ⟨h0,h1,h2⟩:=aDd hj
 exact ⟨_,List.getElem?_eq_getElem (by rw [hl];exact h1)⟩
theorem ix_at {γ:Type} {xs:List γ} {j:Int} {x:γ} (hj:ix xs j=some x):xs[j.toNat]?=some x:=(aDd hj).2.2
theorem aOb {β:Type} {l:List β} {j:Nat} {b:β} (h:l[j]?=some b):l.set j b=l:=by
 obtain ⟨h1,h2⟩:=List.getElem?_eq_some_iff.1 h
 rw [←h2];exact List.set_getElem_self h1
section
variable {α:Type} [Dp α] {G:zZ} {K:Hp} {L:List jM} {w:World} {tys:List TypeId} {hds:List (Dp.Hd α)} {xs:List α}
end
section
variable {α:Type} [Dp α] {G:zZ} {K:Hp} {L:List jM} {w:World} {tys:List TypeId} {hds hds2:List (Dp.Hd α)} {xs ys:List α}
theorem heads_app (hl:hds.length=xs.length):cP (hds++hds2) (xs++ys)=cP hds xs++cP hds2 ys:=by
 simp [cP,List.zipWith_append hl]
theorem aKb (hl:hds.length=xs.length) (hl2:hds2.length=ys.length) {zz:List α} (h:uF xs ys=some zz):(hds++hds2).length=zz.length:=by
 obtain ⟨_,rfl⟩:=aFP h
 simp [hl,hl2]
theorem apd_heads (hl:hds.length=xs.length) (hl2:hds2.length=ys.length) {zz:List α} (h:uF xs ys=some zz):uF (cP hds xs) (cP hds2 ys)=some (cP (hds++hds2) zz):=by
 obtain ⟨h1,rfl⟩:=aFP h
 unfold uF
 rw [aBg hl,aBg hl2,if_pos h1,heads_app hl]
theorem aF.rowsApp {i:Nat} {zz:List α} (s:aF G K (rows tys hds2 ys::L) w) (hi:L[i]?=some (rows tys hds xs)) (hl:hds.length=xs.length) (h:uF xs ys=some zz):aF G K (rows tys (hds++hds2) zz::L.eraseIdx i) w:=by
 obtain ⟨_,rfl⟩:=aFP h
 have s1:=aF.pull (i:=i+1) s (by simpa using hi)
 simp only [List.eraseIdx_cons_succ] at s1
 have s2:aF G K ((yZ tys hds xs).flatten++(rows tys hds2 ys::L.eraseIdx i)) w:=aF.expand s1
 obtain ⟨e,g,gd,gl,d,k,l,r⟩:=s2
 have r2:lU ([rows tys hds2 ys]++((yZ tys hds xs).flatten++L.eraseIdx i)) g:=lU.swap (B:=[rows tys hds2 ys]) r
 have s3:aF G K ((yZ tys hds2 ys).flatten++((yZ tys hds xs).flatten++L.eraseIdx i)) w:=aF.expand ⟨e,g,gd,gl,d,k,l,r2⟩
 obtain ⟨e,g,gd,gl,d,k,l,r⟩:=s3
 have r4:=r.swap
 rw [←List.append_assoc] at r4
 have s4:aF G K (many ((yZ tys hds xs).flatten++(yZ tys hds2 ys).flatten)::L.eraseIdx i) w:=aF.collect ⟨e,g,gd,gl,d,k,l,r4⟩
 have he:(yZ tys (hds++hds2) (xs++ys)).flatten=(yZ tys hds xs).flatten++(yZ tys hds2 ys).flatten:=by
  simp [yZ,List.zipWith_append hl]
 show aF G K (many _::_) w
 rw [he];exact s4
end
section
variable {G:zZ} {K:Hp} {L:List jM} {w:World}
end
end Gv
