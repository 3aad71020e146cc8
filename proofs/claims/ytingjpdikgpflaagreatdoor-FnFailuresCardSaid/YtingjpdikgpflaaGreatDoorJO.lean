/- Slices whose elements own further slices ("deep"): an array of heads, and the rows. No program in sight. -/
import Derived.Test.YtingjpdikgpflaaGreatDoorJN
set_option linter.all false
namespace Gv
open Gv.Hp renaming le_trans→zL,le_refl→zR
open Go
structure Cells (n:Nat) where
 val:List Value
 len:val.length=n+1
 one:∀ v∈val,v.oneCell'=true
instance (n:Nat):fB (Cells n) where
 sz:=n+1
 enc c:=c.val
 len c:=c.len
 one c:=c.one
 pos:=Nat.succ_pos n
class Dp (α:Type) where
 Hd:Type
 sz1:Nat
 enc:Hd->α->List Value
 pcs:List TypeId->Hd->α->List gH
 len:∀ hd x,(enc hd x).length=sz1+1
 one:∀ hd x,∀ v∈enc hd x,v.oneCell'=true
def Hp.nil:Hp:=fun _=>none
theorem Hp.nil_dj (h:Hp):Hp.nil.dj h:=fun _=>.inl rfl
theorem Hp.nil_le (h:Hp):Hp.nil.le h:=fun _ _ e=>by cases e
theorem iT.app:∀ {A B:List gH} {h1 h2:Hp},iT A h1->iT B h2->h1.dj h2->iT (A++B) (h1.un h2)
 |[],_,_,_,_,b,d=>b.le (Hp.le_un_right d)
 |_::_,_,_,_,⟨g1,g2,a,dd,l1,l2,r⟩,b,d=>by
  have d2:=Hp.dj_mono d l2 (zR _)
  have d1:=Hp.dj_mono d l1 (zR _)
  refine ⟨g1,g2.un _,a,?_,zL l1 (Hp.le_un_left _ _),?_,iT.app r b d2⟩
  ·exact Hp.dj_symm (Hp.un_dj (Hp.dj_symm dd) (Hp.dj_symm d1))
  ·exact Hp.un_le (zL l2 (Hp.le_un_left _ _)) (Hp.le_un_right d)
theorem iT.split:∀ {A B:List gH} {h:Hp},iT (A++B) h->∃ h1 h2:Hp,h1.dj h2/\h1.le h/\h2.le h/\iT A h1/\iT B h2
 |[],_,h,b=>⟨Hp.nil,h,Hp.nil_dj _,Hp.nil_le _,zR _,trivial,b⟩
 |_::_,_,h,⟨g1,g2,a,dd,l1,l2,r⟩=>by
  obtain ⟨k1,k2,d,m1,m2,ra,rb⟩:=iT.split r
  refine ⟨g1.un k1,k2,?_,Hp.un_le l1 (zL m1 l2),zL m2 l2,?_,rb⟩
  ·exact Hp.un_dj (Hp.dj_mono dd (zR _) m2) d
  ·exact ⟨g1,k1,a,Hp.dj_mono dd (zR _) m1,Hp.le_un_left _ _,Hp.le_un_right (Hp.dj_mono dd (zR _) m1),ra⟩
theorem iT.swap {A B C:List gH} {h:Hp} (s:iT (A++(B++C)) h):iT (B++(A++C)) h:=by
 obtain ⟨h1,h2,d,l1,l2,a,r⟩:=s.split
 obtain ⟨h3,h4,d',l3,l4,b,c⟩:=r.split
 have d13:h1.dj h3:=Hp.dj_mono d (zR _) l3
 have d14:h1.dj h4:=Hp.dj_mono d (zR _) l4
 refine (iT.app b (iT.app a c d14) (Hp.dj_symm (Hp.un_dj d13 (Hp.dj_symm d')))).le ?_
 exact Hp.un_le (zL l3 l2) (Hp.un_le l1 (zL l4 l2))
theorem aHx {β:Type} {ls:List (List β)} {j:Nat} {l:List β} (e:ls[j]?=some l):ls.flatten=(ls.take j).flatten++(l++(ls.drop (j+1)).flatten)/\(ls.eraseIdx j).flatten=(ls.take j).flatten++(ls.drop (j+1)).flatten:=by
 have hj:j < ls.length:=(List.getElem?_eq_some_iff.1 e).1
 have he:ls[j]=l:=(List.getElem?_eq_some_iff.1 e).2
 constructor
 ·conv=>lhs;rw [←List.take_append_drop j ls,List.drop_eq_getElem_cons hj,he]
  simp
 ·rw [List.eraseIdx_eq_take_drop_succ];simp
theorem iT.nth {ls:List (List gH)} {j:Nat} {l:List gH} {h:Hp} (s:iT ls.flatten h) (e:ls[j]?=some l):iT (l++(ls.eraseIdx j).flatten) h:=by
 obtain ⟨e1,e2⟩:=aHx e
 rw [e1] at s;rw [e2]
 exact s.swap
namespace aJ
variable {G:qN} {K:Hp} {L:List gH} {w:World}
def many (As:List gH):gH:=fun h=>iT As h
theorem expand {As:List gH} (s:aJ G K (many As::L) w):aJ G K (As++L) w:=by
 obtain ⟨e,g,gd,gl,d,k,l,h1,h2,a,dd,l1,l2,r⟩:=s
 have:=iT.app a r dd
 exact ⟨e,_,Hp.dj_mono gd (zR _) (Hp.un_le l1 l2),gl,Hp.dj_mono d (zR _) (Hp.un_le l1 l2),k,zL (Hp.un_le l1 l2) l,this⟩
theorem collect {As:List gH} (s:aJ G K (As++L) w):aJ G K (many As::L) w:=by
 obtain ⟨e,g,gd,gl,d,k,l,r⟩:=s
 obtain ⟨h1,h2,dd,l1,l2,a,b⟩:=r.split
 exact ⟨e,g,gd,gl,d,k,l,h1,h2,a,dd,l1,l2,b⟩
end aJ
def trA:gH:=fun _=>True
def nthA:List gH->Nat->gH
 |[],_=>trA
 |a::_,0=>a
 |_::l,i+1=>nthA l i
def drpA (l:List gH):Nat->List gH
 |0=>l
 |n+1=>(drpA l n).tail
def selA (L:List gH) (n:Nat):List Nat->List gH
 |[]=>drpA L n
 |i::is=>nthA L i::selA L n is
def arrB (n:Nat):List Nat->Bool
 |[]=>true
 |i::is=>Nat.blt i n&&!is.contains i&&arrB n is
theorem aFR:∀ {L:List gH} {i j:Nat},i≠j->nthA (L.set i trA) j=nthA L j
 |[],_,_,_=>rfl
 |_::_,0,0,h=>absurd rfl h
 |_::_,0,_+1,_=>rfl
 |_::_,_+1,0,_=>rfl
 |_::l,i+1,j+1,h=>aFR (L:=l) (by omega)
theorem aIa (l:List gH):∀ n,drpA l n=l.drop n
 |0=>rfl
 |n+1=>by rw [drpA,aIa l n,List.tail_drop]
theorem drpA_set {L:List gH} {i n:Nat} (h:i < n):drpA (L.set i trA) n=drpA L n:=by
 rw [aIa,aIa,List.drop_set_of_lt h]
theorem aIv {L:List gH} {i n:Nat} (hi:i < n):∀ {is:List Nat},is.contains i=false->selA (L.set i trA) n is=selA L n is
 |[],_=>drpA_set hi
 |j::is,h=>by
  simp only [List.contains_cons,Bool.or_eq_false_iff,beq_eq_false_iff_ne] at h
  simp only [selA,aFR h.1,aIv hi h.2]
theorem aIw:∀ {L:List gH} {i:Nat} {A:gH},L[i]?=some A->nthA L i=A
 |[],_,_,h=>by simp at h
 |_::_,0,_,h=>by simpa [nthA] using h
 |_::l,i+1,_,h=>aIw (L:=l) (by simpa using h)
theorem aHJ:∀ {L:List gH} {i:Nat},L[i]?=none->nthA L i=trA
 |[],_,_=>rfl
 |_::_,0,h=>by simp at h
 |_::l,i+1,h=>aHJ (L:=l) (by simpa using h)
theorem iT.tl:∀ {L:List gH} {h:Hp},iT L h->iT L.tail h
 |[],_,s=>s
 |_::_,_,⟨_,_,_,_,_,l2,r⟩=>r.le l2
theorem iT.drp {L:List gH} {h:Hp} (s:iT L h):∀ n:Nat,iT (drpA L n) h
 |0=>s
 |n+1=>(iT.drp s n).tl
theorem iT.sel:∀ {is:List Nat} {L:List gH} {h:Hp} {n:Nat},arrB n is=true->iT L h->iT (selA L n is) h
 |[],_,_,n,_,s=>s.drp n
 |i::is,L,h,n,hb,s=>by
  simp only [arrB,Bool.and_eq_true,Nat.blt_eq,Bool.not_eq_true'] at hb
  cases hA:L[i]? with
  |none=>
   have:=iT.sel (is:=is) hb.2 s
   exact ⟨Hp.nil,h,by rw [aHJ hA];exact trivial,Hp.nil_dj _,Hp.nil_le _,zR _,this⟩
  |some A=>
   obtain ⟨h1,h2,a,d,l1,l2,r⟩:=s.pick hA
   have hlt:i < L.length:=(List.getElem?_eq_some_iff.1 hA).1
   have r2:iT (L.set i trA) h2:=(iT.put (A:=trA) (h1:=Hp.nil) trivial (Hp.nil_dj _) r hlt).le (Hp.un_le (Hp.nil_le _) (zR _))
   have:=iT.sel (is:=is) hb.2 r2
   rw [aIv hb.1.1 hb.1.2] at this
   exact ⟨h1,h2,by rw [aIw hA];exact a,d,l1,l2,this⟩
theorem aJ.arr {G:qN} {K:Hp} {L:List gH} {w:World} (n:Nat) (is:List Nat) (s:aJ G K L w) (hb:arrB n is=true):aJ G K (selA L n is) w:=
 let ⟨e,h,gd,gl,d,k,l,r⟩:=s;⟨e,h,gd,gl,d,k,l,r.sel hb⟩
section
variable {α:Type} [Dp α]
def uY (hd:Dp.Hd α) (x:α):Cells (Dp.sz1 α):=⟨Dp.enc hd x,Dp.len hd x,Dp.one hd x⟩
def dB (hds:List (Dp.Hd α)) (xs:List α):List (Cells (Dp.sz1 α)):=List.zipWith uY hds xs
def qE (tys:List TypeId) (hds:List (Dp.Hd α)) (xs:List α):List (List gH):=List.zipWith (Dp.pcs tys) hds xs
def rows (tys:List TypeId) (hds:List (Dp.Hd α)) (xs:List α):gH:=aJ.many (qE tys hds xs).flatten
theorem iJ {hds:List (Dp.Hd α)} {xs:List α} (h:hds.length=xs.length):(dB hds xs).length=xs.length:=by simp [dB,h]
theorem aEs {β γ δ:Type} (f:β->γ->δ):∀ {l:List β} {m:List γ} {j:Nat} {b:β} {c:γ},l[j]?=some b->m[j]?=some c->(List.zipWith f l m)[j]?=some (f b c):=by
 intro l m j b c h1 h2;simp only [List.getElem?_zipWith,h1,h2]
theorem zip_set {β γ δ:Type} (f:β->γ->δ):∀ (l:List β) (m:List γ) (j:Nat) (b:β) (c:γ),(List.zipWith f l m).set j (f b c)=List.zipWith f (l.set j b) (m.set j c)
 |[],[],j,_,_=>by simp
 |[],_::_,j,_,_=>by simp
 |_::_,[],j,_,_=>by simp
 |a::l,b::m,0,_,_=>by simp
 |a::l,b::m,j+1,x,y=>by simp [zip_set f l m j x y]
theorem aEt {hds:List (Dp.Hd α)} {xs:List α} {j:Int} {hd:Dp.Hd α} {x:α} (h:hds.length=xs.length) (hj:ix xs j=some x) (hh:hds[j.toNat]?=some hd):ix (dB hds xs) j=some (uY hd x):=by
 obtain ⟨h0,h1,h2⟩:=yP hj
 unfold ix;rw [if_pos h0];exact aEs uY hh h2
namespace aJ
variable {G:qN} {K:Hp} {L:List gH} {w:World} {tys:List TypeId} {hds:List (Dp.Hd α)} {xs:List α}
theorem rowPush {hd:Dp.Hd α} {x:α} (s:aJ G K (Dp.pcs tys hd x++rows tys hds xs::L) w) (hl:hds.length=xs.length):aJ G K (rows tys (hds++[hd]) (xs++[x])::L) w:=by
 obtain ⟨e,g,gd,gl,d,k,l,r⟩:=s
 have r1:iT (rows tys hds xs::(Dp.pcs tys hd x++L)) g:=iT.swap (B:=[rows tys hds xs]) r
 have s2:aJ G K ((qE tys hds xs).flatten++(Dp.pcs tys hd x++L)) w:=aJ.expand ⟨e,g,gd,gl,d,k,l,r1⟩
 rw [←List.append_assoc] at s2
 have s3:=aJ.collect s2
 refine s3.weak (i:=0) rfl (fun h a=>?_)
 have:(qE tys (hds++[hd]) (xs++[x])).flatten=(qE tys hds xs).flatten++Dp.pcs tys hd x:=by
  simp [qE,List.zipWith_append hl]
 show iT _ h
 rw [this];exact a
theorem rowsNil (s:aJ G K L w):aJ G K (rows tys ([]:List (Dp.Hd α)) ([]:List α)::L) w:=
 s.new (dK.refl w) (h1:=Hp.nil) trivial (Hp.nil_le _) (Hp.nil_dj _)
end aJ
end
instance (priority:=50) {β:Type} [fB β]:Dp (List β) where
 Hd:=Option Addr × Nat
 sz1:=0
 enc hd xs:=[.slice hd.1 xs.length hd.2]
 pcs tys hd xs:=[aN (tys.headD 0) Hp.nil hd.1 hd.2 xs]
 len _ _:=rfl
 one _ _ v h:=by simp at h;subst h;rfl
class DpEl (α:Type) [Dp α] [El α]:Prop where
 sz:El.sz α=Dp.sz1 α+1
 rd:∀ {tys:List TypeId} {hd:Dp.Hd α} {x:α} {h K:Hp},iT (Dp.pcs tys hd x) h->h.le K->El.rd K (Dp.enc hd x) x
instance {β:Type} [fB β]:DpEl (List β) where
 sz:=rfl
 rd:=fun {tys hd x h K} a hK=>by
  obtain ⟨h1,h2,a,_,l1,_,_⟩:=a
  exact ⟨hd.1,hd.2,rfl,aN.rd a (zL l1 hK) (Hp.nil_le _)⟩
theorem rd_row {β:Type} [fB β] {K:Hp} {hd:Dp.Hd (List β)} {x:List β} (h:El.rd K (Dp.enc hd x) x):cF K (Prod.fst hd) (Prod.snd hd) x:=by
 obtain ⟨a,c,e,r⟩:=h
 simp only [Dp.enc,List.cons.injEq,Value.slice.injEq,and_true] at e
 obtain ⟨rfl,-,rfl⟩:=e
 exact r
section
variable {α:Type} [Dp α] [El α] [DpEl α] {G:qN} {K:Hp} {L:List gH} {w:World} {tys:List TypeId} {hds:List (Dp.Hd α)} {xs:List α}
theorem rows_rd {h K:Hp} (a:rows tys hds xs h) (hK:h.le K) {j:Nat} {hd:Dp.Hd α} {x:α} (hh:hds[j]?=some hd) (hx:xs[j]?=some x):El.rd K (Dp.enc hd x) x:=by
 have:=iT.nth (j:=j) a (aEs (Dp.pcs tys) hh hx)
 obtain ⟨h1,h2,_,l1,_,b,_⟩:=this.split
 exact DpEl.rd b (zL l1 hK)
theorem aJ.lendD {E:TypeId} {Ke:Hp} {a:Option Addr} {cap:Nat} (s:aJ G K (aN E Ke a cap (dB hds xs)::rows tys hds xs::L) w) (hl:hds.length=xs.length):
  ∃ K',K.le K'/\cF K' a cap xs/\(∀ (j:Nat) (hd:Dp.Hd α) (x:α),hds[j]?=some hd->xs[j]?=some x->El.rd K' (Dp.enc hd x) x)/\aJ G K' L w/\
   ∀ L' w',aJ G K' L' w'->aJ G K (aN E Ke a cap (dB hds xs)::rows tys hds xs::L') w':=by
 obtain ⟨K1,h1,a1,l1,k1,s1,b1⟩:=s.lend (i:=0) rfl
 obtain ⟨K2,h2,a2,l2,k2,s2,b2⟩:=s1.lend (i:=0) rfl
 have hr:cF K2 a cap (dB hds xs):=aN.rd (K:=Hp.nil) (show aN E Hp.nil a cap (dB hds xs) h1 from a1) (zL l1 k2) (Hp.nil_le _)
 refine ⟨K2,zL k1 k2,⟨?_,?_,?_⟩,fun j hd x hh hx=>rows_rd a2 l2 hh hx,s2,fun L' w' t=>b1 _ _ (b2 _ _ t)⟩
 ·have:=hr.room;rwa [iJ hl] at this
 ·intro e
  obtain ⟨e1,e2⟩:=hr.nil e
  refine ⟨?_,e2⟩
  have:=iJ hl
  rw [e1] at this
  exact List.length_eq_zero_iff.1 this.symm
 ·intro i d e
  have hi:i < hds.length:=by rw [hl];exact (List.getElem?_eq_some_iff.1 e).1
  have hh:hds[i]?=some hds[i]:=by simp [hi]
  obtain ⟨cs,hc,hcs⟩:=hr.cell i _ (aEs uY hh e)
  have hcs':cs=Dp.enc hds[i] d:=hcs
  subst hcs'
  refine ⟨_,?_,rows_rd a2 l2 hh e⟩
  rw [DpEl.sz]
  exact hc
end
theorem get_hd {β γ:Type} {hds:List β} {xs:List γ} {j:Int} {x:γ} (hl:hds.length=xs.length) (hj:ix xs j=some x):∃ hd,hds[j.toNat]?=some hd:=by
 obtain ⟨h0,h1,h2⟩:=yP hj
 exact ⟨_,List.getElem?_eq_getElem (by rw [hl];exact h1)⟩
theorem ix_at {γ:Type} {xs:List γ} {j:Int} {x:γ} (hj:ix xs j=some x):xs[j.toNat]?=some x:=(yP hj).2.2
theorem set_self {β:Type} {l:List β} {j:Nat} {b:β} (h:l[j]?=some b):l.set j b=l:=by
 obtain ⟨h1,h2⟩:=List.getElem?_eq_some_iff.1 h
 rw [←h2];exact List.set_getElem_self h1
section
variable {α:Type} [Dp α] {G:qN} {K:Hp} {L:List gH} {w:World} {tys:List TypeId} {hds:List (Dp.Hd α)} {xs:List α}
theorem heads_set {j:Nat} {hd:Dp.Hd α} {x:α}:dB (hds.set j hd) (xs.set j x)=(dB hds xs).set j (uY hd x):=(zip_set uY hds xs j hd x).symm
theorem st_heads {j:Int} {hd:Dp.Hd α} {x:α} {zz:List α} (hl:hds.length=xs.length) (hz:st xs j x=some zz):st (dB hds xs) j (uY hd x)=some (dB (hds.set j.toNat hd) zz):=by
 obtain ⟨h0,h1,rfl⟩:=aGy hz
 rw [heads_set]
 unfold st
 rw [if_pos ⟨h0,by rw [iJ hl];exact h1⟩]
end
section
variable {α:Type} [Dp α] {G:qN} {K:Hp} {L:List gH} {w:World} {tys:List TypeId} {hds hds2:List (Dp.Hd α)} {xs ys:List α}
theorem heads_app (hl:hds.length=xs.length):dB (hds++hds2) (xs++ys)=dB hds xs++dB hds2 ys:=by
 simp [dB,List.zipWith_append hl]
theorem app_len (hl:hds.length=xs.length) (hl2:hds2.length=ys.length) {zz:List α} (h:nE xs ys=some zz):(hds++hds2).length=zz.length:=by
 obtain ⟨_,rfl⟩:=aAu h
 simp [hl,hl2]
theorem apd_heads (hl:hds.length=xs.length) (hl2:hds2.length=ys.length) {zz:List α} (h:nE xs ys=some zz):nE (dB hds xs) (dB hds2 ys)=some (dB (hds++hds2) zz):=by
 obtain ⟨h1,rfl⟩:=aAu h
 unfold nE
 rw [iJ hl,iJ hl2,if_pos h1,heads_app hl]
theorem aJ.rowsApp {i:Nat} {zz:List α} (s:aJ G K (rows tys hds2 ys::L) w) (hi:L[i]?=some (rows tys hds xs)) (hl:hds.length=xs.length) (h:nE xs ys=some zz):aJ G K (rows tys (hds++hds2) zz::L.eraseIdx i) w:=by
 obtain ⟨_,rfl⟩:=aAu h
 have s1:=aJ.pull (i:=i+1) s (by simpa using hi)
 simp only [List.eraseIdx_cons_succ] at s1
 have s2:aJ G K ((qE tys hds xs).flatten++(rows tys hds2 ys::L.eraseIdx i)) w:=aJ.expand s1
 obtain ⟨e,g,gd,gl,d,k,l,r⟩:=s2
 have r2:iT ([rows tys hds2 ys]++((qE tys hds xs).flatten++L.eraseIdx i)) g:=iT.swap (B:=[rows tys hds2 ys]) r
 have s3:aJ G K ((qE tys hds2 ys).flatten++((qE tys hds xs).flatten++L.eraseIdx i)) w:=aJ.expand ⟨e,g,gd,gl,d,k,l,r2⟩
 obtain ⟨e,g,gd,gl,d,k,l,r⟩:=s3
 have r4:=r.swap
 rw [←List.append_assoc] at r4
 have s4:aJ G K (many ((qE tys hds xs).flatten++(qE tys hds2 ys).flatten)::L.eraseIdx i) w:=aJ.collect ⟨e,g,gd,gl,d,k,l,r4⟩
 have he:(qE tys (hds++hds2) (xs++ys)).flatten=(qE tys hds xs).flatten++(qE tys hds2 ys).flatten:=by
  simp [qE,List.zipWith_append hl]
 show aJ G K (many _::_) w
 rw [he];exact s4
theorem heads_rep (n:Nat) (hd:Dp.Hd α) (x:α):dB (List.replicate n hd) (List.replicate n x)=List.replicate n (uY hd x):=by
 simp [dB]
end
section
variable {G:qN} {K:Hp} {L:List gH} {w:World}
end
end Gv
