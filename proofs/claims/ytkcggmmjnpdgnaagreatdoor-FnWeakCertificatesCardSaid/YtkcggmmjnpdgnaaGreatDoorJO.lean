/- Slices whose elements own further slices ("deep"): an array of heads, and the rows. No program in sight. -/
import Derived.Test.YtkcggmmjnpdgnaaGreatDoorJN
set_option linter.all false
namespace Gv
open Gv.Hp renaming le_trans→zL,le_refl→zR
open Go
structure Cells (n:Nat) where
 val:List Value
 len:val.length=n+1
 one:∀ v∈val,v.oneCell'=true
instance (n:Nat):gH (Cells n) where
 sz:=n+1
 enc c:=c.val
 len c:=c.len
 one c:=c.one
 pos:=Nat.succ_pos n
class Dp (α:Type) where
 Hd:Type
 sz1:Nat
 enc:Hd->α->List Value
 pcs:List TypeId->Hd->α->List gQ
 len:∀ hd x,(enc hd x).length=sz1+1
 one:∀ hd x,∀ v∈enc hd x,v.oneCell'=true
def Hp.nil:Hp:=fun _=>none
theorem Hp.nil_dj (h:Hp):Hp.nil.dj h:=fun _=>.inl rfl
theorem Hp.nil_le (h:Hp):Hp.nil.le h:=fun _ _ e=>by cases e
theorem kS.app:∀ {A B:List gQ} {h1 h2:Hp},kS A h1->kS B h2->h1.dj h2->kS (A++B) (h1.un h2)
 |[],_,_,_,_,b,d=>b.le (Hp.le_un_right d)
 |_::_,_,_,_,⟨g1,g2,a,dd,l1,l2,r⟩,b,d=>by
  have d2:=Hp.dj_mono d l2 (zR _)
  have d1:=Hp.dj_mono d l1 (zR _)
  refine ⟨g1,g2.un _,a,?_,zL l1 (Hp.le_un_left _ _),?_,kS.app r b d2⟩
  ·exact Hp.dj_symm (Hp.un_dj (Hp.dj_symm dd) (Hp.dj_symm d1))
  ·exact Hp.un_le (zL l2 (Hp.le_un_left _ _)) (Hp.le_un_right d)
theorem kS.split:∀ {A B:List gQ} {h:Hp},kS (A++B) h->∃ h1 h2:Hp,h1.dj h2/\h1.le h/\h2.le h/\kS A h1/\kS B h2
 |[],_,h,b=>⟨Hp.nil,h,Hp.nil_dj _,Hp.nil_le _,zR _,trivial,b⟩
 |_::_,_,h,⟨g1,g2,a,dd,l1,l2,r⟩=>by
  obtain ⟨k1,k2,d,m1,m2,ra,rb⟩:=kS.split r
  refine ⟨g1.un k1,k2,?_,Hp.un_le l1 (zL m1 l2),zL m2 l2,?_,rb⟩
  ·exact Hp.un_dj (Hp.dj_mono dd (zR _) m2) d
  ·exact ⟨g1,k1,a,Hp.dj_mono dd (zR _) m1,Hp.le_un_left _ _,Hp.le_un_right (Hp.dj_mono dd (zR _) m1),ra⟩
theorem kS.swap {A B C:List gQ} {h:Hp} (s:kS (A++(B++C)) h):kS (B++(A++C)) h:=by
 obtain ⟨h1,h2,d,l1,l2,a,r⟩:=s.split
 obtain ⟨h3,h4,d',l3,l4,b,c⟩:=r.split
 have d13:h1.dj h3:=Hp.dj_mono d (zR _) l3
 have d14:h1.dj h4:=Hp.dj_mono d (zR _) l4
 refine (kS.app b (kS.app a c d14) (Hp.dj_symm (Hp.un_dj d13 (Hp.dj_symm d')))).le ?_
 exact Hp.un_le (zL l3 l2) (Hp.un_le l1 (zL l4 l2))
theorem aLG {β:Type} {ls:List (List β)} {j:Nat} {l:List β} (e:ls[j]?=some l):ls.flatten=(ls.take j).flatten++(l++(ls.drop (j+1)).flatten)/\(ls.eraseIdx j).flatten=(ls.take j).flatten++(ls.drop (j+1)).flatten:=by
 have hj:j < ls.length:=(List.getElem?_eq_some_iff.1 e).1
 have he:ls[j]=l:=(List.getElem?_eq_some_iff.1 e).2
 constructor
 ·conv=>lhs;rw [←List.take_append_drop j ls,List.drop_eq_getElem_cons hj,he]
  simp
 ·rw [List.eraseIdx_eq_take_drop_succ];simp
theorem kS.nth {ls:List (List gQ)} {j:Nat} {l:List gQ} {h:Hp} (s:kS ls.flatten h) (e:ls[j]?=some l):kS (l++(ls.eraseIdx j).flatten) h:=by
 obtain ⟨e1,e2⟩:=aLG e
 rw [e1] at s;rw [e2]
 exact s.swap
namespace aI
variable {G:uK} {K:Hp} {L:List gQ} {w:World}
def many (As:List gQ):gQ:=fun h=>kS As h
theorem expand {As:List gQ} (s:aI G K (many As::L) w):aI G K (As++L) w:=by
 obtain ⟨e,g,gd,gl,d,k,l,h1,h2,a,dd,l1,l2,r⟩:=s
 have:=kS.app a r dd
 exact ⟨e,_,Hp.dj_mono gd (zR _) (Hp.un_le l1 l2),gl,Hp.dj_mono d (zR _) (Hp.un_le l1 l2),k,zL (Hp.un_le l1 l2) l,this⟩
theorem collect {As:List gQ} (s:aI G K (As++L) w):aI G K (many As::L) w:=by
 obtain ⟨e,g,gd,gl,d,k,l,r⟩:=s
 obtain ⟨h1,h2,dd,l1,l2,a,b⟩:=r.split
 exact ⟨e,g,gd,gl,d,k,l,h1,h2,a,dd,l1,l2,b⟩
end aI
def trA:gQ:=fun _=>True
def nthA:List gQ->Nat->gQ
 |[],_=>trA
 |a::_,0=>a
 |_::l,i+1=>nthA l i
def drpA (l:List gQ):Nat->List gQ
 |0=>l
 |n+1=>(drpA l n).tail
def selA (L:List gQ) (n:Nat):List Nat->List gQ
 |[]=>drpA L n
 |i::is=>nthA L i::selA L n is
def arrB (n:Nat):List Nat->Bool
 |[]=>true
 |i::is=>Nat.blt i n&&!is.contains i&&arrB n is
theorem aJP:∀ {L:List gQ} {i j:Nat},i≠j->nthA (L.set i trA) j=nthA L j
 |[],_,_,_=>rfl
 |_::_,0,0,h=>absurd rfl h
 |_::_,0,_+1,_=>rfl
 |_::_,_+1,0,_=>rfl
 |_::l,i+1,j+1,h=>aJP (L:=l) (by omega)
theorem aMS (l:List gQ):∀ n,drpA l n=l.drop n
 |0=>rfl
 |n+1=>by rw [drpA,aMS l n,List.tail_drop]
theorem drpA_set {L:List gQ} {i n:Nat} (h:i < n):drpA (L.set i trA) n=drpA L n:=by
 rw [aMS,aMS,List.drop_set_of_lt h]
theorem aNE {L:List gQ} {i n:Nat} (hi:i < n):∀ {is:List Nat},is.contains i=false->selA (L.set i trA) n is=selA L n is
 |[],_=>drpA_set hi
 |j::is,h=>by
  simp only [List.contains_cons,Bool.or_eq_false_iff,beq_eq_false_iff_ne] at h
  simp only [selA,aJP h.1,aNE hi h.2]
theorem aNF:∀ {L:List gQ} {i:Nat} {A:gQ},L[i]?=some A->nthA L i=A
 |[],_,_,h=>by simp at h
 |_::_,0,_,h=>by simpa [nthA] using h
 |_::l,i+1,_,h=>aNF (L:=l) (by simpa using h)
theorem aLW:∀ {L:List gQ} {i:Nat},L[i]?=none->nthA L i=trA
 |[],_,_=>rfl
 |_::_,0,h=>by simp at h
 |_::l,i+1,h=>aLW (L:=l) (by simpa using h)
theorem kS.tl:∀ {L:List gQ} {h:Hp},kS L h->kS L.tail h
 |[],_,s=>s
 |_::_,_,⟨_,_,_,_,_,l2,r⟩=>r.le l2
theorem kS.drp {L:List gQ} {h:Hp} (s:kS L h):∀ n:Nat,kS (drpA L n) h
 |0=>s
 |n+1=>(kS.drp s n).tl
theorem kS.sel:∀ {is:List Nat} {L:List gQ} {h:Hp} {n:Nat},arrB n is=true->kS L h->kS (selA L n is) h
 |[],_,_,n,_,s=>s.drp n
 |i::is,L,h,n,hb,s=>by
  simp only [arrB,Bool.and_eq_true,Nat.blt_eq,Bool.not_eq_true'] at hb
  cases hA:L[i]? with
  |none=>
   have:=kS.sel (is:=is) hb.2 s
   exact ⟨Hp.nil,h,by rw [aLW hA];exact trivial,Hp.nil_dj _,Hp.nil_le _,zR _,this⟩
  |some A=>
   obtain ⟨h1,h2,a,d,l1,l2,r⟩:=s.pick hA
   have hlt:i < L.length:=(List.getElem?_eq_some_iff.1 hA).1
   have r2:kS (L.set i trA) h2:=(kS.put (A:=trA) (h1:=Hp.nil) trivial (Hp.nil_dj _) r hlt).le (Hp.un_le (Hp.nil_le _) (zR _))
   have:=kS.sel (is:=is) hb.2 r2
   rw [aNE hb.1.1 hb.1.2] at this
   exact ⟨h1,h2,by rw [aNF hA];exact a,d,l1,l2,this⟩
theorem aI.arr {G:uK} {K:Hp} {L:List gQ} {w:World} (n:Nat) (is:List Nat) (s:aI G K L w) (hb:arrB n is=true):aI G K (selA L n is) w:=
 let ⟨e,h,gd,gl,d,k,l,r⟩:=s;⟨e,h,gd,gl,d,k,l,r.sel hb⟩
section
variable {α:Type} [Dp α]
def aHp (hd:Dp.Hd α) (x:α):Cells (Dp.sz1 α):=⟨Dp.enc hd x,Dp.len hd x,Dp.one hd x⟩
def dZ (hds:List (Dp.Hd α)) (xs:List α):List (Cells (Dp.sz1 α)):=List.zipWith aHp hds xs
def rY (tys:List TypeId) (hds:List (Dp.Hd α)) (xs:List α):List (List gQ):=List.zipWith (Dp.pcs tys) hds xs
def rows (tys:List TypeId) (hds:List (Dp.Hd α)) (xs:List α):gQ:=aI.many (rY tys hds xs).flatten
theorem jW {hds:List (Dp.Hd α)} {xs:List α} (h:hds.length=xs.length):(dZ hds xs).length=xs.length:=by simp [dZ,h]
theorem aHV {β γ δ:Type} (f:β->γ->δ):∀ {l:List β} {m:List γ} {j:Nat} {b:β} {c:γ},l[j]?=some b->m[j]?=some c->(List.zipWith f l m)[j]?=some (f b c):=by
 intro l m j b c h1 h2;simp only [List.getElem?_zipWith,h1,h2]
theorem aLX {β γ δ:Type} (f:β->γ->δ):∀ (l:List β) (m:List γ) (j:Nat),(List.zipWith f l m).eraseIdx j=List.zipWith f (l.eraseIdx j) (m.eraseIdx j)
 |[],[],j=>by simp
 |[],_::_,j=>by simp
 |_::_,[],j=>by simp
 |a::l,b::m,0=>by simp
 |a::l,b::m,j+1=>by simp [aLX f l m j]
theorem zip_set {β γ δ:Type} (f:β->γ->δ):∀ (l:List β) (m:List γ) (j:Nat) (b:β) (c:γ),(List.zipWith f l m).set j (f b c)=List.zipWith f (l.set j b) (m.set j c)
 |[],[],j,_,_=>by simp
 |[],_::_,j,_,_=>by simp
 |_::_,[],j,_,_=>by simp
 |a::l,b::m,0,_,_=>by simp
 |a::l,b::m,j+1,x,y=>by simp [zip_set f l m j x y]
theorem aEp {hds:List (Dp.Hd α)} {xs:List α} {j:Int} {hd:Dp.Hd α} {x:α} (h:hds.length=xs.length) (hj:ix xs j=some x) (hh:hds[j.toNat]?=some hd):ix (dZ hds xs) j=some (aHp hd x):=by
 obtain ⟨h0,h1,h2⟩:=aDy hj
 unfold ix;rw [if_pos h0];exact aHV aHp hh h2
namespace aI
variable {G:uK} {K:Hp} {L:List gQ} {w:World} {tys:List TypeId} {hds:List (Dp.Hd α)} {xs:List α}
theorem rowOut {i j:Nat} {hd:Dp.Hd α} {x:α} (s:aI G K L w) (hi:L[i]?=some (rows tys hds xs)) (hh:hds[j]?=some hd) (hx:xs[j]?=some x):
  aI G K (Dp.pcs tys hd x++rows tys (hds.eraseIdx j) (xs.eraseIdx j)::L.eraseIdx i) w:=by
 have s1:=s.pull hi
 have hp:∀ h,aI.many (rY tys hds xs).flatten h->aI.many (Dp.pcs tys hd x++(rY tys (hds.eraseIdx j) (xs.eraseIdx j)).flatten) h:=fun h a=>by
  have:=kS.nth (j:=j) a (aHV (Dp.pcs tys) hh hx)
  rw [rY,aLX] at this
  exact this
 have s2:=(s1.weak (i:=0) rfl hp).expand
 rw [List.append_assoc] at s2
 have s3:aI G K (many (rY tys (hds.eraseIdx j) (xs.eraseIdx j)).flatten::(Dp.pcs tys hd x++L.eraseIdx i)) w:=by
  refine aI.collect ?_
  obtain ⟨e,g,gd,gl,d,k,l,r⟩:=s2
  exact ⟨e,g,gd,gl,d,k,l,r.swap⟩
 obtain ⟨e,g,gd,gl,d,k,l,r⟩:=s3
 refine ⟨e,g,gd,gl,d,k,l,?_⟩
 exact kS.swap (A:=[many (rY tys (hds.eraseIdx j) (xs.eraseIdx j)).flatten]) r
theorem rowPush {hd:Dp.Hd α} {x:α} (s:aI G K (Dp.pcs tys hd x++rows tys hds xs::L) w) (hl:hds.length=xs.length):aI G K (rows tys (hds++[hd]) (xs++[x])::L) w:=by
 obtain ⟨e,g,gd,gl,d,k,l,r⟩:=s
 have r1:kS (rows tys hds xs::(Dp.pcs tys hd x++L)) g:=kS.swap (B:=[rows tys hds xs]) r
 have s2:aI G K ((rY tys hds xs).flatten++(Dp.pcs tys hd x++L)) w:=aI.expand ⟨e,g,gd,gl,d,k,l,r1⟩
 rw [←List.append_assoc] at s2
 have s3:=aI.collect s2
 refine s3.weak (i:=0) rfl (fun h a=>?_)
 have:(rY tys (hds++[hd]) (xs++[x])).flatten=(rY tys hds xs).flatten++Dp.pcs tys hd x:=by
  simp [rY,List.zipWith_append hl]
 show kS _ h
 rw [this];exact a
theorem rowsNil (s:aI G K L w):aI G K (rows tys ([]:List (Dp.Hd α)) ([]:List α)::L) w:=
 s.new (dQ.refl w) (h1:=Hp.nil) trivial (Hp.nil_le _) (Hp.nil_dj _)
end aI
end
instance (priority:=50) {β:Type} [gH β]:Dp (List β) where
 Hd:=Option Addr × Nat
 sz1:=0
 enc hd xs:=[.slice hd.1 xs.length hd.2]
 pcs tys hd xs:=[aN (tys.headD 0) Hp.nil hd.1 hd.2 xs]
 len _ _:=rfl
 one _ _ v h:=by simp at h;subst h;rfl
class DpEl (α:Type) [Dp α] [El α]:Prop where
 sz:El.sz α=Dp.sz1 α+1
 rd:∀ {tys:List TypeId} {hd:Dp.Hd α} {x:α} {h K:Hp},kS (Dp.pcs tys hd x) h->h.le K->El.rd K (Dp.enc hd x) x
instance {β:Type} [gH β]:DpEl (List β) where
 sz:=rfl
 rd:=fun {tys hd x h K} a hK=>by
  obtain ⟨h1,h2,a,_,l1,_,_⟩:=a
  exact ⟨hd.1,hd.2,rfl,aN.rd a (zL l1 hK) (Hp.nil_le _)⟩
theorem rd_row {β:Type} [gH β] {K:Hp} {hd:Dp.Hd (List β)} {x:List β} (h:El.rd K (Dp.enc hd x) x):bW K (Prod.fst hd) (Prod.snd hd) x:=by
 obtain ⟨a,c,e,r⟩:=h
 simp only [Dp.enc,List.cons.injEq,Value.slice.injEq,and_true] at e
 obtain ⟨rfl,-,rfl⟩:=e
 exact r
section
variable {α:Type} [Dp α] [El α] [DpEl α] {G:uK} {K:Hp} {L:List gQ} {w:World} {tys:List TypeId} {hds:List (Dp.Hd α)} {xs:List α}
theorem aKp {h K:Hp} (a:rows tys hds xs h) (hK:h.le K) {j:Nat} {hd:Dp.Hd α} {x:α} (hh:hds[j]?=some hd) (hx:xs[j]?=some x):El.rd K (Dp.enc hd x) x:=by
 have:=kS.nth (j:=j) a (aHV (Dp.pcs tys) hh hx)
 obtain ⟨h1,h2,_,l1,_,b,_⟩:=this.split
 exact DpEl.rd b (zL l1 hK)
theorem aI.lendD {E:TypeId} {Ke:Hp} {a:Option Addr} {cap:Nat} (s:aI G K (aN E Ke a cap (dZ hds xs)::rows tys hds xs::L) w) (hl:hds.length=xs.length):
  ∃ K',K.le K'/\bW K' a cap xs/\(∀ (j:Nat) (hd:Dp.Hd α) (x:α),hds[j]?=some hd->xs[j]?=some x->El.rd K' (Dp.enc hd x) x)/\aI G K' L w/\
   ∀ L' w',aI G K' L' w'->aI G K (aN E Ke a cap (dZ hds xs)::rows tys hds xs::L') w':=by
 obtain ⟨K1,h1,a1,l1,k1,s1,b1⟩:=s.lend (i:=0) rfl
 obtain ⟨K2,h2,a2,l2,k2,s2,b2⟩:=s1.lend (i:=0) rfl
 have hr:bW K2 a cap (dZ hds xs):=aN.rd (K:=Hp.nil) (show aN E Hp.nil a cap (dZ hds xs) h1 from a1) (zL l1 k2) (Hp.nil_le _)
 refine ⟨K2,zL k1 k2,⟨?_,?_,?_⟩,fun j hd x hh hx=>aKp a2 l2 hh hx,s2,fun L' w' t=>b1 _ _ (b2 _ _ t)⟩
 ·have:=hr.room;rwa [jW hl] at this
 ·intro e
  obtain ⟨e1,e2⟩:=hr.nil e
  refine ⟨?_,e2⟩
  have:=jW hl
  rw [e1] at this
  exact List.length_eq_zero_iff.1 this.symm
 ·intro i d e
  have hi:i < hds.length:=by rw [hl];exact (List.getElem?_eq_some_iff.1 e).1
  have hh:hds[i]?=some hds[i]:=by simp [hi]
  obtain ⟨cs,hc,hcs⟩:=hr.cell i _ (aHV aHp hh e)
  have hcs':cs=Dp.enc hds[i] d:=hcs
  subst hcs'
  refine ⟨_,?_,aKp a2 l2 hh e⟩
  rw [DpEl.sz]
  exact hc
end
theorem aMT {β γ:Type} {hds:List β} {xs:List γ} {j:Int} {x:γ} (hl:hds.length=xs.length) (hj:ix xs j=some x):∃ hd,hds[j.toNat]?=some hd:=by
 obtain ⟨h0,h1,h2⟩:=aDy hj
 exact ⟨_,List.getElem?_eq_getElem (by rw [hl];exact h1)⟩
theorem aJQ {γ:Type} {xs:List γ} {j:Int} {x:γ} (hj:ix xs j=some x):xs[j.toNat]?=some x:=(aDy hj).2.2
theorem aNG {β:Type} {l:List β} {j:Nat} {b:β} (h:l[j]?=some b):l.set j b=l:=by
 obtain ⟨h1,h2⟩:=List.getElem?_eq_some_iff.1 h
 rw [←h2];exact List.set_getElem_self h1
section
variable {α:Type} [Dp α] {G:uK} {K:Hp} {L:List gQ} {w:World} {tys:List TypeId} {hds:List (Dp.Hd α)} {xs:List α}
theorem heads_set {j:Nat} {hd:Dp.Hd α} {x:α}:dZ (hds.set j hd) (xs.set j x)=(dZ hds xs).set j (aHp hd x):=(zip_set aHp hds xs j hd x).symm
theorem st_heads {j:Int} {hd:Dp.Hd α} {x:α} {zz:List α} (hl:hds.length=xs.length) (hz:st xs j x=some zz):st (dZ hds xs) j (aHp hd x)=some (dZ (hds.set j.toNat hd) zz):=by
 obtain ⟨h0,h1,rfl⟩:=aKm hz
 rw [heads_set]
 unfold st
 rw [if_pos ⟨h0,by rw [jW hl];exact h1⟩]
end
section
variable {α:Type} [Dp α] {G:uK} {K:Hp} {L:List gQ} {w:World} {tys:List TypeId} {hds hds2:List (Dp.Hd α)} {xs ys:List α}
theorem aJr (hl:hds.length=xs.length):dZ (hds++hds2) (xs++ys)=dZ hds xs++dZ hds2 ys:=by
 simp [dZ,List.zipWith_append hl]
theorem app_len (hl:hds.length=xs.length) (hl2:hds2.length=ys.length) {zz:List α} (h:rE xs ys=some zz):(hds++hds2).length=zz.length:=by
 obtain ⟨_,rfl⟩:=aEk h
 simp [hl,hl2]
theorem apd_heads (hl:hds.length=xs.length) (hl2:hds2.length=ys.length) {zz:List α} (h:rE xs ys=some zz):rE (dZ hds xs) (dZ hds2 ys)=some (dZ (hds++hds2) zz):=by
 obtain ⟨h1,rfl⟩:=aEk h
 unfold rE
 rw [jW hl,jW hl2,if_pos h1,aJr hl]
theorem aI.rowsApp {i:Nat} {zz:List α} (s:aI G K (rows tys hds2 ys::L) w) (hi:L[i]?=some (rows tys hds xs)) (hl:hds.length=xs.length) (h:rE xs ys=some zz):aI G K (rows tys (hds++hds2) zz::L.eraseIdx i) w:=by
 obtain ⟨_,rfl⟩:=aEk h
 have s1:=aI.pull (i:=i+1) s (by simpa using hi)
 simp only [List.eraseIdx_cons_succ] at s1
 have s2:aI G K ((rY tys hds xs).flatten++(rows tys hds2 ys::L.eraseIdx i)) w:=aI.expand s1
 obtain ⟨e,g,gd,gl,d,k,l,r⟩:=s2
 have r2:kS ([rows tys hds2 ys]++((rY tys hds xs).flatten++L.eraseIdx i)) g:=kS.swap (B:=[rows tys hds2 ys]) r
 have s3:aI G K ((rY tys hds2 ys).flatten++((rY tys hds xs).flatten++L.eraseIdx i)) w:=aI.expand ⟨e,g,gd,gl,d,k,l,r2⟩
 obtain ⟨e,g,gd,gl,d,k,l,r⟩:=s3
 have r4:=r.swap
 rw [←List.append_assoc] at r4
 have s4:aI G K (many ((rY tys hds xs).flatten++(rY tys hds2 ys).flatten)::L.eraseIdx i) w:=aI.collect ⟨e,g,gd,gl,d,k,l,r4⟩
 have he:(rY tys (hds++hds2) (xs++ys)).flatten=(rY tys hds xs).flatten++(rY tys hds2 ys).flatten:=by
  simp [rY,List.zipWith_append hl]
 show aI G K (many _::_) w
 rw [he];exact s4
end
section
variable {G:uK} {K:Hp} {L:List gQ} {w:World}
end
end Gv
