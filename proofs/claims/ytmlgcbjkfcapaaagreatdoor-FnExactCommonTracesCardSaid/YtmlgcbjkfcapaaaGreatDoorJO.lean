/- Slices whose elements own further slices ("deep"): an array of heads, and the rows. No program in sight. -/
import Derived.Test.YtmlgcbjkfcapaaaGreatDoorJN
set_option linter.all false
namespace Gv
open Gv.Hp renaming le_trans→zL,le_refl→zR
open Go
structure Cells (n:Nat) where
 val:List Value
 len:val.length=n+1
 one:∀ v∈val,v.oneCell'=true
instance (n:Nat):gH (Cells n) where
 sz:=n+1
 enc c:=c.val
 len c:=c.len
 one c:=c.one
 pos:=Nat.succ_pos n
class Dp (α:Type) where
 Hd:Type
 sz1:Nat
 enc:Hd→α→List Value
 pcs:List TypeId→Hd→α→List pH
 len:∀ hd x,(enc hd x).length=sz1+1
 one:∀ hd x,∀ v∈enc hd x,v.oneCell'=true
def Hp.nil:Hp:=fun _=>none
theorem Hp.nil_dj (h:Hp):Hp.nil.dj h:=fun _=>.inl rfl
theorem Hp.nil_le (h:Hp):Hp.nil.le h:=fun _ _ e=>by cases e
theorem kM.app:∀ {A B:List pH} {h1 h2:Hp},kM A h1→kM B h2→h1.dj h2→kM (A++B) (h1.un h2)
 |[],_,_,_,_,b,d=>b.le (Hp.le_un_right d)
 |_::_,_,_,_,⟨g1,g2,a,dd,l1,l2,r⟩,b,d=>by
  have d2:=Hp.dj_mono d l2 (zR _)
  have d1:=Hp.dj_mono d l1 (zR _)
  refine ⟨g1,g2.un _,a,?_,zL l1 (Hp.le_un_left _ _),?_,kM.app r b d2⟩
  ·exact Hp.dj_symm (Hp.un_dj (Hp.dj_symm dd) (Hp.dj_symm d1))
  ·exact Hp.un_le (zL l2 (Hp.le_un_left _ _)) (Hp.le_un_right d)
theorem kM.split:∀ {A B:List pH} {h:Hp},kM (A++B) h→∃ h1 h2:Hp,h1.dj h2∧h1.le h∧h2.le h∧kM A h1∧kM B h2
 |[],_,h,b=>⟨Hp.nil,h,Hp.nil_dj _,Hp.nil_le _,zR _,trivial,b⟩
 |_::_,_,h,⟨g1,g2,a,dd,l1,l2,r⟩=>by
  obtain ⟨k1,k2,d,m1,m2,ra,rb⟩:=kM.split r
  refine ⟨g1.un k1,k2,?_,Hp.un_le l1 (zL m1 l2),zL m2 l2,?_,rb⟩
  ·exact Hp.un_dj (Hp.dj_mono dd (zR _) m2) d
  ·exact ⟨g1,k1,a,Hp.dj_mono dd (zR _) m1,Hp.le_un_left _ _,Hp.le_un_right (Hp.dj_mono dd (zR _) m1),ra⟩
theorem kM.swap {A B C:List pH} {h:Hp} (s:kM (A++(B++C)) h):kM (B++(A++C)) h:=by
 obtain ⟨h1,h2,d,l1,l2,a,r⟩:=s.split
 obtain ⟨h3,h4,d',l3,l4,b,c⟩:=r.split
 have d13:h1.dj h3:=Hp.dj_mono d (zR _) l3
 have d14:h1.dj h4:=Hp.dj_mono d (zR _) l4
 refine (kM.app b (kM.app a c d14) (Hp.dj_symm (Hp.un_dj d13 (Hp.dj_symm d')))).le ?_
 exact Hp.un_le (zL l3 l2) (Hp.un_le l1 (zL l4 l2))
theorem aIv {β:Type} {ls:List (List β)} {j:Nat} {l:List β} (e:ls[j]?=some l):ls.flatten=(ls.take j).flatten++(l++(ls.drop (j+1)).flatten)∧(ls.eraseIdx j).flatten=(ls.take j).flatten++(ls.drop (j+1)).flatten:=by
 have hj:j < ls.length:=(List.getElem?_eq_some_iff.1 e).1
 have he:ls[j]=l:=(List.getElem?_eq_some_iff.1 e).2
 constructor
 ·conv=>lhs;rw [←List.take_append_drop j ls,List.drop_eq_getElem_cons hj,he]
  simp
 ·rw [List.eraseIdx_eq_take_drop_succ];simp
theorem kM.nth {ls:List (List pH)} {j:Nat} {l:List pH} {h:Hp} (s:kM ls.flatten h) (e:ls[j]?=some l):kM (l++(ls.eraseIdx j).flatten) h:=by
 obtain ⟨e1,e2⟩:=aIv e
 rw [e1] at s;rw [e2]
 exact s.swap
namespace aK
variable {G:Env} {K:Hp} {L:List pH} {w:World}
def many (As:List pH):pH:=fun h=>kM As h
theorem expand {As:List pH} (s:aK G K (many As::L) w):aK G K (As++L) w:=by
 obtain ⟨e,g,gd,gl,d,k,l,h1,h2,a,dd,l1,l2,r⟩:=s
 have:=kM.app a r dd
 exact ⟨e,_,Hp.dj_mono gd (zR _) (Hp.un_le l1 l2),gl,Hp.dj_mono d (zR _) (Hp.un_le l1 l2),k,zL (Hp.un_le l1 l2) l,this⟩
theorem collect {As:List pH} (s:aK G K (As++L) w):aK G K (many As::L) w:=by
 obtain ⟨e,g,gd,gl,d,k,l,r⟩:=s
 obtain ⟨h1,h2,dd,l1,l2,a,b⟩:=r.split
 exact ⟨e,g,gd,gl,d,k,l,h1,h2,a,dd,l1,l2,b⟩
end aK
def trA:pH:=fun _=>True
def nthA:List pH→Nat→pH
 |[],_=>trA
 |a::_,0=>a
 |_::l,i+1=>nthA l i
def drpA (l:List pH):Nat→List pH
 |0=>l
 |n+1=>(drpA l n).tail
def selA (L:List pH) (n:Nat):List Nat→List pH
 |[]=>drpA L n
 |i::is=>nthA L i::selA L n is
def arrB (n:Nat):List Nat→Bool
 |[]=>true
 |i::is=>Nat.blt i n&&!is.contains i&&arrB n is
theorem aGc:∀ {L:List pH} {i j:Nat},i≠j→nthA (L.set i trA) j=nthA L j
 |[],_,_,_=>rfl
 |_::_,0,0,h=>absurd rfl h
 |_::_,0,_+1,_=>rfl
 |_::_,_+1,0,_=>rfl
 |_::l,i+1,j+1,h=>aGc (L:=l) (by omega)
theorem aJy (l:List pH):∀ n,drpA l n=l.drop n
 |0=>rfl
 |n+1=>by rw [drpA,aJy l n,List.tail_drop]
theorem drpA_set {L:List pH} {i n:Nat} (h:i < n):drpA (L.set i trA) n=drpA L n:=by
 rw [aJy,aJy,List.drop_set_of_lt h]
theorem aKx {L:List pH} {i n:Nat} (hi:i < n):∀ {is:List Nat},is.contains i=false→selA (L.set i trA) n is=selA L n is
 |[],_=>drpA_set hi
 |j::is,h=>by
  simp only [List.contains_cons,Bool.or_eq_false_iff,beq_eq_false_iff_ne] at h
  simp only [selA,aGc h.1,aKx hi h.2]
theorem aKy:∀ {L:List pH} {i:Nat} {A:pH},L[i]?=some A→nthA L i=A
 |[],_,_,h=>by simp at h
 |_::_,0,_,h=>by simpa [nthA] using h
 |_::l,i+1,_,h=>aKy (L:=l) (by simpa using h)
theorem aIP:∀ {L:List pH} {i:Nat},L[i]?=none→nthA L i=trA
 |[],_,_=>rfl
 |_::_,0,h=>by simp at h
 |_::l,i+1,h=>aIP (L:=l) (by simpa using h)
theorem kM.tl:∀ {L:List pH} {h:Hp},kM L h→kM L.tail h
 |[],_,s=>s
 |_::_,_,⟨_,_,_,_,_,l2,r⟩=>r.le l2
theorem kM.drp {L:List pH} {h:Hp} (s:kM L h):∀ n:Nat,kM (drpA L n) h
 |0=>s
 |n+1=>(kM.drp s n).tl
theorem kM.sel:∀ {is:List Nat} {L:List pH} {h:Hp} {n:Nat},arrB n is=true→kM L h→kM (selA L n is) h
 |[],_,_,n,_,s=>s.drp n
 |i::is,L,h,n,hb,s=>by
  simp only [arrB,Bool.and_eq_true,Nat.blt_eq,Bool.not_eq_true'] at hb
  cases hA:L[i]? with
  |none=>
   have:=kM.sel (is:=is) hb.2 s
   exact ⟨Hp.nil,h,by rw [aIP hA];exact trivial,Hp.nil_dj _,Hp.nil_le _,zR _,this⟩
  |some A=>
   obtain ⟨h1,h2,a,d,l1,l2,r⟩:=s.pick hA
   have hlt:i < L.length:=(List.getElem?_eq_some_iff.1 hA).1
   have r2:kM (L.set i trA) h2:=(kM.put (A:=trA) (h1:=Hp.nil) trivial (Hp.nil_dj _) r hlt).le (Hp.un_le (Hp.nil_le _) (zR _))
   have:=kM.sel (is:=is) hb.2 r2
   rw [aKx hb.1.1 hb.1.2] at this
   exact ⟨h1,h2,by rw [aKy hA];exact a,d,l1,l2,this⟩
theorem aK.arr {G:Env} {K:Hp} {L:List pH} {w:World} (n:Nat) (is:List Nat) (s:aK G K L w) (hb:arrB n is=true):aK G K (selA L n is) w:=
 let ⟨e,h,gd,gl,d,k,l,r⟩:=s;⟨e,h,gd,gl,d,k,l,r.sel hb⟩
section
variable {α:Type} [Dp α]
def headC (hd:Dp.Hd α) (x:α):Cells (Dp.sz1 α):=⟨Dp.enc hd x,Dp.len hd x,Dp.one hd x⟩
def dK (hds:List (Dp.Hd α)) (xs:List α):List (Cells (Dp.sz1 α)):=List.zipWith headC hds xs
def vH (tys:List TypeId) (hds:List (Dp.Hd α)) (xs:List α):List (List pH):=List.zipWith (Dp.pcs tys) hds xs
def rows (tys:List TypeId) (hds:List (Dp.Hd α)) (xs:List α):pH:=aK.many (vH tys hds xs).flatten
theorem xY {hds:List (Dp.Hd α)} {xs:List α} (h:hds.length=xs.length):(dK hds xs).length=xs.length:=by simp [dK,h]
theorem aJz {β γ δ:Type} (f:β→γ→δ):∀ {l:List β} {m:List γ} {j:Nat} {b:β} {c:γ},l[j]?=some b→m[j]?=some c→(List.zipWith f l m)[j]?=some (f b c):=by
 intro l m j b c h1 h2;simp only [List.getElem?_zipWith,h1,h2]
theorem aGU {hds:List (Dp.Hd α)} {xs:List α} {j:Int} {hd:Dp.Hd α} {x:α} (h:hds.length=xs.length) (hj:ix xs j=some x) (hh:hds[j.toNat]?=some hd):ix (dK hds xs) j=some (headC hd x):=by
 obtain ⟨h0,h1,h2⟩:=aBI hj
 unfold ix;rw [if_pos h0];exact aJz headC hh h2
namespace aK
variable {G:Env} {K:Hp} {L:List pH} {w:World} {tys:List TypeId} {hds:List (Dp.Hd α)} {xs:List α}
theorem rowPush {hd:Dp.Hd α} {x:α} (s:aK G K (Dp.pcs tys hd x++rows tys hds xs::L) w) (hl:hds.length=xs.length):aK G K (rows tys (hds++[hd]) (xs++[x])::L) w:=by
 obtain ⟨e,g,gd,gl,d,k,l,r⟩:=s
 have r1:kM (rows tys hds xs::(Dp.pcs tys hd x++L)) g:=kM.swap (B:=[rows tys hds xs]) r
 have s2:aK G K ((vH tys hds xs).flatten++(Dp.pcs tys hd x++L)) w:=aK.expand ⟨e,g,gd,gl,d,k,l,r1⟩
 rw [←List.append_assoc] at s2
 have s3:=aK.collect s2
 refine s3.weak (i:=0) rfl (fun h a=>?_)
 have:(vH tys (hds++[hd]) (xs++[x])).flatten=(vH tys hds xs).flatten++Dp.pcs tys hd x:=by
  simp [vH,List.zipWith_append hl]
 show kM _ h
 rw [this];exact a
theorem rowsNil (s:aK G K L w):aK G K (rows tys ([]:List (Dp.Hd α)) ([]:List α)::L) w:=
 s.new (dQ.refl w) (h1:=Hp.nil) trivial (Hp.nil_le _) (Hp.nil_dj _)
end aK
end
instance (priority:=50) {β:Type} [gH β]:Dp (List β) where
 Hd:=Option Addr × Nat
 sz1:=0
 enc hd xs:=[.slice hd.1 xs.length hd.2]
 pcs tys hd xs:=[aN (tys.headD 0) Hp.nil hd.1 hd.2 xs]
 len _ _:=rfl
 one _ _ v h:=by simp at h;subst h;rfl
class DpEl (α:Type) [Dp α] [El α]:Prop where
 sz:El.sz α=Dp.sz1 α+1
 rd:∀ {tys:List TypeId} {hd:Dp.Hd α} {x:α} {h K:Hp},kM (Dp.pcs tys hd x) h→h.le K→El.rd K (Dp.enc hd x) x
instance {β:Type} [gH β]:DpEl (List β) where
 sz:=rfl
 rd:=fun {tys hd x h K} a hK=>by
  obtain ⟨h1,h2,a,_,l1,_,_⟩:=a
  exact ⟨hd.1,hd.2,rfl,aN.rd a (zL l1 hK) (Hp.nil_le _)⟩
theorem rd_row {β:Type} [gH β] {K:Hp} {hd:Dp.Hd (List β)} {x:List β} (h:El.rd K (Dp.enc hd x) x):dB K (Prod.fst hd) (Prod.snd hd) x:=by
 obtain ⟨a,c,e,r⟩:=h
 simp only [Dp.enc,List.cons.injEq,Value.slice.injEq,and_true] at e
 obtain ⟨rfl,-,rfl⟩:=e
 exact r
section
variable {α:Type} [Dp α] [El α] [DpEl α] {G:Env} {K:Hp} {L:List pH} {w:World} {tys:List TypeId} {hds:List (Dp.Hd α)} {xs:List α}
theorem rows_rd {h K:Hp} (a:rows tys hds xs h) (hK:h.le K) {j:Nat} {hd:Dp.Hd α} {x:α} (hh:hds[j]?=some hd) (hx:xs[j]?=some x):El.rd K (Dp.enc hd x) x:=by
 have:=kM.nth (j:=j) a (aJz (Dp.pcs tys) hh hx)
 obtain ⟨h1,h2,_,l1,_,b,_⟩:=this.split
 exact DpEl.rd b (zL l1 hK)
theorem aK.lendD {E:TypeId} {Ke:Hp} {a:Option Addr} {cap:Nat} (s:aK G K (aN E Ke a cap (dK hds xs)::rows tys hds xs::L) w) (hl:hds.length=xs.length):
  ∃ K',K.le K'∧dB K' a cap xs∧(∀ (j:Nat) (hd:Dp.Hd α) (x:α),hds[j]?=some hd→xs[j]?=some x→El.rd K' (Dp.enc hd x) x)∧aK G K' L w∧
   ∀ L' w',aK G K' L' w'→aK G K (aN E Ke a cap (dK hds xs)::rows tys hds xs::L') w':=by
 obtain ⟨K1,h1,a1,l1,k1,s1,b1⟩:=s.lend (i:=0) rfl
 obtain ⟨K2,h2,a2,l2,k2,s2,b2⟩:=s1.lend (i:=0) rfl
 have hr:dB K2 a cap (dK hds xs):=aN.rd (K:=Hp.nil) (show aN E Hp.nil a cap (dK hds xs) h1 from a1) (zL l1 k2) (Hp.nil_le _)
 refine ⟨K2,zL k1 k2,⟨?_,?_,?_⟩,fun j hd x hh hx=>rows_rd a2 l2 hh hx,s2,fun L' w' t=>b1 _ _ (b2 _ _ t)⟩
 ·have:=hr.room;rwa [xY hl] at this
 ·intro e
  obtain ⟨e1,e2⟩:=hr.nil e
  refine ⟨?_,e2⟩
  have:=xY hl
  rw [e1] at this
  exact List.length_eq_zero_iff.1 this.symm
 ·intro i d e
  have hi:i < hds.length:=by rw [hl];exact (List.getElem?_eq_some_iff.1 e).1
  have hh:hds[i]?=some hds[i]:=by simp [hi]
  obtain ⟨cs,hc,hcs⟩:=hr.cell i _ (aJz headC hh e)
  have hcs':cs=Dp.enc hds[i] d:=hcs
  subst hcs'
  refine ⟨_,?_,rows_rd a2 l2 hh e⟩
  rw [DpEl.sz]
  exact hc
end
theorem get_hd {β γ:Type} {hds:List β} {xs:List γ} {j:Int} {x:γ} (hl:hds.length=xs.length) (hj:ix xs j=some x):∃ hd,hds[j.toNat]?=some hd:=by
 obtain ⟨h0,h1,h2⟩:=aBI hj
 exact ⟨_,List.getElem?_eq_getElem (by rw [hl];exact h1)⟩
theorem ix_at {γ:Type} {xs:List γ} {j:Int} {x:γ} (hj:ix xs j=some x):xs[j.toNat]?=some x:=(aBI hj).2.2
theorem set_self {β:Type} {l:List β} {j:Nat} {b:β} (h:l[j]?=some b):l.set j b=l:=by
 obtain ⟨h1,h2⟩:=List.getElem?_eq_some_iff.1 h
 rw [←h2];exact List.set_getElem_self h1
section
variable {α:Type} [Dp α] {G:Env} {K:Hp} {L:List pH} {w:World} {tys:List TypeId} {hds:List (Dp.Hd α)} {xs:List α}
end
section
variable {α:Type} [Dp α] {G:Env} {K:Hp} {L:List pH} {w:World} {tys:List TypeId} {hds hds2:List (Dp.Hd α)} {xs ys:List α}
theorem heads_app (hl:hds.length=xs.length):dK (hds++hds2) (xs++ys)=dK hds xs++dK hds2 ys:=by
 simp [dK,List.zipWith_append hl]
theorem aJA (hl:hds.length=xs.length) (hl2:hds2.length=ys.length) {zz:List α} (h:tK xs ys=some zz):(hds++hds2).length=zz.length:=by
 obtain ⟨_,rfl⟩:=aDi h
 simp [hl,hl2]
theorem apd_heads (hl:hds.length=xs.length) (hl2:hds2.length=ys.length) {zz:List α} (h:tK xs ys=some zz):tK (dK hds xs) (dK hds2 ys)=some (dK (hds++hds2) zz):=by
 obtain ⟨h1,rfl⟩:=aDi h
 unfold tK
 rw [xY hl,xY hl2,if_pos h1,heads_app hl]
theorem aK.rowsApp {i:Nat} {zz:List α} (s:aK G K (rows tys hds2 ys::L) w) (hi:L[i]?=some (rows tys hds xs)) (hl:hds.length=xs.length) (h:tK xs ys=some zz):aK G K (rows tys (hds++hds2) zz::L.eraseIdx i) w:=by
 obtain ⟨_,rfl⟩:=aDi h
 have s1:=aK.pull (i:=i+1) s (by simpa using hi)
 simp only [List.eraseIdx_cons_succ] at s1
 have s2:aK G K ((vH tys hds xs).flatten++(rows tys hds2 ys::L.eraseIdx i)) w:=aK.expand s1
 obtain ⟨e,g,gd,gl,d,k,l,r⟩:=s2
 have r2:kM ([rows tys hds2 ys]++((vH tys hds xs).flatten++L.eraseIdx i)) g:=kM.swap (B:=[rows tys hds2 ys]) r
 have s3:aK G K ((vH tys hds2 ys).flatten++((vH tys hds xs).flatten++L.eraseIdx i)) w:=aK.expand ⟨e,g,gd,gl,d,k,l,r2⟩
 obtain ⟨e,g,gd,gl,d,k,l,r⟩:=s3
 have r4:=r.swap
 rw [←List.append_assoc] at r4
 have s4:aK G K (many ((vH tys hds xs).flatten++(vH tys hds2 ys).flatten)::L.eraseIdx i) w:=aK.collect ⟨e,g,gd,gl,d,k,l,r4⟩
 have he:(vH tys (hds++hds2) (xs++ys)).flatten=(vH tys hds xs).flatten++(vH tys hds2 ys).flatten:=by
  simp [vH,List.zipWith_append hl]
 show aK G K (many _::_) w
 rw [he];exact s4
end
section
variable {G:Env} {K:Hp} {L:List pH} {w:World}
end
end Gv
