/- Slices whose elements own further slices ("deep"): an array of heads, and the rows. No program in sight. -/
import Derived.Test.YtmlgcbjkfcapaaaGreatDoorFJN
set_option linter.all false
namespace Gv
open Gv.Hp renaming le_trans→zL,le_refl→zR
open Go
structure Cells (n:Nat) where
 val:List Value
 len:val.length=n+1
 one:∀ v∈val,v.oneCell'=true
instance (n:Nat):gH (Cells n) where
 sz:=n+1
 enc c:=c.val
 len c:=c.len
 one c:=c.one
 pos:=Nat.succ_pos n
class Dp (α:Type) where
 Hd:Type
 sz1:Nat
 enc:Hd→α→List Value
 pcs:List TypeId→Hd→α→List oT
 len:∀ hd x,(enc hd x).length=sz1+1
 one:∀ hd x,∀ v∈enc hd x,v.oneCell'=true
def Hp.nil:Hp:=fun _=>none
theorem Hp.nil_dj (h:Hp):Hp.nil.dj h:=fun _=>.inl rfl
theorem Hp.nil_le (h:Hp):Hp.nil.le h:=fun _ _ e=>by cases e
theorem mF.app:∀ {A B:List oT} {h1 h2:Hp},mF A h1→mF B h2→h1.dj h2→mF (A++B) (h1.un h2)
 |[],_,_,_,_,b,d=>b.le (Hp.le_un_right d)
 |_::_,_,_,_,⟨g1,g2,a,dd,l1,l2,r⟩,b,d=>by
  have d2:=Hp.dj_mono d l2 (zR _)
  have d1:=Hp.dj_mono d l1 (zR _)
  refine ⟨g1,g2.un _,a,?_,zL l1 (Hp.le_un_left _ _),?_,mF.app r b d2⟩
  ·exact Hp.dj_symm (Hp.un_dj (Hp.dj_symm dd) (Hp.dj_symm d1))
  ·exact Hp.un_le (zL l2 (Hp.le_un_left _ _)) (Hp.le_un_right d)
theorem mF.split:∀ {A B:List oT} {h:Hp},mF (A++B) h→∃ h1 h2:Hp,h1.dj h2∧h1.le h∧h2.le h∧mF A h1∧mF B h2
 |[],_,h,b=>⟨Hp.nil,h,Hp.nil_dj _,Hp.nil_le _,zR _,trivial,b⟩
 |_::_,_,h,⟨g1,g2,a,dd,l1,l2,r⟩=>by
  obtain ⟨k1,k2,d,m1,m2,ra,rb⟩:=mF.split r
  refine ⟨g1.un k1,k2,?_,Hp.un_le l1 (zL m1 l2),zL m2 l2,?_,rb⟩
  ·exact Hp.un_dj (Hp.dj_mono dd (zR _) m2) d
  ·exact ⟨g1,k1,a,Hp.dj_mono dd (zR _) m1,Hp.le_un_left _ _,Hp.le_un_right (Hp.dj_mono dd (zR _) m1),ra⟩
theorem mF.swap {A B C:List oT} {h:Hp} (s:mF (A++(B++C)) h):mF (B++(A++C)) h:=by
 obtain ⟨h1,h2,d,l1,l2,a,r⟩:=s.split
 obtain ⟨h3,h4,d',l3,l4,b,c⟩:=r.split
 have d13:h1.dj h3:=Hp.dj_mono d (zR _) l3
 have d14:h1.dj h4:=Hp.dj_mono d (zR _) l4
 refine (mF.app b (mF.app a c d14) (Hp.dj_symm (Hp.un_dj d13 (Hp.dj_symm d')))).le ?_
 exact Hp.un_le (zL l3 l2) (Hp.un_le l1 (zL l4 l2))
namespace aK
variable {G:Env} {K:Hp} {L:List oT} {w:World}
def many (As:List oT):oT:=fun h=>mF As h
end aK
def trA:oT:=fun _=>True
def nthA:List oT→Nat→oT
 |[],_=>trA
 |a::_,0=>a
 |_::l,i+1=>nthA l i
def drpA (l:List oT):Nat→List oT
 |0=>l
 |n+1=>(drpA l n).tail
def selA (L:List oT) (n:Nat):List Nat→List oT
 |[]=>drpA L n
 |i::is=>nthA L i::selA L n is
def arrB (n:Nat):List Nat→Bool
 |[]=>true
 |i::is=>Nat.blt i n&&!is.contains i&&arrB n is
theorem aEK:∀ {L:List oT} {i j:Nat},i≠j→nthA (L.set i trA) j=nthA L j
 |[],_,_,_=>rfl
 |_::_,0,0,h=>absurd rfl h
 |_::_,0,_+1,_=>rfl
 |_::_,_+1,0,_=>rfl
 |_::l,i+1,j+1,h=>aEK (L:=l) (by omega)
theorem aHM (l:List oT):∀ n,drpA l n=l.drop n
 |0=>rfl
 |n+1=>by rw [drpA,aHM l n,List.tail_drop]
theorem drpA_set {L:List oT} {i n:Nat} (h:i < n):drpA (L.set i trA) n=drpA L n:=by
 rw [aHM,aHM,List.drop_set_of_lt h]
theorem aIF {L:List oT} {i n:Nat} (hi:i < n):∀ {is:List Nat},is.contains i=false→selA (L.set i trA) n is=selA L n is
 |[],_=>drpA_set hi
 |j::is,h=>by
  simp only [List.contains_cons,Bool.or_eq_false_iff,beq_eq_false_iff_ne] at h
  simp only [selA,aEK h.1,aIF hi h.2]
theorem aIG:∀ {L:List oT} {i:Nat} {A:oT},L[i]?=some A→nthA L i=A
 |[],_,_,h=>by simp at h
 |_::_,0,_,h=>by simpa [nthA] using h
 |_::l,i+1,_,h=>aIG (L:=l) (by simpa using h)
theorem aHe:∀ {L:List oT} {i:Nat},L[i]?=none→nthA L i=trA
 |[],_,_=>rfl
 |_::_,0,h=>by simp at h
 |_::l,i+1,h=>aHe (L:=l) (by simpa using h)
theorem mF.tl:∀ {L:List oT} {h:Hp},mF L h→mF L.tail h
 |[],_,s=>s
 |_::_,_,⟨_,_,_,_,_,l2,r⟩=>r.le l2
theorem mF.drp {L:List oT} {h:Hp} (s:mF L h):∀ n:Nat,mF (drpA L n) h
 |0=>s
 |n+1=>(mF.drp s n).tl
theorem mF.sel:∀ {is:List Nat} {L:List oT} {h:Hp} {n:Nat},arrB n is=true→mF L h→mF (selA L n is) h
 |[],_,_,n,_,s=>s.drp n
 |i::is,L,h,n,hb,s=>by
  simp only [arrB,Bool.and_eq_true,Nat.blt_eq,Bool.not_eq_true'] at hb
  cases hA:L[i]? with
  |none=>
   have:=mF.sel (is:=is) hb.2 s
   exact ⟨Hp.nil,h,by rw [aHe hA];exact trivial,Hp.nil_dj _,Hp.nil_le _,zR _,this⟩
  |some A=>
   obtain ⟨h1,h2,a,d,l1,l2,r⟩:=s.pick hA
   have hlt:i < L.length:=(List.getElem?_eq_some_iff.1 hA).1
   have r2:mF (L.set i trA) h2:=(mF.put (A:=trA) (h1:=Hp.nil) trivial (Hp.nil_dj _) r hlt).le (Hp.un_le (Hp.nil_le _) (zR _))
   have:=mF.sel (is:=is) hb.2 r2
   rw [aIF hb.1.1 hb.1.2] at this
   exact ⟨h1,h2,by rw [aIG hA];exact a,d,l1,l2,this⟩
theorem aK.arr {G:Env} {K:Hp} {L:List oT} {w:World} (n:Nat) (is:List Nat) (s:aK G K L w) (hb:arrB n is=true):aK G K (selA L n is) w:=
 let ⟨e,h,gd,gl,d,k,l,r⟩:=s;⟨e,h,gd,gl,d,k,l,r.sel hb⟩
section
variable {α:Type} [Dp α]
def pieces (tys:List TypeId) (hds:List (Dp.Hd α)) (xs:List α):List (List oT):=List.zipWith (Dp.pcs tys) hds xs
def rows (tys:List TypeId) (hds:List (Dp.Hd α)) (xs:List α):oT:=aK.many (pieces tys hds xs).flatten
namespace aK
variable {G:Env} {K:Hp} {L:List oT} {w:World} {tys:List TypeId} {hds:List (Dp.Hd α)} {xs:List α}
end aK
end
instance (priority:=50) {β:Type} [gH β]:Dp (List β) where
 Hd:=Option Addr × Nat
 sz1:=0
 enc hd xs:=[.slice hd.1 xs.length hd.2]
 pcs tys hd xs:=[aV (tys.headD 0) Hp.nil hd.1 hd.2 xs]
 len _ _:=rfl
 one _ _ v h:=by simp at h;subst h;rfl
class DpEl (α:Type) [Dp α] [El α]:Prop where
 sz:El.sz α=Dp.sz1 α+1
 rd:∀ {tys:List TypeId} {hd:Dp.Hd α} {x:α} {h K:Hp},mF (Dp.pcs tys hd x) h→h.le K→El.rd K (Dp.enc hd x) x
instance {β:Type} [gH β]:DpEl (List β) where
 sz:=rfl
 rd:=fun {tys hd x h K} a hK=>by
  obtain ⟨h1,h2,a,_,l1,_,_⟩:=a
  exact ⟨hd.1,hd.2,rfl,aV.rd a (zL l1 hK) (Hp.nil_le _)⟩
section
variable {α:Type} [Dp α] [El α] [DpEl α] {G:Env} {K:Hp} {L:List oT} {w:World} {tys:List TypeId} {hds:List (Dp.Hd α)} {xs:List α}
end
theorem aIH {β:Type} {l:List β} {j:Nat} {b:β} (h:l[j]?=some b):l.set j b=l:=by
 obtain ⟨h1,h2⟩:=List.getElem?_eq_some_iff.1 h
 rw [←h2];exact List.set_getElem_self h1
section
variable {α:Type} [Dp α] {G:Env} {K:Hp} {L:List oT} {w:World} {tys:List TypeId} {hds:List (Dp.Hd α)} {xs:List α}
end
section
variable {α:Type} [Dp α] {G:Env} {K:Hp} {L:List oT} {w:World} {tys:List TypeId} {hds hds2:List (Dp.Hd α)} {xs ys:List α}
end
section
variable {G:Env} {K:Hp} {L:List oT} {w:World}
end
end Gv
