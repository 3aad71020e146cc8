/- Blocks, numbered in the order of their first members. -/
import Derived.Test.YtcoeckcjdpbbkaaGreatDoorJP50
set_option linter.all false
namespace Gv
open Go
section
variable {κ:Type} [DecidableEq κ] [BEq κ] [LawfulBEq κ]
def dd (l:List κ):List κ:=l.foldl (insK id) []
def Ker {κ':Type} (l:List κ) (l':List κ'):Prop:=l.length=l'.length/\∀ i j:Nat,i < l.length->j < l.length->(l[i]?=l[j]?<->l'[i]?=l'[j]?)
end
section
variable {κ κ':Type} [DecidableEq κ] [BEq κ] [LawfulBEq κ] [DecidableEq κ'] [BEq κ'] [LawfulBEq κ']
theorem Ker.take {l:List κ} {l':List κ'} (h:Ker l l') (n:Nat):Ker (l.take n) (l'.take n):=by
 refine ⟨by rw [List.length_take,List.length_take,h.1],fun i j hi hj=>?_⟩
 rw [List.length_take] at hi hj
 rw [List.getElem?_take_of_lt (by omega),List.getElem?_take_of_lt (by omega),List.getElem?_take_of_lt (by omega),List.getElem?_take_of_lt (by omega)]
 exact h.2 i j (by omega) (by omega)
end
end Gv
namespace Gv
open Go
section
variable {κ:Type} [DecidableEq κ] [BEq κ] [LawfulBEq κ]
end
end Gv
namespace Gv
open Go
section
variable {d:aP}
end
end Gv
namespace Gv
open Go
section
variable {d:aP}
end
end Gv
namespace Gv
open Go
section
variable {d:aP} {p:List Int}
end
end Gv
namespace Gv
open Go
section
variable {d:aP} {p:List Int}
end
end Gv
namespace Gv
open Go
section
variable {t:aP}
theorem det_mk {L:List aH} {n:Nat} {ed:List Edge} (hL:pW L) (hn:1<=n/\n<=40) (h300:ed.length<=300) (ho:ed.Pairwise uE) (hall:∀ e∈ed,(0<=e.F/\e.F < n)/\(1<=e.B/\e.B<=L.tail.length)/\0<=e.To/\e.To < n):bB ⟨(n:Int),0,L,ed⟩:=by
 have h1:=hL.1
 have hpl:=List.pairwise_iff_getElem.1 ho
 refine ⟨⟨⟨by simp only;omega,by simp only;omega⟩,⟨by simp only;omega,by simp only;omega⟩,hL,h300,fun k hk=>⟨?_,fun h1=>?_⟩⟩,fun k hk=>⟨?_,fun h1=>?_⟩⟩
 ·have hk':k < ed.length:=hk
  show aAO ⟨(n:Int),0,L,ed⟩ ed[k]
  have:=hall _ (List.getElem_mem hk')
  rw [List.length_tail] at this
  unfold aAO
  simp only
  omega
 ·exact aOU (hpl (k - 1) k (by simp only at hk;omega) hk (by omega))
 ·have hk':k < ed.length:=hk
  show ed[k].B≠0
  have:=hall _ (List.getElem_mem hk')
  omega
 ·have hk':k < ed.length:=hk
  have:=hpl (k - 1) k (by omega) hk' (by omega)
  unfold uE at this
  show ¬ (ed[k].F=(ed[k - 1]'(by omega)).F/\ed[k].B=(ed[k - 1]'(by omega)).B)
  omega
variable {d:aP}
end
end Gv
