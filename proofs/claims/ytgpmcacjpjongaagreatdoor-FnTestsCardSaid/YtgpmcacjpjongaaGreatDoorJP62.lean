/- Blocks, numbered in the order of their first members. -/
import Derived.Test.YtgpmcacjpjongaaGreatDoorJP50
set_option linter.all false
namespace Gv
open Go
section
variable {κ:Type} [DecidableEq κ] [BEq κ] [LawfulBEq κ]
def dd (l:List κ):List κ:=l.foldl (aDq id) []
def cn (l:List κ):List Int:=l.map (pos (dd l))
def Ker {κ':Type} (l:List κ) (l':List κ'):Prop:=l.length=l'.length/\∀ i j:Nat,i < l.length->j < l.length->(l[i]?=l[j]?<->l'[i]?=l'[j]?)
end
section
variable {κ κ':Type} [DecidableEq κ] [BEq κ] [LawfulBEq κ] [DecidableEq κ'] [BEq κ'] [LawfulBEq κ']
theorem Ker.take {l:List κ} {l':List κ'} (h:Ker l l') (n:Nat):Ker (l.take n) (l'.take n):=by
 refine ⟨by rw [List.length_take,List.length_take,h.1],fun i j hi hj=>?_⟩
 rw [List.length_take] at hi hj
 rw [List.getElem?_take_of_lt (by omega),List.getElem?_take_of_lt (by omega),List.getElem?_take_of_lt (by omega),List.getElem?_take_of_lt (by omega)]
 exact h.2 i j (by omega) (by omega)
end
end Gv
namespace Gv
open Go
section
variable {κ:Type} [DecidableEq κ] [BEq κ] [LawfulBEq κ]
end
end Gv
namespace Gv
open Go
section
variable {d:bF}
end
end Gv
namespace Gv
open Go
section
variable {d:bF}
end
end Gv
namespace Gv
open Go
section
variable {d:bF} {p:List Int}
end
end Gv
namespace Gv
open Go
section
variable {d:bF} {p:List Int}
end
end Gv
namespace Gv
open Go
section
variable {t:bF}
theorem det_mk {L:List aF} {n:Nat} {ed:List Edge} (hL:qW L) (hn:1<=n/\n<=40) (h300:ed.length<=300) (ho:ed.Pairwise aCa) (hall:∀ e∈ed,(0<=e.F/\e.F < n)/\(1<=e.B/\e.B<=L.tail.length)/\0<=e.To/\e.To < n):aBo ⟨(n:Int),0,L,ed⟩:=by
 have h1:=hL.1
 have hpl:=List.pairwise_iff_getElem.1 ho
 refine ⟨⟨⟨by simp only;omega,by simp only;omega⟩,⟨by simp only;omega,by simp only;omega⟩,hL,h300,fun k hk=>⟨?_,fun h1=>?_⟩⟩,fun k hk=>⟨?_,fun h1=>?_⟩⟩
 ·have hk':k < ed.length:=hk
  show sE ⟨(n:Int),0,L,ed⟩ ed[k]
  have:=hall _ (List.getElem_mem hk')
  rw [List.length_tail] at this
  unfold sE
  simp only
  omega
 ·exact aGA (hpl (k - 1) k (by simp only at hk;omega) hk (by omega))
 ·have hk':k < ed.length:=hk
  show ed[k].B≠0
  have:=hall _ (List.getElem_mem hk')
  omega
 ·have hk':k < ed.length:=hk
  have:=hpl (k - 1) k (by omega) hk' (by omega)
  unfold aCa at this
  show ¬ (ed[k].F=(ed[k - 1]'(by omega)).F/\ed[k].B=(ed[k - 1]'(by omega)).B)
  omega
theorem aJz (hv:bM t) (hs:Small (eA t)):aBo ⟨((eA t).1.length:Int),0,t.L,(eA t).2⟩:=by
 obtain ⟨d1,d2,d3,d4,d5⟩:=aFi hv
 exact det_mk hv.2.2.1 ⟨d5,hs.1⟩ hs.2 d3 d4
variable {d:bF}
end
end Gv
