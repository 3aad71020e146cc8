/- What a node of a modal formula selects. -/
import Derived.Test.YthmfdhgeglgpbaaGreatDoorJP90
set_option linter.all false
set_option linter.unusedVariables false
set_option linter.unusedSimpArgs false
namespace Gv
open Go
theorem wW (s:aJ) (c0:UInt8) (h:s.length < 1000000000):jA s [c0]=some (if (s.getLast? == some c0)=true then (s.dropLast,true) else (s,false)):=by
 unfold jA kP dS
 rcases List.eq_nil_or_concat s with rfl|⟨l,c,rfl⟩
 ·rfl
 ·have hl:(l.concat c).length=l.length+1:=by simp
  have w:wr (((l.concat c).length:Int) - (([c0]:aJ).length:Int))=(l.length:Int):=by
   rw [hl] at h ⊢
   show wr (((l.length+1:Nat):Int) - 1)=_
   rw [bT (by omega) (by omega)];omega
  have s1:slc (l.concat c) (l.length:Int) ((l.concat c).length:Int)=some [c]:=by
   unfold slc;rw [if_pos ⟨by omega,by omega,by simp⟩];simp
  have s2:slc (l.concat c) 0 (l.length:Int)=some l:=by
   unfold slc;rw [if_pos ⟨by omega,by omega,by simp⟩];simp
  rw [if_pos (by simp;omega),w,s1,aA,eH,aA]
  have hg:(l.concat c).getLast?=some c:=by simp
  have hd:(l.concat c).dropLast=l:=by simp
  rw [hg,hd]
  by_cases hc:c=c0
  ·subst hc
   rw [s2];simp
  ·have hc':¬ ([c]:aJ)=[c0]:=fun e=>hc (by simpa using e)
   simp [hc]
theorem rdI_name {s nm:aJ} {vs:List Int} (h:s.length < 1000000000) (e:vD s=some (nm,vs,true)):nm=(iQ 40 s).1:=by
 have j2:∀ r1 v,mQ s r1 v=some (nm,vs,true)->nm=r1.1:=fun r1 v e=>by
  have j1:∀ b,pA r1 v b=some (nm,vs,true)->nm=r1.1:=fun b e=>by
   unfold pA at e
   split at e
   ·simp at e
   ·simp at e;exact e.1.symm
  unfold mQ at e
  obtain ⟨r,_,e⟩:=aB e
  split at e<;>exact j1 _ e
 unfold vD l_Cut at e
 rw [if_pos (by omega),aA,cut_eq] at e
 simp only at e
 split at e
 ·obtain ⟨x,_,e⟩:=aB e
  obtain ⟨y,_,e⟩:=aB e
  obtain ⟨z,_,e⟩:=aB e
  split at e
  ·simp at e
  ·exact j2 _ _ e
 ·exact j2 _ _ e
theorem aPa {s:aJ} (h:s.length < 1000000000) (hl:rK s=true):aEO s=some (iQ 40 s).1:=by
 have e:=aGI s h
 unfold aDn at e
 obtain ⟨x,hx,e⟩:=aB e
 obtain ⟨nm,vs,b⟩:=x
 rw [hl] at e
 simp at e
 subst e
 unfold aEO
 rw [hx,aA,rdI_name h hx]
noncomputable def aMo (n:aT) (l:aJ):Bool:=(iF n l).getD false
theorem aJO {n:aT} {l:aJ} (hn:n.B.length < 1000000) (hl:l.length < 1000000) (hb:rK l=true):iF n l=some (aMo n l):=by
 have key:∃ b,iF n l=some b:=by
  unfold iF kR
  rw [wW _ _ (by omega),aA,aPa (by omega) hb,aA]
  split
  ·exact ⟨_,rfl⟩
  ·split
   ·exact ⟨_,rfl⟩
   ·split<;>exact ⟨_,rfl⟩
 obtain ⟨b,e⟩:=key
 unfold aMo
 rw [e]
 rfl
end Gv
