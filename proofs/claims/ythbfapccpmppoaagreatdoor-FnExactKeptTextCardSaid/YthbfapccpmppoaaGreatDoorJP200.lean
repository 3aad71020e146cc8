/- What a node of a modal formula selects. -/
import Derived.Test.YthbfapccpmppoaaGreatDoorJP90
set_option linter.all false
set_option linter.unusedVariables false
set_option linter.unusedSimpArgs false
namespace Gv
open Go
theorem aKc (s:aL) (c0:UInt8) (h:s.length < 1000000000):kC s [c0]=some (if (s.getLast? == some c0)=true then (s.dropLast,true) else (s,false)):=by
 unfold kC iG dY
 rcases List.eq_nil_or_concat s with rfl|⟨l,c,rfl⟩
 ·rfl
 ·have hl:(l.concat c).length=l.length+1:=by simp
  have w:wr (((l.concat c).length:Int) - (([c0]:aL).length:Int))=(l.length:Int):=by
   rw [hl] at h ⊢
   show wr (((l.length+1:Nat):Int) - 1)=_
   rw [dW (by omega) (by omega)];omega
  have s1:slc (l.concat c) (l.length:Int) ((l.concat c).length:Int)=some [c]:=by
   unfold slc;rw [if_pos ⟨by omega,by omega,by simp⟩];simp
  have s2:slc (l.concat c) 0 (l.length:Int)=some l:=by
   unfold slc;rw [if_pos ⟨by omega,by omega,by simp⟩];simp
  rw [if_pos (by simp;omega),w,s1,aA,eH,aA]
  have hg:(l.concat c).getLast?=some c:=by simp
  have hd:(l.concat c).dropLast=l:=by simp
  rw [hg,hd]
  by_cases hc:c=c0
  ·subst hc
   rw [s2];simp
  ·have hc':¬ ([c]:aL)=[c0]:=fun e=>hc (by simpa using e)
   simp [hc]
end Gv
