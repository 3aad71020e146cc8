/- Contracts of functions of Go's library, said of heaps of pieces. -/
import Derived.Test.YtingjpdikgpflaaGreatDoorJWk0
import Derived.Test.YtingjpdikgpflaaGreatDoorJP11
import Derived.Lib.AppendZeros
set_option linter.all false
namespace Gv
open Go Go.Proofs Go.RowKit Go.Sort
section
variable {G:qN} {K:Hp} {L:List gH} {w:World}
def cmpL (a b:aZ):Int:=if a == b then 0 else if a == nI then -1 else if b == nI then 1 else cmpB a b
theorem cmpL_eq (a b:aZ):pR a b=some (cmpL a b):=by
 unfold pR cmpL
 rw [show ([116,97,117]:aZ)=nI from rfl]
 cases a == b<;>cases a == nI<;>cases b == nI<;>rfl
theorem aIl (a b:aZ):ltOf cmpL a b=uZ a b:=by
 unfold ltOf cmpL uZ cmpB
 by_cases h1:a=b
 ·simp [h1]
 ·by_cases h2:a=nI
  ·subst h2;simp [h1]
  ·by_cases h3:b=nI
   ·simp [h1,h2,h3]
   ·simp only [h1,h2,h3,beq_iff_eq,if_false]
    cases qJ a b<;>rfl
def cmpE (a b:Edge):Int:=or3 (aGw a.F b.F) (aGw a.B b.B) (aGw a.To b.To)
theorem aIm (a b:Edge):ltOf cmpE a b=lE a b:=by
 unfold ltOf cmpE
 have:=cmpE_ge a b
 cases hx:lE a b with
 |true=>rw [hx] at this;simp at this;simpa using this
 |false=>rw [hx] at this;simp at this;simpa using this
theorem aHm (a b:Edge):lE a b=true\/a=b\/lE b a=true:=by
 rw [aBp,aBp]
 obtain ⟨a1,a2,a3⟩:=a
 obtain ⟨b1,b2,b3⟩:=b
 simp only [Edge.mk.injEq]
 omega
theorem edgeLt_tr {a b c:Edge} (h1:lE a b=true) (h2:lE b c=true):lE a c=true:=by
 rw [aBp] at *;omega
theorem swo_of {α:Type} {lt lt':α->α->Bool} (he:∀ a b,lt' a b=lt a b) (irr:∀ a,lt a a=false) (tr:∀ {a b c},lt a b=true->lt b c=true->lt a c=true) (tri:∀ a b,lt a b=true\/a=b\/lt b a=true):Sort.SWO lt':=by
 obtain rfl:lt'=lt:=by funext a b;exact he a b
 refine ⟨irr,fun x y z=>tr,fun x y z h1 h2=>?_⟩
 rcases tri x y with h|h|h
 ·rw [h] at h1;cases h1
 ·subst h;exact h2
 ·rcases tri y z with g|g|g
  ·rw [g] at h2;cases h2
  ·subst g;exact h1
  ·cases hx:lt' x z with
   |false=>rfl
   |true=>
    have:=tr (tr g h) hx
    rw [irr] at this;cases this
theorem aIR {α:Type} {lt lt':α->α->Bool} (he:∀ a b,lt' a b=lt a b) (tri:∀ a b,lt a b=true\/a=b\/lt b a=true) (x y:α) (h1:lt' x y=false) (h2:lt' y x=false):x=y:=by
 rw [he] at h1 h2
 rcases tri x y with h|h|h
 ·rw [h] at h1;cases h1
 ·exact h
 ·rw [h] at h2;cases h2
theorem lib_SortStr {E:TypeId} {xs:List aZ} {a:Option Addr} {c:Nat} {R:List aZ} (hs:aJ G K (aN E K a c xs::L) w) (hm:aCP xs=some R):
  Calls Tryz.prog 107 ([Value.slice a xs.length c,Value.func (.func 108) #[] #[]]:List Value).toArray w (eH fun v w'=>v=Value.tuple #[]/\xs.length=R.length/\aJ G K (aN E K a c R::L) w'):=by
 unfold aCP at hm
 split at hm
 ·rename_i hl
  cases hm
  unfold lim at hl
  have hlen:(srt uZ xs).length=xs.length:=List.length_mergeSort _
  have hlay:∀ b off,a=some ⟨b,off,none⟩->∀ (m:Nat) (os:Array Obj) (dk:Array aZ),dk.size=xs.length->aJ G K (aN E K a c dk.toList::L) (sortWorld str w b off m dk os):=by
   rintro b off rfl m os dk hdk
   unfold sortWorld
   rw [aBl]
   refine aJ.putRow (i:=0) hs rfl (by simp [hdk]) ?_
   rw [aIL];simp
  rcases aAx hs (i:=0) rfl with ⟨rfl,rfl⟩|⟨b,off,rfl,hb,hc⟩
  ·refine (Tryz.slices_SortFunc_none_f107 (α:=aZ) none c _ w).mono ?_
   rintro e w' ⟨rfl,rfl⟩
   exact ⟨_,rfl,rfl,hlen.symm,by simpa [srt] using hs⟩
  ·refine (Tryz.slices_SortFunc_total_f107 (α:=aZ) str (fun _=>rfl) cmpL (swo_of aIl aKB aLy aHP) 108 #[] b off c xs.toArray w (enters_of Tryz.func108 (by kernel_rfl) rfl) ?_ ?_ hb (by simp;omega) (aIR aIl aHP)).mono ?_
   ·intro m os dk hdk x y
    have hst:=hlay b off rfl m os dk (by simpa using hdk)
    have:=aCC (cmpL_eq x y) (aJ.start (sortWorld str w b off m dk os) G.laid hst.globs)
    refine this.mono ?_
    rintro e w' ⟨v,rfl,rfl,hx⟩
    exact ⟨rfl,hx.exact⟩
   ·intro j hj
    have hj':j < xs.length:=by simpa using hj
    have:=hc j (str xs[j]) (by rw [aIL];simp [hj'])
    rw [getElem!_pos xs.toArray j hj]
    simpa using this
   ·rintro e w' ⟨rfl,n,os,rfl⟩
    refine ⟨_,rfl,rfl,hlen.symm,?_⟩
    have:=hlay b off rfl n os (srt uZ xs).toArray (by simpa using hlen)
    have he:(xs.toArray.toList.mergeSort fun x y=>!ltOf cmpL y x)=srt uZ xs:=by
     unfold srt;congr 1;funext x y;rw [aIl]
    rw [he]
    simpa using this
 ·cases hm
theorem aIS {β:Type} [fB β]:∀ (l:List β) (i r:Nat) (hi:i < l.length),r < fB.sz β->(iP l)[i * fB.sz β+r]?=(fB.enc l[i])[r]?
 |[],i,r,hi,_=>by simp at hi
 |x::l,0,r,hi,hr=>by
  unfold iP
  rw [List.flatMap_cons,Nat.zero_mul,Nat.zero_add,List.getElem?_append_left (by rw [fB.len];exact hr)];rfl
 |x::l,i+1,r,hi,hr=>by
  have:=aIS l i r (by simpa using hi) hr
  unfold iP at this ⊢
  rw [List.flatMap_cons,Nat.add_mul,Nat.one_mul,List.getElem?_append_right (by rw [fB.len];omega),fB.len]
  rw [show i * fB.sz β+fB.sz β+r - fB.sz β=i * fB.sz β+r by omega,this];rfl
theorem aIT {β:Type} [fB β] [Inhabited β] (l:List β):(flatK fB.enc (fB.sz β) l.toArray).toList=iP l:=by
 have hz:=fB.pos (α:=β)
 refine List.ext_getElem? fun t=>?_
 unfold flatK
 by_cases ht:t < l.length * fB.sz β
 ·have h1:t / fB.sz β < l.length:=Nat.div_lt_of_lt_mul (by rw [Nat.mul_comm];exact ht)
  have h2:t % fB.sz β < fB.sz β:=Nat.mod_lt _ hz
  have h3:=aIS l (t / fB.sz β) (t % fB.sz β) h1 h2
  rw [Nat.div_add_mod'] at h3
  rw [h3]
  simp only [Array.toList_map,Array.toList_range,List.getElem?_map,List.size_toArray,List.getElem?_range ht,Option.map_some]
  rw [getElem!_pos l.toArray _ (by simpa using h1)]
  have h4:t % fB.sz β < (fB.enc l[t / fB.sz β]).length:=by rw [fB.len];exact h2
  rw [List.getElem?_eq_getElem h4]
  simp only [List.getElem_toArray]
  rw [getElem!_pos (fB.enc l[t / fB.sz β]) (t % fB.sz β) h4]
 ·rw [List.getElem?_eq_none (by simp;omega),List.getElem?_eq_none (by rw [oV];omega)]
theorem lib_SortEdge {E:TypeId} {xs:List Edge} {a:Option Addr} {c:Nat} {R:List Edge} (hs:aJ G K (aN E K a c xs::L) w) (hm:aDT xs=some R):
  Calls Tryz.prog 111 ([Value.slice a xs.length c,Value.func (.func 51) #[] #[]]:List Value).toArray w (eH fun v w'=>v=Value.tuple #[]/\xs.length=R.length/\aJ G K (aN E K a c R::L) w'):=by
 unfold aDT at hm
 split at hm
 ·rename_i hl
  cases hm
  unfold lim at hl
  have hlen:(srt lE xs).length=xs.length:=List.length_mergeSort _
  have hlay:∀ b off,a=some ⟨b,off,none⟩->∀ (m:Nat) (os:Array Obj) (dk:Array Edge),dk.size=xs.length->aJ G K (aN E K a c dk.toList::L) (sortWorldK fB.enc 3 w b off m dk os):=by
   rintro b off rfl m os dk hdk
   unfold sortWorldK putRowK
   refine aJ.putRow (i:=0) hs rfl (by simp [hdk]) ?_
   exact aIT dk.toList
  rcases aAx hs (i:=0) rfl with ⟨rfl,rfl⟩|⟨b,off,rfl,hb,hc⟩
  ·refine (Tryz.slices_SortFunc_none_f111 (α:=Edge) none c _ w).mono ?_
   rintro e w' ⟨rfl,rfl⟩
   exact ⟨_,rfl,rfl,hlen.symm,by simpa [srt] using hs⟩
  ·refine (Tryz.slices_SortFunc_total_f111 (α:=Edge) 3 Tryz.isAgg66 Tryz.sizeOf66 fB.enc (fun _=>rfl) (fun x v hv=>fB.one x v hv) cmpE (swo_of aIm (fun a=>by cases hx:lE a a with|false=>rfl|true=>exact absurd rfl (aHQ hx)) edgeLt_tr aHm) 51 #[] b off c xs.toArray w (enters_of Tryz.func51 (by kernel_rfl) rfl) ?_ ?_ hb (by simp;omega) (aIR aIm aHm)).mono ?_
   ·intro m os dk hdk x y
    have hst:=hlay b off rfl m os dk (by simpa using hdk)
    have:=vS (aGx x y) (aJ.start (sortWorldK fB.enc 3 w b off m dk os) G.laid hst.globs)
    refine this.mono ?_
    rintro e w' ⟨v,rfl,rfl,hx⟩
    exact ⟨rfl,hx.exact⟩
   ·intro j hj
    have hf:=aIT xs
    have hj3:j < xs.length * 3:=by have h:=hj;rw [size_flatK] at h;simpa using h
    have hj2:j < (iP xs).length:=by rw [oV];exact hj3
    have:=hc j (iP xs)[j] (by rw [List.getElem?_eq_getElem hj2])
    have e:(flatK fB.enc 3 xs.toArray)[j]! = (iP xs)[j]:=by
     rw [getElem!_pos (flatK fB.enc 3 xs.toArray) j hj]
     have:(flatK fB.enc 3 xs.toArray)[j]=(flatK fB.enc (fB.sz Edge) xs.toArray).toList[j]'(by rw [hf];exact hj2):=by simp;rfl
     rw [this]
     simp only [hf]
    rw [e]
    exact this
   ·rintro e w' ⟨rfl,n,os,rfl⟩
    refine ⟨_,rfl,rfl,hlen.symm,?_⟩
    have:=hlay b off rfl n os (srt lE xs).toArray (by simpa using hlen)
    have he:(xs.toArray.toList.mergeSort fun x y=>!ltOf cmpE y x)=srt lE xs:=by
     unfold srt;congr 1;funext x y;rw [aIm]
    rw [he]
    simpa using this
 ·cases hm
end
end Gv
namespace Gv
open Go.Value renaming slice→zS
open Go Go.Proofs Go.RowKit Go.Sort
section
variable {P:Program} {f:Nat->Value} {w:World} {d:Nat} {x y z:Operand} {ty:TypeId} {pos:String} {af:Array Go.Edge}
theorem R_capS {T E:TypeId} {sz:Nat} {a:Option Addr} {len cap:Nat} (hT:SLT P T E sz) (hx:ev f x=.slice a len cap):
  (execOp (ev f) ⟨some d,.call ⟨.builtin .cap,#[x],#[T]⟩,ty,pos,af,none⟩).run P w=.ok (.value (i64 cap)) w:=
 (by simp [execOp,resolve,invoke,builtin,Builtin.cap_,hx,hT.un,goInt,i64])
theorem R_slN {T E:TypeId} {sz:Nat} {len cap:Nat} {h:Int} (hT:SLT P T E sz) (hx:ev f x=.slice none len cap) (hz:ev f z=i64 h) (h0:0<=h) (h1:h<=cap):
  (execOp (ev f) ⟨some d,.slice T x none (some z) none,ty,pos,af,none⟩).run P w=.ok (.value (.slice none h.toNat cap)) w:=by
 have hc:0<=h/\h<=cap:=⟨h0,h1⟩
 simp [execOp,hx,hz,aCO hT,Instr.slice,hT.un,hT.size,Instr.sliceBounds,Instr.sliceBound,i64,asIntOf,hc]
theorem R_slZ {T E:TypeId} {sz b:Nat} {len cap:Nat} (hT:SLT P T E sz) (hx:ev f x=.slice (some ⟨b,0,none⟩) len cap) (hz:ev f z=i64 0):
  (execOp (ev f) ⟨some d,.slice T x none (some z) none,ty,pos,af,none⟩).run P w=.ok (.value (.slice (some ⟨b,0,none⟩) 0 cap)) w:=by
 have hc:(0:Int)<=0/\(0:Int)<=cap:=⟨Int.le_refl _,by omega⟩
 simp [execOp,hx,hz,aCO hT,Instr.slice,hT.un,hT.size,Instr.sliceBounds,Instr.sliceBound,i64,asIntOf,hc,jN]
end
section
variable {G:qN} {K:Hp} {L:List gH} {w:World}
theorem lib_GrowStr {n:Int} {R:List aZ} (hs:aJ G K L w) (_hr:cF K none 0 ([]:List aZ)) (hm:aFm [] n=some R):
  Calls Tryz.prog 113 ([zS none 0 0,i64 n]:List Value).toArray w (eH fun v w'=>∃ (a':Option Addr) (c':Nat),v=zS a' R.length c'/\aJ G K (aN 9 K a' c' R::L) w'):=by
 unfold aFm at hm
 split at hm
 ·rename_i hl
  cases hm
  obtain ⟨-,h0,h1⟩:=hl
  unfold lim at h1
  refine aS Tryz.func113 rfl (by kernel_rfl) (by show (2:Nat)<=27;decide) ?_
  refine aO ?_
  refine aP ?_
  refine aC (cZ (v:=zS none 0 0) rfl) ?_
  refine bB (aA ?_)
  refine aO ?_
  refine aO ?_
  refine aP ?_
  refine aC (bA (v:=i64 n) rfl) ?_
  refine aC (cG rfl rfl) ?_
  refine bB (aA ?_)
  refine aI (by simp;omega) rfl ?_
  refine aU (aA ?_)
  refine aO ?_
  refine aO ?_
  refine aP ?_
  refine aC (bA (v:=i64 n) rfl) ?_
  refine aC (bA (v:=zS none 0 0) rfl) ?_
  refine aC (R_capS bX rfl) ?_
  refine aC (bA (v:=zS none 0 0) rfl) ?_
  refine aC (bO bX rfl) ?_
  refine aC (iK rfl rfl) ?_
  refine aC (iK rfl rfl) ?_
  refine aC (cZ (v:=i64 n) (congrArg i64 (show wr (n - wr (0 - 0))=n by rw [show wr ((0:Int) - 0)=0 by decide,Int.sub_zero,aHw]<;>omega))) ?_
  refine bB (aA ?_)
  refine aO ?_
  refine aP ?_
  refine aC (bA (v:=i64 n) rfl) ?_
  refine aC (kC rfl rfl) ?_
  refine bB (aA ?_)
  by_cases hn:0 < n
  ·refine aL (decide_eq_true hn) rfl ?_
   refine aP ?_
   refine aC (bA (v:=zS none 0 0) rfl) ?_
   refine aC (bA (v:=zS none 0 0) rfl) ?_
   refine aC (R_capS bX rfl) ?_
   refine aC (R_slN bX rfl rfl (Int.le_refl _) (Int.le_refl _)) ?_
   refine aC (bA (v:=i64 n) rfl) ?_
   obtain ⟨inf,hi,hib,hisz,hinf,zv,hzv,hzc⟩:=iA.info
   have hnn:((n.toNat:Nat):Int)=n:=by omega
   have hap:=Go.Lib.run_append_nil_zeros (P:=Tryz.prog) w 24 3 24 9 inf zv .i64 .i64 (by kernel_rfl) (by kernel_rfl) hinf hzv n.toNat (by omega) (by rw [hisz];decide) (by omega) (by have:=Nat.mul_le_mul (Nat.le_refl n.toNat) hib;omega)
   rw [hnn] at hap
   refine vI rfl (w':=_) (v:=_) (by simp only [execOp,resolve,invoke,builtin,Sem.run_bind,Sem.run_pure,Result.andThen_ok,List.map_toArray,List.map_cons,List.map_nil];erw [hap];rfl) ?_
   refine aC (bA (v:=zS none 0 0) rfl) ?_
   refine aC (bO bX rfl) ?_
   refine aC (R_slZ bX rfl rfl) ?_
   refine aC (cZ rfl) ?_
   refine bB (aA ?_)
   refine aO ?_
   refine aP ?_
   refine aC (bA rfl) ?_
   refine aC (cZ rfl) ?_
   refine bB (aA ?_)
   refine bH (bI Tryz.results113 rfl ⟨_,_,rfl,?_⟩)
   refine (hs.mono (dK.drew w)).alloc _ (aGF (xs:=([]:List aZ)) (rows:=[]) (Hp.one_self _ _) (Nat.zero_le _) ?_ rfl (fun t v ht=>by simp at ht) (fun i d e=>by simp at e))
   have:zv.cells.size=1:=by rw [hzc];rfl
   simp only [Array.size_append,size_zeroCells,this]
   show _ * 1<=_
   omega
  ·refine aI (by simpa using hn) rfl ?_
   refine aU (aA ?_)
   refine aO ?_
   refine aP ?_
   refine aC (bA (v:=zS none 0 0) rfl) ?_
   refine aC (cZ (v:=zS none 0 0) rfl) ?_
   refine bB (aA ?_)
   exact bH (bI Tryz.results113 rfl ⟨none,0,rfl,hs.nil _ _⟩)
 ·cases hm
end
end Gv
namespace Gv
open Go.Value renaming slice→zS
open Go Go.Proofs Go.RowKit Go.Sort
theorem aHn:∀ a:List aZ,jP a a=0
 |[]=>rfl
 |a::l=>by simp [jP,tF,aHn l]
theorem aHo:∀ a b:List aZ,jP b a=-jP a b
 |[],[]=>rfl
 |[],_::_=>rfl
 |_::_,[]=>rfl
 |a::l,b::m=>by
  simp only [jP]
  by_cases h1:qJ a b=true
  ·have h2:=aLa h1
   simp [h1,h2]
  ·by_cases h2:qJ b a=true
   ·simp [h1,h2]
   ·simp only [if_neg h1,if_neg h2]
    exact aHo l m
theorem aHp:∀ {a b:List aZ},jP a b=0->a=b
 |[],[],_=>rfl
 |[],_::_,h=>by simp [jP] at h
 |_::_,[],h=>by simp [jP] at h
 |a::l,b::m,h=>by
  simp only [jP] at h
  split at h
  ·omega
  ·rename_i h1
   split at h
   ·omega
   ·rename_i h2
    rcases aFg a b with g|g|g
    ·exact absurd g h1
    ·rw [g,aHp h]
    ·exact absurd g h2
theorem aGd:∀ a b:List aZ,jP a b=-1\/jP a b=0\/jP a b=1
 |[],[]=>.inr (.inl rfl)
 |[],_::_=>.inl rfl
 |_::_,[]=>.inr (.inr rfl)
 |a::l,b::m=>by
  simp only [jP]
  split
  ·exact .inl rfl
  ·split
   ·exact .inr (.inr rfl)
   ·exact aGd l m
theorem aGe:∀ {a b c:List aZ},jP a b < 0->jP b c < 0->jP a c < 0
 |[],[],_,h,_=>by simp [jP] at h
 |[],_::_,[],_,h=>by simp [jP] at h
 |[],_::_,_::_,_,_=>by simp [jP]
 |_::_,[],_,h,_=>by simp [jP] at h
 |_::_,_::_,[],_,h=>by simp [jP] at h
 |a::l,b::m,c::n,h1,h2=>by
  have same:∀ {x y:aZ},¬ qJ x y=true->¬ qJ y x=true->x=y:=fun {x y} g1 g2=>by
   rcases aFg x y with g|g|g
   ·exact absurd g g1
   ·exact g
   ·exact absurd g g2
  simp only [jP] at *
  split at h1
  ·rename_i k1
   split at h2
   ·rename_i k2
    rw [if_pos (xN k1 k2)];omega
   ·rename_i k2
    split at h2
    ·omega
    ·rename_i k3
     rw [←same k2 k3,if_pos k1];omega
  ·rename_i k1
   split at h1
   ·omega
   ·rename_i k1'
    have e:=same k1 k1'
    subst e
    split at h2
    ·rename_i k3
     rw [if_pos k3];omega
    ·rename_i k3
     split at h2
     ·omega
     ·rename_i k4
      rw [if_neg k3,if_neg k4]
      exact aGe h1 h2
theorem aEm (a:List aZ):iU a a=false:=by simp [iU,aHn]
theorem aCZ {a b c:List aZ} (h1:iU a b=true) (h2:iU b c=true):iU a c=true:=by
 simp only [iU,decide_eq_true_eq] at *
 exact aGe h1 h2
theorem aEn (a b:List aZ):iU a b=true\/a=b\/iU b a=true:=by
 simp only [iU,decide_eq_true_eq,aHo a b]
 rcases aGd a b with h|h|h
 ·exact .inl (by omega)
 ·exact .inr (.inl (aHp h))
 ·exact .inr (.inr (by omega))
theorem cmpStr_eq (a b:aZ):iS a b=some (if qJ a b=true then -1 else if qJ b a=true then 1 else 0):=by
 unfold iS jT
 simp only [beq_self_eq_true,Bool.not_true,lJ,Bool.false_eq_true,if_false]
 by_cases h1:qJ a b=true
 ·simp [h1]
 ·rw [if_neg h1,if_neg h1]
  rw [Bool.not_eq_true] at h1
  rw [h1,Bool.false_or]
  by_cases h2:a=b
  ·subst h2
   rw [tF];simp
  ·have h3:qJ b a=true:=by
    rcases aFg a b with g|g|g
    ·rw [g] at h1;cases h1
    ·exact absurd g h2
    ·exact g
   rw [beq_eq_false_iff_ne.2 h2,h3];simp
theorem cmpT_end {a b:List aZ} (ha:a.length < lim):cR a b (a.length:Int)=some (.inr (.inl ())):=by
 unfold cR
 rw [show decide ((a.length:Int) < (a.length:Int))=false from decide_eq_false (by omega)]
 rfl
theorem cmpT_one {a b:List aZ} {k:Nat} (h:k < a.length) (h2:b.length<=k):cR a b (k:Int)=some (.inr (.inr 1)):=by
 unfold cR
 rw [show decide ((k:Int) < (a.length:Int))=true from decide_eq_true (by omega),if_pos rfl,show ix a (k:Int)=some a[k] by simp [ix,h],lJ,show decide ((b.length:Int)<=(k:Int))=true from decide_eq_true (by omega),if_pos rfl]
theorem aHq {a b:List aZ} {k:Nat} (h:k < a.length) (h2:k < b.length) (hb:b.length < lim):
  cR a b (k:Int)=some (if qJ a[k] b[k]=true then .inr (.inr (-1)) else if qJ b[k] a[k]=true then .inr (.inr 1) else .inl ((k+1:Nat):Int)):=by
 unfold lim at hb
 unfold cR
 rw [show decide ((k:Int) < (a.length:Int))=true from decide_eq_true (by omega),if_pos rfl,show ix a (k:Int)=some a[k] by simp [ix,h],lJ,show decide ((b.length:Int)<=(k:Int))=false from decide_eq_false (by omega),if_neg (by simp),show ix b (k:Int)=some b[k] by simp [ix,h2],lJ,cmpStr_eq,lJ,show wr ((k:Int)+1)=((k+1:Nat):Int) by rw [aHw]<;>omega]
 by_cases h1:qJ a[k] b[k]=true
 ·simp [h1]
 ·by_cases h3:qJ b[k] a[k]=true<;>simp [h1,h3]
theorem cmpU_eq (a b:List aZ):dH a b=some (if a.length < b.length then -1 else 0):=by
 unfold dH
 by_cases h:a.length < b.length
 ·rw [show decide ((a.length:Int) < (b.length:Int))=true from decide_eq_true (by omega)];simp [h]
 ·rw [show decide ((a.length:Int) < (b.length:Int))=false from decide_eq_false (by omega)];simp [h]
theorem aFh {a b:List aZ} (ha:a.length < lim) (hb:b.length < lim):∀ (n k:Nat),k+n=a.length->k<=b.length->
  ∃ x,loop (fun s:Int=>cR a b s) (k:Int)=some x/\((x=.inl ()/\jP (a.drop k) (b.drop k)=if a.length < b.length then -1 else 0)\/x=.inr (jP (a.drop k) (b.drop k))):=by
 intro n
 induction n with
 |zero=>
  intro k hk hkb
  obtain rfl:k=a.length:=by omega
  refine ⟨.inl (),by rw [eZ,cmpT_end ha],.inl ⟨rfl,?_⟩⟩
  rw [List.drop_eq_nil_of_le (Nat.le_refl _)]
  by_cases hlt:a.length < b.length
  ·rw [if_pos hlt,List.drop_eq_getElem_cons hlt];rfl
  ·rw [if_neg hlt,List.drop_eq_nil_of_le (by omega)];rfl
 |succ n ih=>
  intro k hk hkb
  have hka:k < a.length:=by omega
  by_cases hbk:b.length<=k
  ·refine ⟨.inr 1,by rw [eZ,cmpT_one hka hbk],.inr ?_⟩
   rw [List.drop_eq_getElem_cons hka,List.drop_eq_nil_of_le hbk];rfl
  ·have hk2:k < b.length:=by omega
   have e1:=List.drop_eq_getElem_cons hka
   have e2:=List.drop_eq_getElem_cons hk2
   by_cases h1:qJ a[k] b[k]=true
   ·exact ⟨.inr (-1),by rw [eZ,aHq hka hk2 hb,if_pos h1],.inr (by rw [e1,e2];simp [jP,h1])⟩
   ·by_cases h2:qJ b[k] a[k]=true
    ·exact ⟨.inr 1,by rw [eZ,aHq hka hk2 hb,if_neg h1,if_pos h2],.inr (by rw [e1,e2];simp [jP,h1,h2])⟩
    ·obtain ⟨x,hx,h⟩:=ih (k+1) (by omega) (by omega)
     refine ⟨x,by rw [eZ,aHq hka hk2 hb,if_neg h1,if_neg h2];exact hx,?_⟩
     have:jP (a.drop k) (b.drop k)=jP (a.drop (k+1)) (b.drop (k+1)):=by rw [e1,e2];simp [jP,h1,h2]
     rw [this];exact h
theorem aBJ {a b:List aZ} (ha:a.length < lim) (hb:b.length < lim):fN a b=some (jP a b):=by
 unfold fN
 obtain ⟨x,hx,h⟩:=aFh ha hb a.length 0 (by omega) (by omega)
 rw [show ((0:Nat):Int)=0 from rfl] at hx
 rw [hx,lJ]
 simp only [List.drop_zero] at h
 rcases h with ⟨rfl,h⟩|rfl
 ·rw [h];exact cmpU_eq a b
 ·rfl
theorem aDL {β:Type} (xs:List β):(List.finRange xs.length).map (fun i=>xs[i])=xs:=by
 apply List.ext_getElem?
 intro i
 by_cases h:i < xs.length<;>simp [h]
theorem aHE {β γ δ:Type} (f:β->γ->δ) (hds:List β) (xs:List γ) (hl:hds.length=xs.length) (p:List (Fin xs.length)):
  List.zipWith f (p.map fun i=>hds[i.val]'(by rw [hl];exact i.isLt)) (p.map fun i=>xs[i])=p.map fun i=>f (hds[i.val]'(by rw [hl];exact i.isLt)) xs[i]:=by
 induction p with
 |nil=>rfl
 |cons i p ih=>simp only [List.map_cons,List.zipWith_cons_cons,ih]
theorem srtS_of {xs ys:List (List aZ)} (p:ys.Perm xs) (h:ys.Pairwise fun a b=>(!iU b a)=true):ys=srt iU xs:=by
 have hle:∀ {a b},(!iU b a)=true->a=b\/iU a b=true:=fun {a b} h=>by
  rcases aEn a b with h1|h1|h1
  ·exact .inr h1
  ·exact .inl h1
  ·rw [h1] at h;cases h
 have asy:∀ {a b},iU a b=true->iU b a=false:=fun {a b} h=>by
  cases hx:iU b a with
  |false=>rfl
  |true=>have:=aCZ h hx;rw [aEm] at this;cases this
 refine List.Perm.eq_of_pairwise (le:=fun a b=>(!iU b a)=true) (fun a b _ _ h1 h2=>?_) h (List.pairwise_mergeSort (fun a b c h1 h2=>?_) (fun a b=>?_) _) (p.trans (List.mergeSort_perm _ _).symm)
 ·rcases hle h1 with e|e
  ·exact e
  ·rw [e] at h2;cases h2
 ·rcases hle h1 with rfl|h1
  ·exact h2
  ·rcases hle h2 with rfl|h2
   ·simp [asy h1]
   ·simp [asy (aCZ h1 h2)]
 ·rcases aEn a b with h1|h1|h1
  ·simp [asy h1]
  ·subst h1;simp [aEm]
  ·simp [asy h1]
theorem lib_SortRowsS {G:qN} {K Kf:Hp} {L:List gH} {w:World} {E:TypeId} {xs:List (List aZ)} {a:Option Addr} {c:Nat} {R:List (List aZ)} (hs:aJ G K (aN E Kf a c xs::L) w) (hKf:Hp.le Kf K) (hm:aBS xs=some R):
  Calls Tryz.prog 75 ([zS a xs.length c,Value.func (.func 76) #[] #[]]:List Value).toArray w (eH fun v w'=>v=Value.tuple #[]/\xs.length=R.length/\aJ G K (aN E Kf a c R::L) w'):=by
 unfold aBS at hm
 split at hm
 ·rename_i hc
  obtain ⟨hlim,hrl⟩:=hc
  cases hm
  have hlen:(srt iU xs).length=xs.length:=List.length_mergeSort _
  obtain ⟨hds,hh,s1⟩:=hs.frzOpen (i:=0) rfl
  have s1:aJ G K (aN E Kf a c (dB hds xs)::L) w:=s1
  have hl:=hh.1
  by_cases hx:xs=[]
  ·subst hx
   obtain rfl:hds=[]:=List.length_eq_zero_iff.1 hl
   have hR:srt iU ([]:List (List aZ))=[]:=by simp [srt]
   rw [hR]
   rcases aAx s1 (i:=0) rfl with ⟨rfl,_⟩|⟨b,off,rfl,hb,_⟩
   ·refine (Tryz.slices_SortFunc_none_f75 (α:=aZ) none c _ w).mono ?_
    rintro e w' ⟨rfl,rfl⟩
    exact ⟨_,rfl,rfl,rfl,hs⟩
   ·have hlay:∀ (m:Nat) (os:Array Obj) (dk:Array Unit),dk.size=0->aJ G K (aN E Kf (some ⟨b,off,none⟩) c (dB ([]:List (Dp.Hd (List aZ))) [])::L) (sortWorld (fun _:Unit=>zS none 0 0) w b off m dk os):=by
     intro m os dk hdk
     unfold sortWorld
     rw [aBl]
     refine aJ.putRow (i:=0) s1 rfl rfl ?_
     have:dk.toList=[]:=by cases dk;simpa using hdk
     simp [this,dB,iP]
    refine (Tryz.slices_SortFunc_f75 (α:=Unit) (fun _=>zS none 0 0) (fun _=>rfl) (fun _ _=>0) ⟨fun _=>rfl,fun _ _ _ h=>(by simp [ltOf] at h),fun _ _ _ _ _=>rfl⟩ 76 #[] b off c #[] w (enters_of Tryz.func76 (by kernel_rfl) rfl) ?_ (fun j hj=>by simp at hj) hb (by simp)).mono ?_
    ·intro m os dk hdk x y
     have hst:=hlay m os dk hdk
     have:=jC (aBJ (a:=[]) (b:=[]) (by decide) (by decide)) (aJ.start (sortWorld (fun _:Unit=>zS none 0 0) w b off m dk os) G.laid hst.globs) (jW (α:=aZ) _) (jW (α:=aZ) _)
     refine this.mono ?_
     rintro e w' ⟨v,rfl,rfl,hx⟩
     exact ⟨rfl,hx.exact⟩
    ·rintro e w' ⟨rfl,d',n,os,hpm,_,rfl⟩
     have h0:=(hlay n os d' (by have:=hpm.1;simpa using this)).frzClose (i:=0) (Ke:=Kf) rfl (xs:=[]) ⟨rfl,fun j hd x h=>by simp at h⟩
     exact ⟨_,rfl,rfl,rfl,h0⟩
  ·have hpos:0 < xs.length:=List.length_pos_iff.2 hx
   have hhl:∀ i:Fin xs.length,i.val < hds.length:=fun i=>by rw [hl];exact i.isLt
   have hrd:∀ i:Fin xs.length,cF K (Prod.fst (hds[i.val]'(hhl i))) (Prod.snd (hds[i.val]'(hhl i))) xs[i]:=fun i=>
    (hh.2 i.val _ _ (List.getElem?_eq_getElem (hhl i)) (List.getElem?_eq_getElem i.isLt)).mono hKf
   have hne:dB hds xs≠[]:=by
    intro e
    have:=iJ (xs:=xs) hl
    rw [e] at this;simp at this;omega
   rcases aAx s1 (i:=0) rfl with ⟨_,h⟩|⟨b,off,rfl,hb,hcell⟩
   ·exact absurd h hne
   haveI:Inhabited (Fin xs.length):=⟨⟨0,hpos⟩⟩
   let enc:Fin xs.length->Value:=fun i=>zS (Prod.fst (hds[i.val]'(hhl i))) (xs[i]).length (Prod.snd (hds[i.val]'(hhl i)))
   let cf:Fin xs.length->Fin xs.length->Int:=fun i j=>jP xs[i] xs[j]
   let hdr:Fin xs.length->Cells 0:=fun i=>uY (hds[i.val]'(hhl i)) xs[i]
   have hheads:∀ p:List (Fin xs.length),dB (p.map fun i=>hds[i.val]'(hhl i)) (p.map fun i=>xs[i])=p.map hdr:=fun p=>aHE uY hds xs hl p
   have hds_eq:(List.finRange xs.length).map (fun i=>hds[i.val]'(hhl i))=hds:=by
    apply List.ext_getElem?
    intro i
    by_cases h:i < xs.length
    ·simp [h,hl]
    ·simp [h,hl]
   have hlay:∀ (m:Nat) (os:Array Obj) (dk:Array (Fin xs.length)),dk.size=xs.length->aJ G K (aN E Kf (some ⟨b,off,none⟩) c (dk.toList.map hdr)::L) (sortWorld enc w b off m dk os):=by
    intro m os dk hdk
    unfold sortWorld
    rw [aBl]
    refine aJ.putRow (i:=0) s1 rfl (by simp [iJ hl,hdk]) ?_
    simp only [Array.toList_map]
    show _=(dk.toList.map hdr).flatMap fB.enc
    generalize dk.toList=l
    induction l with
    |nil=>rfl
    |cons i l ih=>simp only [List.map_cons,List.flatMap_cons,ih];rfl
   have hlt:∀ i j,ltOf cf i j=iU xs[i] xs[j]:=fun i j=>rfl
   have hsz:(List.finRange xs.length).toArray.size=xs.length:=by simp
   have hswo:SWO (ltOf cf):=by
    refine ⟨fun i=>aEm _,fun i j k h1 h2=>aCZ h1 h2,fun i j k h1 h2=>?_⟩
    have h1:iU xs[i] xs[j]=false:=h1
    have h2:iU xs[j] xs[k]=false:=h2
    show iU xs[i] xs[k]=false
    rcases aEn xs[i] xs[j] with g|g|g
    ·rw [g] at h1;cases h1
    ·rw [g];exact h2
    ·cases hx:iU xs[i] xs[k] with
     |false=>rfl
     |true=>have:=aCZ g hx;rw [h2] at this;cases this
   have key:=fun h1 h2=>Tryz.slices_SortFunc_f75 (α:=Fin xs.length) enc (fun _=>rfl) cf hswo 76 #[] b off c (List.finRange xs.length).toArray w (enters_of Tryz.func76 (by kernel_rfl) rfl) h1 h2 hb (by rw [hsz];unfold lim at hlim;omega)
   rw [hsz] at key
   refine (key ?_ ?_).mono ?_
   ·intro m os dk hdk x y
    have hst:=hlay m os dk (by simpa using hdk)
    have:=jC (aBJ (hrl _ (List.getElem_mem _)) (hrl _ (List.getElem_mem _))) (aJ.start (sortWorld enc w b off m dk os) G.laid hst.globs) ((hrd x).mono hst.know) ((hrd y).mono hst.know)
    refine this.mono ?_
    rintro e w' ⟨v,rfl,rfl,hx⟩
    exact ⟨rfl,hx.exact⟩
   ·intro j hj
    have hj':j < xs.length:=by simpa using hj
    have:=hcell j (enc ⟨j,hj'⟩) (by
     have e0:=hheads (List.finRange xs.length)
     rw [hds_eq,aDL] at e0
     rw [e0]
     show ((List.finRange xs.length).map hdr |>.flatMap fB.enc)[j]?=_
     have:((List.finRange xs.length).map hdr).flatMap fB.enc=(List.finRange xs.length).map enc:=by
      generalize List.finRange xs.length=l
      induction l with
      |nil=>rfl
      |cons i l ih=>simp only [List.map_cons,List.flatMap_cons,ih];rfl
     rw [this];simp [hj'])
    rw [getElem!_pos _ j hj]
    simpa using this
   ·rintro e w' ⟨rfl,d',n,os,hpm,hsrt,rfl⟩
    obtain ⟨z1,_,z3⟩:=hpm
    have zs:d'.size=xs.length:=by rw [z1];simp
    have zp:d'.toList.Perm (List.finRange xs.length):=by
     have e1:d'.extract 0 xs.length=d':=by
      have:=Array.extract_size (xs:=d')
      rwa [zs] at this
     have e2:(List.finRange xs.length).toArray.extract 0 xs.length=(List.finRange xs.length).toArray:=by
      have:=Array.extract_size (xs:=(List.finRange xs.length).toArray)
      rwa [hsz] at this
     rw [e1,e2] at z3
     simpa using z3
    have hpw:(d'.toList.map fun i=>xs[i]).Pairwise fun a b=>(!iU b a)=true:=by
     rw [List.pairwise_map,List.pairwise_iff_getElem]
     intro i j hi hj hij
     rw [Array.length_toList] at hi hj
     have:=hsrt i j (Nat.zero_le _) hij (by rw [←zs];exact hj)
     rw [getElem!_pos d' j hj,getElem!_pos d' i hi] at this
     have this:iU xs[d'[j]] xs[d'[i]]=false:=this
     simp only [Array.getElem_toList]
     rw [this];rfl
    have hpr:(d'.toList.map fun i=>xs[i]).Perm xs:=by
     have:=zp.map (fun i=>xs[i])
     rwa [aDL] at this
    have hR:=srtS_of hpr hpw
    have h0:=hlay n os d' zs
    rw [←hR]
    refine ⟨_,rfl,rfl,by simp [zs],?_⟩
    rw [←hheads d'.toList] at h0
    refine h0.frzClose (i:=0) (Ke:=Kf) rfl (xs:=d'.toList.map fun i=>xs[i]) ⟨by simp,fun j hd x h4 h5=>?_⟩
    rw [List.getElem?_map] at h4 h5
    cases hq:d'.toList[j]? with
    |none=>rw [hq] at h4;cases h4
    |some i=>
     rw [hq] at h4 h5
     cases h4;cases h5
     exact hh.2 i.val _ _ (List.getElem?_eq_getElem (hhl i)) (List.getElem?_eq_getElem i.isLt)
 ·cases hm
end Gv
