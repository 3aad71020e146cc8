/- Contracts of functions of Go's library, said of heaps of pieces. -/
import Derived.Test.YtffnhnhfedmjcaaGreatDoorJWk0
import Derived.Test.YtffnhnhfedmjcaaGreatDoorJP11
import Derived.Lib.AppendZeros
set_option linter.all false
namespace Gv
open Go Go.Proofs Go.RowKit Go.Sort
section
variable {G:yU} {K:Hp} {L:List jN} {w:World}
def cmpL (a b:aH):Int:=if a == b then 0 else if a == bC then -1 else if b == bC then 1 else cmpB a b
theorem cmpL_eq (a b:aH):aDi a b=some (cmpL a b):=by
 unfold aDi cmpL
 rw [show ([116,97,117]:aH)=bC from rfl]
 cases a == b<;>cases a == bC<;>cases b == bC<;>rfl
theorem aOm (a b:aH):ltOf cmpL a b=aBc a b:=by
 unfold ltOf cmpL aBc cmpB
 by_cases h1:a=b
 ·simp [h1]
 ·by_cases h2:a=bC
  ·subst h2;simp [h1]
  ·by_cases h3:b=bC
   ·simp [h1,h2,h3]
   ·simp only [h1,h2,h3,beq_iff_eq,if_false]
    cases wV a b<;>rfl
def cmpE (a b:Edge):Int:=or3 (aKE a.F b.F) (aKE a.B b.B) (aKE a.To b.To)
theorem aOn (a b:Edge):ltOf cmpE a b=bZ a b:=by
 unfold ltOf cmpE
 have:=cmpE_ge a b
 cases hx:bZ a b with
 |true=>rw [hx] at this;simp at this;simpa using this
 |false=>rw [hx] at this;simp at this;simpa using this
theorem aLT (a b:Edge):bZ a b=true\/a=b\/bZ b a=true:=by
 rw [vS,vS]
 obtain ⟨a1,a2,a3⟩:=a
 obtain ⟨b1,b2,b3⟩:=b
 simp only [Edge.mk.injEq]
 omega
theorem edgeLt_tr {a b c:Edge} (h1:bZ a b=true) (h2:bZ b c=true):bZ a c=true:=by
 rw [vS] at *;omega
theorem swo_of {α:Type} {lt lt':α->α->Bool} (he:∀ a b,lt' a b=lt a b) (irr:∀ a,lt a a=false) (tr:∀ {a b c},lt a b=true->lt b c=true->lt a c=true) (tri:∀ a b,lt a b=true\/a=b\/lt b a=true):Sort.SWO lt':=by
 obtain rfl:lt'=lt:=by funext a b;exact he a b
 refine ⟨irr,fun x y z=>tr,fun x y z h1 h2=>?_⟩
 rcases tri x y with h|h|h
 ·rw [h] at h1;cases h1
 ·subst h;exact h2
 ·rcases tri y z with g|g|g
  ·rw [g] at h2;cases h2
  ·subst g;exact h1
  ·cases hx:lt' x z with
   |false=>rfl
   |true=>
    have:=tr (tr g h) hx
    rw [irr] at this;cases this
theorem aLU {α:Type} {lt lt':α->α->Bool} (he:∀ a b,lt' a b=lt a b) (tri:∀ a b,lt a b=true\/a=b\/lt b a=true) (x y:α) (h1:lt' x y=false) (h2:lt' y x=false):x=y:=by
 rw [he] at h1 h2
 rcases tri x y with h|h|h
 ·rw [h] at h1;cases h1
 ·exact h
 ·rw [h] at h2;cases h2
theorem lib_SortStr {E:TypeId} {xs:List aH} {a:Option Addr} {c:Nat} {R:List aH} (hs:aD G K (aG E K a c xs::L) w) (hm:aCm xs=some R):
  Calls Tryz.prog 126 ([Value.slice a xs.length c,Value.func (.func 127) #[] #[]]:List Value).toArray w (eQ fun v w'=>v=Value.tuple #[]/\xs.length=R.length/\aD G K (aG E K a c R::L) w'):=by
 unfold aCm at hm
 split at hm
 ·rename_i hl
  cases hm
  unfold jT at hl
  have hlen:(rO aBc xs).length=xs.length:=List.length_mergeSort _
  have hlay:∀ b off,a=some ⟨b,off,none⟩->∀ (m:Nat) (os:Array Obj) (dk:Array aH),dk.size=xs.length->aD G K (aG E K a c dk.toList::L) (sortWorld str w b off m dk os):=by
   rintro b off rfl m os dk hdk
   unfold sortWorld
   rw [aIt]
   refine aD.putRow (i:=0) hs rfl (by simp [hdk]) ?_
   rw [aPL];simp
  rcases aHB hs (i:=0) rfl with ⟨rfl,rfl⟩|⟨b,off,rfl,hb,hc⟩
  ·refine (Tryz.slices_SortFunc_none_f126 (α:=aH) none c _ w).mono ?_
   rintro e w' ⟨rfl,rfl⟩
   exact ⟨_,rfl,rfl,hlen.symm,by simpa [rO] using hs⟩
  ·refine (Tryz.slices_SortFunc_total_f126 (α:=aH) str (fun _=>rfl) cmpL (swo_of aOm aJS aLR aHJ) 127 #[] b off c xs.toArray w (enters_of Tryz.func127 (by kernel_rfl) rfl) ?_ ?_ hb (by simp;omega) (aLU aOm aHJ)).mono ?_
   ·intro m os dk hdk x y
    have hst:=hlay b off rfl m os dk (by simpa using hdk)
    have:=aCU (cmpL_eq x y) (aD.start (sortWorld str w b off m dk os) G.laid hst.globs)
    refine this.mono ?_
    rintro e w' ⟨v,rfl,rfl,hx⟩
    exact ⟨rfl,hx.exact⟩
   ·intro j hj
    have hj':j < xs.length:=by simpa using hj
    have:=hc j (str xs[j]) (by rw [aPL];simp [hj'])
    rw [getElem!_pos xs.toArray j hj]
    simpa using this
   ·rintro e w' ⟨rfl,n,os,rfl⟩
    refine ⟨_,rfl,rfl,hlen.symm,?_⟩
    have:=hlay b off rfl n os (rO aBc xs).toArray (by simpa using hlen)
    have he:(xs.toArray.toList.mergeSort fun x y=>!ltOf cmpL y x)=rO aBc xs:=by
     unfold rO;congr 1;funext x y;rw [aOm]
    rw [he]
    simpa using this
 ·cases hm
theorem aPP {β:Type} [fF β]:∀ (l:List β) (i r:Nat) (hi:i < l.length),r < fF.sz β->(kZ l)[i * fF.sz β+r]?=(fF.enc l[i])[r]?
 |[],i,r,hi,_=>by simp at hi
 |x::l,0,r,hi,hr=>by
  unfold kZ
  rw [List.flatMap_cons,Nat.zero_mul,Nat.zero_add,List.getElem?_append_left (by rw [fF.len];exact hr)];rfl
 |x::l,i+1,r,hi,hr=>by
  have:=aPP l i r (by simpa using hi) hr
  unfold kZ at this ⊢
  rw [List.flatMap_cons,Nat.add_mul,Nat.one_mul,List.getElem?_append_right (by rw [fF.len];omega),fF.len]
  rw [show i * fF.sz β+fF.sz β+r - fF.sz β=i * fF.sz β+r by omega,this];rfl
theorem aPQ {β:Type} [fF β] [Inhabited β] (l:List β):(flatK fF.enc (fF.sz β) l.toArray).toList=kZ l:=by
 have hz:=fF.pos (α:=β)
 refine List.ext_getElem? fun t=>?_
 unfold flatK
 by_cases ht:t < l.length * fF.sz β
 ·have h1:t / fF.sz β < l.length:=Nat.div_lt_of_lt_mul (by rw [Nat.mul_comm];exact ht)
  have h2:t % fF.sz β < fF.sz β:=Nat.mod_lt _ hz
  have h3:=aPP l (t / fF.sz β) (t % fF.sz β) h1 h2
  rw [Nat.div_add_mod'] at h3
  rw [h3]
  simp only [Array.toList_map,Array.toList_range,List.getElem?_map,List.size_toArray,List.getElem?_range ht,Option.map_some]
  rw [getElem!_pos l.toArray _ (by simpa using h1)]
  have h4:t % fF.sz β < (fF.enc l[t / fF.sz β]).length:=by rw [fF.len];exact h2
  rw [List.getElem?_eq_getElem h4]
  simp only [List.getElem_toArray]
  rw [getElem!_pos (fF.enc l[t / fF.sz β]) (t % fF.sz β) h4]
 ·rw [List.getElem?_eq_none (by simp;omega),List.getElem?_eq_none (by rw [aAo];omega)]
theorem lib_SortEdge {E:TypeId} {xs:List Edge} {a:Option Addr} {c:Nat} {R:List Edge} (hs:aD G K (aG E K a c xs::L) w) (hm:nP xs=some R):
  Calls Tryz.prog 97 ([Value.slice a xs.length c,Value.func (.func 78) #[] #[]]:List Value).toArray w (eQ fun v w'=>v=Value.tuple #[]/\xs.length=R.length/\aD G K (aG E K a c R::L) w'):=by
 unfold nP at hm
 split at hm
 ·rename_i hl
  cases hm
  unfold jT at hl
  have hlen:(rO bZ xs).length=xs.length:=List.length_mergeSort _
  have hlay:∀ b off,a=some ⟨b,off,none⟩->∀ (m:Nat) (os:Array Obj) (dk:Array Edge),dk.size=xs.length->aD G K (aG E K a c dk.toList::L) (sortWorldK fF.enc 3 w b off m dk os):=by
   rintro b off rfl m os dk hdk
   unfold sortWorldK putRowK
   refine aD.putRow (i:=0) hs rfl (by simp [hdk]) ?_
   exact aPQ dk.toList
  rcases aHB hs (i:=0) rfl with ⟨rfl,rfl⟩|⟨b,off,rfl,hb,hc⟩
  ·refine (Tryz.slices_SortFunc_none_f97 (α:=Edge) none c _ w).mono ?_
   rintro e w' ⟨rfl,rfl⟩
   exact ⟨_,rfl,rfl,hlen.symm,by simpa [rO] using hs⟩
  ·refine (Tryz.slices_SortFunc_total_f97 (α:=Edge) 3 Tryz.isAgg72 Tryz.sizeOf72 fF.enc (fun _=>rfl) (fun x v hv=>fF.one x v hv) cmpE (swo_of aOn (fun a=>by cases hx:bZ a a with|false=>rfl|true=>exact absurd rfl (aJT hx)) edgeLt_tr aLT) 78 #[] b off c xs.toArray w (enters_of Tryz.func78 (by kernel_rfl) rfl) ?_ ?_ hb (by simp;omega) (aLU aOn aLT)).mono ?_
   ·intro m os dk hdk x y
    have hst:=hlay b off rfl m os dk (by simpa using hdk)
    have:=aDs (aGz x y) (aD.start (sortWorldK fF.enc 3 w b off m dk os) G.laid hst.globs)
    refine this.mono ?_
    rintro e w' ⟨v,rfl,rfl,hx⟩
    exact ⟨rfl,hx.exact⟩
   ·intro j hj
    have hf:=aPQ xs
    have hj3:j < xs.length * 3:=by have h:=hj;rw [size_flatK] at h;simpa using h
    have hj2:j < (kZ xs).length:=by rw [aAo];exact hj3
    have:=hc j (kZ xs)[j] (by rw [List.getElem?_eq_getElem hj2])
    have e:(flatK fF.enc 3 xs.toArray)[j]! = (kZ xs)[j]:=by
     rw [getElem!_pos (flatK fF.enc 3 xs.toArray) j hj]
     have:(flatK fF.enc 3 xs.toArray)[j]=(flatK fF.enc (fF.sz Edge) xs.toArray).toList[j]'(by rw [hf];exact hj2):=by simp;rfl
     rw [this]
     simp only [hf]
    rw [e]
    exact this
   ·rintro e w' ⟨rfl,n,os,rfl⟩
    refine ⟨_,rfl,rfl,hlen.symm,?_⟩
    have:=hlay b off rfl n os (rO bZ xs).toArray (by simpa using hlen)
    have he:(xs.toArray.toList.mergeSort fun x y=>!ltOf cmpE y x)=rO bZ xs:=by
     unfold rO;congr 1;funext x y;rw [aOn]
    rw [he]
    simpa using this
 ·cases hm
end
end Gv
namespace Gv
open Go.Value renaming slice→zS
open Go Go.Proofs Go.RowKit Go.Sort
section
variable {P:Program} {f:Nat->Value} {w:World} {d:Nat} {x y z:Operand} {ty:TypeId} {pos:String} {af:Array Go.Edge}
theorem R_capS {T E:TypeId} {sz:Nat} {a:Option Addr} {len cap:Nat} (hT:SLT P T E sz) (hx:ev f x=.slice a len cap):
  (execOp (ev f) ⟨some d,.call ⟨.builtin .cap,#[x],#[T]⟩,ty,pos,af,none⟩).run P w=.ok (.value (i64 cap)) w:=
 (by simp [execOp,resolve,invoke,builtin,Builtin.cap_,hx,hT.un,goInt,i64])
theorem R_slN {T E:TypeId} {sz:Nat} {len cap:Nat} {h:Int} (hT:SLT P T E sz) (hx:ev f x=.slice none len cap) (hz:ev f z=i64 h) (h0:0<=h) (h1:h<=cap):
  (execOp (ev f) ⟨some d,.slice T x none (some z) none,ty,pos,af,none⟩).run P w=.ok (.value (.slice none h.toNat cap)) w:=by
 have hc:0<=h/\h<=cap:=⟨h0,h1⟩
 simp [execOp,hx,hz,aHw hT,Instr.slice,hT.un,hT.size,Instr.sliceBounds,Instr.sliceBound,i64,asIntOf,hc]
theorem R_slZ {T E:TypeId} {sz b:Nat} {len cap:Nat} (hT:SLT P T E sz) (hx:ev f x=.slice (some ⟨b,0,none⟩) len cap) (hz:ev f z=i64 0):
  (execOp (ev f) ⟨some d,.slice T x none (some z) none,ty,pos,af,none⟩).run P w=.ok (.value (.slice (some ⟨b,0,none⟩) 0 cap)) w:=by
 have hc:(0:Int)<=0/\(0:Int)<=cap:=⟨Int.le_refl _,by omega⟩
 simp [execOp,hx,hz,aHw hT,Instr.slice,hT.un,hT.size,Instr.sliceBounds,Instr.sliceBound,i64,asIntOf,hc,pH]
end
section
variable {G:yU} {K:Hp} {L:List jN} {w:World}
theorem lib_GrowStr {n:Int} {R:List aH} (hs:aD G K L w) (_hr:bE K none 0 ([]:List aH)) (hm:aHA [] n=some R):
  Calls Tryz.prog 208 ([zS none 0 0,i64 n]:List Value).toArray w (eQ fun v w'=>∃ (a':Option Addr) (c':Nat),v=zS a' R.length c'/\aD G K (aG 9 K a' c' R::L) w'):=by
 unfold aHA at hm
 split at hm
 ·rename_i hl
  cases hm
  obtain ⟨-,h0,h1⟩:=hl
  unfold jT at h1
  refine aN Tryz.func208 rfl (by kernel_rfl) (by show (2:Nat)<=27;decide) ?_
  refine aL ?_
  refine aW ?_
  refine aF (dT (v:=zS none 0 0) rfl) ?_
  refine aR (aC ?_)
  refine aL ?_
  refine aL ?_
  refine aW ?_
  refine aF (aY (v:=i64 n) rfl) ?_
  refine aF (dQ rfl rfl) ?_
  refine aR (aC ?_)
  refine bJ (by simp;omega) rfl ?_
  refine bD (aC ?_)
  refine aL ?_
  refine aL ?_
  refine aW ?_
  refine aF (aY (v:=i64 n) rfl) ?_
  refine aF (aY (v:=zS none 0 0) rfl) ?_
  refine aF (R_capS fJ rfl) ?_
  refine aF (aY (v:=zS none 0 0) rfl) ?_
  refine aF (bF fJ rfl) ?_
  refine aF (vW rfl rfl) ?_
  refine aF (vW rfl rfl) ?_
  refine aF (dT (v:=i64 n) (congrArg i64 (show wr (n - wr (0 - 0))=n by rw [show wr ((0:Int) - 0)=0 by decide,Int.sub_zero,gA]<;>omega))) ?_
  refine aR (aC ?_)
  refine aL ?_
  refine aW ?_
  refine aF (aY (v:=i64 n) rfl) ?_
  refine aF (aCH rfl rfl) ?_
  refine aR (aC ?_)
  by_cases hn:0 < n
  ·refine aZ (decide_eq_true hn) rfl ?_
   refine aW ?_
   refine aF (aY (v:=zS none 0 0) rfl) ?_
   refine aF (aY (v:=zS none 0 0) rfl) ?_
   refine aF (R_capS fJ rfl) ?_
   refine aF (R_slN fJ rfl rfl (Int.le_refl _) (Int.le_refl _)) ?_
   refine aF (aY (v:=i64 n) rfl) ?_
   obtain ⟨inf,hi,hib,hisz,hinf,zv,hzv,hzc⟩:=aFs.info
   have hnn:((n.toNat:Nat):Int)=n:=by omega
   have hap:=Go.Lib.run_append_nil_zeros (P:=Tryz.prog) w 26 3 26 9 inf zv .i64 .i64 (by kernel_rfl) (by kernel_rfl) hinf hzv n.toNat (by omega) (by rw [hisz];decide) (by omega) (by have:=Nat.mul_le_mul (Nat.le_refl n.toNat) hib;omega)
   rw [hnn] at hap
   refine aAR rfl (w':=_) (v:=_) (by simp only [execOp,resolve,invoke,builtin,Sem.run_bind,Sem.run_pure,Result.andThen_ok,List.map_toArray,List.map_cons,List.map_nil];erw [hap];rfl) ?_
   refine aF (aY (v:=zS none 0 0) rfl) ?_
   refine aF (bF fJ rfl) ?_
   refine aF (R_slZ fJ rfl rfl) ?_
   refine aF (dT rfl) ?_
   refine aR (aC ?_)
   refine aL ?_
   refine aW ?_
   refine aF (aY rfl) ?_
   refine aF (dT rfl) ?_
   refine aR (aC ?_)
   refine nY (oH Tryz.results208 rfl ⟨_,_,rfl,?_⟩)
   refine (hs.mono (fZ.drew w)).alloc _ (aLn (xs:=([]:List aH)) (rows:=[]) (Hp.one_self _ _) (Nat.zero_le _) ?_ rfl (fun t v ht=>by simp at ht) (fun i d e=>by simp at e))
   have:zv.cells.size=1:=by rw [hzc];rfl
   simp only [Array.size_append,size_zeroCells,this]
   show _ * 1<=_
   omega
  ·refine bJ (by simpa using hn) rfl ?_
   refine bD (aC ?_)
   refine aL ?_
   refine aW ?_
   refine aF (aY (v:=zS none 0 0) rfl) ?_
   refine aF (dT (v:=zS none 0 0) rfl) ?_
   refine aR (aC ?_)
   exact nY (oH Tryz.results208 rfl ⟨none,0,rfl,hs.nil _ _⟩)
 ·cases hm
end
end Gv
namespace Gv
open Go Go.Proofs Go.RowKit Go.Sort
theorem aNo:∀ a:List Int,xW a a=0
 |[]=>rfl
 |a::l=>by simp [xW,aNo l]
theorem aNp:∀ a b:List Int,xW b a=-xW a b
 |[],[]=>rfl
 |[],_::_=>rfl
 |_::_,[]=>rfl
 |a::l,b::m=>by
  simp only [xW]
  split<;>split<;>(try split)<;>first|omega|rfl|exact aNp l m
theorem aNq:∀ {a b:List Int},xW a b=0->a=b
 |[],[],_=>rfl
 |[],_::_,h=>by simp [xW] at h
 |_::_,[],h=>by simp [xW] at h
 |a::l,b::m,h=>by
  simp only [xW] at h
  split at h
  ·omega
  ·split at h
   ·omega
   ·rw [show a=b by omega,aNq h]
theorem aLV:∀ a b:List Int,xW a b=-1\/xW a b=0\/xW a b=1
 |[],[]=>.inr (.inl rfl)
 |[],_::_=>.inl rfl
 |_::_,[]=>.inr (.inr rfl)
 |a::l,b::m=>by
  simp only [xW]
  split
  ·exact .inl rfl
  ·split
   ·exact .inr (.inr rfl)
   ·exact aLV l m
theorem aLW:∀ {a b c:List Int},xW a b < 0->xW b c < 0->xW a c < 0
 |[],[],_,h,_=>by simp [xW] at h
 |[],_::_,[],_,h=>by simp [xW] at h
 |[],_::_,_::_,_,_=>by simp [xW]
 |_::_,[],_,h,_=>by simp [xW] at h
 |_::_,_::_,[],_,h=>by simp [xW] at h
 |a::l,b::m,c::n,h1,h2=>by
  simp only [xW] at *
  split at h1
  ·split at h2
   ·rw [if_pos (by omega)];omega
   ·split at h2
    ·omega
    ·rw [if_pos (by omega)];omega
  ·split at h1
   ·omega
   ·split at h2
    ·rw [if_pos (by omega)];omega
    ·split at h2
     ·omega
     ·rw [if_neg (by omega),if_neg (by omega)]
      exact aLW h1 h2
theorem rowLt_irr (a:List Int):aEh a a=false:=by simp [aEh,aNo]
theorem rowLt_tr {a b c:List Int} (h1:aEh a b=true) (h2:aEh b c=true):aEh a c=true:=by
 simp only [aEh,decide_eq_true_eq] at *
 exact aLW h1 h2
theorem rowLt_tri (a b:List Int):aEh a b=true\/a=b\/aEh b a=true:=by
 simp only [aEh,decide_eq_true_eq,aNp a b]
 rcases aLV a b with h|h|h
 ·exact .inl (by omega)
 ·exact .inr (.inl (aNq h))
 ·exact .inr (.inr (by omega))
theorem cmpInt_eq (a b:Int):fO a b=some (if a < b then -1 else if b < a then 1 else 0):=by
 unfold fO qG
 simp only [bne_self_eq_false,aA]
 by_cases h1:a < b
 ·simp [h1]
 ·by_cases h2:b < a<;>simp [h1,h2]
theorem cmpS_end {a b:List Int} (ha:a.length < jT):cV a b (a.length:Int)=some (.inr (.inl ())):=by
 unfold cV
 rw [show decide ((a.length:Int) < (a.length:Int))=false from decide_eq_false (by omega)]
 rfl
theorem cmpS_one {a b:List Int} {k:Nat} (h:k < a.length) (h2:b.length<=k):cV a b (k:Int)=some (.inr (.inr 1)):=by
 unfold cV
 rw [show decide ((k:Int) < (a.length:Int))=true from decide_eq_true (by omega),if_pos rfl,show ix a (k:Int)=some a[k] by simp [ix,h],aA,show decide ((b.length:Int)<=(k:Int))=true from decide_eq_true (by omega),if_pos rfl]
theorem aLX {a b:List Int} {k:Nat} (h:k < a.length) (h2:k < b.length) (hb:b.length < jT):
  cV a b (k:Int)=some (if a[k] < b[k] then .inr (.inr (-1)) else if b[k] < a[k] then .inr (.inr 1) else .inl ((k+1:Nat):Int)):=by
 unfold jT at hb
 unfold cV
 rw [show decide ((k:Int) < (a.length:Int))=true from decide_eq_true (by omega),if_pos rfl,show ix a (k:Int)=some a[k] by simp [ix,h],aA,show decide ((b.length:Int)<=(k:Int))=false from decide_eq_false (by omega),if_neg (by simp),show ix b (k:Int)=some b[k] by simp [ix,h2],aA,cmpInt_eq,aA,show wr ((k:Int)+1)=((k+1:Nat):Int) by rw [gA]<;>omega]
 by_cases h1:a[k] < b[k]
 ·simp [h1]
 ·by_cases h3:b[k] < a[k]<;>simp [h1,h3]
theorem cmpJ_eq (a b:List Int):iV a b=some (if a.length < b.length then -1 else 0):=by
 unfold iV
 by_cases h:a.length < b.length
 ·rw [show decide ((a.length:Int) < (b.length:Int))=true from decide_eq_true (by omega)];simp [h]
 ·rw [show decide ((a.length:Int) < (b.length:Int))=false from decide_eq_false (by omega)];simp [h]
theorem aJU {a b:List Int} (ha:a.length < jT) (hb:b.length < jT):∀ (n k:Nat),k+n=a.length->k<=b.length->
  ∃ x,loop (fun s:Int=>cV a b s) (k:Int)=some x/\((x=.inl ()/\xW (a.drop k) (b.drop k)=if a.length < b.length then -1 else 0)\/x=.inr (xW (a.drop k) (b.drop k))):=by
 intro n
 induction n with
 |zero=>
  intro k hk hkb
  obtain rfl:k=a.length:=by omega
  refine ⟨.inl (),by rw [dN,cmpS_end ha],.inl ⟨rfl,?_⟩⟩
  rw [List.drop_eq_nil_of_le (Nat.le_refl _)]
  by_cases hlt:a.length < b.length
  ·rw [if_pos hlt,List.drop_eq_getElem_cons hlt];rfl
  ·rw [if_neg hlt,List.drop_eq_nil_of_le (by omega)];rfl
 |succ n ih=>
  intro k hk hkb
  have hka:k < a.length:=by omega
  by_cases hbk:b.length<=k
  ·refine ⟨.inr 1,by rw [dN,cmpS_one hka hbk],.inr ?_⟩
   rw [List.drop_eq_getElem_cons hka,List.drop_eq_nil_of_le hbk];rfl
  ·have hk2:k < b.length:=by omega
   have e1:=List.drop_eq_getElem_cons hka
   have e2:=List.drop_eq_getElem_cons hk2
   by_cases h1:a[k] < b[k]
   ·exact ⟨.inr (-1),by rw [dN,aLX hka hk2 hb,if_pos h1],.inr (by rw [e1,e2];simp [xW,h1])⟩
   ·by_cases h2:b[k] < a[k]
    ·exact ⟨.inr 1,by rw [dN,aLX hka hk2 hb,if_neg h1,if_pos h2],.inr (by rw [e1,e2];simp [xW,h1,h2])⟩
    ·obtain ⟨x,hx,h⟩:=ih (k+1) (by omega) (by omega)
     refine ⟨x,by rw [dN,aLX hka hk2 hb,if_neg h1,if_neg h2];exact hx,?_⟩
     have:xW (a.drop k) (b.drop k)=xW (a.drop (k+1)) (b.drop (k+1)):=by rw [e1,e2];simp [xW,h1,h2]
     rw [this];exact h
theorem aLY {a b:List Int} (ha:a.length < jT) (hb:b.length < jT):fH a b=some (xW a b):=by
 unfold fH
 obtain ⟨x,hx,h⟩:=aJU ha hb a.length 0 (by omega) (by omega)
 rw [show ((0:Nat):Int)=0 from rfl] at hx
 rw [hx,aA]
 simp only [List.drop_zero] at h
 rcases h with ⟨rfl,h⟩|rfl
 ·rw [h];exact cmpJ_eq a b
 ·rfl
section
variable {G:yU} {K:Hp} {L:List jN} {w:World}
theorem idx_model {rows:List (List Int)} (hr:∀ r∈rows,r.length < jT) (i j:Fin rows.length):xD (i.val:Int) (j.val:Int) rows=some (xW rows[i] rows[j]):=by
 unfold xD
 have e:∀ k:Fin rows.length,ix rows (k.val:Int)=some rows[k]:=fun k=>by simp [ix]
 have hc:fH rows[i] rows[j]=some (xW rows[i] rows[j]):=aLY (hr _ (List.getElem_mem i.isLt)) (hr _ (List.getElem_mem j.isLt))
 rw [e i,aA,e j,aA,hc,aA]
theorem lib_SortIdx {E:TypeId} {xs:List Int} {a:Option Addr} {c:Nat} {rows:List (List Int)} {a1:Option Addr} {k2:Nat} {a4:Option Addr} {c5:Nat} {R:List Int} (hs:aD G K (aG E K a c xs::L) w) (hb:fK K a1 k2 [Value.slice a4 rows.length c5]) (hr:bE K a4 c5 rows) (hm:wM xs rows=some R):
  Calls Tryz.prog 47 ([Value.slice a xs.length c,Value.func (.func 48) #[] #[cX a1 k2]]:List Value).toArray w (eQ fun v w'=>v=Value.tuple #[]/\xs.length=R.length/\aD G K (aG E K a c R::L) w'):=by
 unfold wM at hm
 split at hm
 ·rename_i hcd
  obtain ⟨hlim,hpos,hnd,hrl,hin⟩:=hcd
  cases hm
  unfold jT at hlim
  have hlen:(rO (aLy rows) xs).length=xs.length:=List.length_mergeSort _
  rcases aHB hs (i:=0) rfl with ⟨rfl,rfl⟩|⟨b,off,rfl,hbk,hcell⟩
  ·refine (Tryz.slices_SortFunc_none_f47 (α:=aH) none c _ w).mono ?_
   rintro e w' ⟨rfl,rfl⟩
   exact ⟨_,rfl,rfl,hlen.symm,by simpa [rO] using hs⟩
  ·haveI:Inhabited (Fin rows.length):=⟨⟨0,hpos⟩⟩
   obtain ⟨ys,hys⟩:∃ ys:List (Fin rows.length),ys.map (fun i=>(i.val:Int))=xs:=by
    clear hs hcell hlen hlim
    induction xs with
    |nil=>exact ⟨[],rfl⟩
    |cons x xs ih=>
     obtain ⟨ys,e⟩:=ih fun y hy=>hin y (List.mem_cons_of_mem _ hy)
     have:=hin x (by simp)
     exact ⟨⟨x.toNat,by omega⟩::ys,by rw [List.map_cons,e];congr 1;show ((x.toNat:Nat):Int)=x;omega⟩
   have hyl:ys.length=xs.length:=by rw [←hys,List.length_map]
   let enc:Fin rows.length->Value:=fun i=>i64 (i.val:Int)
   let cf:Fin rows.length->Fin rows.length->Int:=fun i j=>xW rows[i] rows[j]
   have hflat:∀ l:List (Fin rows.length),kZ (l.map fun i=>(i.val:Int))=l.map enc:=fun l=>by
    induction l with
    |nil=>rfl
    |cons i l ih=>unfold kZ at ih ⊢;simp only [List.map_cons,List.flatMap_cons,ih];rfl
   have hlay:∀ (m:Nat) (os:Array Obj) (dk:Array (Fin rows.length)),dk.size=xs.length->aD G K (aG E K (some ⟨b,off,none⟩) c (dk.toList.map fun i=>(i.val:Int))::L) (sortWorld enc w b off m dk os):=by
    intro m os dk hdk
    unfold sortWorld
    rw [aIt]
    refine aD.putRow (i:=0) hs rfl (by simp [hdk]) ?_
    rw [hflat];simp only [Array.toList_map]
   have hlt:∀ i j,ltOf cf i j=aEh rows[i] rows[j]:=fun i j=>rfl
   have htri:∀ i j:Fin rows.length,aEh rows[i] rows[j]=true\/i=j\/aEh rows[j] rows[i]=true:=fun i j=>by
    rcases rowLt_tri rows[i] rows[j] with h|h|h
    ·exact .inl h
    ·exact .inr (.inl (Fin.ext ((List.getElem_inj hnd).1 h)))
    ·exact .inr (.inr h)
   have hsz:ys.toArray.size=xs.length:=by simp [hyl]
   have key:=fun h1 h2=>Tryz.slices_SortFunc_total_f47 (α:=Fin rows.length) enc (fun _=>rfl) cf (swo_of (lt:=fun i j=>aEh rows[i] rows[j]) hlt (fun i=>rowLt_irr _) (fun h1 h2=>rowLt_tr h1 h2) htri) 48 #[cX a1 k2] b off c ys.toArray w (enters_of Tryz.func48 (by kernel_rfl) rfl) h1 h2 hbk (by rw [hsz];omega) (aLU (lt:=fun i j=>aEh rows[i] rows[j]) hlt htri)
   rw [hsz] at key
   refine (key ?_ ?_).mono ?_
   ·intro m os dk hdk x y
    have hst:=hlay m os dk (by simpa using hdk)
    have:=yF (idx_model hrl x y) (aD.start (sortWorld enc w b off m dk os) G.laid hst.globs) (hb.mono hst.know) (hr.mono hst.know)
    refine this.mono ?_
    rintro e w' ⟨v,rfl,rfl,hx⟩
    exact ⟨rfl,hx.exact⟩
   ·intro j hj
    have hj':j < ys.length:=by simpa [hyl] using hj
    have e0:kZ xs=ys.map enc:=by rw [←hys];exact hflat ys
    have:=hcell j (enc ys[j]) (by rw [e0];simp [hj'])
    rw [getElem!_pos ys.toArray j (by simpa using hj')]
    simpa using this
   ·rintro e w' ⟨rfl,n,os,rfl⟩
    have hp:(ys.toArray.toList.mergeSort fun x y=>!ltOf cf y x).Perm ys:=List.mergeSort_perm _ _
    have hR:(ys.toArray.toList.mergeSort fun x y=>!ltOf cf y x).map (fun i=>(i.val:Int))=rO (aLy rows) xs:=by
     unfold rO
     rw [←hys]
     have:=List.map_mergeSort (r:=fun x y=>!ltOf cf y x) (s:=fun a b=>!aLy rows b a) (f:=fun i:Fin rows.length=>(i.val:Int)) (l:=ys) (fun a _ b _=>by
      have hg:∀ i:Fin rows.length,rows.getD ((i.val:Int)).toNat []=rows[i]:=fun i=>by
       rw [Int.toNat_natCast,List.getD_eq_getElem?_getD,List.getElem?_eq_getElem i.isLt];rfl
      show (!ltOf cf b a)=!aLy rows (b.val:Int) (a.val:Int)
      unfold aLy
      rw [hg,hg];rfl)
     exact this
    have hpl:(ys.toArray.toList.mergeSort fun x y=>!ltOf cf y x).length=xs.length:=by rw [hp.length_eq,hyl]
    refine ⟨_,rfl,rfl,hlen.symm,?_⟩
    have:=hlay n os (ys.toArray.toList.mergeSort fun x y=>!ltOf cf y x).toArray (by simpa using hpl)
    rw [←hR]
    simpa using this
 ·cases hm
end
end Gv
namespace Gv
open Go.Value renaming slice→zS
open Go Go.Proofs
theorem aOo {G:yU} {K Ke:Hp} {L:List jN} {w:World} {xs R:List (Int)} {a:Option Addr} {c:Nat} {i j:Int} (hs:aD G K (aG 2 Ke a c xs::L) w) (hm:aEI xs i j=some R):
  Calls Tryz.prog 59 ([zS a xs.length c,i64 i,i64 j]:List Value).toArray w (eQ fun v w'=>∃ (ra:Option Addr) (rc:Nat),v=zS ra R.length rc/\aD G K (aG 2 Ke ra rc R::L) w'):=by
 unfold aEI at hm
 split at hm
 ·rename_i hc
  obtain ⟨h0,h1,h2⟩:=hc
  obtain ⟨i,rfl⟩:=Int.eq_ofNat_of_zero_le h0
  obtain ⟨j,rfl⟩:=Int.eq_ofNat_of_zero_le (Int.le_trans h0 h1)
  have hij:i<=j:=by omega
  have hjn:j<=xs.length:=by omega
  simp only [Int.toNat_natCast,Option.some.injEq] at hm
  subst hm
  have hcap:=oU hs (i:=0) rfl
  have hsl:SLT Tryz.prog 29 2 1:=⟨Tryz.runUnderlying29,Tryz.sizeOf2⟩
  have hez:EZ Tryz.prog 2 [i64 0]:=⟨⟨_,Tryz.zeroValue2,rfl⟩,⟨Tryz.t2,Tryz.typeInfo2,by show (8:Nat)<=128;decide,rfl,by kernel_rfl,_,rfl,rfl⟩⟩
  have hlen:(xs.take i++xs.drop j).length=i+(xs.length - j):=by rw [List.length_append,List.length_take,List.length_drop];omega
  refine aN Tryz.func59 rfl (by kernel_rfl) (by show (3:Nat)<=33;decide) ?_
  refine aL ?_
  refine aW ?_
  refine aF (dT (v:=zS none 0 0) rfl) ?_
  refine aR (aC ?_)
  refine aL ?_
  refine aW ?_
  refine aF (aY (v:=zS a xs.length c) rfl) ?_
  refine aF (aY (v:=i64 (i:Int)) rfl) ?_
  refine aF (aY (v:=i64 (j:Int)) rfl) ?_
  refine aF (aY (v:=zS a xs.length c) rfl) ?_
  refine aF (bF (len:=xs.length) hsl rfl) ?_
  refine WO_sl3 hsl rfl rfl rfl rfl hij hjn hcap fun v0=>?_
  refine aR (aC ?_)
  refine aL ?_
  refine aL ?_
  refine aW ?_
  refine aF (aY (v:=i64 (i:Int)) rfl) ?_
  refine aF (aY (v:=i64 (j:Int)) rfl) ?_
  refine aF (aLl rfl rfl) ?_
  refine aR (aC ?_)
  by_cases hb:((i:Int) == (j:Int))=true
  ·have he:i=j:=by have:=beq_iff_eq.1 hb;omega
   refine aZ hb rfl ?_
   refine aL ?_
   refine aW ?_
   refine aF (aY (v:=zS a xs.length c) rfl) ?_
   refine aF (dT (v:=zS a xs.length c) rfl) ?_
   refine aR (aC ?_)
   have e2:xs.take i++xs.drop j=xs:=by rw [he,List.take_append_drop]
   rw [e2]
   exact nY (nE (oH Tryz.results59 rfl ⟨a,c,rfl,hs⟩))
  ·refine bJ hb rfl ?_
   refine bD (aC ?_)
   refine aL ?_
   refine aW ?_
   refine aF (aY (v:=zS a xs.length c) rfl) ?_
   refine aF (bF (len:=xs.length) hsl rfl) ?_
   refine aF (dT (v:=i64 (xs.length:Int)) rfl) ?_
   refine aR (aC ?_)
   refine aL ?_
   refine dG (C:=fun w'=>∃ L',aD G K L' w') [(0,0),(1,0),(2,0),(3,0),(4,0),(5,0),(6,1),(7,0)] Tryz_mixed (by kernel_rfl) (fun _ hg=>⟨_,aD.mono hs hg⟩) ?_
   intro w1 hg1
   have hs1:=aD.mono hs hg1
   refine bB rfl (fun _ _=>aY (v:=zS a xs.length c) rfl) ?_
   refine bB rfl (fun _ _=>aY (v:=i64 (i:Int)) rfl) ?_
   refine bB rfl (fun _ _=>R_slNH hsl rfl rfl (by omega)) ?_
   refine bB rfl (fun _ _=>aY (v:=zS a xs.length c) rfl) ?_
   refine bB rfl (fun _ _=>aY (v:=i64 (j:Int)) rfl) ?_
   obtain ⟨a2,c2,hcut⟩:=Cut.ex 1 a c (j:Int)
   refine bB rfl (fun _ _=>R_slNL hsl hcut rfl rfl hjn) ?_
   have hsc:xT xs (j:Int) (xs.length:Int)=some (xs.drop j):=by
    unfold xT
    rw [if_pos ⟨by omega,by omega,by simp⟩,Int.toNat_natCast,Int.toNat_natCast,List.take_of_length_le (by rw [List.length_drop];exact Nat.le_refl _)]
   have hov:ovw xs (i:Int) (xs.drop j)=some (xs.take i++xs.drop j++xs.drop (i+(xs.drop j).length)):=by
    unfold ovw
    rw [if_pos ⟨by omega,by rw [Int.toNat_natCast,List.length_drop];omega⟩,Int.toNat_natCast]
   refine jZ rfl ?_
   refine aPB (i:=0) hsl rfl hs1 rfl hsc hcut hov rfl rfl (by rw [List.length_drop]) ?_
   intro w2 (hs2:aD G K (aG 2 Ke a c (xs.take i++xs.drop j++xs.drop (i+(xs.drop j).length))::L) w2)
   refine aR (aC ⟨⟨_,hs2⟩,?_⟩)
   refine bB rfl (fun _ _=>dT (v:=zS a (i+(xs.length - j)) c) rfl) ?_
   refine qE (aC ?_)
   refine aL ?_
   refine aW ?_
   refine aF (aY (v:=zS a (i+(xs.length - j)) c) rfl) ?_
   refine aF (aY (v:=zS a (i+(xs.length - j)) c) rfl) ?_
   refine aF (bF (len:=i+(xs.length - j)) hsl rfl) ?_
   refine aF (aY (v:=i64 (xs.length:Int)) rfl) ?_
   obtain ⟨a3,c3,hcut3⟩:=Cut.ex 1 a c ((i+(xs.length - j):Nat):Int)
   refine aF (R_slNB hsl hcut3 rfl rfl rfl (by omega) hcap) ?_
   have hdl:(xs.drop j).length=xs.length - j:=List.length_drop
   have hl3:(xs.take i++xs.drop j++xs.drop (i+(xs.drop j).length)).length=xs.length:=by
    rw [List.length_append,hlen,List.length_drop,hdl];omega
   have hov3:ovw (xs.take i++xs.drop j++xs.drop (i+(xs.drop j).length)) ((i+(xs.length - j):Nat):Int) (List.replicate (xs.length - (i+(xs.length - j))) ((0:Int)))=some (xs.take i++xs.drop j++List.replicate (xs.length - (i+(xs.length - j))) ((0:Int))):=by
    unfold ovw
    rw [if_pos ⟨by omega,by rw [Int.toNat_natCast,hl3,List.length_replicate];omega⟩,Int.toNat_natCast]
    have e1:(xs.take i++xs.drop j++xs.drop (i+(xs.drop j).length)).take (i+(xs.length - j))=xs.take i++xs.drop j:=by rw [List.take_append_of_le_length (by rw [hlen];exact Nat.le_refl _),List.take_of_length_le (by rw [hlen];exact Nat.le_refl _)]
    have e2:(xs.take i++xs.drop j++xs.drop (i+(xs.drop j).length)).drop (i+(xs.length - j)+(List.replicate (xs.length - (i+(xs.length - j))) ((0:Int))).length)=[]:=List.drop_of_length_le (by rw [hl3,List.length_replicate];omega)
    rw [e1,e2,List.append_nil]
   refine aDU (i:=0) (z:=(0:Int)) hsl hez rfl hs2 rfl hcut3 rfl rfl hov3 ?_
   intro w3 (hs3:aD G K (aG 2 Ke a c (xs.take i++xs.drop j++List.replicate (xs.length - (i+(xs.length - j))) ((0:Int)))::L) w3)
   refine aR (aC ?_)
   refine aL ?_
   refine aW ?_
   refine aF (aY (v:=zS a (i+(xs.length - j)) c) rfl) ?_
   refine aF (dT (v:=zS a (i+(xs.length - j)) c) rfl) ?_
   refine aR (aC ?_)
   have hs4:aD G K (aG 2 Ke a c (xs.take i++xs.drop j)::L) w3:=aD.cutP hs3 (i:=0) rfl (lo:=0) (hi:=((i+(xs.length - j):Nat):Int)) (by
    unfold xT
    rw [if_pos ⟨by omega,by omega,by rw [Int.toNat_natCast,List.length_append,hlen];omega⟩,Int.toNat_natCast]
    have e1:(0:Int).toNat=0:=rfl
    rw [e1,List.drop_zero,Nat.sub_zero,List.take_append_of_le_length (by rw [hlen];exact Nat.le_refl _),List.take_of_length_le (by rw [hlen];exact Nat.le_refl _)]) Cut.whole
   exact nY (oH Tryz.results59 rfl ⟨a,c,by rw [hlen];rfl,hs4⟩)
 ·cases hm
theorem aOp {G:yU} {K Ke:Hp} {L:List jN} {w:World} {xs R:List (Cells 3)} {a:Option Addr} {c:Nat} {i j:Int} (hs:aD G K (aG 35 Ke a c xs::L) w) (hm:aEI xs i j=some R):
  Calls Tryz.prog 114 ([zS a xs.length c,i64 i,i64 j]:List Value).toArray w (eQ fun v w'=>∃ (ra:Option Addr) (rc:Nat),v=zS ra R.length rc/\aD G K (aG 35 Ke ra rc R::L) w'):=by
 unfold aEI at hm
 split at hm
 ·rename_i hc
  obtain ⟨h0,h1,h2⟩:=hc
  obtain ⟨i,rfl⟩:=Int.eq_ofNat_of_zero_le h0
  obtain ⟨j,rfl⟩:=Int.eq_ofNat_of_zero_le (Int.le_trans h0 h1)
  have hij:i<=j:=by omega
  have hjn:j<=xs.length:=by omega
  simp only [Int.toNat_natCast,Option.some.injEq] at hm
  subst hm
  have hcap:=oU hs (i:=0) rfl
  have hsl:SLT Tryz.prog 24 35 4:=⟨Tryz.runUnderlying24,Tryz.sizeOf35⟩
  have hez:EZ Tryz.prog 35 [i64 0,i64 0,zS none 0 0,zS none 0 0]:=⟨⟨_,Tryz.zeroValue35,rfl⟩,⟨Tryz.t35,Tryz.typeInfo35,by show (64:Nat)<=128;decide,rfl,by kernel_rfl,_,rfl,rfl⟩⟩
  have hlen:(xs.take i++xs.drop j).length=i+(xs.length - j):=by rw [List.length_append,List.length_take,List.length_drop];omega
  refine aN Tryz.func114 rfl (by kernel_rfl) (by show (3:Nat)<=33;decide) ?_
  refine aL ?_
  refine aW ?_
  refine aF (dT (v:=zS none 0 0) rfl) ?_
  refine aR (aC ?_)
  refine aL ?_
  refine aW ?_
  refine aF (aY (v:=zS a xs.length c) rfl) ?_
  refine aF (aY (v:=i64 (i:Int)) rfl) ?_
  refine aF (aY (v:=i64 (j:Int)) rfl) ?_
  refine aF (aY (v:=zS a xs.length c) rfl) ?_
  refine aF (bF (len:=xs.length) hsl rfl) ?_
  refine WO_sl3 hsl rfl rfl rfl rfl hij hjn hcap fun v0=>?_
  refine aR (aC ?_)
  refine aL ?_
  refine aL ?_
  refine aW ?_
  refine aF (aY (v:=i64 (i:Int)) rfl) ?_
  refine aF (aY (v:=i64 (j:Int)) rfl) ?_
  refine aF (aLl rfl rfl) ?_
  refine aR (aC ?_)
  by_cases hb:((i:Int) == (j:Int))=true
  ·have he:i=j:=by have:=beq_iff_eq.1 hb;omega
   refine aZ hb rfl ?_
   refine aL ?_
   refine aW ?_
   refine aF (aY (v:=zS a xs.length c) rfl) ?_
   refine aF (dT (v:=zS a xs.length c) rfl) ?_
   refine aR (aC ?_)
   have e2:xs.take i++xs.drop j=xs:=by rw [he,List.take_append_drop]
   rw [e2]
   exact nY (nE (oH Tryz.results114 rfl ⟨a,c,rfl,hs⟩))
  ·refine bJ hb rfl ?_
   refine bD (aC ?_)
   refine aL ?_
   refine aW ?_
   refine aF (aY (v:=zS a xs.length c) rfl) ?_
   refine aF (bF (len:=xs.length) hsl rfl) ?_
   refine aF (dT (v:=i64 (xs.length:Int)) rfl) ?_
   refine aR (aC ?_)
   refine aL ?_
   refine dG (C:=fun w'=>∃ L',aD G K L' w') [(0,0),(1,0),(2,0),(3,0),(4,0),(5,0),(6,1),(7,0)] Tryz_mixed (by kernel_rfl) (fun _ hg=>⟨_,aD.mono hs hg⟩) ?_
   intro w1 hg1
   have hs1:=aD.mono hs hg1
   refine bB rfl (fun _ _=>aY (v:=zS a xs.length c) rfl) ?_
   refine bB rfl (fun _ _=>aY (v:=i64 (i:Int)) rfl) ?_
   refine bB rfl (fun _ _=>R_slNH hsl rfl rfl (by omega)) ?_
   refine bB rfl (fun _ _=>aY (v:=zS a xs.length c) rfl) ?_
   refine bB rfl (fun _ _=>aY (v:=i64 (j:Int)) rfl) ?_
   obtain ⟨a2,c2,hcut⟩:=Cut.ex 4 a c (j:Int)
   refine bB rfl (fun _ _=>R_slNL hsl hcut rfl rfl hjn) ?_
   have hsc:xT xs (j:Int) (xs.length:Int)=some (xs.drop j):=by
    unfold xT
    rw [if_pos ⟨by omega,by omega,by simp⟩,Int.toNat_natCast,Int.toNat_natCast,List.take_of_length_le (by rw [List.length_drop];exact Nat.le_refl _)]
   have hov:ovw xs (i:Int) (xs.drop j)=some (xs.take i++xs.drop j++xs.drop (i+(xs.drop j).length)):=by
    unfold ovw
    rw [if_pos ⟨by omega,by rw [Int.toNat_natCast,List.length_drop];omega⟩,Int.toNat_natCast]
   refine jZ rfl ?_
   refine aPB (i:=0) hsl rfl hs1 rfl hsc hcut hov rfl rfl (by rw [List.length_drop]) ?_
   intro w2 (hs2:aD G K (aG 35 Ke a c (xs.take i++xs.drop j++xs.drop (i+(xs.drop j).length))::L) w2)
   refine aR (aC ⟨⟨_,hs2⟩,?_⟩)
   refine bB rfl (fun _ _=>dT (v:=zS a (i+(xs.length - j)) c) rfl) ?_
   refine qE (aC ?_)
   refine aL ?_
   refine aW ?_
   refine aF (aY (v:=zS a (i+(xs.length - j)) c) rfl) ?_
   refine aF (aY (v:=zS a (i+(xs.length - j)) c) rfl) ?_
   refine aF (bF (len:=i+(xs.length - j)) hsl rfl) ?_
   refine aF (aY (v:=i64 (xs.length:Int)) rfl) ?_
   obtain ⟨a3,c3,hcut3⟩:=Cut.ex 4 a c ((i+(xs.length - j):Nat):Int)
   refine aF (R_slNB hsl hcut3 rfl rfl rfl (by omega) hcap) ?_
   have hdl:(xs.drop j).length=xs.length - j:=List.length_drop
   have hl3:(xs.take i++xs.drop j++xs.drop (i+(xs.drop j).length)).length=xs.length:=by
    rw [List.length_append,hlen,List.length_drop,hdl];omega
   have hov3:ovw (xs.take i++xs.drop j++xs.drop (i+(xs.drop j).length)) ((i+(xs.length - j):Nat):Int) (List.replicate (xs.length - (i+(xs.length - j))) ((⟨[i64 0,i64 0,zS none 0 0,zS none 0 0],rfl,dM rfl⟩:Cells 3)))=some (xs.take i++xs.drop j++List.replicate (xs.length - (i+(xs.length - j))) ((⟨[i64 0,i64 0,zS none 0 0,zS none 0 0],rfl,dM rfl⟩:Cells 3))):=by
    unfold ovw
    rw [if_pos ⟨by omega,by rw [Int.toNat_natCast,hl3,List.length_replicate];omega⟩,Int.toNat_natCast]
    have e1:(xs.take i++xs.drop j++xs.drop (i+(xs.drop j).length)).take (i+(xs.length - j))=xs.take i++xs.drop j:=by rw [List.take_append_of_le_length (by rw [hlen];exact Nat.le_refl _),List.take_of_length_le (by rw [hlen];exact Nat.le_refl _)]
    have e2:(xs.take i++xs.drop j++xs.drop (i+(xs.drop j).length)).drop (i+(xs.length - j)+(List.replicate (xs.length - (i+(xs.length - j))) ((⟨[i64 0,i64 0,zS none 0 0,zS none 0 0],rfl,dM rfl⟩:Cells 3))).length)=[]:=List.drop_of_length_le (by rw [hl3,List.length_replicate];omega)
    rw [e1,e2,List.append_nil]
   refine aDU (i:=0) (z:=(⟨[i64 0,i64 0,zS none 0 0,zS none 0 0],rfl,dM rfl⟩:Cells 3)) hsl hez rfl hs2 rfl hcut3 rfl rfl hov3 ?_
   intro w3 (hs3:aD G K (aG 35 Ke a c (xs.take i++xs.drop j++List.replicate (xs.length - (i+(xs.length - j))) ((⟨[i64 0,i64 0,zS none 0 0,zS none 0 0],rfl,dM rfl⟩:Cells 3)))::L) w3)
   refine aR (aC ?_)
   refine aL ?_
   refine aW ?_
   refine aF (aY (v:=zS a (i+(xs.length - j)) c) rfl) ?_
   refine aF (dT (v:=zS a (i+(xs.length - j)) c) rfl) ?_
   refine aR (aC ?_)
   have hs4:aD G K (aG 35 Ke a c (xs.take i++xs.drop j)::L) w3:=aD.cutP hs3 (i:=0) rfl (lo:=0) (hi:=((i+(xs.length - j):Nat):Int)) (by
    unfold xT
    rw [if_pos ⟨by omega,by omega,by rw [Int.toNat_natCast,List.length_append,hlen];omega⟩,Int.toNat_natCast]
    have e1:(0:Int).toNat=0:=rfl
    rw [e1,List.drop_zero,Nat.sub_zero,List.take_append_of_le_length (by rw [hlen];exact Nat.le_refl _),List.take_of_length_le (by rw [hlen];exact Nat.le_refl _)]) Cut.whole
   exact nY (oH Tryz.results114 rfl ⟨a,c,by rw [hlen];rfl,hs4⟩)
 ·cases hm
theorem lib_DelInt {G:yU} {K Ke:Hp} {L:List jN} {w:World} {xs R:List Int} {a:Option Addr} {c:Nat} {i j:Int} (hs:aD G K (aG 2 Ke a c xs::L) w) (hm:aEI xs i j=some R):
  Calls Tryz.prog 59 ([zS a xs.length c,i64 i,i64 j]:List Value).toArray w (eQ fun v w'=>∃ (ra:Option Addr) (rc:Nat),v=zS ra R.length rc/\aD G K (aG 2 Ke ra rc R::L) w'):=aOo hs hm
theorem lib_DelLts {G:yU} {K Ke:Hp} {L:List jN} {w:World} {xs R:List bA} {a:Option Addr} {c:Nat} {hds:List (Dp.Hd bA)} {tys:List TypeId} {i j:Int} (hs:aD G K (aG 35 Ke a c (aT hds xs)::rows tys hds xs::L) w) (hl:hds.length=xs.length) (hm:aEI xs i j=some R):
  Calls Tryz.prog 114 ([zS a xs.length c,i64 i,i64 j]:List Value).toArray w (eQ fun v w'=>∃ (ra:Option Addr) (rc:Nat) (hd:List (Dp.Hd bA)),v=zS ra R.length rc/\hd.length=R.length/\aD G K (aG 35 Ke ra rc (aT hd R)::rows tys hd R::L) w'):=by
 have hm0:=hm
 unfold aEI at hm
 split at hm
 ·rename_i hc
  obtain ⟨h0,h1,h2⟩:=hc
  have hR:=Option.some.inj hm
  subst hR
  have hij:i.toNat<=j.toNat:=by omega
  have hh:=(heads_del (hds:=hds) (xs:=xs) i.toNat j.toNat).resolve_right (fun h=>h hl)
  have hlh:(aT hds xs).length=xs.length:=tT hl
  have hq:aEI (aT hds xs) i j=some (aT (hds.take i.toNat++hds.drop j.toNat) (xs.take i.toNat++xs.drop j.toNat)):=by
   unfold aEI
   rw [if_pos ⟨h0,h1,by rw [hlh];exact h2⟩,hh]
  have hl2:(hds.take i.toNat++hds.drop j.toNat).length=(xs.take i.toNat++xs.drop j.toNat).length:=by
   rw [List.length_append,List.length_append,List.length_take,List.length_take,List.length_drop,List.length_drop,hl]
  have hw:=aOp (xs:=aT hds xs) hs hq
  rw [hlh] at hw
  refine hw.mono ?_
  rintro e w' ⟨v,rfl,ra,rc,rfl,hs'⟩
  refine ⟨_,rfl,ra,rc,hds.take i.toNat++hds.drop j.toNat,by rw [tT hl2],hl2,?_⟩
  exact aD.weak (i:=1) hs' rfl (fun g h=>rows_del hij hl g h)
 ·cases hm
end Gv
