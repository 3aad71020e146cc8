/- Contracts of functions of Go's library, said of heaps of pieces. -/
import Derived.Test.YtnelhgfdoneljaaGreatDoorJWk0
import Derived.Test.YtnelhgfdoneljaaGreatDoorJP11
import Derived.Lib.AppendZeros
set_option linter.all false
namespace Gv
open Go Go.Proofs Go.RowKit Go.Sort
section
variable {G:tO} {K:Hp} {L:List fJ} {w:World}
def cmpL (a b:aQ):Int:=if a == b then 0 else if a == cI then -1 else if b == cI then 1 else cmpB a b
theorem cmpL_eq (a b:aQ):aAr a b=some (cmpL a b):=by
 unfold aAr cmpL
 rw [show ([116,97,117]:aQ)=cI from rfl]
 cases a == b<;>cases a == cI<;>cases b == cI<;>rfl
theorem aKN (a b:aQ):ltOf cmpL a b=xE a b:=by
 unfold ltOf cmpL xE cmpB
 by_cases h1:a=b
 ·simp [h1]
 ·by_cases h2:a=cI
  ·subst h2;simp [h1]
  ·by_cases h3:b=cI
   ·simp [h1,h2,h3]
   ·simp only [h1,h2,h3,beq_iff_eq,if_false]
    cases yF a b<;>rfl
def cmpE (a b:Edge):Int:=or3 (aIc a.F b.F) (aIc a.B b.B) (aIc a.To b.To)
theorem aKO (a b:Edge):ltOf cmpE a b=bS a b:=by
 unfold ltOf cmpE
 have:=cmpE_ge a b
 cases hx:bS a b with
 |true=>rw [hx] at this;simp at this;simpa using this
 |false=>rw [hx] at this;simp at this;simpa using this
theorem aJa (a b:Edge):bS a b=true\/a=b\/bS b a=true:=by
 rw [pX,pX]
 obtain ⟨a1,a2,a3⟩:=a
 obtain ⟨b1,b2,b3⟩:=b
 simp only [Edge.mk.injEq]
 omega
theorem edgeLt_tr {a b c:Edge} (h1:bS a b=true) (h2:bS b c=true):bS a c=true:=by
 rw [pX] at *;omega
theorem swo_of {α:Type} {lt lt':α->α->Bool} (he:∀ a b,lt' a b=lt a b) (irr:∀ a,lt a a=false) (tr:∀ {a b c},lt a b=true->lt b c=true->lt a c=true) (tri:∀ a b,lt a b=true\/a=b\/lt b a=true):Sort.SWO lt':=by
 obtain rfl:lt'=lt:=by funext a b;exact he a b
 refine ⟨irr,fun x y z=>tr,fun x y z h1 h2=>?_⟩
 rcases tri x y with h|h|h
 ·rw [h] at h1;cases h1
 ·subst h;exact h2
 ·rcases tri y z with g|g|g
  ·rw [g] at h2;cases h2
  ·subst g;exact h1
  ·cases hx:lt' x z with
   |false=>rfl
   |true=>
    have:=tr (tr g h) hx
    rw [irr] at this;cases this
theorem aLS {α:Type} {lt lt':α->α->Bool} (he:∀ a b,lt' a b=lt a b) (tri:∀ a b,lt a b=true\/a=b\/lt b a=true) (x y:α) (h1:lt' x y=false) (h2:lt' y x=false):x=y:=by
 rw [he] at h1 h2
 rcases tri x y with h|h|h
 ·rw [h] at h1;cases h1
 ·exact h
 ·rw [h] at h2;cases h2
theorem lib_SortStr {E:TypeId} {xs:List aQ} {a:Option Addr} {c:Nat} {R:List aQ} (hs:aF G K (own E K a c xs::L) w) (hm:aCU xs=some R):
  Calls Tryz.prog 154 ([Value.slice a xs.length c,Value.func (.func 155) #[] #[]]:List Value).toArray w (eC fun v w'=>v=Value.tuple #[]/\xs.length=R.length/\aF G K (own E K a c R::L) w'):=by
 unfold aCU at hm
 split at hm
 ·rename_i hl
  cases hm
  unfold gQ at hl
  have hlen:(xB xE xs).length=xs.length:=List.length_mergeSort _
  have hlay:∀ b off,a=some ⟨b,off,none⟩->∀ (m:Nat) (os:Array Obj) (dk:Array aQ),dk.size=xs.length->aF G K (own E K a c dk.toList::L) (sortWorld str w b off m dk os):=by
   rintro b off rfl m os dk hdk
   unfold sortWorld
   rw [aIG]
   refine aF.putRow (i:=0) hs rfl (by simp [hdk]) ?_
   rw [aLL];simp
  rcases aHh hs (i:=0) rfl with ⟨rfl,rfl⟩|⟨b,off,rfl,hb,hc⟩
  ·refine (Tryz.slices_SortFunc_none_f154 (α:=aQ) none c _ w).mono ?_
   rintro e w' ⟨rfl,rfl⟩
   exact ⟨_,rfl,rfl,hlen.symm,by simpa [xB] using hs⟩
  ·refine (Tryz.slices_SortFunc_total_f154 (α:=aQ) str (fun _=>rfl) cmpL (swo_of aKN aKi aLR aHv) 155 #[] b off c xs.toArray w (enters_of Tryz.func155 (by kernel_rfl) rfl) ?_ ?_ hb (by simp;omega) (aLS aKN aHv)).mono ?_
   ·intro m os dk hdk x y
    have hst:=hlay b off rfl m os dk (by simpa using hdk)
    have:=aAa (cmpL_eq x y) (aF.start (sortWorld str w b off m dk os) G.laid hst.globs)
    refine this.mono ?_
    rintro e w' ⟨v,rfl,rfl,hx⟩
    exact ⟨rfl,hx.exact⟩
   ·intro j hj
    have hj':j < xs.length:=by simpa using hj
    have:=hc j (str xs[j]) (by rw [aLL];simp [hj'])
    rw [getElem!_pos xs.toArray j hj]
    simpa using this
   ·rintro e w' ⟨rfl,n,os,rfl⟩
    refine ⟨_,rfl,rfl,hlen.symm,?_⟩
    have:=hlay b off rfl n os (xB xE xs).toArray (by simpa using hlen)
    have he:(xs.toArray.toList.mergeSort fun x y=>!ltOf cmpL y x)=xB xE xs:=by
     unfold xB;congr 1;funext x y;rw [aKN]
    rw [he]
    simpa using this
 ·cases hm
theorem aLT {β:Type} [dI β]:∀ (l:List β) (i r:Nat) (hi:i < l.length),r < dI.sz β->(gU l)[i * dI.sz β+r]?=(dI.enc l[i])[r]?
 |[],i,r,hi,_=>by simp at hi
 |x::l,0,r,hi,hr=>by
  unfold gU
  rw [List.flatMap_cons,Nat.zero_mul,Nat.zero_add,List.getElem?_append_left (by rw [dI.len];exact hr)];rfl
 |x::l,i+1,r,hi,hr=>by
  have:=aLT l i r (by simpa using hi) hr
  unfold gU at this ⊢
  rw [List.flatMap_cons,Nat.add_mul,Nat.one_mul,List.getElem?_append_right (by rw [dI.len];omega),dI.len]
  rw [show i * dI.sz β+dI.sz β+r - dI.sz β=i * dI.sz β+r by omega,this];rfl
theorem aLU {β:Type} [dI β] [Inhabited β] (l:List β):(flatK dI.enc (dI.sz β) l.toArray).toList=gU l:=by
 have hz:=dI.pos (α:=β)
 refine List.ext_getElem? fun t=>?_
 unfold flatK
 by_cases ht:t < l.length * dI.sz β
 ·have h1:t / dI.sz β < l.length:=Nat.div_lt_of_lt_mul (by rw [Nat.mul_comm];exact ht)
  have h2:t % dI.sz β < dI.sz β:=Nat.mod_lt _ hz
  have h3:=aLT l (t / dI.sz β) (t % dI.sz β) h1 h2
  rw [Nat.div_add_mod'] at h3
  rw [h3]
  simp only [Array.toList_map,Array.toList_range,List.getElem?_map,List.size_toArray,List.getElem?_range ht,Option.map_some]
  rw [getElem!_pos l.toArray _ (by simpa using h1)]
  have h4:t % dI.sz β < (dI.enc l[t / dI.sz β]).length:=by rw [dI.len];exact h2
  rw [List.getElem?_eq_getElem h4]
  simp only [List.getElem_toArray]
  rw [getElem!_pos (dI.enc l[t / dI.sz β]) (t % dI.sz β) h4]
 ·rw [List.getElem?_eq_none (by simp;omega),List.getElem?_eq_none (by rw [tR];omega)]
theorem lib_SortEdge {E:TypeId} {xs:List Edge} {a:Option Addr} {c:Nat} {R:List Edge} (hs:aF G K (own E K a c xs::L) w) (hm:aBf xs=some R):
  Calls Tryz.prog 158 ([Value.slice a xs.length c,Value.func (.func 44) #[] #[]]:List Value).toArray w (eC fun v w'=>v=Value.tuple #[]/\xs.length=R.length/\aF G K (own E K a c R::L) w'):=by
 unfold aBf at hm
 split at hm
 ·rename_i hl
  cases hm
  unfold gQ at hl
  have hlen:(xB bS xs).length=xs.length:=List.length_mergeSort _
  have hlay:∀ b off,a=some ⟨b,off,none⟩->∀ (m:Nat) (os:Array Obj) (dk:Array Edge),dk.size=xs.length->aF G K (own E K a c dk.toList::L) (sortWorldK dI.enc 3 w b off m dk os):=by
   rintro b off rfl m os dk hdk
   unfold sortWorldK putRowK
   refine aF.putRow (i:=0) hs rfl (by simp [hdk]) ?_
   exact aLU dk.toList
  rcases aHh hs (i:=0) rfl with ⟨rfl,rfl⟩|⟨b,off,rfl,hb,hc⟩
  ·refine (Tryz.slices_SortFunc_none_f158 (α:=Edge) none c _ w).mono ?_
   rintro e w' ⟨rfl,rfl⟩
   exact ⟨_,rfl,rfl,hlen.symm,by simpa [xB] using hs⟩
  ·refine (Tryz.slices_SortFunc_total_f158 (α:=Edge) 3 Tryz.isAgg51 Tryz.sizeOf51 dI.enc (fun _=>rfl) (fun x v hv=>dI.one x v hv) cmpE (swo_of aKO (fun a=>by cases hx:bS a a with|false=>rfl|true=>exact absurd rfl (aHw hx)) edgeLt_tr aJa) 44 #[] b off c xs.toArray w (enters_of Tryz.func44 (by kernel_rfl) rfl) ?_ ?_ hb (by simp;omega) (aLS aKO aJa)).mono ?_
   ·intro m os dk hdk x y
    have hst:=hlay b off rfl m os dk (by simpa using hdk)
    have:=aAz (aDQ x y) (aF.start (sortWorldK dI.enc 3 w b off m dk os) G.laid hst.globs)
    refine this.mono ?_
    rintro e w' ⟨v,rfl,rfl,hx⟩
    exact ⟨rfl,hx.exact⟩
   ·intro j hj
    have hf:=aLU xs
    have hj3:j < xs.length * 3:=by have h:=hj;rw [size_flatK] at h;simpa using h
    have hj2:j < (gU xs).length:=by rw [tR];exact hj3
    have:=hc j (gU xs)[j] (by rw [List.getElem?_eq_getElem hj2])
    have e:(flatK dI.enc 3 xs.toArray)[j]! = (gU xs)[j]:=by
     rw [getElem!_pos (flatK dI.enc 3 xs.toArray) j hj]
     have:(flatK dI.enc 3 xs.toArray)[j]=(flatK dI.enc (dI.sz Edge) xs.toArray).toList[j]'(by rw [hf];exact hj2):=by simp;rfl
     rw [this]
     simp only [hf]
    rw [e]
    exact this
   ·rintro e w' ⟨rfl,n,os,rfl⟩
    refine ⟨_,rfl,rfl,hlen.symm,?_⟩
    have:=hlay b off rfl n os (xB bS xs).toArray (by simpa using hlen)
    have he:(xs.toArray.toList.mergeSort fun x y=>!ltOf cmpE y x)=xB bS xs:=by
     unfold xB;congr 1;funext x y;rw [aKO]
    rw [he]
    simpa using this
 ·cases hm
end
end Gv
namespace Gv
open Go.Value renaming slice→zS
open Go Go.Proofs Go.RowKit Go.Sort
section
variable {P:Program} {f:Nat->Value} {w:World} {d:Nat} {x y z:Operand} {ty:TypeId} {pos:String} {af:Array Go.Edge}
theorem R_capS {T E:TypeId} {sz:Nat} {a:Option Addr} {len cap:Nat} (hT:SLT P T E sz) (hx:ev f x=.slice a len cap):
  (execOp (ev f) ⟨some d,.call ⟨.builtin .cap,#[x],#[T]⟩,ty,pos,af,none⟩).run P w=.ok (.value (i64 cap)) w:=
 (by simp [execOp,resolve,invoke,builtin,Builtin.cap_,hx,hT.un,goInt,i64])
theorem R_slN {T E:TypeId} {sz:Nat} {len cap:Nat} {h:Int} (hT:SLT P T E sz) (hx:ev f x=.slice none len cap) (hz:ev f z=i64 h) (h0:0<=h) (h1:h<=cap):
  (execOp (ev f) ⟨some d,.slice T x none (some z) none,ty,pos,af,none⟩).run P w=.ok (.value (.slice none h.toNat cap)) w:=by
 have hc:0<=h/\h<=cap:=⟨h0,h1⟩
 simp [execOp,hx,hz,aFd hT,Instr.slice,hT.un,hT.size,Instr.sliceBounds,Instr.sliceBound,i64,asIntOf,hc]
theorem R_slZ {T E:TypeId} {sz b:Nat} {len cap:Nat} (hT:SLT P T E sz) (hx:ev f x=.slice (some ⟨b,0,none⟩) len cap) (hz:ev f z=i64 0):
  (execOp (ev f) ⟨some d,.slice T x none (some z) none,ty,pos,af,none⟩).run P w=.ok (.value (.slice (some ⟨b,0,none⟩) 0 cap)) w:=by
 have hc:(0:Int)<=0/\(0:Int)<=cap:=⟨Int.le_refl _,by omega⟩
 simp [execOp,hx,hz,aFd hT,Instr.slice,hT.un,hT.size,Instr.sliceBounds,Instr.sliceBound,i64,asIntOf,hc,lP]
end
section
variable {G:tO} {K:Hp} {L:List fJ} {w:World}
theorem lib_GrowStr {n:Int} {R:List aQ} (hs:aF G K L w) (_hr:bL K none 0 ([]:List aQ)) (hm:aFf [] n=some R):
  Calls Tryz.prog 160 ([zS none 0 0,i64 n]:List Value).toArray w (eC fun v w'=>∃ (a':Option Addr) (c':Nat),v=zS a' R.length c'/\aF G K (own 9 K a' c' R::L) w'):=by
 unfold aFf at hm
 split at hm
 ·rename_i hl
  cases hm
  obtain ⟨-,h0,h1⟩:=hl
  unfold gQ at h1
  refine aN Tryz.func160 rfl (by kernel_rfl) (by show (2:Nat)<=27;decide) ?_
  refine aK ?_
  refine aS ?_
  refine aD (eE (v:=zS none 0 0) rfl) ?_
  refine aV (aC ?_)
  refine aK ?_
  refine aK ?_
  refine aS ?_
  refine aD (aT (v:=i64 n) rfl) ?_
  refine aD (cK rfl rfl) ?_
  refine aV (aC ?_)
  refine bG (by simp;omega) rfl ?_
  refine aW (aC ?_)
  refine aK ?_
  refine aK ?_
  refine aS ?_
  refine aD (aT (v:=i64 n) rfl) ?_
  refine aD (aT (v:=zS none 0 0) rfl) ?_
  refine aD (R_capS fD rfl) ?_
  refine aD (aT (v:=zS none 0 0) rfl) ?_
  refine aD (bC fD rfl) ?_
  refine aD (oH rfl rfl) ?_
  refine aD (oH rfl rfl) ?_
  refine aD (eE (v:=i64 n) (congrArg i64 (show wr (n - wr (0 - 0))=n by rw [show wr ((0:Int) - 0)=0 by decide,Int.sub_zero,cF]<;>omega))) ?_
  refine aV (aC ?_)
  refine aK ?_
  refine aS ?_
  refine aD (aT (v:=i64 n) rfl) ?_
  refine aD (aBX rfl rfl) ?_
  refine aV (aC ?_)
  by_cases hn:0 < n
  ·refine aR (decide_eq_true hn) rfl ?_
   refine aS ?_
   refine aD (aT (v:=zS none 0 0) rfl) ?_
   refine aD (aT (v:=zS none 0 0) rfl) ?_
   refine aD (R_capS fD rfl) ?_
   refine aD (R_slN fD rfl rfl (Int.le_refl _) (Int.le_refl _)) ?_
   refine aD (aT (v:=i64 n) rfl) ?_
   obtain ⟨inf,hi,hib,hisz,hinf,zv,hzv,hzc⟩:=aGu.info
   have hnn:((n.toNat:Nat):Int)=n:=by omega
   have hap:=Go.Lib.run_append_nil_zeros (P:=Tryz.prog) w 26 3 26 9 inf zv .i64 .i64 (by kernel_rfl) (by kernel_rfl) hinf hzv n.toNat (by omega) (by rw [hisz];decide) (by omega) (by have:=Nat.mul_le_mul (Nat.le_refl n.toNat) hib;omega)
   rw [hnn] at hap
   refine xH rfl (w':=_) (v:=_) (by simp only [execOp,resolve,invoke,builtin,Sem.run_bind,Sem.run_pure,Result.andThen_ok,List.map_toArray,List.map_cons,List.map_nil];erw [hap];rfl) ?_
   refine aD (aT (v:=zS none 0 0) rfl) ?_
   refine aD (bC fD rfl) ?_
   refine aD (R_slZ fD rfl rfl) ?_
   refine aD (eE rfl) ?_
   refine aV (aC ?_)
   refine aK ?_
   refine aS ?_
   refine aD (aT rfl) ?_
   refine aD (eE rfl) ?_
   refine aV (aC ?_)
   refine tC (pJ Tryz.results160 rfl ⟨_,_,rfl,?_⟩)
   refine (hs.mono (dZ.drew w)).alloc _ (aIr (xs:=([]:List aQ)) (rows:=[]) (Hp.one_self _ _) (Nat.zero_le _) ?_ rfl (fun t v ht=>by simp at ht) (fun i d e=>by simp at e))
   have:zv.cells.size=1:=by rw [hzc];rfl
   simp only [Array.size_append,size_zeroCells,this]
   show _ * 1<=_
   omega
  ·refine bG (by simpa using hn) rfl ?_
   refine aW (aC ?_)
   refine aK ?_
   refine aS ?_
   refine aD (aT (v:=zS none 0 0) rfl) ?_
   refine aD (eE (v:=zS none 0 0) rfl) ?_
   refine aV (aC ?_)
   exact tC (pJ Tryz.results160 rfl ⟨none,0,rfl,hs.nil _ _⟩)
 ·cases hm
end
end Gv
