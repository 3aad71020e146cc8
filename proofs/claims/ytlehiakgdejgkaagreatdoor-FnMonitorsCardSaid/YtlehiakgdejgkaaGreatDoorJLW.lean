/- Contracts of functions of Go's library, said of heaps of pieces. -/
import Derived.Test.YtlehiakgdejgkaaGreatDoorJLWa
import Derived.Test.YtlehiakgdejgkaaGreatDoorJWk0
import Derived.Test.YtlehiakgdejgkaaGreatDoorJP11
import Derived.Lib.AppendZeros
set_option linter.all false
namespace Gv
open Go Go.Proofs Go.RowKit Go.Sort
section
variable {G:Env} {K:Hp} {L:List iI} {w:World}
def cmpL (a b:aJ):Int:=if a == b then 0 else if a == bQ then -1 else if b == bQ then 1 else cmpB a b
theorem cmpL_eq (a b:aJ):aAl a b=some (cmpL a b):=by
 unfold aAl cmpL
 rw [show ([116,97,117]:aJ)=bQ from rfl]
 cases a == b<;>cases a == bQ<;>cases b == bQ<;>rfl
theorem aPx (a b:aJ):ltOf cmpL a b=yD a b:=by
 unfold ltOf cmpL yD cmpB
 by_cases h1:a=b
 ·simp [h1]
 ·by_cases h2:a=bQ
  ·subst h2;simp [h1]
  ·by_cases h3:b=bQ
   ·simp [h1,h2,h3]
   ·simp only [h1,h2,h3,beq_iff_eq,if_false]
    cases ltB a b<;>rfl
def cmpE (a b:Edge):Int:=or3 (aLU a.F b.F) (aLU a.B b.B) (aLU a.To b.To)
theorem aPy (a b:Edge):ltOf cmpE a b=bX a b:=by
 unfold ltOf cmpE
 have:=cmpE_ge a b
 cases hx:bX a b with
 |true=>rw [hx] at this;simp at this;simpa using this
 |false=>rw [hx] at this;simp at this;simpa using this
theorem aNj (a b:Edge):bX a b=true\/a=b\/bX b a=true:=by
 rw [uA,uA]
 obtain ⟨a1,a2,a3⟩:=a
 obtain ⟨b1,b2,b3⟩:=b
 simp only [Edge.mk.injEq]
 omega
theorem edgeLt_tr {a b c:Edge} (h1:bX a b=true) (h2:bX b c=true):bX a c=true:=by
 rw [uA] at *;omega
theorem swo_of {α:Type} {lt lt':α->α->Bool} (he:∀ a b,lt' a b=lt a b) (irr:∀ a,lt a a=false) (tr:∀ {a b c},lt a b=true->lt b c=true->lt a c=true) (tri:∀ a b,lt a b=true\/a=b\/lt b a=true):Sort.SWO lt':=by
 obtain rfl:lt'=lt:=by funext a b;exact he a b
 refine ⟨irr,fun x y z=>tr,fun x y z h1 h2=>?_⟩
 rcases tri x y with h|h|h
 ·rw [h] at h1;cases h1
 ·subst h;exact h2
 ·rcases tri y z with g|g|g
  ·rw [g] at h2;cases h2
  ·subst g;exact h1
  ·cases hx:lt' x z with
   |false=>rfl
   |true=>
    have:=tr (tr g h) hx
    rw [irr] at this;cases this
theorem aQN {α:Type} {lt lt':α->α->Bool} (he:∀ a b,lt' a b=lt a b) (tri:∀ a b,lt a b=true\/a=b\/lt b a=true) (x y:α) (h1:lt' x y=false) (h2:lt' y x=false):x=y:=by
 rw [he] at h1 h2
 rcases tri x y with h|h|h
 ·rw [h] at h1;cases h1
 ·exact h
 ·rw [h] at h2;cases h2
theorem lib_SortStr {E:TypeId} {xs:List aJ} {a:Option Addr} {c:Nat} {R:List aJ} (hs:aD G K (aH E K a c xs::L) w) (hm:aBY xs=some R):
  Calls Tryz.prog 103 ([Value.slice a xs.length c,Value.func (.func 104) #[] #[]]:List Value).toArray w (dS fun v w'=>v=Value.tuple #[]/\xs.length=R.length/\aD G K (aH E K a c R::L) w'):=by
 unfold aBY at hm
 split at hm
 ·rename_i hl
  cases hm
  unfold jL at hl
  have hlen:(srt yD xs).length=xs.length:=List.length_mergeSort _
  have hlay:∀ b off,a=some ⟨b,off,none⟩->∀ (m:Nat) (os:Array Obj) (dk:Array aJ),dk.size=xs.length->aD G K (aH E K a c dk.toList::L) (sortWorld str w b off m dk os):=by
   rintro b off rfl m os dk hdk
   unfold sortWorld
   rw [aML]
   refine aD.putRow (i:=0) hs rfl (by simp [hdk]) ?_
   rw [aQC];simp
  rcases aKQ hs (i:=0) rfl with ⟨rfl,rfl⟩|⟨b,off,rfl,hb,hc⟩
  ·refine (Tryz.slices_SortFunc_none_f103 (α:=aJ) none c _ w).mono ?_
   rintro e w' ⟨rfl,rfl⟩
   exact ⟨_,rfl,rfl,hlen.symm,by simpa [srt] using hs⟩
  ·refine (Tryz.slices_SortFunc_total_f103 (α:=aJ) str (fun _=>rfl) cmpL (swo_of aPx aGu aKt aIM) 104 #[] b off c xs.toArray w (enters_of Tryz.func104 (by kernel_rfl) rfl) ?_ ?_ hb (by simp;omega) (aQN aPx aIM)).mono ?_
   ·intro m os dk hdk x y
    have hst:=hlay b off rfl m os dk (by simpa using hdk)
    have:=aCL (cmpL_eq x y) (aD.start (sortWorld str w b off m dk os) G.laid hst.globs)
    refine this.mono ?_
    rintro e w' ⟨v,rfl,rfl,hx⟩
    exact ⟨rfl,hx.exact⟩
   ·intro j hj
    have hj':j < xs.length:=by simpa using hj
    have:=hc j (str xs[j]) (by rw [aQC];simp [hj'])
    rw [getElem!_pos xs.toArray j hj]
    simpa using this
   ·rintro e w' ⟨rfl,n,os,rfl⟩
    refine ⟨_,rfl,rfl,hlen.symm,?_⟩
    have:=hlay b off rfl n os (srt yD xs).toArray (by simpa using hlen)
    have he:(xs.toArray.toList.mergeSort fun x y=>!ltOf cmpL y x)=srt yD xs:=by
     unfold srt;congr 1;funext x y;rw [aPx]
    rw [he]
    simpa using this
 ·cases hm
theorem aQO {β:Type} [dO β]:∀ (l:List β) (i r:Nat) (hi:i < l.length),r < dO.sz β->(jN l)[i * dO.sz β+r]?=(dO.enc l[i])[r]?
 |[],i,r,hi,_=>by simp at hi
 |x::l,0,r,hi,hr=>by
  unfold jN
  rw [List.flatMap_cons,Nat.zero_mul,Nat.zero_add,List.getElem?_append_left (by rw [dO.len];exact hr)];rfl
 |x::l,i+1,r,hi,hr=>by
  have:=aQO l i r (by simpa using hi) hr
  unfold jN at this ⊢
  rw [List.flatMap_cons,Nat.add_mul,Nat.one_mul,List.getElem?_append_right (by rw [dO.len];omega),dO.len]
  rw [show i * dO.sz β+dO.sz β+r - dO.sz β=i * dO.sz β+r by omega,this];rfl
theorem aQP {β:Type} [dO β] [Inhabited β] (l:List β):(flatK dO.enc (dO.sz β) l.toArray).toList=jN l:=by
 have hz:=dO.pos (α:=β)
 refine List.ext_getElem? fun t=>?_
 unfold flatK
 by_cases ht:t < l.length * dO.sz β
 ·have h1:t / dO.sz β < l.length:=Nat.div_lt_of_lt_mul (by rw [Nat.mul_comm];exact ht)
  have h2:t % dO.sz β < dO.sz β:=Nat.mod_lt _ hz
  have h3:=aQO l (t / dO.sz β) (t % dO.sz β) h1 h2
  rw [Nat.div_add_mod'] at h3
  rw [h3]
  simp only [Array.toList_map,Array.toList_range,List.getElem?_map,List.size_toArray,List.getElem?_range ht,Option.map_some]
  rw [getElem!_pos l.toArray _ (by simpa using h1)]
  have h4:t % dO.sz β < (dO.enc l[t / dO.sz β]).length:=by rw [dO.len];exact h2
  rw [List.getElem?_eq_getElem h4]
  simp only [List.getElem_toArray]
  rw [getElem!_pos (dO.enc l[t / dO.sz β]) (t % dO.sz β) h4]
 ·rw [List.getElem?_eq_none (by simp;omega),List.getElem?_eq_none (by rw [zF];omega)]
theorem lib_SortEdge {E:TypeId} {xs:List Edge} {a:Option Addr} {c:Nat} {R:List Edge} (hs:aD G K (aH E K a c xs::L) w) (hm:aAu xs=some R):
  Calls Tryz.prog 107 ([Value.slice a xs.length c,Value.func (.func 94) #[] #[]]:List Value).toArray w (dS fun v w'=>v=Value.tuple #[]/\xs.length=R.length/\aD G K (aH E K a c R::L) w'):=by
 unfold aAu at hm
 split at hm
 ·rename_i hl
  cases hm
  unfold jL at hl
  have hlen:(srt bX xs).length=xs.length:=List.length_mergeSort _
  have hlay:∀ b off,a=some ⟨b,off,none⟩->∀ (m:Nat) (os:Array Obj) (dk:Array Edge),dk.size=xs.length->aD G K (aH E K a c dk.toList::L) (sortWorldK dO.enc 3 w b off m dk os):=by
   rintro b off rfl m os dk hdk
   unfold sortWorldK putRowK
   refine aD.putRow (i:=0) hs rfl (by simp [hdk]) ?_
   exact aQP dk.toList
  rcases aKQ hs (i:=0) rfl with ⟨rfl,rfl⟩|⟨b,off,rfl,hb,hc⟩
  ·refine (Tryz.slices_SortFunc_none_f107 (α:=Edge) none c _ w).mono ?_
   rintro e w' ⟨rfl,rfl⟩
   exact ⟨_,rfl,rfl,hlen.symm,by simpa [srt] using hs⟩
  ·refine (Tryz.slices_SortFunc_total_f107 (α:=Edge) 3 Tryz.isAgg52 Tryz.sizeOf52 dO.enc (fun _=>rfl) (fun x v hv=>dO.one x v hv) cmpE (swo_of aPy (fun a=>by cases hx:bX a a with|false=>rfl|true=>exact absurd rfl (aLl hx)) edgeLt_tr aNj) 94 #[] b off c xs.toArray w (enters_of Tryz.func94 (by kernel_rfl) rfl) ?_ ?_ hb (by simp;omega) (aQN aPy aNj)).mono ?_
   ·intro m os dk hdk x y
    have hst:=hlay b off rfl m os dk (by simpa using hdk)
    have:=aDk (aHr x y) (aD.start (sortWorldK dO.enc 3 w b off m dk os) G.laid hst.globs)
    refine this.mono ?_
    rintro e w' ⟨v,rfl,rfl,hx⟩
    exact ⟨rfl,hx.exact⟩
   ·intro j hj
    have hf:=aQP xs
    have hj3:j < xs.length * 3:=by have h:=hj;rw [size_flatK] at h;simpa using h
    have hj2:j < (jN xs).length:=by rw [zF];exact hj3
    have:=hc j (jN xs)[j] (by rw [List.getElem?_eq_getElem hj2])
    have e:(flatK dO.enc 3 xs.toArray)[j]! = (jN xs)[j]:=by
     rw [getElem!_pos (flatK dO.enc 3 xs.toArray) j hj]
     have:(flatK dO.enc 3 xs.toArray)[j]=(flatK dO.enc (dO.sz Edge) xs.toArray).toList[j]'(by rw [hf];exact hj2):=by simp;rfl
     rw [this]
     simp only [hf]
    rw [e]
    exact this
   ·rintro e w' ⟨rfl,n,os,rfl⟩
    refine ⟨_,rfl,rfl,hlen.symm,?_⟩
    have:=hlay b off rfl n os (srt bX xs).toArray (by simpa using hlen)
    have he:(xs.toArray.toList.mergeSort fun x y=>!ltOf cmpE y x)=srt bX xs:=by
     unfold srt;congr 1;funext x y;rw [aPy]
    rw [he]
    simpa using this
 ·cases hm
end
end Gv
namespace Gv
open Go.Value renaming slice→zS
open Go Go.Proofs Go.RowKit Go.Sort
section
variable {P:Program} {f:Nat->Value} {w:World} {d:Nat} {x y z:Operand} {ty:TypeId} {pos:String} {af:Array Go.Edge}
theorem R_capS {T E:TypeId} {sz:Nat} {a:Option Addr} {len cap:Nat} (hT:SLT P T E sz) (hx:ev f x=.slice a len cap):
  (execOp (ev f) ⟨some d,.call ⟨.builtin .cap,#[x],#[T]⟩,ty,pos,af,none⟩).run P w=.ok (.value (i64 cap)) w:=
 (by simp [execOp,resolve,invoke,builtin,Builtin.cap_,hx,hT.un,goInt,i64])
theorem R_slN {T E:TypeId} {sz:Nat} {len cap:Nat} {h:Int} (hT:SLT P T E sz) (hx:ev f x=.slice none len cap) (hz:ev f z=i64 h) (h0:0<=h) (h1:h<=cap):
  (execOp (ev f) ⟨some d,.slice T x none (some z) none,ty,pos,af,none⟩).run P w=.ok (.value (.slice none h.toNat cap)) w:=by
 have hc:0<=h/\h<=cap:=⟨h0,h1⟩
 simp [execOp,hx,hz,aIA hT,Instr.slice,hT.un,hT.size,Instr.sliceBounds,Instr.sliceBound,i64,asIntOf,hc]
theorem R_slZ {T E:TypeId} {sz b:Nat} {len cap:Nat} (hT:SLT P T E sz) (hx:ev f x=.slice (some ⟨b,0,none⟩) len cap) (hz:ev f z=i64 0):
  (execOp (ev f) ⟨some d,.slice T x none (some z) none,ty,pos,af,none⟩).run P w=.ok (.value (.slice (some ⟨b,0,none⟩) 0 cap)) w:=by
 have hc:(0:Int)<=0/\(0:Int)<=cap:=⟨Int.le_refl _,by omega⟩
 simp [execOp,hx,hz,aIA hT,Instr.slice,hT.un,hT.size,Instr.sliceBounds,Instr.sliceBound,i64,asIntOf,hc,mD]
end
section
variable {G:Env} {K:Hp} {L:List iI} {w:World}
theorem lib_GrowStr {n:Int} {R:List aJ} (hs:aD G K L w) (_hr:aW K none 0 ([]:List aJ)) (hm:aIC [] n=some R):
  Calls Tryz.prog 119 ([zS none 0 0,i64 n]:List Value).toArray w (dS fun v w'=>∃ (a':Option Addr) (c':Nat),v=zS a' R.length c'/\aD G K (aH 9 K a' c' R::L) w'):=by
 unfold aIC at hm
 split at hm
 ·rename_i hl
  cases hm
  obtain ⟨-,h0,h1⟩:=hl
  unfold jL at h1
  refine iT Tryz.func119 rfl (by kernel_rfl) (by show (2:Nat)<=27;decide) ?_
  refine bB ?_
  refine bR ?_
  refine aM (fP (v:=zS none 0 0) rfl) ?_
  refine aL (aC ?_)
  refine bB ?_
  refine bB ?_
  refine bR ?_
  refine aM (cX (v:=i64 n) rfl) ?_
  refine aM (pD rfl rfl) ?_
  refine aL (aC ?_)
  refine bT (by simp;omega) rfl ?_
  refine cN (aC ?_)
  refine bB ?_
  refine bB ?_
  refine bR ?_
  refine aM (cX (v:=i64 n) rfl) ?_
  refine aM (cX (v:=zS none 0 0) rfl) ?_
  refine aM (R_capS eM rfl) ?_
  refine aM (cX (v:=zS none 0 0) rfl) ?_
  refine aM (gU eM rfl) ?_
  refine aM (aOh rfl rfl) ?_
  refine aM (aOh rfl rfl) ?_
  refine aM (fP (v:=i64 n) (congrArg i64 (show wr (n - wr (0 - 0))=n by rw [show wr ((0:Int) - 0)=0 by decide,Int.sub_zero,eB]<;>omega))) ?_
  refine aL (aC ?_)
  refine bB ?_
  refine bR ?_
  refine aM (cX (v:=i64 n) rfl) ?_
  refine aM (aHv rfl rfl) ?_
  refine aL (aC ?_)
  by_cases hn:0 < n
  ·refine bP (decide_eq_true hn) rfl ?_
   refine bR ?_
   refine aM (cX (v:=zS none 0 0) rfl) ?_
   refine aM (cX (v:=zS none 0 0) rfl) ?_
   refine aM (R_capS eM rfl) ?_
   refine aM (R_slN eM rfl rfl (Int.le_refl _) (Int.le_refl _)) ?_
   refine aM (cX (v:=i64 n) rfl) ?_
   obtain ⟨inf,hi,hib,hisz,hinf,zv,hzv,hzc⟩:=aGf.info
   have hnn:((n.toNat:Nat):Int)=n:=by omega
   have hap:=Go.Lib.run_append_nil_zeros (P:=Tryz.prog) w 24 3 24 9 inf zv .i64 .i64 (by kernel_rfl) (by kernel_rfl) hinf hzv n.toNat (by omega) (by rw [hisz];decide) (by omega) (by have:=Nat.mul_le_mul (Nat.le_refl n.toNat) hib;omega)
   rw [hnn] at hap
   refine aBa rfl (w':=_) (v:=_) (by simp only [execOp,resolve,invoke,builtin,Sem.run_bind,Sem.run_pure,Result.andThen_ok,List.map_toArray,List.map_cons,List.map_nil];erw [hap];rfl) ?_
   refine aM (cX (v:=zS none 0 0) rfl) ?_
   refine aM (gU eM rfl) ?_
   refine aM (R_slZ eM rfl rfl) ?_
   refine aM (fP rfl) ?_
   refine aL (aC ?_)
   refine bB ?_
   refine bR ?_
   refine aM (cX rfl) ?_
   refine aM (fP rfl) ?_
   refine aL (aC ?_)
   refine jJ (nR Tryz.results119 rfl ⟨_,_,rfl,?_⟩)
   refine (hs.mono (fO.drew w)).alloc _ (aMu (xs:=([]:List aJ)) (rows:=[]) (Hp.one_self _ _) (Nat.zero_le _) ?_ rfl (fun t v ht=>by simp at ht) (fun i d e=>by simp at e))
   have:zv.cells.size=1:=by rw [hzc];rfl
   simp only [Array.size_append,size_zeroCells,this]
   show _ * 1<=_
   omega
  ·refine bT (by simpa using hn) rfl ?_
   refine cN (aC ?_)
   refine bB ?_
   refine bR ?_
   refine aM (cX (v:=zS none 0 0) rfl) ?_
   refine aM (fP (v:=zS none 0 0) rfl) ?_
   refine aL (aC ?_)
   exact jJ (nR Tryz.results119 rfl ⟨none,0,rfl,hs.nil _ _⟩)
 ·cases hm
end
end Gv
