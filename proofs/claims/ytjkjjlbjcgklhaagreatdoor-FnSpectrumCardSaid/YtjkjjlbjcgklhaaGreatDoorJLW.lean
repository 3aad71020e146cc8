/- Contracts of functions of Go's library, said of heaps of pieces. -/
import Derived.Test.YtjkjjlbjcgklhaaGreatDoorJWk0
import Derived.Test.YtjkjjlbjcgklhaaGreatDoorJP11
import Derived.Lib.AppendZeros
set_option linter.all false
namespace Gv
open Go Go.Proofs Go.RowKit Go.Sort
section
variable {G:Env} {K:Hp} {L:List iD} {w:World}
def cmpL (a b:aL):Int:=if a == b then 0 else if a == bC then -1 else if b == bC then 1 else cmpB a b
theorem cmpL_eq (a b:aL):aAl a b=some (cmpL a b):=by
 unfold aAl cmpL
 rw [show ([116,97,117]:aL)=bC from rfl]
 cases a == b<;>cases a == bC<;>cases b == bC<;>rfl
theorem aQG (a b:aL):ltOf cmpL a b=kB a b:=by
 unfold ltOf cmpL kB cmpB
 by_cases h1:a=b
 ·simp [h1]
 ·by_cases h2:a=bC
  ·subst h2;simp [h1]
  ·by_cases h3:b=bC
   ·simp [h1,h2,h3]
   ·simp only [h1,h2,h3,beq_iff_eq,if_false]
    cases ltB a b<;>rfl
def cmpE (a b:Edge):Int:=or3 (aMP a.F b.F) (aMP a.B b.B) (aMP a.To b.To)
theorem aQH (a b:Edge):ltOf cmpE a b=bK a b:=by
 unfold ltOf cmpE
 have:=cmpE_ge a b
 cases hx:bK a b with
 |true=>rw [hx] at this;simp at this;simpa using this
 |false=>rw [hx] at this;simp at this;simpa using this
theorem aNZ (a b:Edge):bK a b=true\/a=b\/bK b a=true:=by
 rw [rV,rV]
 obtain ⟨a1,a2,a3⟩:=a
 obtain ⟨b1,b2,b3⟩:=b
 simp only [Edge.mk.injEq]
 omega
theorem edgeLt_tr {a b c:Edge} (h1:bK a b=true) (h2:bK b c=true):bK a c=true:=by
 rw [rV] at *;omega
theorem swo_of {α:Type} {lt lt':α->α->Bool} (he:∀ a b,lt' a b=lt a b) (irr:∀ a,lt a a=false) (tr:∀ {a b c},lt a b=true->lt b c=true->lt a c=true) (tri:∀ a b,lt a b=true\/a=b\/lt b a=true):Sort.SWO lt':=by
 obtain rfl:lt'=lt:=by funext a b;exact he a b
 refine ⟨irr,fun x y z=>tr,fun x y z h1 h2=>?_⟩
 rcases tri x y with h|h|h
 ·rw [h] at h1;cases h1
 ·subst h;exact h2
 ·rcases tri y z with g|g|g
  ·rw [g] at h2;cases h2
  ·subst g;exact h1
  ·cases hx:lt' x z with
   |false=>rfl
   |true=>
    have:=tr (tr g h) hx
    rw [irr] at this;cases this
theorem aSd {α:Type} {lt lt':α->α->Bool} (he:∀ a b,lt' a b=lt a b) (tri:∀ a b,lt a b=true\/a=b\/lt b a=true) (x y:α) (h1:lt' x y=false) (h2:lt' y x=false):x=y:=by
 rw [he] at h1 h2
 rcases tri x y with h|h|h
 ·rw [h] at h1;cases h1
 ·exact h
 ·rw [h] at h2;cases h2
theorem lib_SortStr {E:TypeId} {xs:List aL} {a:Option Addr} {c:Nat} {R:List aL} (hs:aD G K (aH E K a c xs::L) w) (hm:xN xs=some R):
  Calls Tryz.prog 109 ([Value.slice a xs.length c,Value.func (.func 110) #[] #[]]:List Value).toArray w (dO fun v w'=>v=Value.tuple #[]/\xs.length=R.length/\aD G K (aH E K a c R::L) w'):=by
 unfold xN at hm
 split at hm
 ·rename_i hl
  cases hm
  unfold iO at hl
  have hlen:(tI kB xs).length=xs.length:=List.length_mergeSort _
  have hlay:∀ b off,a=some ⟨b,off,none⟩->∀ (m:Nat) (os:Array Obj) (dk:Array aL),dk.size=xs.length->aD G K (aH E K a c dk.toList::L) (sortWorld str w b off m dk os):=by
   rintro b off rfl m os dk hdk
   unfold sortWorld
   rw [aNH]
   refine aD.putRow (i:=0) hs rfl (by simp [hdk]) ?_
   rw [aRY];simp
  rcases aLN hs (i:=0) rfl with ⟨rfl,rfl⟩|⟨b,off,rfl,hb,hc⟩
  ·refine (Tryz.slices_SortFunc_none_f109 (α:=aL) none c _ w).mono ?_
   rintro e w' ⟨rfl,rfl⟩
   exact ⟨_,rfl,rfl,hlen.symm,by simpa [tI] using hs⟩
  ·refine (Tryz.slices_SortFunc_total_f109 (α:=aL) str (fun _=>rfl) cmpL (swo_of aQG aCG aFp aHb) 110 #[] b off c xs.toArray w (enters_of Tryz.func110 (by kernel_rfl) rfl) ?_ ?_ hb (by simp;omega) (aSd aQG aHb)).mono ?_
   ·intro m os dk hdk x y
    have hst:=hlay b off rfl m os dk (by simpa using hdk)
    have:=aDv (cmpL_eq x y) (aD.start (sortWorld str w b off m dk os) G.laid hst.globs)
    refine this.mono ?_
    rintro e w' ⟨v,rfl,rfl,hx⟩
    exact ⟨rfl,hx.exact⟩
   ·intro j hj
    have hj':j < xs.length:=by simpa using hj
    have:=hc j (str xs[j]) (by rw [aRY];simp [hj'])
    rw [getElem!_pos xs.toArray j hj]
    simpa using this
   ·rintro e w' ⟨rfl,n,os,rfl⟩
    refine ⟨_,rfl,rfl,hlen.symm,?_⟩
    have:=hlay b off rfl n os (tI kB xs).toArray (by simpa using hlen)
    have he:(xs.toArray.toList.mergeSort fun x y=>!ltOf cmpL y x)=tI kB xs:=by
     unfold tI;congr 1;funext x y;rw [aQG]
    rw [he]
    simpa using this
 ·cases hm
theorem aSe {β:Type} [eG β]:∀ (l:List β) (i r:Nat) (hi:i < l.length),r < eG.sz β->(jS l)[i * eG.sz β+r]?=(eG.enc l[i])[r]?
 |[],i,r,hi,_=>by simp at hi
 |x::l,0,r,hi,hr=>by
  unfold jS
  rw [List.flatMap_cons,Nat.zero_mul,Nat.zero_add,List.getElem?_append_left (by rw [eG.len];exact hr)];rfl
 |x::l,i+1,r,hi,hr=>by
  have:=aSe l i r (by simpa using hi) hr
  unfold jS at this ⊢
  rw [List.flatMap_cons,Nat.add_mul,Nat.one_mul,List.getElem?_append_right (by rw [eG.len];omega),eG.len]
  rw [show i * eG.sz β+eG.sz β+r - eG.sz β=i * eG.sz β+r by omega,this];rfl
theorem aSf {β:Type} [eG β] [Inhabited β] (l:List β):(flatK eG.enc (eG.sz β) l.toArray).toList=jS l:=by
 have hz:=eG.pos (α:=β)
 refine List.ext_getElem? fun t=>?_
 unfold flatK
 by_cases ht:t < l.length * eG.sz β
 ·have h1:t / eG.sz β < l.length:=Nat.div_lt_of_lt_mul (by rw [Nat.mul_comm];exact ht)
  have h2:t % eG.sz β < eG.sz β:=Nat.mod_lt _ hz
  have h3:=aSe l (t / eG.sz β) (t % eG.sz β) h1 h2
  rw [Nat.div_add_mod'] at h3
  rw [h3]
  simp only [Array.toList_map,Array.toList_range,List.getElem?_map,List.size_toArray,List.getElem?_range ht,Option.map_some]
  rw [getElem!_pos l.toArray _ (by simpa using h1)]
  have h4:t % eG.sz β < (eG.enc l[t / eG.sz β]).length:=by rw [eG.len];exact h2
  rw [List.getElem?_eq_getElem h4]
  simp only [List.getElem_toArray]
  rw [getElem!_pos (eG.enc l[t / eG.sz β]) (t % eG.sz β) h4]
 ·rw [List.getElem?_eq_none (by simp;omega),List.getElem?_eq_none (by rw [yY];omega)]
theorem lib_SortEdge {E:TypeId} {xs:List Edge} {a:Option Addr} {c:Nat} {R:List Edge} (hs:aD G K (aH E K a c xs::L) w) (hm:aAE xs=some R):
  Calls Tryz.prog 113 ([Value.slice a xs.length c,Value.func (.func 58) #[] #[]]:List Value).toArray w (dO fun v w'=>v=Value.tuple #[]/\xs.length=R.length/\aD G K (aH E K a c R::L) w'):=by
 unfold aAE at hm
 split at hm
 ·rename_i hl
  cases hm
  unfold iO at hl
  have hlen:(tI bK xs).length=xs.length:=List.length_mergeSort _
  have hlay:∀ b off,a=some ⟨b,off,none⟩->∀ (m:Nat) (os:Array Obj) (dk:Array Edge),dk.size=xs.length->aD G K (aH E K a c dk.toList::L) (sortWorldK eG.enc 3 w b off m dk os):=by
   rintro b off rfl m os dk hdk
   unfold sortWorldK putRowK
   refine aD.putRow (i:=0) hs rfl (by simp [hdk]) ?_
   exact aSf dk.toList
  rcases aLN hs (i:=0) rfl with ⟨rfl,rfl⟩|⟨b,off,rfl,hb,hc⟩
  ·refine (Tryz.slices_SortFunc_none_f113 (α:=Edge) none c _ w).mono ?_
   rintro e w' ⟨rfl,rfl⟩
   exact ⟨_,rfl,rfl,hlen.symm,by simpa [tI] using hs⟩
  ·refine (Tryz.slices_SortFunc_total_f113 (α:=Edge) 3 Tryz.isAgg61 Tryz.sizeOf61 eG.enc (fun _=>rfl) (fun x v hv=>eG.one x v hv) cmpE (swo_of aQH (fun a=>by cases hx:bK a a with|false=>rfl|true=>exact absurd rfl (aMe hx)) edgeLt_tr aNZ) 58 #[] b off c xs.toArray w (enters_of Tryz.func58 (by kernel_rfl) rfl) ?_ ?_ hb (by simp;omega) (aSd aQH aNZ)).mono ?_
   ·intro m os dk hdk x y
    have hst:=hlay b off rfl m os dk (by simpa using hdk)
    have:=aEa (aHY x y) (aD.start (sortWorldK eG.enc 3 w b off m dk os) G.laid hst.globs)
    refine this.mono ?_
    rintro e w' ⟨v,rfl,rfl,hx⟩
    exact ⟨rfl,hx.exact⟩
   ·intro j hj
    have hf:=aSf xs
    have hj3:j < xs.length * 3:=by have h:=hj;rw [size_flatK] at h;simpa using h
    have hj2:j < (jS xs).length:=by rw [yY];exact hj3
    have:=hc j (jS xs)[j] (by rw [List.getElem?_eq_getElem hj2])
    have e:(flatK eG.enc 3 xs.toArray)[j]! = (jS xs)[j]:=by
     rw [getElem!_pos (flatK eG.enc 3 xs.toArray) j hj]
     have:(flatK eG.enc 3 xs.toArray)[j]=(flatK eG.enc (eG.sz Edge) xs.toArray).toList[j]'(by rw [hf];exact hj2):=by simp;rfl
     rw [this]
     simp only [hf]
    rw [e]
    exact this
   ·rintro e w' ⟨rfl,n,os,rfl⟩
    refine ⟨_,rfl,rfl,hlen.symm,?_⟩
    have:=hlay b off rfl n os (tI bK xs).toArray (by simpa using hlen)
    have he:(xs.toArray.toList.mergeSort fun x y=>!ltOf cmpE y x)=tI bK xs:=by
     unfold tI;congr 1;funext x y;rw [aQH]
    rw [he]
    simpa using this
 ·cases hm
end
end Gv
namespace Gv
open Go.Value renaming slice→zS
open Go Go.Proofs Go.RowKit Go.Sort
section
variable {P:Program} {f:Nat->Value} {w:World} {d:Nat} {x y z:Operand} {ty:TypeId} {pos:String} {af:Array Go.Edge}
theorem R_capS {T E:TypeId} {sz:Nat} {a:Option Addr} {len cap:Nat} (hT:SLT P T E sz) (hx:ev f x=.slice a len cap):
  (execOp (ev f) ⟨some d,.call ⟨.builtin .cap,#[x],#[T]⟩,ty,pos,af,none⟩).run P w=.ok (.value (i64 cap)) w:=
 (by simp [execOp,resolve,invoke,builtin,Builtin.cap_,hx,hT.un,goInt,i64])
theorem R_slN {T E:TypeId} {sz:Nat} {len cap:Nat} {h:Int} (hT:SLT P T E sz) (hx:ev f x=.slice none len cap) (hz:ev f z=i64 h) (h0:0<=h) (h1:h<=cap):
  (execOp (ev f) ⟨some d,.slice T x none (some z) none,ty,pos,af,none⟩).run P w=.ok (.value (.slice none h.toNat cap)) w:=by
 have hc:0<=h/\h<=cap:=⟨h0,h1⟩
 simp [execOp,hx,hz,aJe hT,Instr.slice,hT.un,hT.size,Instr.sliceBounds,Instr.sliceBound,i64,asIntOf,hc]
theorem R_slZ {T E:TypeId} {sz b:Nat} {len cap:Nat} (hT:SLT P T E sz) (hx:ev f x=.slice (some ⟨b,0,none⟩) len cap) (hz:ev f z=i64 0):
  (execOp (ev f) ⟨some d,.slice T x none (some z) none,ty,pos,af,none⟩).run P w=.ok (.value (.slice (some ⟨b,0,none⟩) 0 cap)) w:=by
 have hc:(0:Int)<=0/\(0:Int)<=cap:=⟨Int.le_refl _,by omega⟩
 simp [execOp,hx,hz,aJe hT,Instr.slice,hT.un,hT.size,Instr.sliceBounds,Instr.sliceBound,i64,asIntOf,hc,lZ]
end
section
variable {G:Env} {K:Hp} {L:List iD} {w:World}
theorem lib_GrowStr {n:Int} {R:List aL} (hs:aD G K L w) (_hr:aT K none 0 ([]:List aL)) (hm:aJg [] n=some R):
  Calls Tryz.prog 115 ([zS none 0 0,i64 n]:List Value).toArray w (dO fun v w'=>∃ (a':Option Addr) (c':Nat),v=zS a' R.length c'/\aD G K (aH 9 K a' c' R::L) w'):=by
 unfold aJg at hm
 split at hm
 ·rename_i hl
  cases hm
  obtain ⟨-,h0,h1⟩:=hl
  unfold iO at h1
  refine kR Tryz.func115 rfl (by kernel_rfl) (by show (2:Nat)<=27;decide) ?_
  refine bM ?_
  refine cG ?_
  refine aK (jY (v:=zS none 0 0) rfl) ?_
  refine aM (aF ?_)
  refine bM ?_
  refine bM ?_
  refine cG ?_
  refine aK (bW (v:=i64 n) rfl) ?_
  refine aK (tK rfl rfl) ?_
  refine aM (aF ?_)
  refine cD (by simp;omega) rfl ?_
  refine eJ (aF ?_)
  refine bM ?_
  refine bM ?_
  refine cG ?_
  refine aK (bW (v:=i64 n) rfl) ?_
  refine aK (bW (v:=zS none 0 0) rfl) ?_
  refine aK (R_capS dG rfl) ?_
  refine aK (bW (v:=zS none 0 0) rfl) ?_
  refine aK (nW dG rfl) ?_
  refine aK (aKF rfl rfl) ?_
  refine aK (aKF rfl rfl) ?_
  refine aK (jY (v:=i64 n) (congrArg i64 (show wr (n - wr (0 - 0))=n by rw [show wr ((0:Int) - 0)=0 by decide,Int.sub_zero,fS]<;>omega))) ?_
  refine aM (aF ?_)
  refine bM ?_
  refine cG ?_
  refine aK (bW (v:=i64 n) rfl) ?_
  refine aK (aNv rfl rfl) ?_
  refine aM (aF ?_)
  by_cases hn:0 < n
  ·refine bX (decide_eq_true hn) rfl ?_
   refine cG ?_
   refine aK (bW (v:=zS none 0 0) rfl) ?_
   refine aK (bW (v:=zS none 0 0) rfl) ?_
   refine aK (R_capS dG rfl) ?_
   refine aK (R_slN dG rfl rfl (Int.le_refl _) (Int.le_refl _)) ?_
   refine aK (bW (v:=i64 n) rfl) ?_
   obtain ⟨inf,hi,hib,hisz,hinf,zv,hzv,hzc⟩:=zF.info
   have hnn:((n.toNat:Nat):Int)=n:=by omega
   have hap:=Go.Lib.run_append_nil_zeros (P:=Tryz.prog) w 24 3 24 9 inf zv .i64 .i64 (by kernel_rfl) (by kernel_rfl) hinf hzv n.toNat (by omega) (by rw [hisz];decide) (by omega) (by have:=Nat.mul_le_mul (Nat.le_refl n.toNat) hib;omega)
   rw [hnn] at hap
   refine yO rfl (w':=_) (v:=_) (by simp only [execOp,resolve,invoke,builtin,Sem.run_bind,Sem.run_pure,Result.andThen_ok,List.map_toArray,List.map_cons,List.map_nil];erw [hap];rfl) ?_
   refine aK (bW (v:=zS none 0 0) rfl) ?_
   refine aK (nW dG rfl) ?_
   refine aK (R_slZ dG rfl rfl) ?_
   refine aK (jY rfl) ?_
   refine aM (aF ?_)
   refine bM ?_
   refine cG ?_
   refine aK (bW rfl) ?_
   refine aK (jY rfl) ?_
   refine aM (aF ?_)
   refine kQ (oQ Tryz.results115 rfl ⟨_,_,rfl,?_⟩)
   refine (hs.mono (fN.drew w)).alloc _ (aNx (xs:=([]:List aL)) (rows:=[]) (Hp.one_self _ _) (Nat.zero_le _) ?_ rfl (fun t v ht=>by simp at ht) (fun i d e=>by simp at e))
   have:zv.cells.size=1:=by rw [hzc];rfl
   simp only [Array.size_append,size_zeroCells,this]
   show _ * 1<=_
   omega
  ·refine cD (by simpa using hn) rfl ?_
   refine eJ (aF ?_)
   refine bM ?_
   refine cG ?_
   refine aK (bW (v:=zS none 0 0) rfl) ?_
   refine aK (jY (v:=zS none 0 0) rfl) ?_
   refine aM (aF ?_)
   exact kQ (oQ Tryz.results115 rfl ⟨none,0,rfl,hs.nil _ _⟩)
 ·cases hm
end
end Gv
