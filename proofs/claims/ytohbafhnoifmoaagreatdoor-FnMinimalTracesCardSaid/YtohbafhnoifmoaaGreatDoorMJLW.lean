/- Contracts of functions of Go's library, said of heaps of pieces. -/
import Derived.Test.YtohbafhnoifmoaaGreatDoorMJLWa
import Derived.Test.YtohbafhnoifmoaaGreatDoorMJWk0
import Derived.Test.YtohbafhnoifmoaaGreatDoorMJP11
import Derived.Lib.AppendZeros
set_option linter.all false
namespace Gv
open Go Go.Proofs Go.RowKit Go.Sort
section
variable {G:uA} {K:Hp} {L:List iU} {w:World}
def cmpL (a b:bD):Int:=if a == b then 0 else if a == nD then -1 else if b == nD then 1 else cmpB a b
theorem cmpL_eq (a b:bD):nS a b=some (cmpL a b):=by
 unfold nS cmpL
 rw [show ([116,97,117]:bD)=nD from rfl]
 cases a == b<;>cases a == nD<;>cases b == nD<;>rfl
theorem aHm (a b:bD):ltOf cmpL a b=uS a b:=by
 unfold ltOf cmpL uS cmpB
 by_cases h1:a=b
 ·simp [h1]
 ·by_cases h2:a=nD
  ·subst h2;simp [h1]
  ·by_cases h3:b=nD
   ·simp [h1,h2,h3]
   ·simp only [h1,h2,h3,beq_iff_eq,if_false]
    cases ltB a b<;>rfl
def cmpE (a b:Edge):Int:=or3 (aFz a.F b.F) (aFz a.B b.B) (aFz a.To b.To)
theorem aHn (a b:Edge):ltOf cmpE a b=jM a b:=by
 unfold ltOf cmpE
 have:=cmpE_ge a b
 cases hx:jM a b with
 |true=>rw [hx] at this;simp at this;simpa using this
 |false=>rw [hx] at this;simp at this;simpa using this
theorem aGr (a b:Edge):jM a b=true\/a=b\/jM b a=true:=by
 rw [aBY,aBY]
 obtain ⟨a1,a2,a3⟩:=a
 obtain ⟨b1,b2,b3⟩:=b
 simp only [Edge.mk.injEq]
 omega
theorem edgeLt_tr {a b c:Edge} (h1:jM a b=true) (h2:jM b c=true):jM a c=true:=by
 rw [aBY] at *;omega
theorem swo_of {α:Type} {lt lt':α->α->Bool} (he:∀ a b,lt' a b=lt a b) (irr:∀ a,lt a a=false) (tr:∀ {a b c},lt a b=true->lt b c=true->lt a c=true) (tri:∀ a b,lt a b=true\/a=b\/lt b a=true):Sort.SWO lt':=by
 obtain rfl:lt'=lt:=by funext a b;exact he a b
 refine ⟨irr,fun x y z=>tr,fun x y z h1 h2=>?_⟩
 rcases tri x y with h|h|h
 ·rw [h] at h1;cases h1
 ·subst h;exact h2
 ·rcases tri y z with g|g|g
  ·rw [g] at h2;cases h2
  ·subst g;exact h1
  ·cases hx:lt' x z with
   |false=>rfl
   |true=>
    have:=tr (tr g h) hx
    rw [irr] at this;cases this
theorem aHS {α:Type} {lt lt':α->α->Bool} (he:∀ a b,lt' a b=lt a b) (tri:∀ a b,lt a b=true\/a=b\/lt b a=true) (x y:α) (h1:lt' x y=false) (h2:lt' y x=false):x=y:=by
 rw [he] at h1 h2
 rcases tri x y with h|h|h
 ·rw [h] at h1;cases h1
 ·exact h
 ·rw [h] at h2;cases h2
theorem lib_SortStr {E:TypeId} {xs:List bD} {a:Option Addr} {c:Nat} {R:List bD} (hs:aH G K (aJ E K a c xs::L) w) (hm:aEy xs=some R):
  Calls Tryz.prog 112 ([Value.slice a xs.length c,Value.func (.func 113) #[] #[]]:List Value).toArray w (eN fun v w'=>v=Value.tuple #[]/\xs.length=R.length/\aH G K (aJ E K a c R::L) w'):=by
 unfold aEy at hm
 split at hm
 ·rename_i hl
  cases hm
  unfold lim at hl
  have hlen:(srt uS xs).length=xs.length:=List.length_mergeSort _
  have hlay:∀ b off,a=some ⟨b,off,none⟩->∀ (m:Nat) (os:Array Obj) (dk:Array bD),dk.size=xs.length->aH G K (aJ E K a c dk.toList::L) (sortWorld str w b off m dk os):=by
   rintro b off rfl m os dk hdk
   unfold sortWorld
   rw [aGa]
   refine aH.putRow (i:=0) hs rfl (by simp [hdk]) ?_
   rw [aHN];simp
  rcases aEA hs (i:=0) rfl with ⟨rfl,rfl⟩|⟨b,off,rfl,hb,hc⟩
  ·refine (Tryz.slices_SortFunc_none_f112 (α:=bD) none c _ w).mono ?_
   rintro e w' ⟨rfl,rfl⟩
   exact ⟨_,rfl,rfl,hlen.symm,by simpa [srt] using hs⟩
  ·refine (Tryz.slices_SortFunc_total_f112 (α:=bD) str (fun _=>rfl) cmpL (swo_of aHm aJA aKB aGO) 113 #[] b off c xs.toArray w (enters_of Tryz.func113 (by kernel_rfl) rfl) ?_ ?_ hb (by simp;omega) (aHS aHm aGO)).mono ?_
   ·intro m os dk hdk x y
    have hst:=hlay b off rfl m os dk (by simpa using hdk)
    have:=aCG (aH.start (sortWorld str w b off m dk os) G.laid hst.globs) (cmpL_eq x y)
    refine this.mono ?_
    rintro e w' ⟨v,rfl,rfl,hx⟩
    exact ⟨rfl,hx.exact⟩
   ·intro j hj
    have hj':j < xs.length:=by simpa using hj
    have:=hc j (str xs[j]) (by rw [aHN];simp [hj'])
    rw [getElem!_pos xs.toArray j hj]
    simpa using this
   ·rintro e w' ⟨rfl,n,os,rfl⟩
    refine ⟨_,rfl,rfl,hlen.symm,?_⟩
    have:=hlay b off rfl n os (srt uS xs).toArray (by simpa using hlen)
    have he:(xs.toArray.toList.mergeSort fun x y=>!ltOf cmpL y x)=srt uS xs:=by
     unfold srt;congr 1;funext x y;rw [aHm]
    rw [he]
    simpa using this
 ·cases hm
theorem aHT {β:Type} [eP β]:∀ (l:List β) (i r:Nat) (hi:i < l.length),r < eP.sz β->(gS l)[i * eP.sz β+r]?=(eP.enc l[i])[r]?
 |[],i,r,hi,_=>by simp at hi
 |x::l,0,r,hi,hr=>by
  unfold gS
  rw [List.flatMap_cons,Nat.zero_mul,Nat.zero_add,List.getElem?_append_left (by rw [eP.len];exact hr)];rfl
 |x::l,i+1,r,hi,hr=>by
  have:=aHT l i r (by simpa using hi) hr
  unfold gS at this ⊢
  rw [List.flatMap_cons,Nat.add_mul,Nat.one_mul,List.getElem?_append_right (by rw [eP.len];omega),eP.len]
  rw [show i * eP.sz β+eP.sz β+r - eP.sz β=i * eP.sz β+r by omega,this];rfl
theorem aHU {β:Type} [eP β] [Inhabited β] (l:List β):(flatK eP.enc (eP.sz β) l.toArray).toList=gS l:=by
 have hz:=eP.pos (α:=β)
 refine List.ext_getElem? fun t=>?_
 unfold flatK
 by_cases ht:t < l.length * eP.sz β
 ·have h1:t / eP.sz β < l.length:=Nat.div_lt_of_lt_mul (by rw [Nat.mul_comm];exact ht)
  have h2:t % eP.sz β < eP.sz β:=Nat.mod_lt _ hz
  have h3:=aHT l (t / eP.sz β) (t % eP.sz β) h1 h2
  rw [Nat.div_add_mod'] at h3
  rw [h3]
  simp only [Array.toList_map,Array.toList_range,List.getElem?_map,List.size_toArray,List.getElem?_range ht,Option.map_some]
  rw [getElem!_pos l.toArray _ (by simpa using h1)]
  have h4:t % eP.sz β < (eP.enc l[t / eP.sz β]).length:=by rw [eP.len];exact h2
  rw [List.getElem?_eq_getElem h4]
  simp only [List.getElem_toArray]
  rw [getElem!_pos (eP.enc l[t / eP.sz β]) (t % eP.sz β) h4]
 ·rw [List.getElem?_eq_none (by simp;omega),List.getElem?_eq_none (by rw [nH];omega)]
theorem lib_SortEdge {E:TypeId} {xs:List Edge} {a:Option Addr} {c:Nat} {R:List Edge} (hs:aH G K (aJ E K a c xs::L) w) (hm:aDA xs=some R):
  Calls Tryz.prog 115 ([Value.slice a xs.length c,Value.func (.func 65) #[] #[]]:List Value).toArray w (eN fun v w'=>v=Value.tuple #[]/\xs.length=R.length/\aH G K (aJ E K a c R::L) w'):=by
 unfold aDA at hm
 split at hm
 ·rename_i hl
  cases hm
  unfold lim at hl
  have hlen:(srt jM xs).length=xs.length:=List.length_mergeSort _
  have hlay:∀ b off,a=some ⟨b,off,none⟩->∀ (m:Nat) (os:Array Obj) (dk:Array Edge),dk.size=xs.length->aH G K (aJ E K a c dk.toList::L) (sortWorldK eP.enc 3 w b off m dk os):=by
   rintro b off rfl m os dk hdk
   unfold sortWorldK putRowK
   refine aH.putRow (i:=0) hs rfl (by simp [hdk]) ?_
   exact aHU dk.toList
  rcases aEA hs (i:=0) rfl with ⟨rfl,rfl⟩|⟨b,off,rfl,hb,hc⟩
  ·refine (Tryz.slices_SortFunc_none_f115 (α:=Edge) none c _ w).mono ?_
   rintro e w' ⟨rfl,rfl⟩
   exact ⟨_,rfl,rfl,hlen.symm,by simpa [srt] using hs⟩
  ·refine (Tryz.slices_SortFunc_total_f115 (α:=Edge) 3 Tryz.isAgg69 Tryz.sizeOf69 eP.enc (fun _=>rfl) (fun x v hv=>eP.one x v hv) cmpE (swo_of aHn (fun a=>by cases hx:jM a a with|false=>rfl|true=>exact absurd rfl (aGP hx)) edgeLt_tr aGr) 65 #[] b off c xs.toArray w (enters_of Tryz.func65 (by kernel_rfl) rfl) ?_ ?_ hb (by simp;omega) (aHS aHn aGr)).mono ?_
   ·intro m os dk hdk x y
    have hst:=hlay b off rfl m os dk (by simpa using hdk)
    have:=uT (aH.start (sortWorldK eP.enc 3 w b off m dk os) G.laid hst.globs) (aFA x y)
    refine this.mono ?_
    rintro e w' ⟨v,rfl,rfl,hx⟩
    exact ⟨rfl,hx.exact⟩
   ·intro j hj
    have hf:=aHU xs
    have hj3:j < xs.length * 3:=by have h:=hj;rw [size_flatK] at h;simpa using h
    have hj2:j < (gS xs).length:=by rw [nH];exact hj3
    have:=hc j (gS xs)[j] (by rw [List.getElem?_eq_getElem hj2])
    have e:(flatK eP.enc 3 xs.toArray)[j]! = (gS xs)[j]:=by
     rw [getElem!_pos (flatK eP.enc 3 xs.toArray) j hj]
     have:(flatK eP.enc 3 xs.toArray)[j]=(flatK eP.enc (eP.sz Edge) xs.toArray).toList[j]'(by rw [hf];exact hj2):=by simp;rfl
     rw [this]
     simp only [hf]
    rw [e]
    exact this
   ·rintro e w' ⟨rfl,n,os,rfl⟩
    refine ⟨_,rfl,rfl,hlen.symm,?_⟩
    have:=hlay b off rfl n os (srt jM xs).toArray (by simpa using hlen)
    have he:(xs.toArray.toList.mergeSort fun x y=>!ltOf cmpE y x)=srt jM xs:=by
     unfold srt;congr 1;funext x y;rw [aHn]
    rw [he]
    simpa using this
 ·cases hm
end
end Gv
namespace Gv
open Go.Value renaming slice→zS
open Go Go.Proofs Go.RowKit Go.Sort
section
variable {P:Program} {f:Nat->Value} {w:World} {d:Nat} {x y z:Operand} {ty:TypeId} {pos:String} {af:Array Go.Edge}
theorem R_capS {T E:TypeId} {sz:Nat} {a:Option Addr} {len cap:Nat} (hT:SLT P T E sz) (hx:ev f x=.slice a len cap):
  (execOp (ev f) ⟨some d,.call ⟨.builtin .cap,#[x],#[T]⟩,ty,pos,af,none⟩).run P w=.ok (.value (i64 cap)) w:=
 (by simp [execOp,resolve,invoke,builtin,Builtin.cap_,hx,hT.un,goInt,i64])
theorem R_slN {T E:TypeId} {sz:Nat} {len cap:Nat} {h:Int} (hT:SLT P T E sz) (hx:ev f x=.slice none len cap) (hz:ev f z=i64 h) (h0:0<=h) (h1:h<=cap):
  (execOp (ev f) ⟨some d,.slice T x none (some z) none,ty,pos,af,none⟩).run P w=.ok (.value (.slice none h.toNat cap)) w:=by
 have hc:0<=h/\h<=cap:=⟨h0,h1⟩
 simp [execOp,hx,hz,aCT hT,Instr.slice,hT.un,hT.size,Instr.sliceBounds,Instr.sliceBound,i64,asIntOf,hc]
theorem R_slZ {T E:TypeId} {sz b:Nat} {len cap:Nat} (hT:SLT P T E sz) (hx:ev f x=.slice (some ⟨b,0,none⟩) len cap) (hz:ev f z=i64 0):
  (execOp (ev f) ⟨some d,.slice T x none (some z) none,ty,pos,af,none⟩).run P w=.ok (.value (.slice (some ⟨b,0,none⟩) 0 cap)) w:=by
 have hc:(0:Int)<=0/\(0:Int)<=cap:=⟨Int.le_refl _,by omega⟩
 simp [execOp,hx,hz,aCT hT,Instr.slice,hT.un,hT.size,Instr.sliceBounds,Instr.sliceBound,i64,asIntOf,hc,iJ]
end
section
variable {G:uA} {K:Hp} {L:List iU} {w:World}
theorem lib_GrowStr {n:Int} {R:List bD} (hs:aH G K L w) (_hr:cR K none 0 ([]:List bD)) (hm:aEz [] n=some R):
  Calls Tryz.prog 128 ([zS none 0 0,i64 n]:List Value).toArray w (eN fun v w'=>∃ (a':Option Addr) (c':Nat),v=zS a' R.length c'/\aH G K (aJ 9 K a' c' R::L) w'):=by
 unfold aEz at hm
 split at hm
 ·rename_i hl
  cases hm
  obtain ⟨-,h0,h1⟩:=hl
  unfold lim at h1
  refine aV Tryz.func128 rfl (by kernel_rfl) (by show (2:Nat)<=27;decide) ?_
  refine aP ?_
  refine aN ?_
  refine aC (dK (v:=zS none 0 0) rfl) ?_
  refine aX (aA ?_)
  refine aP ?_
  refine aP ?_
  refine aN ?_
  refine aC (bB (v:=i64 n) rfl) ?_
  refine aC (cM rfl rfl) ?_
  refine aX (aA ?_)
  refine aI (by simp;omega) rfl ?_
  refine aY (aA ?_)
  refine aP ?_
  refine aP ?_
  refine aN ?_
  refine aC (bB (v:=i64 n) rfl) ?_
  refine aC (bB (v:=zS none 0 0) rfl) ?_
  refine aC (R_capS cF rfl) ?_
  refine aC (bB (v:=zS none 0 0) rfl) ?_
  refine aC (bU cF rfl) ?_
  refine aC (gR rfl rfl) ?_
  refine aC (gR rfl rfl) ?_
  refine aC (dK (v:=i64 n) (congrArg i64 (show wr (n - wr (0 - 0))=n by rw [show wr ((0:Int) - 0)=0 by decide,Int.sub_zero,aHu]<;>omega))) ?_
  refine aX (aA ?_)
  refine aP ?_
  refine aN ?_
  refine aC (bB (v:=i64 n) rfl) ?_
  refine aC (iI rfl rfl) ?_
  refine aX (aA ?_)
  by_cases hn:0 < n
  ·refine aL (decide_eq_true hn) rfl ?_
   refine aN ?_
   refine aC (bB (v:=zS none 0 0) rfl) ?_
   refine aC (bB (v:=zS none 0 0) rfl) ?_
   refine aC (R_capS cF rfl) ?_
   refine aC (R_slN cF rfl rfl (Int.le_refl _) (Int.le_refl _)) ?_
   refine aC (bB (v:=i64 n) rfl) ?_
   obtain ⟨inf,hi,hib,hisz,hinf,zv,hzv,hzc⟩:=fL.info
   have hnn:((n.toNat:Nat):Int)=n:=by omega
   have hap:=Go.Lib.run_append_nil_zeros (P:=Tryz.prog) w 24 3 24 9 inf zv .i64 .i64 (by kernel_rfl) (by kernel_rfl) hinf hzv n.toNat (by omega) (by rw [hisz];decide) (by omega) (by have:=Nat.mul_le_mul (Nat.le_refl n.toNat) hib;omega)
   rw [hnn] at hap
   refine uB rfl (w':=_) (v:=_) (by simp only [execOp,resolve,invoke,builtin,Sem.run_bind,Sem.run_pure,Result.andThen_ok,List.map_toArray,List.map_cons,List.map_nil];erw [hap];rfl) ?_
   refine aC (bB (v:=zS none 0 0) rfl) ?_
   refine aC (bU cF rfl) ?_
   refine aC (R_slZ cF rfl rfl) ?_
   refine aC (dK rfl) ?_
   refine aX (aA ?_)
   refine aP ?_
   refine aN ?_
   refine aC (bB rfl) ?_
   refine aC (dK rfl) ?_
   refine aX (aA ?_)
   refine bK (bM Tryz.results128 rfl ⟨_,_,rfl,?_⟩)
   refine (hs.mono (dG.drew w)).alloc _ (aFH (xs:=([]:List bD)) (rows:=[]) (Hp.one_self _ _) (Nat.zero_le _) ?_ rfl (fun t v ht=>by simp at ht) (fun i d e=>by simp at e))
   have:zv.cells.size=1:=by rw [hzc];rfl
   simp only [Array.size_append,size_zeroCells,this]
   show _ * 1<=_
   omega
  ·refine aI (by simpa using hn) rfl ?_
   refine aY (aA ?_)
   refine aP ?_
   refine aN ?_
   refine aC (bB (v:=zS none 0 0) rfl) ?_
   refine aC (dK (v:=zS none 0 0) rfl) ?_
   refine aX (aA ?_)
   exact bK (bM Tryz.results128 rfl ⟨none,0,rfl,hs.nil _ _⟩)
 ·cases hm
end
end Gv
