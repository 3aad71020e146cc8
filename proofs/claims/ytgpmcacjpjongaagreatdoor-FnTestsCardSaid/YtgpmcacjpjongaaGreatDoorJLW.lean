/- Contracts of functions of Go's library, said of heaps of pieces. -/
import Derived.Test.YtgpmcacjpjongaaGreatDoorJWk0
import Derived.Test.YtgpmcacjpjongaaGreatDoorJP11
import Derived.Lib.AppendZeros
set_option linter.all false
namespace Gv
open Go Go.Proofs Go.RowKit Go.Sort
section
variable {G:wY} {K:Hp} {L:List iN} {w:World}
def cmpL (a b:aF):Int:=if a == b then 0 else if a == bU then -1 else if b == bU then 1 else cmpB a b
theorem cmpL_eq (a b:aF):aBt a b=some (cmpL a b):=by
 unfold aBt cmpL
 rw [show ([116,97,117]:aF)=bU from rfl]
 cases a == b<;>cases a == bU<;>cases b == bU<;>rfl
theorem aMJ (a b:aF):ltOf cmpL a b=sG a b:=by
 unfold ltOf cmpL sG cmpB
 by_cases h1:a=b
 ·simp [h1]
 ·by_cases h2:a=bU
  ·subst h2;simp [h1]
  ·by_cases h3:b=bU
   ·simp [h1,h2,h3]
   ·simp only [h1,h2,h3,beq_iff_eq,if_false]
    cases vJ a b<;>rfl
def cmpE (a b:Edge):Int:=or3 (aJp a.F b.F) (aJp a.B b.B) (aJp a.To b.To)
theorem aMK (a b:Edge):ltOf cmpE a b=cA a b:=by
 unfold ltOf cmpE
 have:=cmpE_ge a b
 cases hx:cA a b with
 |true=>rw [hx] at this;simp at this;simpa using this
 |false=>rw [hx] at this;simp at this;simpa using this
theorem aKE (a b:Edge):cA a b=true\/a=b\/cA b a=true:=by
 rw [qX,qX]
 obtain ⟨a1,a2,a3⟩:=a
 obtain ⟨b1,b2,b3⟩:=b
 simp only [Edge.mk.injEq]
 omega
theorem edgeLt_tr {a b c:Edge} (h1:cA a b=true) (h2:cA b c=true):cA a c=true:=by
 rw [qX] at *;omega
theorem swo_of {α:Type} {lt lt':α->α->Bool} (he:∀ a b,lt' a b=lt a b) (irr:∀ a,lt a a=false) (tr:∀ {a b c},lt a b=true->lt b c=true->lt a c=true) (tri:∀ a b,lt a b=true\/a=b\/lt b a=true):Sort.SWO lt':=by
 obtain rfl:lt'=lt:=by funext a b;exact he a b
 refine ⟨irr,fun x y z=>tr,fun x y z h1 h2=>?_⟩
 rcases tri x y with h|h|h
 ·rw [h] at h1;cases h1
 ·subst h;exact h2
 ·rcases tri y z with g|g|g
  ·rw [g] at h2;cases h2
  ·subst g;exact h1
  ·cases hx:lt' x z with
   |false=>rfl
   |true=>
    have:=tr (tr g h) hx
    rw [irr] at this;cases this
theorem aNO {α:Type} {lt lt':α->α->Bool} (he:∀ a b,lt' a b=lt a b) (tri:∀ a b,lt a b=true\/a=b\/lt b a=true) (x y:α) (h1:lt' x y=false) (h2:lt' y x=false):x=y:=by
 rw [he] at h1 h2
 rcases tri x y with h|h|h
 ·rw [h] at h1;cases h1
 ·exact h
 ·rw [h] at h2;cases h2
theorem lib_SortStr {E:TypeId} {xs:List aF} {a:Option Addr} {c:Nat} {R:List aF} (hs:aD G K (aG E K a c xs::L) w) (hm:uI xs=some R):
  Calls Tryz.prog 94 ([Value.slice a xs.length c,Value.func (.func 95) #[] #[]]:List Value).toArray w (eR fun v w'=>v=Value.tuple #[]/\xs.length=R.length/\aD G K (aG E K a c R::L) w'):=by
 unfold uI at hm
 split at hm
 ·rename_i hl
  cases hm
  unfold kJ at hl
  have hlen:(vE sG xs).length=xs.length:=List.length_mergeSort _
  have hlay:∀ b off,a=some ⟨b,off,none⟩->∀ (m:Nat) (os:Array Obj) (dk:Array aF),dk.size=xs.length->aD G K (aG E K a c dk.toList::L) (sortWorld str w b off m dk os):=by
   rintro b off rfl m os dk hdk
   unfold sortWorld
   rw [aKf]
   refine aD.putRow (i:=0) hs rfl (by simp [hdk]) ?_
   rw [aNF];simp
  rcases aIm hs (i:=0) rfl with ⟨rfl,rfl⟩|⟨b,off,rfl,hb,hc⟩
  ·refine (Tryz.slices_SortFunc_none_f94 (α:=aF) none c _ w).mono ?_
   rintro e w' ⟨rfl,rfl⟩
   exact ⟨_,rfl,rfl,hlen.symm,by simpa [vE] using hs⟩
  ·refine (Tryz.slices_SortFunc_total_f94 (α:=aF) str (fun _=>rfl) cmpL (swo_of aMJ aEB aIa aGz) 95 #[] b off c xs.toArray w (enters_of Tryz.func95 (by kernel_rfl) rfl) ?_ ?_ hb (by simp;omega) (aNO aMJ aGz)).mono ?_
   ·intro m os dk hdk x y
    have hst:=hlay b off rfl m os dk (by simpa using hdk)
    have:=aBh (cmpL_eq x y) (aD.start (sortWorld str w b off m dk os) G.laid hst.globs)
    refine this.mono ?_
    rintro e w' ⟨v,rfl,rfl,hx⟩
    exact ⟨rfl,hx.exact⟩
   ·intro j hj
    have hj':j < xs.length:=by simpa using hj
    have:=hc j (str xs[j]) (by rw [aNF];simp [hj'])
    rw [getElem!_pos xs.toArray j hj]
    simpa using this
   ·rintro e w' ⟨rfl,n,os,rfl⟩
    refine ⟨_,rfl,rfl,hlen.symm,?_⟩
    have:=hlay b off rfl n os (vE sG xs).toArray (by simpa using hlen)
    have he:(xs.toArray.toList.mergeSort fun x y=>!ltOf cmpL y x)=vE sG xs:=by
     unfold vE;congr 1;funext x y;rw [aMJ]
    rw [he]
    simpa using this
 ·cases hm
theorem aNP {β:Type} [eZ β]:∀ (l:List β) (i r:Nat) (hi:i < l.length),r < eZ.sz β->(kO l)[i * eZ.sz β+r]?=(eZ.enc l[i])[r]?
 |[],i,r,hi,_=>by simp at hi
 |x::l,0,r,hi,hr=>by
  unfold kO
  rw [List.flatMap_cons,Nat.zero_mul,Nat.zero_add,List.getElem?_append_left (by rw [eZ.len];exact hr)];rfl
 |x::l,i+1,r,hi,hr=>by
  have:=aNP l i r (by simpa using hi) hr
  unfold kO at this ⊢
  rw [List.flatMap_cons,Nat.add_mul,Nat.one_mul,List.getElem?_append_right (by rw [eZ.len];omega),eZ.len]
  rw [show i * eZ.sz β+eZ.sz β+r - eZ.sz β=i * eZ.sz β+r by omega,this];rfl
theorem aNQ {β:Type} [eZ β] [Inhabited β] (l:List β):(flatK eZ.enc (eZ.sz β) l.toArray).toList=kO l:=by
 have hz:=eZ.pos (α:=β)
 refine List.ext_getElem? fun t=>?_
 unfold flatK
 by_cases ht:t < l.length * eZ.sz β
 ·have h1:t / eZ.sz β < l.length:=Nat.div_lt_of_lt_mul (by rw [Nat.mul_comm];exact ht)
  have h2:t % eZ.sz β < eZ.sz β:=Nat.mod_lt _ hz
  have h3:=aNP l (t / eZ.sz β) (t % eZ.sz β) h1 h2
  rw [Nat.div_add_mod'] at h3
  rw [h3]
  simp only [Array.toList_map,Array.toList_range,List.getElem?_map,List.size_toArray,List.getElem?_range ht,Option.map_some]
  rw [getElem!_pos l.toArray _ (by simpa using h1)]
  have h4:t % eZ.sz β < (eZ.enc l[t / eZ.sz β]).length:=by rw [eZ.len];exact h2
  rw [List.getElem?_eq_getElem h4]
  simp only [List.getElem_toArray]
  rw [getElem!_pos (eZ.enc l[t / eZ.sz β]) (t % eZ.sz β) h4]
 ·rw [List.getElem?_eq_none (by simp;omega),List.getElem?_eq_none (by rw [vU];omega)]
theorem lib_SortEdge {E:TypeId} {xs:List Edge} {a:Option Addr} {c:Nat} {R:List Edge} (hs:aD G K (aG E K a c xs::L) w) (hm:xA xs=some R):
  Calls Tryz.prog 97 ([Value.slice a xs.length c,Value.func (.func 66) #[] #[]]:List Value).toArray w (eR fun v w'=>v=Value.tuple #[]/\xs.length=R.length/\aD G K (aG E K a c R::L) w'):=by
 unfold xA at hm
 split at hm
 ·rename_i hl
  cases hm
  unfold kJ at hl
  have hlen:(vE cA xs).length=xs.length:=List.length_mergeSort _
  have hlay:∀ b off,a=some ⟨b,off,none⟩->∀ (m:Nat) (os:Array Obj) (dk:Array Edge),dk.size=xs.length->aD G K (aG E K a c dk.toList::L) (sortWorldK eZ.enc 3 w b off m dk os):=by
   rintro b off rfl m os dk hdk
   unfold sortWorldK putRowK
   refine aD.putRow (i:=0) hs rfl (by simp [hdk]) ?_
   exact aNQ dk.toList
  rcases aIm hs (i:=0) rfl with ⟨rfl,rfl⟩|⟨b,off,rfl,hb,hc⟩
  ·refine (Tryz.slices_SortFunc_none_f97 (α:=Edge) none c _ w).mono ?_
   rintro e w' ⟨rfl,rfl⟩
   exact ⟨_,rfl,rfl,hlen.symm,by simpa [vE] using hs⟩
  ·refine (Tryz.slices_SortFunc_total_f97 (α:=Edge) 3 Tryz.isAgg46 Tryz.sizeOf46 eZ.enc (fun _=>rfl) (fun x v hv=>eZ.one x v hv) cmpE (swo_of aMK (fun a=>by cases hx:cA a a with|false=>rfl|true=>exact absurd rfl (aIH hx)) edgeLt_tr aKE) 66 #[] b off c xs.toArray w (enters_of Tryz.func66 (by kernel_rfl) rfl) ?_ ?_ hb (by simp;omega) (aNO aMK aKE)).mono ?_
   ·intro m os dk hdk x y
    have hst:=hlay b off rfl m os dk (by simpa using hdk)
    have:=aBE (aFx x y) (aD.start (sortWorldK eZ.enc 3 w b off m dk os) G.laid hst.globs)
    refine this.mono ?_
    rintro e w' ⟨v,rfl,rfl,hx⟩
    exact ⟨rfl,hx.exact⟩
   ·intro j hj
    have hf:=aNQ xs
    have hj3:j < xs.length * 3:=by have h:=hj;rw [size_flatK] at h;simpa using h
    have hj2:j < (kO xs).length:=by rw [vU];exact hj3
    have:=hc j (kO xs)[j] (by rw [List.getElem?_eq_getElem hj2])
    have e:(flatK eZ.enc 3 xs.toArray)[j]! = (kO xs)[j]:=by
     rw [getElem!_pos (flatK eZ.enc 3 xs.toArray) j hj]
     have:(flatK eZ.enc 3 xs.toArray)[j]=(flatK eZ.enc (eZ.sz Edge) xs.toArray).toList[j]'(by rw [hf];exact hj2):=by simp;rfl
     rw [this]
     simp only [hf]
    rw [e]
    exact this
   ·rintro e w' ⟨rfl,n,os,rfl⟩
    refine ⟨_,rfl,rfl,hlen.symm,?_⟩
    have:=hlay b off rfl n os (vE cA xs).toArray (by simpa using hlen)
    have he:(xs.toArray.toList.mergeSort fun x y=>!ltOf cmpE y x)=vE cA xs:=by
     unfold vE;congr 1;funext x y;rw [aMK]
    rw [he]
    simpa using this
 ·cases hm
end
end Gv
namespace Gv
open Go.Value renaming slice→zS
open Go Go.Proofs Go.RowKit Go.Sort
section
variable {P:Program} {f:Nat->Value} {w:World} {d:Nat} {x y z:Operand} {ty:TypeId} {pos:String} {af:Array Go.Edge}
theorem R_capS {T E:TypeId} {sz:Nat} {a:Option Addr} {len cap:Nat} (hT:SLT P T E sz) (hx:ev f x=.slice a len cap):
  (execOp (ev f) ⟨some d,.call ⟨.builtin .cap,#[x],#[T]⟩,ty,pos,af,none⟩).run P w=.ok (.value (i64 cap)) w:=
 (by simp [execOp,resolve,invoke,builtin,Builtin.cap_,hx,hT.un,goInt,i64])
theorem R_slN {T E:TypeId} {sz:Nat} {len cap:Nat} {h:Int} (hT:SLT P T E sz) (hx:ev f x=.slice none len cap) (hz:ev f z=i64 h) (h0:0<=h) (h1:h<=cap):
  (execOp (ev f) ⟨some d,.slice T x none (some z) none,ty,pos,af,none⟩).run P w=.ok (.value (.slice none h.toNat cap)) w:=by
 have hc:0<=h/\h<=cap:=⟨h0,h1⟩
 simp [execOp,hx,hz,aGs hT,Instr.slice,hT.un,hT.size,Instr.sliceBounds,Instr.sliceBound,i64,asIntOf,hc]
theorem R_slZ {T E:TypeId} {sz b:Nat} {len cap:Nat} (hT:SLT P T E sz) (hx:ev f x=.slice (some ⟨b,0,none⟩) len cap) (hz:ev f z=i64 0):
  (execOp (ev f) ⟨some d,.slice T x none (some z) none,ty,pos,af,none⟩).run P w=.ok (.value (.slice (some ⟨b,0,none⟩) 0 cap)) w:=by
 have hc:(0:Int)<=0/\(0:Int)<=cap:=⟨Int.le_refl _,by omega⟩
 simp [execOp,hx,hz,aGs hT,Instr.slice,hT.un,hT.size,Instr.sliceBounds,Instr.sliceBound,i64,asIntOf,hc,lT]
end
section
variable {G:wY} {K:Hp} {L:List iN} {w:World}
theorem lib_GrowStr {n:Int} {R:List aF} (hs:aD G K L w) (_hr:bS K none 0 ([]:List aF)) (hm:aGt [] n=some R):
  Calls Tryz.prog 99 ([zS none 0 0,i64 n]:List Value).toArray w (eR fun v w'=>∃ (a':Option Addr) (c':Nat),v=zS a' R.length c'/\aD G K (aG 9 K a' c' R::L) w'):=by
 unfold aGt at hm
 split at hm
 ·rename_i hl
  cases hm
  obtain ⟨-,h0,h1⟩:=hl
  unfold kJ at h1
  refine aR Tryz.func99 rfl (by kernel_rfl) (by show (2:Nat)<=27;decide) ?_
  refine aM ?_
  refine aZ ?_
  refine aH (cU (v:=zS none 0 0) rfl) ?_
  refine aJ (aB ?_)
  refine aM ?_
  refine aM ?_
  refine aZ ?_
  refine aH (bJ (v:=i64 n) rfl) ?_
  refine aH (cQ rfl rfl) ?_
  refine aJ (aB ?_)
  refine aW (by simp;omega) rfl ?_
  refine bB (aB ?_)
  refine aM ?_
  refine aM ?_
  refine aZ ?_
  refine aH (bJ (v:=i64 n) rfl) ?_
  refine aH (bJ (v:=zS none 0 0) rfl) ?_
  refine aH (R_capS bE rfl) ?_
  refine aH (bJ (v:=zS none 0 0) rfl) ?_
  refine aH (bI bE rfl) ?_
  refine aH (qZ rfl rfl) ?_
  refine aH (qZ rfl rfl) ?_
  refine aH (cU (v:=i64 n) (congrArg i64 (show wr (n - wr (0 - 0))=n by rw [show wr ((0:Int) - 0)=0 by decide,Int.sub_zero,fX]<;>omega))) ?_
  refine aJ (aB ?_)
  refine aM ?_
  refine aZ ?_
  refine aH (bJ (v:=i64 n) rfl) ?_
  refine aH (sZ rfl rfl) ?_
  refine aJ (aB ?_)
  by_cases hn:0 < n
  ·refine aT (decide_eq_true hn) rfl ?_
   refine aZ ?_
   refine aH (bJ (v:=zS none 0 0) rfl) ?_
   refine aH (bJ (v:=zS none 0 0) rfl) ?_
   refine aH (R_capS bE rfl) ?_
   refine aH (R_slN bE rfl rfl (Int.le_refl _) (Int.le_refl _)) ?_
   refine aH (bJ (v:=i64 n) rfl) ?_
   obtain ⟨inf,hi,hib,hisz,hinf,zv,hzv,hzc⟩:=iW.info
   have hnn:((n.toNat:Nat):Int)=n:=by omega
   have hap:=Go.Lib.run_append_nil_zeros (P:=Tryz.prog) w 24 3 24 9 inf zv .i64 .i64 (by kernel_rfl) (by kernel_rfl) hinf hzv n.toNat (by omega) (by rw [hisz];decide) (by omega) (by have:=Nat.mul_le_mul (Nat.le_refl n.toNat) hib;omega)
   rw [hnn] at hap
   refine aBq rfl (w':=_) (v:=_) (by simp only [execOp,resolve,invoke,builtin,Sem.run_bind,Sem.run_pure,Result.andThen_ok,List.map_toArray,List.map_cons,List.map_nil];erw [hap];rfl) ?_
   refine aH (bJ (v:=zS none 0 0) rfl) ?_
   refine aH (bI bE rfl) ?_
   refine aH (R_slZ bE rfl rfl) ?_
   refine aH (cU rfl) ?_
   refine aJ (aB ?_)
   refine aM ?_
   refine aZ ?_
   refine aH (bJ rfl) ?_
   refine aH (cU rfl) ?_
   refine aJ (aB ?_)
   refine kX (aCr Tryz.results99 rfl ⟨_,_,rfl,?_⟩)
   refine (hs.mono (fN.drew w)).alloc _ (aJK (xs:=([]:List aF)) (rows:=[]) (Hp.one_self _ _) (Nat.zero_le _) ?_ rfl (fun t v ht=>by simp at ht) (fun i d e=>by simp at e))
   have:zv.cells.size=1:=by rw [hzc];rfl
   simp only [Array.size_append,size_zeroCells,this]
   show _ * 1<=_
   omega
  ·refine aW (by simpa using hn) rfl ?_
   refine bB (aB ?_)
   refine aM ?_
   refine aZ ?_
   refine aH (bJ (v:=zS none 0 0) rfl) ?_
   refine aH (cU (v:=zS none 0 0) rfl) ?_
   refine aJ (aB ?_)
   exact kX (aCr Tryz.results99 rfl ⟨none,0,rfl,hs.nil _ _⟩)
 ·cases hm
end
end Gv
