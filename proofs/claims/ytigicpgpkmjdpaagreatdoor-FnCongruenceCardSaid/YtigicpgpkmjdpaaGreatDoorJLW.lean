/- Contracts of functions of Go's library, said of heaps of pieces. -/
import Derived.Test.YtigicpgpkmjdpaaGreatDoorJWk0
import Derived.Test.YtigicpgpkmjdpaaGreatDoorJP11
import Derived.Lib.AppendZeros
set_option linter.all false
namespace Gv
open Go Go.Proofs Go.RowKit Go.Sort
section
variable {G:zZ} {K:Hp} {L:List jM} {w:World}
def cmpL (a b:aI):Int:=if a == b then 0 else if a == bF then -1 else if b == bF then 1 else cmpB a b
theorem cmpL_eq (a b:aI):yU a b=some (cmpL a b):=by
 unfold yU cmpL
 rw [show ([116,97,117]:aI)=bF from rfl]
 cases a == b<;>cases a == bF<;>cases b == bF<;>rfl
theorem aNl (a b:aI):ltOf cmpL a b=aAc a b:=by
 unfold ltOf cmpL aAc cmpB
 by_cases h1:a=b
 ·simp [h1]
 ·by_cases h2:a=bF
  ·subst h2;simp [h1]
  ·by_cases h3:b=bF
   ·simp [h1,h2,h3]
   ·simp only [h1,h2,h3,beq_iff_eq,if_false]
    cases vJ a b<;>rfl
def cmpE (a b:Edge):Int:=or3 (aJX a.F b.F) (aJX a.B b.B) (aJX a.To b.To)
theorem aNm (a b:Edge):ltOf cmpE a b=bM a b:=by
 unfold ltOf cmpE
 have:=cmpE_ge a b
 cases hx:bM a b with
 |true=>rw [hx] at this;simp at this;simpa using this
 |false=>rw [hx] at this;simp at this;simpa using this
theorem aKZ (a b:Edge):bM a b=true\/a=b\/bM b a=true:=by
 rw [tP,tP]
 obtain ⟨a1,a2,a3⟩:=a
 obtain ⟨b1,b2,b3⟩:=b
 simp only [Edge.mk.injEq]
 omega
theorem edgeLt_tr {a b c:Edge} (h1:bM a b=true) (h2:bM b c=true):bM a c=true:=by
 rw [tP] at *;omega
theorem swo_of {α:Type} {lt lt':α->α->Bool} (he:∀ a b,lt' a b=lt a b) (irr:∀ a,lt a a=false) (tr:∀ {a b c},lt a b=true->lt b c=true->lt a c=true) (tri:∀ a b,lt a b=true\/a=b\/lt b a=true):Sort.SWO lt':=by
 obtain rfl:lt'=lt:=by funext a b;exact he a b
 refine ⟨irr,fun x y z=>tr,fun x y z h1 h2=>?_⟩
 rcases tri x y with h|h|h
 ·rw [h] at h1;cases h1
 ·subst h;exact h2
 ·rcases tri y z with g|g|g
  ·rw [g] at h2;cases h2
  ·subst g;exact h1
  ·cases hx:lt' x z with
   |false=>rfl
   |true=>
    have:=tr (tr g h) hx
    rw [irr] at this;cases this
theorem aLa {α:Type} {lt lt':α->α->Bool} (he:∀ a b,lt' a b=lt a b) (tri:∀ a b,lt a b=true\/a=b\/lt b a=true) (x y:α) (h1:lt' x y=false) (h2:lt' y x=false):x=y:=by
 rw [he] at h1 h2
 rcases tri x y with h|h|h
 ·rw [h] at h1;cases h1
 ·exact h
 ·rw [h] at h2;cases h2
theorem lib_SortStr {E:TypeId} {xs:List aI} {a:Option Addr} {c:Nat} {R:List aI} (hs:aF G K (aL E K a c xs::L) w) (hm:aBh xs=some R):
  Calls Tryz.prog 119 ([Value.slice a xs.length c,Value.func (.func 120) #[] #[]]:List Value).toArray w (eZ fun v w'=>v=Value.tuple #[]/\xs.length=R.length/\aF G K (aL E K a c R::L) w'):=by
 unfold aBh at hm
 split at hm
 ·rename_i hl
  cases hm
  unfold jA at hl
  have hlen:(qD aAc xs).length=xs.length:=List.length_mergeSort _
  have hlay:∀ b off,a=some ⟨b,off,none⟩->∀ (m:Nat) (os:Array Obj) (dk:Array aI),dk.size=xs.length->aF G K (aL E K a c dk.toList::L) (sortWorld str w b off m dk os):=by
   rintro b off rfl m os dk hdk
   unfold sortWorld
   rw [aHH]
   refine aF.putRow (i:=0) hs rfl (by simp [hdk]) ?_
   rw [aOq];simp
  rcases aGQ hs (i:=0) rfl with ⟨rfl,rfl⟩|⟨b,off,rfl,hb,hc⟩
  ·refine (Tryz.slices_SortFunc_none_f119 (α:=aI) none c _ w).mono ?_
   rintro e w' ⟨rfl,rfl⟩
   exact ⟨_,rfl,rfl,hlen.symm,by simpa [qD] using hs⟩
  ·refine (Tryz.slices_SortFunc_total_f119 (α:=aI) str (fun _=>rfl) cmpL (swo_of aNl aJk aKX aGT) 120 #[] b off c xs.toArray w (enters_of Tryz.func120 (by kernel_rfl) rfl) ?_ ?_ hb (by simp;omega) (aLa aNl aGT)).mono ?_
   ·intro m os dk hdk x y
    have hst:=hlay b off rfl m os dk (by simpa using hdk)
    have:=aBX (cmpL_eq x y) (aF.start (sortWorld str w b off m dk os) G.laid hst.globs)
    refine this.mono ?_
    rintro e w' ⟨v,rfl,rfl,hx⟩
    exact ⟨rfl,hx.exact⟩
   ·intro j hj
    have hj':j < xs.length:=by simpa using hj
    have:=hc j (str xs[j]) (by rw [aOq];simp [hj'])
    rw [getElem!_pos xs.toArray j hj]
    simpa using this
   ·rintro e w' ⟨rfl,n,os,rfl⟩
    refine ⟨_,rfl,rfl,hlen.symm,?_⟩
    have:=hlay b off rfl n os (qD aAc xs).toArray (by simpa using hlen)
    have he:(xs.toArray.toList.mergeSort fun x y=>!ltOf cmpL y x)=qD aAc xs:=by
     unfold qD;congr 1;funext x y;rw [aNl]
    rw [he]
    simpa using this
 ·cases hm
theorem aOw {β:Type} [fA β]:∀ (l:List β) (i r:Nat) (hi:i < l.length),r < fA.sz β->(kE l)[i * fA.sz β+r]?=(fA.enc l[i])[r]?
 |[],i,r,hi,_=>by simp at hi
 |x::l,0,r,hi,hr=>by
  unfold kE
  rw [List.flatMap_cons,Nat.zero_mul,Nat.zero_add,List.getElem?_append_left (by rw [fA.len];exact hr)];rfl
 |x::l,i+1,r,hi,hr=>by
  have:=aOw l i r (by simpa using hi) hr
  unfold kE at this ⊢
  rw [List.flatMap_cons,Nat.add_mul,Nat.one_mul,List.getElem?_append_right (by rw [fA.len];omega),fA.len]
  rw [show i * fA.sz β+fA.sz β+r - fA.sz β=i * fA.sz β+r by omega,this];rfl
theorem aOx {β:Type} [fA β] [Inhabited β] (l:List β):(flatK fA.enc (fA.sz β) l.toArray).toList=kE l:=by
 have hz:=fA.pos (α:=β)
 refine List.ext_getElem? fun t=>?_
 unfold flatK
 by_cases ht:t < l.length * fA.sz β
 ·have h1:t / fA.sz β < l.length:=Nat.div_lt_of_lt_mul (by rw [Nat.mul_comm];exact ht)
  have h2:t % fA.sz β < fA.sz β:=Nat.mod_lt _ hz
  have h3:=aOw l (t / fA.sz β) (t % fA.sz β) h1 h2
  rw [Nat.div_add_mod'] at h3
  rw [h3]
  simp only [Array.toList_map,Array.toList_range,List.getElem?_map,List.size_toArray,List.getElem?_range ht,Option.map_some]
  rw [getElem!_pos l.toArray _ (by simpa using h1)]
  have h4:t % fA.sz β < (fA.enc l[t / fA.sz β]).length:=by rw [fA.len];exact h2
  rw [List.getElem?_eq_getElem h4]
  simp only [List.getElem_toArray]
  rw [getElem!_pos (fA.enc l[t / fA.sz β]) (t % fA.sz β) h4]
 ·rw [List.getElem?_eq_none (by simp;omega),List.getElem?_eq_none (by rw [nV];omega)]
theorem lib_SortEdge {E:TypeId} {xs:List Edge} {a:Option Addr} {c:Nat} {R:List Edge} (hs:aF G K (aL E K a c xs::L) w) (hm:mE xs=some R):
  Calls Tryz.prog 100 ([Value.slice a xs.length c,Value.func (.func 76) #[] #[]]:List Value).toArray w (eZ fun v w'=>v=Value.tuple #[]/\xs.length=R.length/\aF G K (aL E K a c R::L) w'):=by
 unfold mE at hm
 split at hm
 ·rename_i hl
  cases hm
  unfold jA at hl
  have hlen:(qD bM xs).length=xs.length:=List.length_mergeSort _
  have hlay:∀ b off,a=some ⟨b,off,none⟩->∀ (m:Nat) (os:Array Obj) (dk:Array Edge),dk.size=xs.length->aF G K (aL E K a c dk.toList::L) (sortWorldK fA.enc 3 w b off m dk os):=by
   rintro b off rfl m os dk hdk
   unfold sortWorldK putRowK
   refine aF.putRow (i:=0) hs rfl (by simp [hdk]) ?_
   exact aOx dk.toList
  rcases aGQ hs (i:=0) rfl with ⟨rfl,rfl⟩|⟨b,off,rfl,hb,hc⟩
  ·refine (Tryz.slices_SortFunc_none_f100 (α:=Edge) none c _ w).mono ?_
   rintro e w' ⟨rfl,rfl⟩
   exact ⟨_,rfl,rfl,hlen.symm,by simpa [qD] using hs⟩
  ·refine (Tryz.slices_SortFunc_total_f100 (α:=Edge) 3 Tryz.isAgg70 Tryz.sizeOf70 fA.enc (fun _=>rfl) (fun x v hv=>fA.one x v hv) cmpE (swo_of aNm (fun a=>by cases hx:bM a a with|false=>rfl|true=>exact absurd rfl (aJl hx)) edgeLt_tr aKZ) 76 #[] b off c xs.toArray w (enters_of Tryz.func76 (by kernel_rfl) rfl) ?_ ?_ hb (by simp;omega) (aLa aNm aKZ)).mono ?_
   ·intro m os dk hdk x y
    have hst:=hlay b off rfl m os dk (by simpa using hdk)
    have:=aCv (aFL x y) (aF.start (sortWorldK fA.enc 3 w b off m dk os) G.laid hst.globs)
    refine this.mono ?_
    rintro e w' ⟨v,rfl,rfl,hx⟩
    exact ⟨rfl,hx.exact⟩
   ·intro j hj
    have hf:=aOx xs
    have hj3:j < xs.length * 3:=by have h:=hj;rw [size_flatK] at h;simpa using h
    have hj2:j < (kE xs).length:=by rw [nV];exact hj3
    have:=hc j (kE xs)[j] (by rw [List.getElem?_eq_getElem hj2])
    have e:(flatK fA.enc 3 xs.toArray)[j]! = (kE xs)[j]:=by
     rw [getElem!_pos (flatK fA.enc 3 xs.toArray) j hj]
     have:(flatK fA.enc 3 xs.toArray)[j]=(flatK fA.enc (fA.sz Edge) xs.toArray).toList[j]'(by rw [hf];exact hj2):=by simp;rfl
     rw [this]
     simp only [hf]
    rw [e]
    exact this
   ·rintro e w' ⟨rfl,n,os,rfl⟩
    refine ⟨_,rfl,rfl,hlen.symm,?_⟩
    have:=hlay b off rfl n os (qD bM xs).toArray (by simpa using hlen)
    have he:(xs.toArray.toList.mergeSort fun x y=>!ltOf cmpE y x)=qD bM xs:=by
     unfold qD;congr 1;funext x y;rw [aNm]
    rw [he]
    simpa using this
 ·cases hm
end
end Gv
namespace Gv
open Go.Value renaming slice→zS
open Go Go.Proofs Go.RowKit Go.Sort
section
variable {P:Program} {f:Nat->Value} {w:World} {d:Nat} {x y z:Operand} {ty:TypeId} {pos:String} {af:Array Go.Edge}
theorem R_capS {T E:TypeId} {sz:Nat} {a:Option Addr} {len cap:Nat} (hT:SLT P T E sz) (hx:ev f x=.slice a len cap):
  (execOp (ev f) ⟨some d,.call ⟨.builtin .cap,#[x],#[T]⟩,ty,pos,af,none⟩).run P w=.ok (.value (i64 cap)) w:=
 (by simp [execOp,resolve,invoke,builtin,Builtin.cap_,hx,hT.un,goInt,i64])
theorem R_slN {T E:TypeId} {sz:Nat} {len cap:Nat} {h:Int} (hT:SLT P T E sz) (hx:ev f x=.slice none len cap) (hz:ev f z=i64 h) (h0:0<=h) (h1:h<=cap):
  (execOp (ev f) ⟨some d,.slice T x none (some z) none,ty,pos,af,none⟩).run P w=.ok (.value (.slice none h.toNat cap)) w:=by
 have hc:0<=h/\h<=cap:=⟨h0,h1⟩
 simp [execOp,hx,hz,aGL hT,Instr.slice,hT.un,hT.size,Instr.sliceBounds,Instr.sliceBound,i64,asIntOf,hc]
theorem R_slZ {T E:TypeId} {sz b:Nat} {len cap:Nat} (hT:SLT P T E sz) (hx:ev f x=.slice (some ⟨b,0,none⟩) len cap) (hz:ev f z=i64 0):
  (execOp (ev f) ⟨some d,.slice T x none (some z) none,ty,pos,af,none⟩).run P w=.ok (.value (.slice (some ⟨b,0,none⟩) 0 cap)) w:=by
 have hc:(0:Int)<=0/\(0:Int)<=cap:=⟨Int.le_refl _,by omega⟩
 simp [execOp,hx,hz,aGL hT,Instr.slice,hT.un,hT.size,Instr.sliceBounds,Instr.sliceBound,i64,asIntOf,hc,nT]
end
section
variable {G:zZ} {K:Hp} {L:List jM} {w:World}
theorem lib_GrowStr {n:Int} {R:List aI} (hs:aF G K L w) (_hr:bG K none 0 ([]:List aI)) (hm:aGP [] n=some R):
  Calls Tryz.prog 191 ([zS none 0 0,i64 n]:List Value).toArray w (eZ fun v w'=>∃ (a':Option Addr) (c':Nat),v=zS a' R.length c'/\aF G K (aL 9 K a' c' R::L) w'):=by
 unfold aGP at hm
 split at hm
 ·rename_i hl
  cases hm
  obtain ⟨-,h0,h1⟩:=hl
  unfold jA at h1
  refine aO Tryz.func191 rfl (by kernel_rfl) (by show (2:Nat)<=27;decide) ?_
  refine aM ?_
  refine aU ?_
  refine aD (fW (v:=zS none 0 0) rfl) ?_
  refine aT (aC ?_)
  refine aM ?_
  refine aM ?_
  refine aU ?_
  refine aD (aW (v:=i64 n) rfl) ?_
  refine aD (cU rfl rfl) ?_
  refine aT (aC ?_)
  refine bE (by simp;omega) rfl ?_
  refine aY (aC ?_)
  refine aM ?_
  refine aM ?_
  refine aU ?_
  refine aD (aW (v:=i64 n) rfl) ?_
  refine aD (aW (v:=zS none 0 0) rfl) ?_
  refine aD (R_capS eG rfl) ?_
  refine aD (aW (v:=zS none 0 0) rfl) ?_
  refine aD (bH eG rfl) ?_
  refine aD (uW rfl rfl) ?_
  refine aD (uW rfl rfl) ?_
  refine aD (fW (v:=i64 n) (congrArg i64 (show wr (n - wr (0 - 0))=n by rw [show wr ((0:Int) - 0)=0 by decide,Int.sub_zero,dS]<;>omega))) ?_
  refine aT (aC ?_)
  refine aM ?_
  refine aU ?_
  refine aD (aW (v:=i64 n) rfl) ?_
  refine aD (aAa rfl rfl) ?_
  refine aT (aC ?_)
  by_cases hn:0 < n
  ·refine aS (decide_eq_true hn) rfl ?_
   refine aU ?_
   refine aD (aW (v:=zS none 0 0) rfl) ?_
   refine aD (aW (v:=zS none 0 0) rfl) ?_
   refine aD (R_capS eG rfl) ?_
   refine aD (R_slN eG rfl rfl (Int.le_refl _) (Int.le_refl _)) ?_
   refine aD (aW (v:=i64 n) rfl) ?_
   obtain ⟨inf,hi,hib,hisz,hinf,zv,hzv,hzc⟩:=aDQ.info
   have hnn:((n.toNat:Nat):Int)=n:=by omega
   have hap:=Go.Lib.run_append_nil_zeros (P:=Tryz.prog) w 26 3 26 9 inf zv .i64 .i64 (by kernel_rfl) (by kernel_rfl) hinf hzv n.toNat (by omega) (by rw [hisz];decide) (by omega) (by have:=Nat.mul_le_mul (Nat.le_refl n.toNat) hib;omega)
   rw [hnn] at hap
   refine aBf rfl (w':=_) (v:=_) (by simp only [execOp,resolve,invoke,builtin,Sem.run_bind,Sem.run_pure,Result.andThen_ok,List.map_toArray,List.map_cons,List.map_nil];erw [hap];rfl) ?_
   refine aD (aW (v:=zS none 0 0) rfl) ?_
   refine aD (bH eG rfl) ?_
   refine aD (R_slZ eG rfl rfl) ?_
   refine aD (fW rfl) ?_
   refine aT (aC ?_)
   refine aM ?_
   refine aU ?_
   refine aD (aW rfl) ?_
   refine aD (fW rfl) ?_
   refine aT (aC ?_)
   refine fU (eE Tryz.results191 rfl ⟨_,_,rfl,?_⟩)
   refine (hs.mono (fJ.drew w)).alloc _ (aKw (xs:=([]:List aI)) (rows:=[]) (Hp.one_self _ _) (Nat.zero_le _) ?_ rfl (fun t v ht=>by simp at ht) (fun i d e=>by simp at e))
   have:zv.cells.size=1:=by rw [hzc];rfl
   simp only [Array.size_append,size_zeroCells,this]
   show _ * 1<=_
   omega
  ·refine bE (by simpa using hn) rfl ?_
   refine aY (aC ?_)
   refine aM ?_
   refine aU ?_
   refine aD (aW (v:=zS none 0 0) rfl) ?_
   refine aD (fW (v:=zS none 0 0) rfl) ?_
   refine aT (aC ?_)
   exact fU (eE Tryz.results191 rfl ⟨none,0,rfl,hs.nil _ _⟩)
 ·cases hm
end
end Gv
namespace Gv
open Go Go.Proofs Go.RowKit Go.Sort
theorem aMo:∀ a:List Int,vO a a=0
 |[]=>rfl
 |a::l=>by simp [vO,aMo l]
theorem aMp:∀ a b:List Int,vO b a=-vO a b
 |[],[]=>rfl
 |[],_::_=>rfl
 |_::_,[]=>rfl
 |a::l,b::m=>by
  simp only [vO]
  split<;>split<;>(try split)<;>first|omega|rfl|exact aMp l m
theorem aMq:∀ {a b:List Int},vO a b=0->a=b
 |[],[],_=>rfl
 |[],_::_,h=>by simp [vO] at h
 |_::_,[],h=>by simp [vO] at h
 |a::l,b::m,h=>by
  simp only [vO] at h
  split at h
  ·omega
  ·split at h
   ·omega
   ·rw [show a=b by omega,aMq h]
theorem aLb:∀ a b:List Int,vO a b=-1\/vO a b=0\/vO a b=1
 |[],[]=>.inr (.inl rfl)
 |[],_::_=>.inl rfl
 |_::_,[]=>.inr (.inr rfl)
 |a::l,b::m=>by
  simp only [vO]
  split
  ·exact .inl rfl
  ·split
   ·exact .inr (.inr rfl)
   ·exact aLb l m
theorem aLc:∀ {a b c:List Int},vO a b < 0->vO b c < 0->vO a c < 0
 |[],[],_,h,_=>by simp [vO] at h
 |[],_::_,[],_,h=>by simp [vO] at h
 |[],_::_,_::_,_,_=>by simp [vO]
 |_::_,[],_,h,_=>by simp [vO] at h
 |_::_,_::_,[],_,h=>by simp [vO] at h
 |a::l,b::m,c::n,h1,h2=>by
  simp only [vO] at *
  split at h1
  ·split at h2
   ·rw [if_pos (by omega)];omega
   ·split at h2
    ·omega
    ·rw [if_pos (by omega)];omega
  ·split at h1
   ·omega
   ·split at h2
    ·rw [if_pos (by omega)];omega
    ·split at h2
     ·omega
     ·rw [if_neg (by omega),if_neg (by omega)]
      exact aLc h1 h2
theorem rowLt_irr (a:List Int):aDj a a=false:=by simp [aDj,aMo]
theorem rowLt_tr {a b c:List Int} (h1:aDj a b=true) (h2:aDj b c=true):aDj a c=true:=by
 simp only [aDj,decide_eq_true_eq] at *
 exact aLc h1 h2
theorem rowLt_tri (a b:List Int):aDj a b=true\/a=b\/aDj b a=true:=by
 simp only [aDj,decide_eq_true_eq,aMp a b]
 rcases aLb a b with h|h|h
 ·exact .inl (by omega)
 ·exact .inr (.inl (aMq h))
 ·exact .inr (.inr (by omega))
theorem cmpInt_eq (a b:Int):eV a b=some (if a < b then -1 else if b < a then 1 else 0):=by
 unfold eV mH
 simp only [bne_self_eq_false,aA]
 by_cases h1:a < b
 ·simp [h1]
 ·by_cases h2:b < a<;>simp [h1,h2]
theorem cmpS_end {a b:List Int} (ha:a.length < jA):bY a b (a.length:Int)=some (.inr (.inl ())):=by
 unfold bY
 rw [show decide ((a.length:Int) < (a.length:Int))=false from decide_eq_false (by omega)]
 rfl
theorem cmpS_one {a b:List Int} {k:Nat} (h:k < a.length) (h2:b.length<=k):bY a b (k:Int)=some (.inr (.inr 1)):=by
 unfold bY
 rw [show decide ((k:Int) < (a.length:Int))=true from decide_eq_true (by omega),if_pos rfl,show ix a (k:Int)=some a[k] by simp [ix,h],aA,show decide ((b.length:Int)<=(k:Int))=true from decide_eq_true (by omega),if_pos rfl]
theorem aLd {a b:List Int} {k:Nat} (h:k < a.length) (h2:k < b.length) (hb:b.length < jA):
  bY a b (k:Int)=some (if a[k] < b[k] then .inr (.inr (-1)) else if b[k] < a[k] then .inr (.inr 1) else .inl ((k+1:Nat):Int)):=by
 unfold jA at hb
 unfold bY
 rw [show decide ((k:Int) < (a.length:Int))=true from decide_eq_true (by omega),if_pos rfl,show ix a (k:Int)=some a[k] by simp [ix,h],aA,show decide ((b.length:Int)<=(k:Int))=false from decide_eq_false (by omega),if_neg (by simp),show ix b (k:Int)=some b[k] by simp [ix,h2],aA,cmpInt_eq,aA,show wr ((k:Int)+1)=((k+1:Nat):Int) by rw [dS]<;>omega]
 by_cases h1:a[k] < b[k]
 ·simp [h1]
 ·by_cases h3:b[k] < a[k]<;>simp [h1,h3]
theorem cmpJ_eq (a b:List Int):dN a b=some (if a.length < b.length then -1 else 0):=by
 unfold dN
 by_cases h:a.length < b.length
 ·rw [show decide ((a.length:Int) < (b.length:Int))=true from decide_eq_true (by omega)];simp [h]
 ·rw [show decide ((a.length:Int) < (b.length:Int))=false from decide_eq_false (by omega)];simp [h]
theorem aJm {a b:List Int} (ha:a.length < jA) (hb:b.length < jA):∀ (n k:Nat),k+n=a.length->k<=b.length->
  ∃ x,loop (fun s:Int=>bY a b s) (k:Int)=some x/\((x=.inl ()/\vO (a.drop k) (b.drop k)=if a.length < b.length then -1 else 0)\/x=.inr (vO (a.drop k) (b.drop k))):=by
 intro n
 induction n with
 |zero=>
  intro k hk hkb
  obtain rfl:k=a.length:=by omega
  refine ⟨.inl (),by rw [cI,cmpS_end ha],.inl ⟨rfl,?_⟩⟩
  rw [List.drop_eq_nil_of_le (Nat.le_refl _)]
  by_cases hlt:a.length < b.length
  ·rw [if_pos hlt,List.drop_eq_getElem_cons hlt];rfl
  ·rw [if_neg hlt,List.drop_eq_nil_of_le (by omega)];rfl
 |succ n ih=>
  intro k hk hkb
  have hka:k < a.length:=by omega
  by_cases hbk:b.length<=k
  ·refine ⟨.inr 1,by rw [cI,cmpS_one hka hbk],.inr ?_⟩
   rw [List.drop_eq_getElem_cons hka,List.drop_eq_nil_of_le hbk];rfl
  ·have hk2:k < b.length:=by omega
   have e1:=List.drop_eq_getElem_cons hka
   have e2:=List.drop_eq_getElem_cons hk2
   by_cases h1:a[k] < b[k]
   ·exact ⟨.inr (-1),by rw [cI,aLd hka hk2 hb,if_pos h1],.inr (by rw [e1,e2];simp [vO,h1])⟩
   ·by_cases h2:b[k] < a[k]
    ·exact ⟨.inr 1,by rw [cI,aLd hka hk2 hb,if_neg h1,if_pos h2],.inr (by rw [e1,e2];simp [vO,h1,h2])⟩
    ·obtain ⟨x,hx,h⟩:=ih (k+1) (by omega) (by omega)
     refine ⟨x,by rw [cI,aLd hka hk2 hb,if_neg h1,if_neg h2];exact hx,?_⟩
     have:vO (a.drop k) (b.drop k)=vO (a.drop (k+1)) (b.drop (k+1)):=by rw [e1,e2];simp [vO,h1,h2]
     rw [this];exact h
theorem aLe {a b:List Int} (ha:a.length < jA) (hb:b.length < jA):eP a b=some (vO a b):=by
 unfold eP
 obtain ⟨x,hx,h⟩:=aJm ha hb a.length 0 (by omega) (by omega)
 rw [show ((0:Nat):Int)=0 from rfl] at hx
 rw [hx,aA]
 simp only [List.drop_zero] at h
 rcases h with ⟨rfl,h⟩|rfl
 ·rw [h];exact cmpJ_eq a b
 ·rfl
section
variable {G:zZ} {K:Hp} {L:List jM} {w:World}
theorem idx_model {rows:List (List Int)} (hr:∀ r∈rows,r.length < jA) (i j:Fin rows.length):pX (i.val:Int) (j.val:Int) rows=some (vO rows[i] rows[j]):=by
 unfold pX
 have e:∀ k:Fin rows.length,ix rows (k.val:Int)=some rows[k]:=fun k=>by simp [ix]
 have hc:eP rows[i] rows[j]=some (vO rows[i] rows[j]):=aLe (hr _ (List.getElem_mem i.isLt)) (hr _ (List.getElem_mem j.isLt))
 rw [e i,aA,e j,aA,hc,aA]
theorem lib_SortIdx {E:TypeId} {xs:List Int} {a:Option Addr} {c:Nat} {rows:List (List Int)} {a1:Option Addr} {k2:Nat} {a4:Option Addr} {c5:Nat} {R:List Int} (hs:aF G K (aL E K a c xs::L) w) (hb:fV K a1 k2 [Value.slice a4 rows.length c5]) (hr:bG K a4 c5 rows) (hm:aCV xs rows=some R):
  Calls Tryz.prog 52 ([Value.slice a xs.length c,Value.func (.func 53) #[] #[cR a1 k2]]:List Value).toArray w (eZ fun v w'=>v=Value.tuple #[]/\xs.length=R.length/\aF G K (aL E K a c R::L) w'):=by
 unfold aCV at hm
 split at hm
 ·rename_i hcd
  obtain ⟨hlim,hpos,hnd,hrl,hin⟩:=hcd
  cases hm
  unfold jA at hlim
  have hlen:(qD (aKG rows) xs).length=xs.length:=List.length_mergeSort _
  rcases aGQ hs (i:=0) rfl with ⟨rfl,rfl⟩|⟨b,off,rfl,hbk,hcell⟩
  ·refine (Tryz.slices_SortFunc_none_f52 (α:=aI) none c _ w).mono ?_
   rintro e w' ⟨rfl,rfl⟩
   exact ⟨_,rfl,rfl,hlen.symm,by simpa [qD] using hs⟩
  ·haveI:Inhabited (Fin rows.length):=⟨⟨0,hpos⟩⟩
   obtain ⟨ys,hys⟩:∃ ys:List (Fin rows.length),ys.map (fun i=>(i.val:Int))=xs:=by
    clear hs hcell hlen hlim
    induction xs with
    |nil=>exact ⟨[],rfl⟩
    |cons x xs ih=>
     obtain ⟨ys,e⟩:=ih fun y hy=>hin y (List.mem_cons_of_mem _ hy)
     have:=hin x (by simp)
     exact ⟨⟨x.toNat,by omega⟩::ys,by rw [List.map_cons,e];congr 1;show ((x.toNat:Nat):Int)=x;omega⟩
   have hyl:ys.length=xs.length:=by rw [←hys,List.length_map]
   let enc:Fin rows.length->Value:=fun i=>i64 (i.val:Int)
   let cf:Fin rows.length->Fin rows.length->Int:=fun i j=>vO rows[i] rows[j]
   have hflat:∀ l:List (Fin rows.length),kE (l.map fun i=>(i.val:Int))=l.map enc:=fun l=>by
    induction l with
    |nil=>rfl
    |cons i l ih=>unfold kE at ih ⊢;simp only [List.map_cons,List.flatMap_cons,ih];rfl
   have hlay:∀ (m:Nat) (os:Array Obj) (dk:Array (Fin rows.length)),dk.size=xs.length->aF G K (aL E K (some ⟨b,off,none⟩) c (dk.toList.map fun i=>(i.val:Int))::L) (sortWorld enc w b off m dk os):=by
    intro m os dk hdk
    unfold sortWorld
    rw [aHH]
    refine aF.putRow (i:=0) hs rfl (by simp [hdk]) ?_
    rw [hflat];simp only [Array.toList_map]
   have hlt:∀ i j,ltOf cf i j=aDj rows[i] rows[j]:=fun i j=>rfl
   have htri:∀ i j:Fin rows.length,aDj rows[i] rows[j]=true\/i=j\/aDj rows[j] rows[i]=true:=fun i j=>by
    rcases rowLt_tri rows[i] rows[j] with h|h|h
    ·exact .inl h
    ·exact .inr (.inl (Fin.ext ((List.getElem_inj hnd).1 h)))
    ·exact .inr (.inr h)
   have hsz:ys.toArray.size=xs.length:=by simp [hyl]
   have key:=fun h1 h2=>Tryz.slices_SortFunc_total_f52 (α:=Fin rows.length) enc (fun _=>rfl) cf (swo_of (lt:=fun i j=>aDj rows[i] rows[j]) hlt (fun i=>rowLt_irr _) (fun h1 h2=>rowLt_tr h1 h2) htri) 53 #[cR a1 k2] b off c ys.toArray w (enters_of Tryz.func53 (by kernel_rfl) rfl) h1 h2 hbk (by rw [hsz];omega) (aLa (lt:=fun i j=>aDj rows[i] rows[j]) hlt htri)
   rw [hsz] at key
   refine (key ?_ ?_).mono ?_
   ·intro m os dk hdk x y
    have hst:=hlay m os dk (by simpa using hdk)
    have:=wB (idx_model hrl x y) (aF.start (sortWorld enc w b off m dk os) G.laid hst.globs) (hb.mono hst.know) (hr.mono hst.know)
    refine this.mono ?_
    rintro e w' ⟨v,rfl,rfl,hx⟩
    exact ⟨rfl,hx.exact⟩
   ·intro j hj
    have hj':j < ys.length:=by simpa [hyl] using hj
    have e0:kE xs=ys.map enc:=by rw [←hys];exact hflat ys
    have:=hcell j (enc ys[j]) (by rw [e0];simp [hj'])
    rw [getElem!_pos ys.toArray j (by simpa using hj')]
    simpa using this
   ·rintro e w' ⟨rfl,n,os,rfl⟩
    have hp:(ys.toArray.toList.mergeSort fun x y=>!ltOf cf y x).Perm ys:=List.mergeSort_perm _ _
    have hR:(ys.toArray.toList.mergeSort fun x y=>!ltOf cf y x).map (fun i=>(i.val:Int))=qD (aKG rows) xs:=by
     unfold qD
     rw [←hys]
     have:=List.map_mergeSort (r:=fun x y=>!ltOf cf y x) (s:=fun a b=>!aKG rows b a) (f:=fun i:Fin rows.length=>(i.val:Int)) (l:=ys) (fun a _ b _=>by
      have hg:∀ i:Fin rows.length,rows.getD ((i.val:Int)).toNat []=rows[i]:=fun i=>by
       rw [Int.toNat_natCast,List.getD_eq_getElem?_getD,List.getElem?_eq_getElem i.isLt];rfl
      show (!ltOf cf b a)=!aKG rows (b.val:Int) (a.val:Int)
      unfold aKG
      rw [hg,hg];rfl)
     exact this
    have hpl:(ys.toArray.toList.mergeSort fun x y=>!ltOf cf y x).length=xs.length:=by rw [hp.length_eq,hyl]
    refine ⟨_,rfl,rfl,hlen.symm,?_⟩
    have:=hlay n os (ys.toArray.toList.mergeSort fun x y=>!ltOf cf y x).toArray (by simpa using hpl)
    rw [←hR]
    simpa using this
 ·cases hm
end
end Gv
