/- Bound arguments; rows that are taken or put; maps that may be nil; ways out of loops over maps. No program in sight. -/
import Derived.Test.YtkgakibhmcbflaaGreatDoorJYR
import Derived.Test.YtkgakibhmcbflaaGreatDoorJLM
set_option linter.all false
namespace Gv
open Go
section
variable {P:Program} {n:Nat} {ops:Array Oper} {rest:List Oper} {Q:yD} {f:Nat→Value} {w:World}
variable {d:Nat} {x y z:Operand} {ty:TypeId} {pos:String} {af:Array Go.Edge}
variable {G:Env} {K:Hp} {L:List nG}
theorem aKx {fn:Fn} {bo xs:Array Operand} {bs vs:List Value} (hb:bo.toList.map (ev f)=bs) (hv:xs.toList.map (ev f)=vs):
  (execOp (ev f) ⟨some d,.makeFunc fn bo xs,ty,pos,af,none⟩).run P w=.ok (.value (.func fn bs.toArray vs.toArray)) w:=by
 have e:xs.map (ev f)=vs.toArray:=aEo hv
 have e2:bo.map (ev f)=bs.toArray:=aEo hb
 simp [execOp,Instr.makeFunc,e,e2]
theorem WO_callvB {k:FuncId} {fo:Operand} {xs:Array Operand} {ats:Array TypeId} {bs vs caps us:List Value} {Φ:Value→World→Prop} (hf:ev f fo=.func (.func k) bs.toArray caps.toArray) (hk:CE P k) (hv:xs.toList.map (ev f)=vs) (hu:bs++vs++caps=us)
  (hc:Calls P k us.toArray w (gQ Φ)) (h:∀ v w',Φ v w'→WO P n ops rest Q (upd f d v) w'):
  WO P n ops (⟨some d,.call ⟨.value fo,xs,ats⟩,ty,pos,af,none⟩::rest) Q f w:=by
 have e:xs.map (ev f)=vs.toArray:=aEo hv
 refine aGS rfl (w':=w) (k:=k) (args:=us.toArray) ?_ hc h
 have:=hk us.toArray w
 rw [←hu] at this ⊢
 simp [execOp,resolve,Deferred.ofValue,invoke,hf,e] at this ⊢
 exact this
theorem R_shrU {a b c:Int} {yk:IntKind} {T U:TypeId} (hx:ev f x=.int .u64 a) (hy:ev f y=.int yk b) (hc:shU a b=some c):
  (execOp (ev f) ⟨some d,.binOp .shr T x y U,ty,pos,af,none⟩).run P w=.ok (.value (.int .u64 c)) w:=by
 unfold shU at hc
 split at hc
 ·rename_i h
  have hn:¬ b < 0:=by omega
  cases hc
  simp [execOp,hx,hy,eqGuard,binOp,Op.shift,hn,IntKind.bits]
 ·cases hc
theorem R_andU {a b:Int} {T U:TypeId} (hx:ev f x=.int .u64 a) (hy:ev f y=.int .u64 b):
  (execOp (ev f) ⟨some d,.binOp .and T x y U,ty,pos,af,none⟩).run P w=.ok (.value (.int .u64 (anU a b))) w:=by
 have e:(BitVec.ofInt 64 a&&& BitVec.ofInt 64 b).toNat=(a % 18446744073709551616).toNat&&& (b % 18446744073709551616).toNat:=by
  rw [BitVec.toNat_and];simp [BitVec.toNat_ofInt]
 simp [execOp,hx,hy,eqGuard,binOp,Op.intBits,anU,aEN,IntKind.bits]
 exact congrArg (fun n:Nat=>qC (n:Int)) e
end
section
variable {P:Program} {n:Nat} {ops:Array Oper} {rest:List Oper} {Q:yD} {f:Nat→Value} {w:World}
variable {d:Nat} {x y z:Operand} {ty:TypeId} {pos:String} {af:Array Go.Edge}
variable {G:Env} {K:Hp} {L:List nG} {α:Type} [Dp α] {tys:List TypeId} {hds:List (Dp.Hd α)} {xs zz:List α}
theorem aI.rowHole {i:Nat} {j:Int} {hd':Dp.Hd α} {x':α} (s:aI G K (Dp.pcs tys hd' x'++L) w) (hl:hds.length=xs.length) (hz:Gv.st xs j x'=some zz) (hi:L[i]?=some (rows tys (hds.eraseIdx j.toNat) (xs.eraseIdx j.toNat))):
  aI G K (rows tys (hds.set j.toNat hd') zz::L.eraseIdx i) w:=by
 obtain ⟨h0,h1,rfl⟩:=aDw hz
 have s1:aI G K (rows tys (hds.eraseIdx j.toNat) (xs.eraseIdx j.toNat)::(Dp.pcs tys hd' x'++L.eraseIdx i)) w:=by
  have hi':(Dp.pcs tys hd' x'++L)[(Dp.pcs tys hd' x').length+i]?=some (rows tys (hds.eraseIdx j.toNat) (xs.eraseIdx j.toNat)):=by
   rw [List.getElem?_append_right (by omega),Nat.add_sub_cancel_left];exact hi
  have:=aI.pull s hi'
  rwa [List.eraseIdx_append_of_length_le (by omega),Nat.add_sub_cancel_left] at this
 obtain ⟨e,g,gd,gl,d,k,l,r⟩:=s1
 have r3:gI (Dp.pcs tys hd' x'++rows tys (hds.eraseIdx j.toNat) (xs.eraseIdx j.toNat)::L.eraseIdx i) g:=by
  have:gI ([rows tys (hds.eraseIdx j.toNat) (xs.eraseIdx j.toNat)]++(Dp.pcs tys hd' x'++L.eraseIdx i)) g:=r
  exact this.swap
 exact aI.rowIn (hd:=hd') (x:=x') ⟨e,g,gd,gl,d,k,l,r3⟩ hl h1
theorem aJz {T E:TypeId} {a:Option Addr} {i cap kk:Nat} {j:Int} {hd hd':Dp.Hd α} {e e':α} {v:Value} {Ke:Hp} (hT:∀ w,(Go.sizeOf T).run P w=.ok (Dp.sz1 α+1) w) (hs:aI G K (Dp.pcs tys hd' e'++L) w) (hl:hds.length=xs.length)
  (hi:L[i]?=some (aR E Ke a cap (bU hds xs))) (hi2:L[i+1]?=some (rows tys (hds.eraseIdx j.toNat) (xs.eraseIdx j.toNat))) (hx:ev f x=cP a kk) (hkk:kk=j.toNat * (Dp.sz1 α+1)+0) (hy:ev f y=v) (hj:ix xs j=some e) (hh:hds[j.toNat]?=some hd) (hst:Gv.st xs j e'=some zz)
  (hn:v.cells=(Dp.enc hd' e').toArray)
  (h:∀ w',aI G K (aR E K a cap (bU (hds.set j.toNat hd') zz)::rows tys (hds.set j.toNat hd') zz::(L.eraseIdx (i+1)).eraseIdx i) w'→WO P n ops rest Q f w'):
  WO P n ops (⟨none,.store T x y,ty,pos,af,none⟩::rest) Q f w:=by
 have hi':(Dp.pcs tys hd' e'++L)[(Dp.pcs tys hd' e').length+i]?=some (aR E K a cap (bU hds xs)):=by
  rw [List.getElem?_append_right (by omega),Nat.add_sub_cancel_left];exact hi
 refine sM (i:=(Dp.pcs tys hd' e').length+i) (t:=0) (Ke:=K) hT hs hi' (Hp.le_refl _) hx hkk hy (pA hl hj hh) (aKm (hd:=hd') hl hst) hn (Dp.len _ _) (Dp.one _ _) (by simp [El.sz,gJ.sz]) (fun cs hc=>?_) (fun w' hs'=>h w' ?_)
 ·cases hc
  have e1:(Dp.enc hd e).length=Dp.sz1 α+1:=Dp.len _ _
  show _=Dp.enc hd' e'
  simp only [aBA,gJ.enc,Nat.zero_add]
  rw [List.drop_of_length_le (by omega)]
  simp
 ·have hil:i < L.length:=(List.getElem?_eq_some_iff.1 hi).1
  rw [List.set_append_right _ _ (by omega),Nat.add_sub_cancel_left] at hs'
  have h1:=aI.rowHole (i:=i+1) hs' hl hst (by rw [List.getElem?_set_ne (by omega)];exact hi2)
  have h2:=aI.pull (i:=i+1) (A:=aR E K a cap (bU (hds.set j.toNat hd') zz)) h1 (by simp [tN,hil])
  simp only [List.eraseIdx_cons_succ] at h2
  rw [List.eraseIdx_set_gt (by omega),List.eraseIdx_set_eq] at h2
  exact h2
end
section
variable {G:Env} {K:Hp} {L:List nG} {w:World} {β:Type} [gJ β] {tys:List TypeId} {hds:List (Dp.Hd (List β))} {xs:List (List β)}
theorem aI.eatR {E:TypeId} {Ke:Hp} {a ra:Option Addr} {i cap rc g g2:Nat} {j:Int} {r:List β} (hs:aI G K L w) (hi:L[i]?=some (aR E Ke a cap (bU hds xs))) (hi2:L[i+1]?=some (rows tys (hds.drop g) (xs.drop g))) (_hl:hds.length=xs.length) (hh:hds[j.toNat]?=some (ra,rc)) (hj:ix xs j=some r) (hg:tkN g j=some g2):
  aI G K (aR (tys.headD 0) Hp.nil ra rc r::aR E Ke a cap (bU hds xs)::rows tys (hds.drop g2) (xs.drop g2)::(L.eraseIdx (i+1)).eraseIdx i) w:=by
 unfold tkN at hg
 split at hg
 ·rename_i hle
  cases hg
  have hh':(hds.drop g)[j.toNat - g]?=some (ra,rc):=by rw [List.getElem?_drop,show g+(j.toNat - g)=j.toNat by omega];exact hh
  have hx':(xs.drop g)[j.toNat - g]?=some r:=by rw [List.getElem?_drop,show g+(j.toNat - g)=j.toNat by omega];exact ix_at hj
  have s1:aI G K (aR (tys.headD 0) Hp.nil ra rc r::rows tys ((hds.drop g).eraseIdx (j.toNat - g)) ((xs.drop g).eraseIdx (j.toNat - g))::L.eraseIdx (i+1)) w:=aI.rowOut hs hi2 hh' hx'
  have hd:∀ {γ:Type} (l:List γ),((l.drop g).eraseIdx (j.toNat - g))=((l.drop g).take (j.toNat - g))++l.drop (j.toNat+1):=fun l=>by
   rw [List.eraseIdx_eq_take_drop_succ,List.drop_drop,show g+(j.toNat - g+1)=j.toNat+1 by omega]
  have s2:aI G K (aR (tys.headD 0) Hp.nil ra rc r::rows tys (hds.drop (j.toNat+1)) (xs.drop (j.toNat+1))::L.eraseIdx (i+1)) w:=by
   refine s1.weak (i:=1) rfl (fun h a=>?_)
   have hlen:((hds.drop g).take (j.toNat - g)).length=((xs.drop g).take (j.toNat - g)).length:=by
    simp [_hl]
   have e:(iE tys ((hds.drop g).eraseIdx (j.toNat - g)) ((xs.drop g).eraseIdx (j.toNat - g))).flatten=(iE tys ((hds.drop g).take (j.toNat - g)) ((xs.drop g).take (j.toNat - g))).flatten++(iE tys (hds.drop (j.toNat+1)) (xs.drop (j.toNat+1))).flatten:=by
    rw [hd,hd];unfold iE
    rw [List.zipWith_append hlen,List.flatten_append]
   have a':gI ((iE tys ((hds.drop g).take (j.toNat - g)) ((xs.drop g).take (j.toNat - g))).flatten++(iE tys (hds.drop (j.toNat+1)) (xs.drop (j.toNat+1))).flatten) h:=by rw [←e];exact a
   have:=a'.drp ((iE tys ((hds.drop g).take (j.toNat - g)) ((xs.drop g).take (j.toNat - g))).flatten.length)
   rw [aGG,List.drop_left] at this
   exact this
  have s3:=aI.pull (i:=i+2) (A:=aR E Ke a cap (bU hds xs)) s2 (by simpa [tN] using hi)
  have s4:=aI.pull (i:=1) (A:=aR (tys.headD 0) Hp.nil ra rc r) s3 rfl
  simpa using s4
 ·cases hg
end
section
variable {P:Program} {n:Nat} {ops:Array Oper} {rest:List Oper} {Q:yD} {f:Nat→Value} {w:World}
variable {d:Nat} {x y z:Operand} {ty:TypeId} {pos:String} {af:Array Go.Edge}
variable {G:Env} {K:Hp} {L:List nG} {α:Type} [Dp α] {tys:List TypeId} {hds:List (Dp.Hd α)} {xs r:List α}
end
section
variable {α:Type} [El α] {G:Env} {K:Hp} {L:List nG} {w:World}
end
section
variable {κ ν:Type} [DecidableEq κ] [Vl κ] [Vl ν] {G:Env} {K:Hp} {L:List nG} {w:World}
def mpc (ok:Bool) (r:Nat) (kv:List (κ × ν)):nG:=fun h=>ok=true→sC r kv h
theorem aI.mpcN {r:Nat} {kv:List (κ × ν)} (s:aI G K L w):aI G K (mpc false r kv::L) w:=
 s.new (dN.refl w) (h1:=Hp.nil) (fun h=>by cases h) (Hp.nil_le _) (Hp.nil_dj _)
theorem aI.mpcT {i r:Nat} {kv:List (κ × ν)} (s:aI G K L w) (e:L[i]?=some (sC r kv)):aI G K (L.set i (mpc true r kv)) w:=s.weak e fun _ a _=>a
theorem aI.mpcE {i r:Nat} {ok:Bool} {kv:List (κ × ν)} (s:aI G K L w) (e:L[i]?=some (mpc ok r kv)) (h:ok=true):aI G K (L.set i (sC r kv)) w:=s.weak e fun _ a=>a h
end
section
variable {κ:Type}
theorem aKy {t:κ→Option Bool}:∀ {l ks:List κ},aEK t l=some ks→ks.length≤l.length∧(ks.length=l.length↔∀ k∈l,t k=some true):=by
 intro l
 induction l with
 |nil=>intro ks h;cases h;simp
 |cons k l ih=>
  intro ks h
  unfold aEK at h
  obtain ⟨b,hb,h⟩:=aC h
  obtain ⟨r,hr,h⟩:=aC h
  obtain ⟨i1,i2⟩:=ih hr
  cases h
  cases b with
  |true=>simp [hb,i2,i1]
  |false=>
   simp only [Bool.false_eq_true,if_false,List.length_cons]
   refine ⟨by omega,⟨fun e=>by omega,fun e=>?_⟩⟩
   have:=e k List.mem_cons_self
   rw [hb] at this;cases this
theorem mall_t {ρ:Type} {t:κ→Option Bool} {l ks seen:List κ} {A B R:Option ρ} (hks:aEK t l=some ks) (p:(seen++[]).Perm l) (hs:∀ j∈seen,t j=some true)
  (hm:(if (decide (ks.length=l.length))=true then A else B)=R):A=R:=by
 have:ks.length=l.length:=(aKy hks).2.2 fun k hk=>hs k (by have:=p.mem_iff.2 hk;simpa using this)
 rw [if_pos (by simp [this])] at hm
 exact hm
theorem mall_f {ρ:Type} {t:κ→Option Bool} {l ks seen rem rem':List κ} {k:κ} {A B R:Option ρ} (hks:aEK t l=some ks) (p:(seen++rem).Perm l) (q:(k::rem').Perm rem) (hb:t k=some false)
  (hm:(if (decide (ks.length=l.length))=true then A else B)=R):B=R:=by
 have:¬ ks.length=l.length:=fun e=>by
  have:=(aKy hks).2.1 e k (p.mem_iff.1 (List.mem_append_right _ (q.mem_iff.1 List.mem_cons_self)))
  rw [hb] at this;cases this
 rw [if_neg (by simp [this])] at hm
 exact hm
theorem all_next {t:κ→Option Bool} {seen:List κ} {k:κ} (h:∀ j∈seen,t j=some true) (hb:t k=some true):∀ j∈seen++[k],t j=some true:=by
 intro j hj
 rcases List.mem_append.1 hj with hj|hj
 ·exact h j hj
 ·simp at hj;subst hj;exact hb
theorem mapp_at {β:Type} {f:κ→β} {l seen rem rem':List κ} {k:κ} {acc acc0:List β} (h:mapp f l=some acc0) (p:(seen++rem).Perm l) (q:(k::rem').Perm rem) (ha:acc=List.map f seen):
  ob (sI acc [f k]) (fun xs=>some xs)=some (List.map f (seen++[k])):=by
 subst ha
 unfold mapp at h
 split at h
 ·rename_i hl
  have h1:=p.length_eq
  have h2:=q.length_eq
  simp at h1 h2
  unfold sI
  rw [if_pos (by simp;omega)]
  simp
 ·cases h
theorem mapp_perm {β:Type} {f:κ→β} {l seen:List κ} {acc acc0:List β} (h:mapp f l=some acc0) (p:(seen++[]).Perm l) (ha:acc=List.map f seen):acc.Perm acc0:=by
 subst ha
 unfold mapp at h
 split at h
 ·cases h
  rw [List.append_nil] at p
  exact p.map f
 ·cases h
end
theorem cmpR_lt:∀ a b:List Int,mE a b < 0↔a < b
 |[],[]=>by simp [mE]
 |[],_::_=>by simp [mE]
 |_::_,[]=>by simp [mE]
 |a::l,b::m=>by
  unfold mE
  rw [List.cons_lt_cons_iff,←cmpR_lt l m]
  by_cases h1:a < b
  ·simp [h1]
  ·by_cases h2:b < a
   ·rw [if_neg h1,if_pos h2]
    simp only [h1,false_or]
    omega
   ·rw [if_neg h1,if_neg h2]
    have:a=b:=by omega
    simp [this]
theorem aDB {a b:List Int}:lH a b=true↔a < b:=by
 unfold lH
 rw [decide_eq_true_iff,cmpR_lt]
theorem aIh {xs ys:List (List Int)} (p:xs.Perm ys):vX xs=vX ys:=by
 unfold vX
 have h1:(xs.length < iX∧xs.Nodup∧∀ x∈xs,x.length < iX)↔(ys.length < iX∧ys.Nodup∧∀ x∈ys,x.length < iX):=by
  rw [p.length_eq,p.nodup_iff]
  simp only [p.mem_iff]
 by_cases h:xs.length < iX∧xs.Nodup∧∀ x∈xs,x.length < iX
 ·rw [if_pos h,if_pos (h1.1 h)]
  congr 1
  unfold rO
  have tot:∀ a b:List Int,(!lH b a||!lH a b)=true:=fun a b=>by
   cases h1:lH b a with
   |false=>simp
   |true=>
    cases h2:lH a b with
    |false=>simp
    |true=>exact absurd (aDB.1 h1) (List.lt_asymm (aDB.1 h2))
  have trn:∀ a b c:List Int,(!lH b a)=true→(!lH c b)=true→(!lH c a)=true:=fun a b c h1 h2=>by
   simp only [Bool.not_eq_true',←Bool.not_eq_true,aDB] at h1 h2 ⊢
   exact List.not_lt.2 (List.le_trans (List.not_lt.1 h1) (List.not_lt.1 h2))
  refine List.Perm.eq_of_pairwise (le:=fun a b=>(!lH b a)=true) (fun a b _ _ h1 h2=>?_) (List.pairwise_mergeSort trn tot _) (List.pairwise_mergeSort trn tot _) ((List.mergeSort_perm _ _).trans (p.trans (List.mergeSort_perm _ _).symm))
  simp only [Bool.not_eq_true',←Bool.not_eq_true,aDB] at h1 h2
  exact List.le_antisymm (List.not_lt.1 h1) (List.not_lt.1 h2)
 ·rw [if_neg h,if_neg (fun h'=>h (h1.2 h'))]
end Gv
