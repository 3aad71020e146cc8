/- Bound arguments; rows that are taken or put; maps that may be nil; ways out of loops over maps. No program in sight. -/
import Derived.Test.YtffnhnhfedmjcaaGreatDoorJYR
import Derived.Test.YtffnhnhfedmjcaaGreatDoorJLM
set_option linter.all false
namespace Gv
open Go
section
variable {P:Program} {n:Nat} {ops:Array Oper} {rest:List Oper} {Q:sV} {f:Nat->Value} {w:World}
variable {d:Nat} {x y z:Operand} {ty:TypeId} {pos:String} {af:Array Go.Edge}
variable {G:yU} {K:Hp} {L:List jN}
theorem aKk {fn:Fn} {bo xs:Array Operand} {bs vs:List Value} (hb:bo.toList.map (ev f)=bs) (hv:xs.toList.map (ev f)=vs):
  (execOp (ev f) ⟨some d,.makeFunc fn bo xs,ty,pos,af,none⟩).run P w=.ok (.value (.func fn bs.toArray vs.toArray)) w:=by
 have e:xs.map (ev f)=vs.toArray:=aGK hv
 have e2:bo.map (ev f)=bs.toArray:=aGK hb
 simp [execOp,Instr.makeFunc,e,e2]
theorem aNh {k:FuncId} {fo:Operand} {xs:Array Operand} {ats:Array TypeId} {bs vs caps us:List Value} {Φ:Value->World->Prop} (hf:ev f fo=.func (.func k) bs.toArray caps.toArray) (hk:CE P k) (hv:xs.toList.map (ev f)=vs) (hu:bs++vs++caps=us)
  (hc:Calls P k us.toArray w (eQ Φ)) (h:∀ v w',Φ v w'->WO P n ops rest Q (upd f d v) w'):
  WO P n ops (⟨some d,.call ⟨.value fo,xs,ats⟩,ty,pos,af,none⟩::rest) Q f w:=by
 have e:xs.map (ev f)=vs.toArray:=aGK hv
 refine aIN rfl (w':=w) (k:=k) (args:=us.toArray) ?_ hc h
 have:=hk us.toArray w
 rw [←hu] at this ⊢
 simp [execOp,resolve,Deferred.ofValue,invoke,hf,e] at this ⊢
 exact this
theorem R_shrU {a b c:Int} {yk:IntKind} {T U:TypeId} (hx:ev f x=.int .u64 a) (hy:ev f y=.int yk b) (hc:shU a b=some c):
  (execOp (ev f) ⟨some d,.binOp .shr T x y U,ty,pos,af,none⟩).run P w=.ok (.value (.int .u64 c)) w:=by
 unfold shU at hc
 split at hc
 ·rename_i h
  have hn:¬ b < 0:=by omega
  cases hc
  simp [execOp,hx,hy,eqGuard,binOp,Op.shift,hn,IntKind.bits]
 ·cases hc
theorem R_andU {a b:Int} {T U:TypeId} (hx:ev f x=.int .u64 a) (hy:ev f y=.int .u64 b):
  (execOp (ev f) ⟨some d,.binOp .and T x y U,ty,pos,af,none⟩).run P w=.ok (.value (.int .u64 (anU a b))) w:=by
 have e:(BitVec.ofInt 64 a&&& BitVec.ofInt 64 b).toNat=(a % 18446744073709551616).toNat&&& (b % 18446744073709551616).toNat:=by
  rw [BitVec.toNat_and];simp [BitVec.toNat_ofInt]
 simp [execOp,hx,hy,eqGuard,binOp,Op.intBits,anU,aIT,IntKind.bits]
 exact congrArg (fun n:Nat=>mK (n:Int)) e
end
section
variable {P:Program} {n:Nat} {ops:Array Oper} {rest:List Oper} {Q:sV} {f:Nat->Value} {w:World}
variable {d:Nat} {x y z:Operand} {ty:TypeId} {pos:String} {af:Array Go.Edge}
variable {G:yU} {K:Hp} {L:List jN} {α:Type} [Dp α] {tys:List TypeId} {hds:List (Dp.Hd α)} {xs zz:List α}
theorem aD.rowHole {i:Nat} {j:Int} {hd':Dp.Hd α} {x':α} (s:aD G K (Dp.pcs tys hd' x'++L) w) (hl:hds.length=xs.length) (hz:Gv.st xs j x'=some zz) (hi:L[i]?=some (rows tys (hds.eraseIdx j.toNat) (xs.eraseIdx j.toNat))):
  aD G K (rows tys (hds.set j.toNat hd') zz::L.eraseIdx i) w:=by
 obtain ⟨h0,h1,rfl⟩:=aHv hz
 have s1:aD G K (rows tys (hds.eraseIdx j.toNat) (xs.eraseIdx j.toNat)::(Dp.pcs tys hd' x'++L.eraseIdx i)) w:=by
  have hi':(Dp.pcs tys hd' x'++L)[(Dp.pcs tys hd' x').length+i]?=some (rows tys (hds.eraseIdx j.toNat) (xs.eraseIdx j.toNat)):=by
   rw [List.getElem?_append_right (by omega),Nat.add_sub_cancel_left];exact hi
  have:=aD.pull s hi'
  rwa [List.eraseIdx_append_of_length_le (by omega),Nat.add_sub_cancel_left] at this
 obtain ⟨e,g,gd,gl,d,k,l,r⟩:=s1
 have r3:iF (Dp.pcs tys hd' x'++rows tys (hds.eraseIdx j.toNat) (xs.eraseIdx j.toNat)::L.eraseIdx i) g:=by
  have:iF ([rows tys (hds.eraseIdx j.toNat) (xs.eraseIdx j.toNat)]++(Dp.pcs tys hd' x'++L.eraseIdx i)) g:=r
  exact this.swap
 exact aD.rowIn (hd:=hd') (x:=x') ⟨e,g,gd,gl,d,k,l,r3⟩ hl h1
theorem aNV {T E:TypeId} {a:Option Addr} {i cap kk:Nat} {j:Int} {hd hd':Dp.Hd α} {e e':α} {v:Value} {Ke:Hp} (hT:∀ w,(Go.sizeOf T).run P w=.ok (Dp.sz1 α+1) w) (hs:aD G K (Dp.pcs tys hd' e'++L) w) (hl:hds.length=xs.length)
  (hi:L[i]?=some (aG E Ke a cap (aT hds xs))) (hi2:L[i+1]?=some (rows tys (hds.eraseIdx j.toNat) (xs.eraseIdx j.toNat))) (hx:ev f x=cX a kk) (hkk:kk=j.toNat * (Dp.sz1 α+1)+0) (hy:ev f y=v) (hj:ix xs j=some e) (hh:hds[j.toNat]?=some hd) (hst:Gv.st xs j e'=some zz)
  (hn:v.cells=(Dp.enc hd' e').toArray)
  (h:∀ w',aD G K (aG E K a cap (aT (hds.set j.toNat hd') zz)::rows tys (hds.set j.toNat hd') zz::(L.eraseIdx (i+1)).eraseIdx i) w'->WO P n ops rest Q f w'):
  WO P n ops (⟨none,.store T x y,ty,pos,af,none⟩::rest) Q f w:=by
 have hi':(Dp.pcs tys hd' e'++L)[(Dp.pcs tys hd' e').length+i]?=some (aG E K a cap (aT hds xs)):=by
  rw [List.getElem?_append_right (by omega),Nat.add_sub_cancel_left];exact hi
 refine pO (i:=(Dp.pcs tys hd' e').length+i) (t:=0) (Ke:=K) hT hs hi' (Hp.le_refl _) hx hkk hy (lT hl hj hh) (aPv (hd:=hd') hl hst) hn (Dp.len _ _) (Dp.one _ _) (by simp [El.sz,fF.sz]) (fun cs hc=>?_) (fun w' hs'=>h w' ?_)
 ·cases hc
  have e1:(Dp.enc hd e).length=Dp.sz1 α+1:=Dp.len _ _
  show _=Dp.enc hd' e'
  simp only [aGu,fF.enc,Nat.zero_add]
  rw [List.drop_of_length_le (by omega)]
  simp
 ·have hil:i < L.length:=(List.getElem?_eq_some_iff.1 hi).1
  rw [List.set_append_right _ _ (by omega),Nat.add_sub_cancel_left] at hs'
  have h1:=aD.rowHole (i:=i+1) hs' hl hst (by rw [List.getElem?_set_ne (by omega)];exact hi2)
  have h2:=aD.pull (i:=i+1) (A:=aG E K a cap (aT (hds.set j.toNat hd') zz)) h1 (by simp [yW,hil])
  simp only [List.eraseIdx_cons_succ] at h2
  rw [List.eraseIdx_set_gt (by omega),List.eraseIdx_set_eq] at h2
  exact h2
end
section
variable {G:yU} {K:Hp} {L:List jN} {w:World} {β:Type} [fF β] {tys:List TypeId} {hds:List (Dp.Hd (List β))} {xs:List (List β)}
theorem aD.eatR {E:TypeId} {Ke:Hp} {a ra:Option Addr} {i cap rc g g2:Nat} {j:Int} {r:List β} (hs:aD G K L w) (hi:L[i]?=some (aG E Ke a cap (aT hds xs))) (hi2:L[i+1]?=some (rows tys (hds.drop g) (xs.drop g))) (_hl:hds.length=xs.length) (hh:hds[j.toNat]?=some (ra,rc)) (hj:ix xs j=some r) (hg:tkN g j=some g2):
  aD G K (aG (tys.headD 0) Hp.nil ra rc r::aG E Ke a cap (aT hds xs)::rows tys (hds.drop g2) (xs.drop g2)::(L.eraseIdx (i+1)).eraseIdx i) w:=by
 unfold tkN at hg
 split at hg
 ·rename_i hle
  cases hg
  have hh':(hds.drop g)[j.toNat - g]?=some (ra,rc):=by rw [List.getElem?_drop,show g+(j.toNat - g)=j.toNat by omega];exact hh
  have hx':(xs.drop g)[j.toNat - g]?=some r:=by rw [List.getElem?_drop,show g+(j.toNat - g)=j.toNat by omega];exact aIX hj
  have s1:aD G K (aG (tys.headD 0) Hp.nil ra rc r::rows tys ((hds.drop g).eraseIdx (j.toNat - g)) ((xs.drop g).eraseIdx (j.toNat - g))::L.eraseIdx (i+1)) w:=aD.rowOut hs hi2 hh' hx'
  have hd:∀ {γ:Type} (l:List γ),((l.drop g).eraseIdx (j.toNat - g))=((l.drop g).take (j.toNat - g))++l.drop (j.toNat+1):=fun l=>by
   rw [List.eraseIdx_eq_take_drop_succ,List.drop_drop,show g+(j.toNat - g+1)=j.toNat+1 by omega]
  have s2:aD G K (aG (tys.headD 0) Hp.nil ra rc r::rows tys (hds.drop (j.toNat+1)) (xs.drop (j.toNat+1))::L.eraseIdx (i+1)) w:=by
   refine s1.weak (i:=1) rfl (fun h a=>?_)
   have hlen:((hds.drop g).take (j.toNat - g)).length=((xs.drop g).take (j.toNat - g)).length:=by
    simp [_hl]
   have e:(jC tys ((hds.drop g).eraseIdx (j.toNat - g)) ((xs.drop g).eraseIdx (j.toNat - g))).flatten=(jC tys ((hds.drop g).take (j.toNat - g)) ((xs.drop g).take (j.toNat - g))).flatten++(jC tys (hds.drop (j.toNat+1)) (xs.drop (j.toNat+1))).flatten:=by
    rw [hd,hd];unfold jC
    rw [List.zipWith_append hlen,List.flatten_append]
   have a':iF ((jC tys ((hds.drop g).take (j.toNat - g)) ((xs.drop g).take (j.toNat - g))).flatten++(jC tys (hds.drop (j.toNat+1)) (xs.drop (j.toNat+1))).flatten) h:=by rw [←e];exact a
   have:=a'.drp ((jC tys ((hds.drop g).take (j.toNat - g)) ((xs.drop g).take (j.toNat - g))).flatten.length)
   rw [aKL,List.drop_left] at this
   exact this
  have s3:=aD.pull (i:=i+2) (A:=aG E Ke a cap (aT hds xs)) s2 (by simpa [yW] using hi)
  have s4:=aD.pull (i:=1) (A:=aG (tys.headD 0) Hp.nil ra rc r) s3 rfl
  simpa using s4
 ·cases hg
end
section
variable {P:Program} {n:Nat} {ops:Array Oper} {rest:List Oper} {Q:sV} {f:Nat->Value} {w:World}
variable {d:Nat} {x y z:Operand} {ty:TypeId} {pos:String} {af:Array Go.Edge}
variable {G:yU} {K:Hp} {L:List jN} {α:Type} [Dp α] {tys:List TypeId} {hds:List (Dp.Hd α)} {xs r:List α}
end
section
variable {α:Type} [El α] {G:yU} {K:Hp} {L:List jN} {w:World}
theorem aG.cutE {E:TypeId} {K:Hp} {a a':Option Addr} {cap c':Nat} {lo hi:Int} {xs r:List α} {g:Hp} (ho:aG E K a cap xs g) (hc:xT xs lo hi=some r) (hx:Cut (El.sz α) a cap lo a' c'):aG E K a' c' r g:=by
 obtain ⟨h0,h1,h2,rfl⟩:=aFn hc
 obtain ⟨rfl,rfl⟩:=hx
 obtain ⟨hcap,ho⟩:=ho
 have hlen:((xs.drop lo.toNat).take (hi.toNat - lo.toNat)).length=hi.toNat - lo.toNat:=by simp;omega
 refine ⟨by rw [hlen];omega,?_⟩
 rcases ho with ⟨rfl,rfl,rfl⟩|⟨ad,c,rs,rfl,sp,hb,hcs,hrl,hr,hel⟩
 ·left
  exact ⟨by simp,by simp,by simp⟩
 ·right
  by_cases he:cap=lo.toNat
  ·have hz:hi.toNat - lo.toNat=0:=by omega
   rw [if_pos he,hz]
   refine ⟨ad,c,[],rfl,sp,hb,?_,by simp,by simp,by simp⟩
   have:(cap - lo.toNat)=0:=by omega
   rw [this,Nat.zero_mul]
   have:=Nat.le_trans (Nat.le_add_right _ _) hcs
   omega
  ·rw [if_neg he]
   obtain ⟨b,o,s⟩:=ad
   simp only at sp hb hcs hr
   subst sp
   have hsz:lo.toNat * El.sz α+(hi.toNat - lo.toNat) * El.sz α<=xs.length * El.sz α:=by rw [←Nat.add_mul];exact Nat.mul_le_mul_right _ (by omega)
   refine ⟨⟨b,o+lo.toNat * El.sz α,none⟩,c,(rs.drop (lo.toNat * El.sz α)).take ((hi.toNat - lo.toNat) * El.sz α),by simp [pH],rfl,hb,?_,?_,fun t v ht=>?_,fun i d hd=>?_⟩
   ·have:(lo.toNat+(cap - lo.toNat)) * El.sz α=cap * El.sz α:=by congr 1;omega
    rw [Nat.add_mul] at this
    simp only;omega
   ·rw [hlen,List.length_take,List.length_drop,hrl];omega
   ·have hlt:t < (hi.toNat - lo.toNat) * El.sz α:=by
     have:=(List.getElem?_eq_some_iff.1 ht).1
     simp only [List.length_take] at this;omega
    rw [List.getElem?_take_of_lt hlt,List.getElem?_drop] at ht
    have:=hr _ _ ht
    rw [←this];congr 1;simp only;omega
   ·have hi':i < hi.toNat - lo.toNat:=by have:=(List.getElem?_eq_some_iff.1 hd).1;rw [hlen] at this;exact this
    rw [List.getElem?_take_of_lt hi',List.getElem?_drop] at hd
    have h4:=hel _ _ hd
    have h5:i * El.sz α+El.sz α<=(hi.toNat - lo.toNat) * El.sz α:=by rw [←Nat.succ_mul];exact Nat.mul_le_mul_right _ hi'
    rw [List.drop_take,List.take_take,List.drop_drop,Nat.min_eq_left (by omega),←Nat.add_mul]
    exact h4
theorem own_capE {E:TypeId} {Ke:Hp} {i:Nat} {a:Option Addr} {cap:Nat} {xs:List α} (hs:aD G K L w) (hi:L[i]?=some (aG E Ke a cap xs)):xs.length<=cap:=by
 obtain ⟨h1,hA,_⟩:=hs.entry hi
 exact hA.1
theorem aD.cutPE {E:TypeId} {Ke:Hp} {i:Nat} {a a':Option Addr} {cap c':Nat} {lo hi:Int} {xs r:List α} (hs:aD G K L w) (hi':L[i]?=some (aG E Ke a cap xs)) (hc:xT xs lo hi=some r) (hx:Cut (El.sz α) a cap lo a' c'):aD G K (L.set i (aG E Ke a' c' r)) w:=
 hs.weak hi' (fun _ h=>h.cutE hc hx)
end
section
variable {P:Program} {n:Nat} {ops:Array Oper} {rest:List Oper} {Q:sV} {f:Nat->Value} {w:World}
variable {d:Nat} {x y z:Operand} {ty:TypeId} {pos:String} {af:Array Go.Edge}
variable {β:Type} [fF β] {G:yU} {K:Hp} {L:List jN}
end
section
variable {κ ν:Type} [DecidableEq κ] [Vl κ] [Vl ν] {G:yU} {K:Hp} {L:List jN} {w:World}
end
section
variable {κ:Type}
end
end Gv
namespace Gv
open Go
section
variable {β:Type} [fF β] {G:yU} {K Ke:Hp} {L:List jN} {w:World}
theorem aD.ex {γ:Type} {i:Nat} {A:jN} {B:γ->jN} {p:γ->Prop} (s:aD G K L w) (hi:L[i]?=some A) (h:∀ h1,A h1->∃ x,p x/\B x h1):∃ x,p x/\aD G K (L.set i (B x)) w:=by
 obtain ⟨e,g,gd,gl,d,k,l,r⟩:=s
 obtain ⟨h1,h2,a,dj,l1,l2,r'⟩:=r.pick hi
 obtain ⟨x,px,bx⟩:=h h1 a
 have hlt:i < L.length:=(List.getElem?_eq_some_iff.1 hi).1
 exact ⟨x,px,e,g,gd,gl,d,k,l,(iF.put bx dj r' hlt).le (Hp.un_le l1 l2)⟩
def HdR (Ke:Hp) (hds:List (Option Addr × Nat)) (xs:List (List β)):Prop:=hds.length=xs.length/\∀ (j:Nat) (hd:Option Addr × Nat) (x:List β),hds[j]?=some hd->xs[j]?=some x->bE Ke hd.1 hd.2 x
theorem HdR.mono {K':Hp} {hds:List (Option Addr × Nat)} {xs:List (List β)} (h:HdR Ke hds xs) (hk:Ke.le K'):HdR K' hds xs:=⟨h.1,fun j hd x h1 h2=>(h.2 j hd x h1 h2).mono hk⟩
theorem HdR.set {hds:List (Option Addr × Nat)} {xs:List (List β)} (h:HdR Ke hds xs) {j:Nat} {hd:Option Addr × Nat} {x:List β} (hx:bE Ke hd.1 hd.2 x):HdR Ke (hds.set j hd) (xs.set j x):=by
 refine ⟨by rw [List.length_set,List.length_set];exact h.1,fun k d y h1 h2=>?_⟩
 rw [List.getElem?_set] at h1 h2
 by_cases e:j=k
 ·subst e
  rw [if_pos rfl] at h1 h2
  split at h1
  ·split at h2
   ·cases h1;cases h2;exact hx
   ·cases h2
  ·cases h1
 ·rw [if_neg e] at h1 h2
  exact h.2 k d y h1 h2
theorem HdR.ovw {hds:List (Option Addr × Nat)} {xs:List (List β)} (h:HdR Ke hds xs) {lo m:Nat} (hm:lo+m<=xs.length):HdR Ke (hds.take lo++List.replicate m (none,0)++hds.drop (lo+m)) (xs.take lo++List.replicate m []++xs.drop (lo+m)):=by
 have hl:=h.1
 refine ⟨by simp only [List.length_append,List.length_take,List.length_replicate,List.length_drop];omega,fun k d y h1 h2=>?_⟩
 by_cases k1:k < lo
 ·rw [List.append_assoc,List.getElem?_append_left (by rw [List.length_take];omega),List.getElem?_take_of_lt k1] at h1 h2
  exact h.2 k d y h1 h2
 ·by_cases k2:k < lo+m
  ·rw [List.append_assoc,List.getElem?_append_right (by rw [List.length_take];omega),List.getElem?_append_left (by rw [List.length_take,List.length_replicate];omega),List.getElem?_replicate_of_lt (by rw [List.length_take];omega)] at h1 h2
   cases h1;cases h2
   exact aDB _
  ·rw [List.getElem?_append_right (by simp only [List.length_append,List.length_take,List.length_replicate];omega),List.getElem?_drop] at h1 h2
   have e1:lo+m+(k - (hds.take lo++List.replicate m (none,0)).length)=k:=by simp only [List.length_append,List.length_take,List.length_replicate];omega
   have e2:lo+m+(k - (xs.take lo++List.replicate m []).length)=k:=by simp only [List.length_append,List.length_take,List.length_replicate];omega
   rw [e1] at h1
   rw [e2] at h2
   exact h.2 k d y h1 h2
variable {P:Program} {n:Nat} {ops:Array Oper} {rest:List Oper} {Q:sV} {f:Nat->Value}
variable {d:Nat} {x y z:Operand} {ty:TypeId} {pos:String} {af:Array Go.Edge}
end
end Gv
namespace Gv
open Go
section
variable {P:Program} {w:World}
end
end Gv
namespace Gv
open Go
section
variable {P:Program} {f:Nat->Value} {w:World} {d:Nat} {x y:Operand} {ty:TypeId} {pos:String} {af:Array Go.Edge} {Ts:Array TypeId}
theorem R_minS {a b:aH} (hx:ev f x=str a) (hy:ev f y=str b):
  (execOp (ev f) ⟨some d,.call ⟨.builtin .min,#[x,y],Ts⟩,ty,pos,af,none⟩).run P w=.ok (.value (str (mnS a b))) w:=by
 cases h:(wV a b||a == b)<;>simp [execOp,resolve,invoke,builtin,Builtin.min_,Builtin.min2,hx,hy,str,mnS,Op.stringOp,rY,sW,asBool,h]
theorem R_maxS {a b:aH} (hx:ev f x=str a) (hy:ev f y=str b):
  (execOp (ev f) ⟨some d,.call ⟨.builtin .max,#[x,y],Ts⟩,ty,pos,af,none⟩).run P w=.ok (.value (str (mxS a b))) w:=by
 cases h:wV a b<;>simp [execOp,resolve,invoke,builtin,Builtin.max_,Builtin.max2,hx,hy,str,mxS,Op.stringOp,rY,sW,asBool,h]
end
end Gv
namespace Gv
open Go
section
variable {α:Type} [Dp α] {tys:List TypeId} {hds:List (Dp.Hd α)} {xs zz:List α} {G:yU} {K:Hp} {L:List jN} {w:World}
theorem aD.rowsOneS {hd:Dp.Hd α} {x:α} (s:aD G K (Dp.pcs tys hd x++L) w):aD G K (rows tys [hd] [x]::L) w:=by
 obtain ⟨e,g,gd,gl,d,k,l,r⟩:=aD.rowsNil (α:=α) (tys:=tys) s
 have r2:iF (Dp.pcs tys hd x++rows tys ([]:List (Dp.Hd α)) ([]:List α)::L) g:=
  (show iF ([rows tys ([]:List (Dp.Hd α)) ([]:List α)]++(Dp.pcs tys hd x++L)) g from r).swap
 exact aD.rowPush (hds:=[]) (xs:=[]) ⟨e,g,gd,gl,d,k,l,r2⟩ rfl
end
section
variable {P:Program} {n:Nat} {ops:Array Oper} {rest:List Oper} {Q:sV} {f:Nat->Value} {w:World}
variable {x y:Operand} {ty:TypeId} {pos:String} {af:Array Go.Edge}
variable {G:yU} {K:Hp} {L:List jN}
variable {α:Type} [Dp α] {tys:List TypeId} {hds:List (Dp.Hd α)} {xs zz:List α}
end
end Gv
namespace Gv
open Go
section
variable {β:Type} [fF β]
variable {P:Program} {n:Nat} {ops:Array Oper} {rest:List Oper} {Q:sV} {f:Nat->Value} {w:World}
variable {d:Nat} {x y z u:Operand} {ty:TypeId} {pos:String} {af:Array Go.Edge}
variable {G:yU} {K:Hp} {L:List jN}
theorem WO_sl3 {T E:TypeId} {sz:Nat} {a:Option Addr} {len cap lo hi mx:Nat} (hT:SLT P T E sz) (hx:ev f x=.slice a len cap) (hl:ev f y=i64 (lo:Int)) (hh:ev f z=i64 (hi:Int)) (hm:ev f u=i64 (mx:Int)) (h1:lo<=hi) (h2:hi<=mx) (h3:mx<=cap)
  (h:∀ v,WO P n ops rest Q (upd f d v) w):WO P n ops (⟨some d,.slice T x (some y) (some z) (some u),ty,pos,af,none⟩::rest) Q f w:=by
 refine aF (v:=.slice (if mx=lo then a else a.map (·.add (lo * sz))) (hi - lo) (mx - lo)) ?_ (h _)
 simp [execOp,hx,hl,hh,hm,Instr.sliceAt,hT.un,Instr.slice,hT.size,Instr.sliceBounds,Instr.sliceBound,i64,asIntOf,h1,h2,h3]
theorem R_slNB {T E:TypeId} {sz:Nat} {a a':Option Addr} {len cap c' lo hi:Nat} (hT:SLT P T E sz) (hx':Cut sz a cap (lo:Int) a' c') (hx:ev f x=.slice a len cap) (hl:ev f y=i64 (lo:Int)) (hh:ev f z=i64 (hi:Int)) (h1:lo<=hi) (h2:hi<=cap):
  (execOp (ev f) ⟨some d,.slice T x (some y) (some z) none,ty,pos,af,none⟩).run P w=.ok (.value (.slice a' (hi - lo) c')) w:=by
 obtain ⟨rfl,rfl⟩:=hx'
 simp [execOp,hx,hl,hh,Instr.sliceAt,hT.un,Instr.slice,hT.size,Instr.sliceBounds,Instr.sliceBound,i64,asIntOf,h1,h2]
theorem R_slNL {T E:TypeId} {sz:Nat} {a a':Option Addr} {len cap c' lo:Nat} (hT:SLT P T E sz) (hx':Cut sz a cap (lo:Int) a' c') (hx:ev f x=.slice a len cap) (hl:ev f y=i64 (lo:Int)) (h1:lo<=len):
  (execOp (ev f) ⟨some d,.slice T x (some y) none none,ty,pos,af,none⟩).run P w=.ok (.value (.slice a' (len - lo) c')) w:=by
 obtain ⟨rfl,rfl⟩:=hx'
 simp [execOp,hx,hl,Instr.sliceAt,hT.un,Instr.slice,hT.size,Instr.sliceBounds,Instr.sliceBound,i64,asIntOf,h1]
theorem R_slNH {T E:TypeId} {sz:Nat} {a:Option Addr} {len cap hi:Nat} (hT:SLT P T E sz) (hx:ev f x=.slice a len cap) (hh:ev f z=i64 (hi:Int)) (h2:hi<=cap):
  (execOp (ev f) ⟨some d,.slice T x none (some z) none,ty,pos,af,none⟩).run P w=.ok (.value (.slice a hi cap)) w:=by
 have e:(if cap=0 then a else a.map (·.add (0 * sz)))=a:=by
  split
  ·rfl
  ·cases a with
   |none=>rfl
   |some ad=>simp [Addr.add]
 simp [execOp,hx,hh,Instr.sliceAt,hT.un,Instr.slice,hT.size,Instr.sliceBounds,Instr.sliceBound,i64,asIntOf,h2]
 simpa using e
theorem aPB {T E:TypeId} {sz i:Nat} {Ke:Hp} {a a2:Option Addr} {cap c2 l1 l2:Nat} {lo2 hi2:Int} {xs r2 zz:List β} (hT:SLT P T E sz) (hz:fF.sz β=sz)
  (hs:aD G K L w) (hi:L[i]?=some (aG E Ke a cap xs)) (hc2:xT xs lo2 hi2=some r2) (hx2:Cut sz a cap lo2 a2 c2) (hm:ovw xs (l1:Int) r2=some zz)
  (hx:ev f x=.slice a l1 cap) (hy:ev f y=.slice a2 l2 c2) (hl2:l2=r2.length)
  (h:∀ w',aD G K (L.set i (aG E Ke a cap zz)) w'->WO P n ops rest Q (upd f d (.slice a (l1+l2) cap)) w'):
  WO P n ops (⟨some d,.call ⟨.builtin .append,#[x,y],#[T,T]⟩,ty,pos,af,none⟩::rest) Q f w:=by
 subst hl2
 subst hz
 have hcap:=oU hs hi
 obtain ⟨h0,hfit,hzz⟩:=aGE hm
 rw [Int.toNat_natCast] at hfit hzz
 have hroom:l1+r2.length<=cap:=by omega
 have hfc:(Builtin.firstCells (fF.sz β) r2.length (.slice a2 r2.length c2)).run P w=.ok (kZ r2).toArray w:=by
  have:=aIr (P:=P) (m:=r2.length) rfl hs hi hc2 hx2
  rwa [show Nat.min r2.length r2.length=r2.length from Nat.min_self _,List.take_length] at this
 by_cases hne:r2=[]
 ·subst hne
  have e:zz=xs:=by rw [hzz];simp
  refine aAR rfl (w':=w) (v:=.slice a (l1+([]:List β).length) cap) ?_ (h w (by rw [e,aLr hi];exact hs))
  have hl:l1<=cap:=by omega
  cases a2<;>cases a<;>simp [execOp,resolve,invoke,builtin,hx,hy,Builtin.append_,hT.un,hT.size,Builtin.lenOf,Builtin.firstCells,loadCells,loadCellsFrom,hl,storeCells]
 ·have hpos:0 < r2.length:=List.length_pos_iff.2 hne
  obtain ⟨ad,w',ha,hr,hs'⟩:=storeV (P:=P) hs hi (show Cut (fF.sz β) a cap (l1:Int) _ _ from ⟨rfl,rfl⟩) hm hne
  rw [Int.toNat_natCast,if_neg (by omega)] at ha
  cases a with
  |none=>cases ha
  |some a0=>
   have ha:a0.add (l1 * fF.sz β)=ad:=by simpa using ha
   subst ha
   refine aAR rfl (w':=w') (v:=.slice (some a0) (l1+r2.length) cap) ?_ (h w' hs')
   simp [execOp,resolve,invoke,builtin,hx,hy,Builtin.append_,hT.un,hT.size,Builtin.lenOf,hroom,hfc,hr]
end
section
theorem iF.sub {L' L:List jN} {h:Hp} (s:L'.Sublist L) (a:iF L h):iF L' h:=by
 induction s generalizing h with
 |slnil=>exact a
 |cons x _ ih=>
  obtain ⟨_,h2,_,_,_,l2,r⟩:=a
  exact (ih r).le l2
 |cons_cons x _ ih=>
  obtain ⟨h1,h2,b,d,l1,l2,r⟩:=a
  exact ⟨h1,h2,b,d,l1,l2,ih r⟩
theorem flat_sub {γ:Type} {A B:List (List γ)} (s:A.Sublist B):A.flatten.Sublist B.flatten:=by
 induction s with
 |slnil=>exact .slnil
 |cons x _ ih=>exact ih.trans (by rw [List.flatten_cons];exact List.sublist_append_right _ _)
 |cons_cons x _ ih=>rw [List.flatten_cons,List.flatten_cons];exact List.Sublist.append (List.Sublist.refl _) ih
variable {α:Type} [Dp α] {tys:List TypeId} {hds:List (Dp.Hd α)} {xs:List α}
theorem aMK {γ:Type} {l:List γ} {i j:Nat} (h:i<=j):(l.take i++l.drop j).Sublist l:=by
 have h1:(l.drop j).Sublist (l.drop i):=by
  rw [show j=i+(j - i) by omega,←List.drop_drop]
  exact List.drop_sublist _ _
 have:=List.Sublist.append (List.Sublist.refl (l.take i)) h1
 rwa [List.take_append_drop] at this
theorem heads_del (i j:Nat):(aT hds xs).take i++(aT hds xs).drop j=aT (hds.take i++hds.drop j) (xs.take i++xs.drop j)\/hds.length≠xs.length:=by
 by_cases hl:hds.length=xs.length
 ·left
  unfold aT
  rw [List.zipWith_append (by rw [List.length_take,List.length_take,hl]),List.take_zipWith,List.drop_zipWith]
 ·exact .inr hl
theorem rows_del {i j:Nat} (hij:i<=j) (hl:hds.length=xs.length) (g:Hp) (h:rows tys hds xs g):rows tys (hds.take i++hds.drop j) (xs.take i++xs.drop j) g:=by
 unfold rows at *
 have e:jC tys (hds.take i++hds.drop j) (xs.take i++xs.drop j)=(jC tys hds xs).take i++(jC tys hds xs).drop j:=by
  unfold jC
  rw [List.zipWith_append (by rw [List.length_take,List.length_take,hl]),List.take_zipWith,List.drop_zipWith]
 rw [e]
 exact iF.sub (flat_sub (aMK hij)) h
end
end Gv
namespace Gv
open Go
structure Hd (q:Prop):Prop where
 k:q
theorem cK {p:Prop} (h:p:=by first|assumption|exact rfl):p:=h
theorem gE {p:Prop} (h:p:=by assumption):p:=h
theorem oQ {p:Prop} (h:p:=by first|assumption|exact Hp.le_trans (by assumption) (by assumption)|exact Hp.le_trans (by assumption) (Hp.le_trans (by assumption) (by assumption))):p:=h
theorem aIs {p:Prop} (h:p:=by with_reducible first|exact List.Mem.head _|exact List.Mem.tail _ (List.Mem.head _)|exact List.Mem.tail _ (List.Mem.tail _ (List.Mem.head _))|exact List.Mem.tail _ (List.Mem.tail _ (List.Mem.tail _ (List.Mem.head _)))|exact List.Mem.tail _ (List.Mem.tail _ (List.Mem.tail _ (List.Mem.tail _ (List.Mem.head _))))|exact List.Mem.tail _ (List.Mem.tail _ (List.Mem.tail _ (List.Mem.tail _ (List.Mem.tail _ (List.Mem.head _)))))|exact List.Mem.tail _ (List.Mem.tail _ (List.Mem.tail _ (List.Mem.tail _ (List.Mem.tail _ (List.Mem.tail _ (List.Mem.head _))))))|exact List.Mem.tail _ (List.Mem.tail _ (List.Mem.tail _ (List.Mem.tail _ (List.Mem.tail _ (List.Mem.tail _ (List.Mem.tail _ (List.Mem.head _)))))))|exact List.Mem.tail _ (List.Mem.tail _ (List.Mem.tail _ (List.Mem.tail _ (List.Mem.tail _ (List.Mem.tail _ (List.Mem.tail _ (List.Mem.tail _ (List.Mem.head _))))))))|exact List.Mem.tail _ (List.Mem.tail _ (List.Mem.tail _ (List.Mem.tail _ (List.Mem.tail _ (List.Mem.tail _ (List.Mem.tail _ (List.Mem.tail _ (List.Mem.tail _ (List.Mem.head _)))))))))):p:=h
theorem aFZ {γ:Type} {l:List γ} {a:γ} (h:a∈l):∃ i:Nat,l[i]?=some a:=by
 obtain ⟨i,hi,e⟩:=List.mem_iff_getElem.1 h
 exact ⟨i,by rw [List.getElem?_eq_getElem hi,e]⟩
section
variable {P:Program} {f:Nat->Value} {w:World} {d:Nat} {x y z:Operand} {ty:TypeId} {pos:String} {af:Array Go.Edge} {G:yU} {K:Hp} {L:List jN} {α:Type} {iα:El α}
structure EX (P:Program) (f:Nat->Value) (o:Op) (v:Value) (d:Nat) (ty:TypeId) (pos:String) (af:Array Go.Edge) (w:World):Prop where
 h:(execOp (ev f) ⟨some d,o,ty,pos,af,none⟩).run P w=.ok (.value v) w
theorem V_move {v:Value} (hx:ev f x=v):EX P f (.move x) v d ty pos af w:=⟨aY hx⟩
theorem V_assign {v:Value} (hx:ev f x=v):EX P f (.assign x) v d ty pos af w:=⟨dT hx⟩
theorem V_moveC {v:Value}:EX P f (.move (.const v)) v d ty pos af w:=⟨aY rfl⟩
theorem V_assignC {v:Value}:EX P f (.assign (.const v)) v d ty pos af w:=⟨dT rfl⟩
theorem V_moveF {k:FuncId}:EX P f (.move (.func k)) (.func (.func k) #[] #[]) d ty pos af w:=⟨aY rfl⟩
theorem V_assignF {k:FuncId}:EX P f (.assign (.func k)) (.func (.func k) #[] #[]) d ty pos af w:=⟨dT rfl⟩
theorem V_not {b:Bool} {T:TypeId} (hx:ev f x=.bool b):EX P f (.unOp .not T x) (.bool (!b)) d ty pos af w:=⟨aEd hx⟩
theorem V_nilP {ad:Addr} (hx:ev f x=.pointer (some ad)):EX P f (.nilCheck x) (.pointer (some ad)) d ty pos af w:=⟨pB hx⟩
theorem V_extract {vs:Array Value} {i:Nat} {v:Value} (hx:ev f x=.tuple vs) (hv:vs[i]?=some v):EX P f (.extract x i) v d ty pos af w:=⟨bM hx hv⟩
theorem V_lenS {T E:TypeId} {sz:Nat} {a:Option Addr} {len cap:Nat} (hT:SLT P T E sz) (hx:ev f x=.slice a len cap):EX P f (.call ⟨.builtin .len,#[x],#[T]⟩) (i64 len) d ty pos af w:=⟨bF hT hx⟩
theorem V_add {a b:Int} {T U:TypeId} (hx:ev f x=i64 a) (hy:ev f y=i64 b):EX P f (.binOp .add T x y U) (i64 (wr (a+b))) d ty pos af w:=⟨eP hx hy⟩
theorem V_sub {a b:Int} {T U:TypeId} (hx:ev f x=i64 a) (hy:ev f y=i64 b):EX P f (.binOp .sub T x y U) (i64 (wr (a - b))) d ty pos af w:=⟨vW hx hy⟩
theorem V_mul {a b:Int} {T U:TypeId} (hx:ev f x=i64 a) (hy:ev f y=i64 b):EX P f (.binOp .mul T x y U) (i64 (wr (a * b))) d ty pos af w:=⟨R_mul hx hy⟩
theorem V_lss {k:IntKind} {a b:Int} {T U:TypeId} (hx:ev f x=.int k a) (hy:ev f y=.int k b):EX P f (.binOp .lss T x y U) (.bool (decide (a < b))) d ty pos af w:=⟨dQ hx hy⟩
theorem V_leq {k:IntKind} {a b:Int} {T U:TypeId} (hx:ev f x=.int k a) (hy:ev f y=.int k b):EX P f (.binOp .leq T x y U) (.bool (decide (a<=b))) d ty pos af w:=⟨R_leq hx hy⟩
theorem V_gtr {k:IntKind} {a b:Int} {T U:TypeId} (hx:ev f x=.int k a) (hy:ev f y=.int k b):EX P f (.binOp .gtr T x y U) (.bool (decide (b < a))) d ty pos af w:=⟨aCH hx hy⟩
theorem V_geq {k:IntKind} {a b:Int} {T U:TypeId} (hx:ev f x=.int k a) (hy:ev f y=.int k b):EX P f (.binOp .geq T x y U) (.bool (decide (b<=a))) d ty pos af w:=⟨R_geq hx hy⟩
theorem V_eql {k:IntKind} {a b:Int} {T U:TypeId} (hx:ev f x=.int k a) (hy:ev f y=.int k b):EX P f (.binOp .eql T x y U) (.bool (a == b)) d ty pos af w:=⟨aLl hx hy⟩
theorem V_neq {k:IntKind} {a b:Int} {T U:TypeId} (hx:ev f x=.int k a) (hy:ev f y=.int k b):EX P f (.binOp .neq T x y U) (.bool (a != b)) d ty pos af w:=⟨aMZ hx hy⟩
theorem V_eqlS {a b:aH} {T U:TypeId} (hx:ev f x=str a) (hy:ev f y=str b):EX P f (.binOp .eql T x y U) (.bool (a == b)) d ty pos af w:=⟨aLm hx hy⟩
theorem V_neqS {a b:aH} {T U:TypeId} (hx:ev f x=str a) (hy:ev f y=str b):EX P f (.binOp .neq T x y U) (.bool (!(a == b))) d ty pos af w:=⟨R_neqS hx hy⟩
theorem V_lssS {a b:aH} {T U:TypeId} (hx:ev f x=str a) (hy:ev f y=str b):EX P f (.binOp .lss T x y U) (.bool (wV a b)) d ty pos af w:=⟨R_lssS hx hy⟩
theorem V_leqS {a b:aH} {T U:TypeId} (hx:ev f x=str a) (hy:ev f y=str b):EX P f (.binOp .leq T x y U) (.bool (wV a b||a == b)) d ty pos af w:=⟨R_leqS hx hy⟩
theorem V_gtrS {a b:aH} {T U:TypeId} (hx:ev f x=str a) (hy:ev f y=str b):EX P f (.binOp .gtr T x y U) (.bool (!(wV a b||a == b))) d ty pos af w:=⟨R_gtrS hx hy⟩
theorem V_geqS {a b:aH} {T U:TypeId} (hx:ev f x=str a) (hy:ev f y=str b):EX P f (.binOp .geq T x y U) (.bool (!wV a b)) d ty pos af w:=⟨R_geqS hx hy⟩
theorem V_nilE {a:Option Addr} {k kk:Nat} {cs:List Value} (hx:ev f x=cX a kk) (hc:fK K a k cs):
  EX P f (.nilCheck x) ((cX a kk)) d ty pos af w:=⟨aNP hx hc⟩
theorem V_fldE {S:TypeId} {a:Option Addr} {i o k k0:Nat} {cs:List Value} (hx:ev f x=cX a k) (hc:fK K a k0 cs) (hF:FA P S i o):
  EX P f (.fieldAddr S x i) ((cX a (k+o))) d ty pos af w:=⟨aJA hF hx hc rfl⟩
theorem V_fldP {S:TypeId} {b i o t:Nat} (hx:ev f x=.pointer (some ⟨b,t,none⟩)) (hF:FA P S i o):
  EX P f (.fieldAddr S x i) ((.pointer (some ⟨b,t+o,none⟩))) d ty pos af w:=⟨aV hF hx rfl⟩
theorem V_ixE {T E:TypeId} {sz:Nat} {a:Option Addr} {len cap:Nat} {xs:List α} {j:Int} {e:α} (hx:ev f x=.slice a len cap) (hy:ev f y=i64 j) (hr:bE K a cap xs) (hj:ix xs j=some e) (hl:len=xs.length) (hT:SLT P T E sz) (hz:El.sz α=sz):
  EX P f (.indexAddr T x y) ((cX a (j.toNat * sz))) d ty pos af w:=⟨eH hT hz hr hx hl hy hj⟩
theorem V_ixO {T E E':TypeId} {sz:Nat} {a:Option Addr} {len cap:Nat} {xs:List α} {j:Int} {e:α} {Ke:Hp} (hx:ev f x=.slice a len cap) (hy:ev f y=i64 j) (hs:aD G K L w) (hi:List.Mem (aG E' Ke a cap xs) L) (hj:ix xs j=some e) (hl:len=xs.length) (hT:SLT P T E sz) (hz:El.sz α=sz):
  EX P f (.indexAddr T x y) ((cX a (j.toNat * sz))) d ty pos af w:=by
 obtain ⟨i,hi⟩:=aFZ hi
 exact ⟨R_ixO hT hz hs hi hx hl hy hj⟩
theorem aKl {T:TypeId} {a:Option Addr} {k t:Nat} {cs:List Value} {v:Value} (hx:ev f x=cX a (k+t)) (hc:fK K a k cs) (hs:aD G K L w) (hv:cs[t]?=some v) (hT:SC P T):
  EX P f (.load T x) (v) d ty pos af w:=⟨bG hT hs hc hx hv⟩
theorem aGQ {T:TypeId} {a:Option Addr} {k t m:Nat} {cs vs:List Value} (hx:ev f x=cX a (k+t)) (hc:fK K a k cs) (hs:aD G K L w) (hT:AG P T m) (hv:(cs.drop t).take m=vs) (hm:vs.length=m):
  EX P f (.load T x) ((.agg vs.toArray)) d ty pos af w:=⟨eD hT hs hc hx hv hm⟩
theorem V_ldB {T E:TypeId} {b t:Nat} {vs:List Value} {v:Value} (hx:ev f x=.pointer (some ⟨b,t,none⟩)) (hs:aD G K L w) (hi:List.Mem (box b E vs) L) (hv:vs[t]?=some v) (hT:SC P T):
  EX P f (.load T x) (v) d ty pos af w:=by
 obtain ⟨i,hi⟩:=aFZ hi
 exact ⟨bT hT hs hi hx hv⟩
inductive DT:List Value->Nat->Nat->List Value->Prop
 |nil {l:List Value}:DT l 0 0 []
 |take {x:Value} {l us:List Value} {m:Nat} (h:DT l 0 m us):DT (x::l) 0 (m+1) (x::us)
 |drop {x:Value} {l us:List Value} {t m:Nat} (h:DT l t m us):DT (x::l) (t+1) m us
theorem DT.eq {l us:List Value} {t m:Nat} (h:DT l t m us):(l.drop t).take m=us/\us.length=m:=by
 induction h with
 |nil=>simp
 |take _ ih=>obtain ⟨h1,h2⟩:=ih;simp at h1;simp [h1,h2]
 |drop _ ih=>simpa using ih
theorem st_D {p:Prop} (h:p:=by repeat (first|exact DT.nil|apply DT.take|apply DT.drop)):p:=h
theorem V_ldBG {T E:TypeId} {b t m:Nat} {vs us:List Value} (hx:ev f x=.pointer (some ⟨b,t,none⟩)) (hs:aD G K L w) (hi:List.Mem (box b E vs) L) (hT:AG P T m) (hv:DT vs t m us):
  EX P f (.load T x) ((.agg us.toArray)) d ty pos af w:=by
 obtain ⟨i,hi⟩:=aFZ hi
 exact ⟨eO hT hs hi hx hv.eq.1 hv.eq.2⟩
theorem V_rvG {n t b m:Nat} {T E:TypeId} {vs:List Value} (hp:f t=.pointer (some ⟨b,0,none⟩)) (hs:aD G K L w) (hi:List.Mem (box b E vs) L) (hT:AG P T m) (hm:vs.length=m) (ht:Nat.blt t n=true):aIW P n f w (.cell t T) (.agg vs.toArray):=by
 obtain ⟨i,hi⟩:=aFZ hi
 exact aCJ ht hT hs hi hp hm
theorem V_rvB {n t b:Nat} {T E:TypeId} {v:Value} (hp:f t=.pointer (some ⟨b,0,none⟩)) (hs:aD G K L w) (hi:List.Mem (box b E [v]) L) (hT:SC P T) (ht:Nat.blt t n=true):aIW P n f w (.cell t T) v:=by
 obtain ⟨i,hi⟩:=aFZ hi
 exact rv_cell ht hT hs hi hp
theorem V_nilO {E:TypeId} {Ke:Hp} {kk:Nat} {a:Option Addr} {cap:Nat} {xs:List α} {j:Int} {e:α} (hx:ev f x=cX a kk) (hs:aD G K L w) (hi:List.Mem (aG E Ke a cap xs) L) (hj:ix xs j=some e):
  EX P f (.nilCheck x) ((cX a kk)) d ty pos af w:=by
 obtain ⟨i,hi⟩:=aFZ hi
 exact ⟨R_nilO hs hi hj hx⟩
theorem V_fldO {S E:TypeId} {Ke:Hp} {q o k:Nat} {a:Option Addr} {cap:Nat} {xs:List α} {j:Int} {e:α} (hx:ev f x=cX a k) (hs:aD G K L w) (hi:List.Mem (aG E Ke a cap xs) L) (hj:ix xs j=some e) (hF:FA P S q o):
  EX P f (.fieldAddr S x q) ((cX a (k+o))) d ty pos af w:=by
 obtain ⟨i,hi⟩:=aFZ hi
 exact ⟨R_fldO hF hs hi hj hx rfl⟩
theorem aKm {T:TypeId} {a:Option Addr} {k t:Nat} {cs:List Value} {v:Value} (hs:aD G K L w) (hc:fK K a k cs) (hx:ev f x=cX a (k+t)) (hv:cs[t]?=some v) (hT:SC P T):
  EX P f (.load T x) v d ty pos af w:=bG hT hs hc hx hv |> EX.mk
theorem aNW {T:TypeId} {a:Option Addr} {k t m:Nat} {cs vs:List Value} (hs:aD G K L w) (hc:fK K a k cs) (hx:ev f x=cX a (k+t)) (hT:AG P T m) (hv:(cs.drop t).take m=vs) (hm:vs.length=m):
  EX P f (.load T x) (.agg vs.toArray) d ty pos af w:=eD hT hs hc hx hv hm |> EX.mk
theorem V_ldO {β:Type} {iβ:fF β} {T E:TypeId} {Ke:Hp} {kk t:Nat} {a:Option Addr} {cap:Nat} {xs:List β} {j:Int} {e:β} {v:Value} (hx:ev f x=cX a kk) (hs:aD G K L w) (hi:List.Mem (aG E Ke a cap xs) L) (hj:ix xs j=some e) (hkk:kk=j.toNat * fF.sz β+t) (hv:(fF.enc e)[t]?=some v) (hT:SC P T):
  EX P f (.load T x) v d ty pos af w:=by
 obtain ⟨i,hi⟩:=aFZ hi
 exact ⟨qD hT hs hi hj hx hkk hv⟩
theorem V_ldOG {β:Type} {iβ:fF β} {T E:TypeId} {Ke:Hp} {kk t m:Nat} {a:Option Addr} {cap:Nat} {xs:List β} {j:Int} {e:β} {vs:List Value} (hx:ev f x=cX a kk) (hs:aD G K L w) (hi:List.Mem (aG E Ke a cap xs) L) (hj:ix xs j=some e) (hkk:kk=j.toNat * fF.sz β+t) (hT:AG P T m) (hv:((fF.enc e).drop t).take m=vs) (hm:vs.length=m):
  EX P f (.load T x) (.agg vs.toArray) d ty pos af w:=by
 obtain ⟨i,hi⟩:=aFZ hi
 exact ⟨aCl hT hs hi hj hx hkk hv hm⟩
theorem aKn {T:TypeId} {K':Hp} {a:Option Addr} {k t:Nat} {cs:List Value} {v:Value} (hx:ev f x=cX a (k+t)) (hc:fK K' a k cs) (hs:aD G K L w) (hK:K'.le K) (hv:cs[t]?=some v) (hT:SC P T):
  EX P f (.load T x) v d ty pos af w:=⟨bG hT hs (hc.mono hK) hx hv⟩
theorem aNX {T:TypeId} {K':Hp} {a:Option Addr} {k t m:Nat} {cs vs:List Value} (hx:ev f x=cX a (k+t)) (hc:fK K' a k cs) (hs:aD G K L w) (hK:K'.le K) (hT:AG P T m) (hv:(cs.drop t).take m=vs) (hm:vs.length=m):
  EX P f (.load T x) (.agg vs.toArray) d ty pos af w:=⟨eD hT hs (hc.mono hK) hx hv hm⟩
theorem V_pickT {b:Bool} {v:Value} (hx:ev f x=.bool b) (hb:b=true) (hv:ev f y=v):
  EX P f (.pick x y z) (v) d ty pos af w:=⟨xV hb hx hv⟩
theorem V_pickF {b:Bool} {v:Value} (hx:ev f x=.bool b) (hb:¬ b=true) (hv:ev f z=v):
  EX P f (.pick x y z) (v) d ty pos af w:=⟨aAn hb hx hv⟩
theorem V_lenStr {T:TypeId} {s:aH} (hT:∀ w,(underlying T).run P w=.ok .string w) (hx:ev f x=str s):EX P f (.call ⟨.builtin .len,#[x],#[T]⟩) ((i64 s.length)) d ty pos af w:=⟨aPr hT hx⟩
theorem V_ixS {T:TypeId} {s:aH} {j:Int} {c:UInt8} (hT:∀ w,(underlying T).run P w=.ok .string w) (hx:ev f x=str s) (hy:ev f y=i64 j) (hj:ix s j=some c):EX P f (.index T x y) ((u8 c)) d ty pos af w:=⟨R_ixS hT hx hy hj⟩
theorem V_conv64 {S T:TypeId} {k:IntKind} {a:Int} (hT:∀ w,(underlying T).run P w=.ok (.int .i64) w) (hx:ev f x=.int k a) (hS:∃ d,∀ w,(underlying S).run P w=.ok d w):EX P f (.convert S T x) ((.int .i64 (wr a))) d ty pos af w:=⟨aIU hT hx hS⟩
theorem V_convu64 {S T:TypeId} {k:IntKind} {a:Int} (hT:∀ w,(underlying T).run P w=.ok (.int .u64) w) (hx:ev f x=.int k a) (hS:∃ d,∀ w,(underlying S).run P w=.ok d w):EX P f (.convert S T x) ((.int .u64 (mK a))) d ty pos af w:=⟨aFq hT hx hS⟩
theorem V_rem {a b c:Int} {T U:TypeId} (hx:ev f x=i64 a) (hy:ev f y=i64 b) (hc:rm a b=some c):EX P f (.binOp .rem T x y U) ((i64 c)) d ty pos af w:=⟨R_rem hx hy hc⟩
theorem V_cat {a b c:aH} {T U:TypeId} (hx:ev f x=str a) (hy:ev f y=str b) (hc:cat a b=some c):EX P f (.binOp .add T x y U) ((str c)) d ty pos af w:=⟨R_cat hx hy hc⟩
theorem V_neqB {a b:Bool} {T U:TypeId} (hT:∀ w,(underlying T).run P w=.ok .bool w) (hx:ev f x=.bool a) (hy:ev f y=.bool b):EX P f (.binOp .neq T x y U) ((.bool (a != b))) d ty pos af w:=⟨R_neqB hT hx hy⟩
theorem V_u64add {a b:Int} {T U:TypeId} (hx:ev f x=.int .u64 a) (hy:ev f y=.int .u64 b):EX P f (.binOp .add T x y U) ((.int .u64 (mK (a+b)))) d ty pos af w:=⟨R_u64add hx hy⟩
theorem V_u64mul {a b:Int} {T U:TypeId} (hx:ev f x=.int .u64 a) (hy:ev f y=.int .u64 b):EX P f (.binOp .mul T x y U) ((.int .u64 (mK (a * b)))) d ty pos af w:=⟨R_u64mul hx hy⟩
theorem V_shrU {a b c:Int} {yk:IntKind} {T U:TypeId} (hx:ev f x=.int .u64 a) (hy:ev f y=.int yk b) (hc:shU a b=some c):EX P f (.binOp .shr T x y U) ((.int .u64 c)) d ty pos af w:=⟨R_shrU hx hy hc⟩
theorem V_andU {a b:Int} {T U:TypeId} (hx:ev f x=.int .u64 a) (hy:ev f y=.int .u64 b):EX P f (.binOp .and T x y U) ((.int .u64 (anU a b))) d ty pos af w:=⟨R_andU hx hy⟩
theorem V_min {Ts:Array TypeId} {a b:Int} (hx:ev f x=i64 a) (hy:ev f y=i64 b):EX P f (.call ⟨.builtin .min,#[x,y],Ts⟩) ((i64 (mnI a b))) d ty pos af w:=⟨R_min hx hy⟩
theorem V_max {Ts:Array TypeId} {a b:Int} (hx:ev f x=i64 a) (hy:ev f y=i64 b):EX P f (.call ⟨.builtin .max,#[x,y],Ts⟩) ((i64 (mxI a b))) d ty pos af w:=⟨R_max hx hy⟩
theorem V_slSL {s r:aH} {lo:Int} {T:TypeId} (hT:∀ w,(underlying T).run P w=.ok .string w) (hx:ev f x=str s) (hl:ev f y=i64 lo) (hr:xT s lo (s.length:Int)=some r):EX P f (.slice T x (some y) none none) ((str r)) d ty pos af w:=⟨R_slSL hT hx hl hr⟩
theorem V_slSH {s r:aH} {hi:Int} {T:TypeId} (hT:∀ w,(underlying T).run P w=.ok .string w) (hx:ev f x=str s) (hh:ev f z=i64 hi) (hr:xT s 0 hi=some r):EX P f (.slice T x none (some z) none) ((str r)) d ty pos af w:=⟨R_slSH hT hx hh hr⟩
theorem V_isNil {T E:TypeId} {sz:Nat} {U:TypeId} {a:Option Addr} {n c:Nat} (hT:SLT P T E sz) (hx:ev f x=.slice a n c) (hy:ev f y=.slice none 0 0):EX P f (.binOp .eql T x y U) ((.bool a.isNone)) d ty pos af w:=⟨aJa hT hx hy⟩
theorem V_build {T:TypeId} {places:List (Nat × Nat)} {zs cs:List Value} {ps:Array (Nat × Operand)} {vs:List (Nat × Value)} (hB:BS P T places zs)
  (hp:ps.toList.map (fun p=>(p.1,ev f p.2))=vs) (hf:Instr.fill (fun i=>places[i]?) zs.toArray vs=some cs.toArray):EX P f (.build T ps) ((.agg cs.toArray)) d ty pos af w:=⟨jU hB hp hf⟩
theorem aQF {fn:Fn} {xs:Array Operand} {vs:List Value} (hv:xs.toList.map (ev f)=vs):EX P f (.makeFunc fn #[] xs) ((.func fn #[] vs.toArray)) d ty pos af w:=⟨eV hv⟩
end
section
variable {P:Program} {n:Nat} {ops:Array Oper} {Q:sV} {f:Nat->Value} {w:World} {ty:TypeId} {pos:String} {af:Array Go.Edge} {rest:List Oper} {C:World->Prop} {R:(Nat->Value)->Prop}
theorem VO {v:Value} {d:Nat} {op:Op} (hr:EX P f op v d ty pos af w) (h:WO P n ops rest Q (upd f d v) w):WO P n ops (⟨some d,op,ty,pos,af,none⟩::rest) Q f w:=aF hr.h h
theorem VQ {v:Value} {d:Nat} {op:Op} (hr:∀ w,C w->EX P f op v d ty pos af w) (h:WQ P n ops C rest R (upd f d v)):WQ P n ops C (⟨some d,op,ty,pos,af,none⟩::rest) R f:=cJ (fun w hw=>(hr w hw).h) h
theorem V_onT {j g:Nat} {op:Op} {dst:Option Tmp} {b:Bool} (hd:(ops[j]?).bind (·.dst)=some g) (hx:f g=.bool b) (hb:b=true) (h:WO P n ops (⟨dst,op,ty,pos,af,none⟩::rest) Q f w):WO P n ops (⟨dst,op,ty,pos,af,some (j,true)⟩::rest) Q f w:=rX hb hd hx h
theorem V_onF {j g:Nat} {op:Op} {dst:Option Tmp} {b:Bool} (hd:(ops[j]?).bind (·.dst)=some g) (hx:f g=.bool b) (hb:¬ b=true) (h:WO P n ops (⟨dst,op,ty,pos,af,none⟩::rest) Q f w):WO P n ops (⟨dst,op,ty,pos,af,some (j,false)⟩::rest) Q f w:=yV hb hd hx h
theorem V_offF {j g:Nat} {op:Op} {dst:Option Tmp} {b:Bool} (hd:(ops[j]?).bind (·.dst)=some g) (hx:f g=.bool b) (hb:¬ b=true) (h:WO P n ops rest Q (aFo f dst undef) w):WO P n ops (⟨dst,op,ty,pos,af,some (j,true)⟩::rest) Q f w:=aFp hb hd hx h
theorem V_offT {j g:Nat} {op:Op} {dst:Option Tmp} {b:Bool} (hd:(ops[j]?).bind (·.dst)=some g) (hx:f g=.bool b) (hb:b=true) (h:WO P n ops rest Q (aFo f dst undef) w):WO P n ops (⟨dst,op,ty,pos,af,some (j,false)⟩::rest) Q f w:=aGG hb hd hx h
theorem Q_onT {j g:Nat} {op:Op} {dst:Option Tmp} {b:Bool} (hd:(ops[j]?).bind (·.dst)=some g) (hx:f g=.bool b) (hb:b=true) (h:WQ P n ops C (⟨dst,op,ty,pos,af,none⟩::rest) R f):WQ P n ops C (⟨dst,op,ty,pos,af,some (j,true)⟩::rest) R f:=uP hd hx hb h
theorem Q_onF {j g:Nat} {op:Op} {dst:Option Tmp} {b:Bool} (hd:(ops[j]?).bind (·.dst)=some g) (hx:f g=.bool b) (hb:¬ b=true) (h:WQ P n ops C (⟨dst,op,ty,pos,af,none⟩::rest) R f):WQ P n ops C (⟨dst,op,ty,pos,af,some (j,false)⟩::rest) R f:=uP hd hx (by simpa using hb) h
theorem Q_offF {j g:Nat} {op:Op} {dst:Option Tmp} {b:Bool} (hd:(ops[j]?).bind (·.dst)=some g) (hx:f g=.bool b) (hb:¬ b=true) (h:WQ P n ops C rest R (aFo f dst undef)):WQ P n ops C (⟨dst,op,ty,pos,af,some (j,true)⟩::rest) R f:=wW hd hx (by cases b<;>simp_all) h
theorem Q_offT {j g:Nat} {op:Op} {dst:Option Tmp} {b:Bool} (hd:(ops[j]?).bind (·.dst)=some g) (hx:f g=.bool b) (hb:b=true) (h:WQ P n ops C rest R (aFo f dst undef)):WQ P n ops C (⟨dst,op,ty,pos,af,some (j,false)⟩::rest) R f:=wW hd hx (by cases b<;>simp_all) h
theorem aQu {c:Operand} {x y:Code} {b:Bool} (hc:ev f c=.bool b) (hb:b=true) (h:W P n x Q f w):W P n (.cond c x y) Q f w:=aZ hb hc h
theorem aQv {c:Operand} {x y:Code} {b:Bool} (hc:ev f c=.bool b) (hb:¬ b=true) (h:W P n y Q f w):W P n (.cond c x y) Q f w:=bJ hb hc h
end
section
variable {P:Program} {n:Nat} {ops:Array Oper} {Q:sV} {f:Nat->Value} {w:World} {ty:TypeId} {pos:String} {af:Array Go.Edge} {rest:List Oper} {C:World->Prop} {R:(Nat->Value)->World->Prop} {os:List Oper} {l:List (Nat × Nat)} {d:Nat} {op:Op} {v:Value}
theorem V_WE {i:Nat} (hi:aFf os i=some ⟨some d,op,ty,pos,af,none⟩) (hr:∀ w,C w->EX P f op v d ty pos af w) (h:WE P n os.toArray C l R (upd f d v) w):WE P n os.toArray C ((i,0)::l) R f w:=bB hi (fun w hw=>(hr w hw).h) h
theorem V_WT {i:Nat} (hi:aFf os i=some ⟨some d,op,ty,pos,af,none⟩) (hr:∀ w,EX P f op v d ty pos af w) (h:WE P n os.toArray C l R (upd f d v) w):WE P n os.toArray C ((i,3)::l) R f w:=WE_t hi (fun w=>(hr w).h) h
theorem V_WA {bs:List Nat} {m:Nat} {listed:Array Bool} {i:Nat} (hi:aFf os i=some ⟨some d,op,ty,pos,af,none⟩) (hB:lookB os.toArray bs listed i=true) (hC:C w) (hr:∀ w,C w->EX P f op v d ty pos af w) (h:WA P n os.toArray C bs R m (listed.setIfInBounds i true) (upd f d v) w):WA P n os.toArray C bs R (m+1) listed f w:=dH hi hB hC (fun w hw=>(hr w hw).h) h
theorem V_L {T:TypeId} {x:Operand} (h:EX P f (.load T x) v d ty pos af w):EX P f (.load T x) v d ty pos af w:=h
theorem V_B {o:BinOp} {T U:TypeId} {x y:Operand} (h:EX P f (.binOp o T x y U) v d ty pos af w):EX P f (.binOp o T x y U) v d ty pos af w:=h
theorem aED {k:FuncId} {xs:Array Operand} {ats:Array TypeId} {vs:List Value} {Φ:Value->World->Prop} (hk:CE P k) (hc:Calls P k vs.toArray w (eQ Φ)) (h:∀ v w',Φ v w'->WO P n ops rest Q (upd f d v) w') (hv:xs.toList.map (ev f)=vs:=by exact rfl):
  WO P n ops (⟨some d,.call ⟨.value (.func k),xs,ats⟩,ty,pos,af,none⟩::rest) Q f w:=aQ hk hv hc h
theorem aFe {k:FuncId} {fn:Func} {c:Code} {args:List Value} {Φ:Value->World->Prop} (hf:P.funcs[k]?=some fn) (h:W P fn.ntmps c (retQ P fn Φ) (initF args) w) (hb:fn.body=some c:=by exact rfl) (hok:okc fn.ntmps c=true:=by kernel_rfl) (hl:Nat.ble args.length fn.ntmps=true:=by exact rfl):Calls P k args.toArray w (eQ Φ):=aN hf hb hok (Nat.le_of_ble_eq_true hl) h
theorem aMD {fn:Func} {Φ:Value->World->Prop} {t:Nat} (hr:fn.results=#[.tmp t]) (h:Φ (f t) w) (ht:Nat.blt t fn.ntmps=true:=by exact rfl):W P fn.ntmps .ret (retQ P fn Φ) f w:=nY (oH hr ht h)
end
theorem ft_:¬ (false=true):=by decide
theorem aKA {p:Prop} (h:p:=by first|assumption|exact rfl|exact ft_):p:=h
inductive Rep:List jN->jN->(jN->List jN)->Prop
 |head {x:jN} {l:List jN}:Rep (x::l) x (fun y=>y::l)
 |tail {z x:jN} {l:List jN} {C:jN->List jN} (h:Rep l x C):Rep (z::l) x (fun y=>z::C y)
theorem Rep.ix {L:List jN} {x:jN} {C:jN->List jN} (h:Rep L x C):∃ i:Nat,L[i]?=some x/\∀ y,L.set i y=C y:=by
 induction h with
 |head=>exact ⟨0,rfl,fun _=>rfl⟩
 |tail h ih=>obtain ⟨i,h1,h2⟩:=ih;exact ⟨i+1,h1,fun y=>by rw [List.set_cons_succ,h2]⟩
theorem st_M {p:Prop} (h:p:=by with_reducible first|exact Rep.head|exact Rep.tail Rep.head|exact Rep.tail (Rep.tail Rep.head)|exact Rep.tail (Rep.tail (Rep.tail Rep.head))|exact Rep.tail (Rep.tail (Rep.tail (Rep.tail Rep.head)))|exact Rep.tail (Rep.tail (Rep.tail (Rep.tail (Rep.tail Rep.head))))|exact Rep.tail (Rep.tail (Rep.tail (Rep.tail (Rep.tail (Rep.tail Rep.head)))))|exact Rep.tail (Rep.tail (Rep.tail (Rep.tail (Rep.tail (Rep.tail (Rep.tail Rep.head))))))|exact Rep.tail (Rep.tail (Rep.tail (Rep.tail (Rep.tail (Rep.tail (Rep.tail (Rep.tail Rep.head)))))))|exact Rep.tail (Rep.tail (Rep.tail (Rep.tail (Rep.tail (Rep.tail (Rep.tail (Rep.tail (Rep.tail Rep.head))))))))|exact Rep.tail (Rep.tail (Rep.tail (Rep.tail (Rep.tail (Rep.tail (Rep.tail (Rep.tail (Rep.tail (Rep.tail Rep.head)))))))))|exact Rep.tail (Rep.tail (Rep.tail (Rep.tail (Rep.tail (Rep.tail (Rep.tail (Rep.tail (Rep.tail (Rep.tail (Rep.tail Rep.head))))))))))|exact Rep.tail (Rep.tail (Rep.tail (Rep.tail (Rep.tail (Rep.tail (Rep.tail (Rep.tail (Rep.tail (Rep.tail (Rep.tail (Rep.tail Rep.head)))))))))))|exact Rep.tail (Rep.tail (Rep.tail (Rep.tail (Rep.tail (Rep.tail (Rep.tail (Rep.tail (Rep.tail (Rep.tail (Rep.tail (Rep.tail (Rep.tail Rep.head))))))))))))):p:=h
inductive SetV:List Value->Nat->Value->List Value->Prop
 |zero {x v:Value} {l:List Value}:SetV (x::l) 0 v (v::l)
 |succ {x v:Value} {l m:List Value} {t:Nat} (h:SetV l t v m):SetV (x::l) (t+1) v (x::m)
theorem SetV.eq {l m:List Value} {t:Nat} {v:Value} (h:SetV l t v m):l.take t++[v]++l.drop (t+1)=m/\t+1<=l.length:=by
 induction h with
 |zero=>exact ⟨rfl,by simp⟩
 |succ h ih=>exact ⟨by simpa using ih.1,by simpa using ih.2⟩
inductive StR:Value->List Value->Nat->List Value->Nat->Prop
 |one {v:Value} {vs us:List Value} {t:Nat} (h:SetV vs t v us) (hv:v.cells=#[v]) (h1:v.oneCell'=true):StR v vs t us 1
 |all {v:Value} {vs us:List Value} {m:Nat} (hv:v.cells=us.toArray) (hm:us.length=m) (hl:vs.length=m) (h1:us.all (fun u=>u.oneCell')=true):StR v vs 0 us m
theorem st_U {p:Prop} (h:p:=by first|exact StR.one (by (repeat (first|exact SetV.zero|apply SetV.succ));first|done|fail) rfl rfl|exact StR.all rfl rfl rfl rfl):p:=h
section
variable {P:Program} {n:Nat} {ops:Array Oper} {rest:List Oper} {Q:sV} {f:Nat->Value} {w:World} {d:Nat} {x y:Operand} {ty:TypeId} {pos:String} {af:Array Go.Edge} {G:yU} {K:Hp} {L:List jN} {C:jN->List jN}
theorem aJz {T E:TypeId} {b t m:Nat} {vs us:List Value} {v:Value} (h:∀ w',aD G K (C (box b E us)) w'->WO P n ops rest Q f w') (hx:ev f x=.pointer (some ⟨b,t,none⟩):=by exact cK) (hs:aD G K L w:=by assumption) (hr:Rep L (box b E vs) C:=by exact st_M) (hy:ev f y=v:=by exact cK) (hT:∀ w,(Go.sizeOf T).run P w=.ok m w:=by exact st_z) (hu:StR v vs t us m:=by exact st_U):WO P n ops (⟨none,.store T x y,ty,pos,af,none⟩::rest) Q f w:=by
 obtain ⟨i,h1,h2⟩:=hr.ix
 cases hu with
 |one g1 g2 g3=>exact bN hT hs h1 hx hy g2 rfl (by simpa using g3) (by simpa using g1.eq.2) g1.eq.1 fun w' q=>h w' (h2 _ ▸ q)
 |all g1 g2 g3 g4=>exact bN hT hs h1 hx hy g1 g2 (by simpa using g4) (by simp [g3]) (by simp [g3]) fun w' q=>h w' (h2 _ ▸ q)
def ZA (P:Program) (T:TypeId) (vs:List Value):Prop:=∃ v,ZV P T v/\v.cells=vs.toArray
theorem aFm {T:TypeId} {vs:List Value} (h:∀ b w',aD G K (box b T vs::L) w'->WO P n ops rest Q (upd f d (.pointer (some ⟨b,0,none⟩))) w') (hz:ZA P T vs:=by exact st_y) (hs:aD G K L w:=by assumption):WO P n ops (⟨some d,.alloc T,ty,pos,af,none⟩::rest) Q f w:=by
 obtain ⟨v,h1,h2⟩:=hz
 exact aX h1 hs h2 h
theorem aKb {T:TypeId} {v:Value} {vs:List Value} (h:∀ b w',aD G K (box b T vs::L) w'->WO P n ops rest Q (upd f d (.pointer (some ⟨b,0,none⟩))) w') (hx:ev f x=v:=by exact cK) (hv:v.cells=vs.toArray:=by exact rfl) (hs:aD G K L w:=by assumption):WO P n ops (⟨some d,.box T x,ty,pos,af,none⟩::rest) Q f w:=cC hs hx hv h
theorem els_pod {α:Type} [fF α] {K:Hp}:∀ {xs:List α},els K (xs.flatMap fF.enc) xs
 |[]=>trivial
 |x::xs=>by
  have e:(fF.enc x).length=El.sz α:=fF.len x
  have e1:((x::xs).flatMap fF.enc).take (El.sz α)=fF.enc x:=by rw [List.flatMap_cons,←e,List.take_left'];rfl
  have e2:((x::xs).flatMap fF.enc).drop (El.sz α)=xs.flatMap fF.enc:=by rw [List.flatMap_cons,←e,List.drop_left'];rfl
  refine ⟨?_,?_⟩
  ·rw [e1];exact rfl
  ·rw [e2];exact els_pod
theorem aPD {α:Type} [fF α]:∀ {xs:List α},(xs.flatMap fF.enc).length=xs.length * fF.sz α
 |[]=>by simp
 |x::xs=>by rw [List.flatMap_cons,List.length_append,fF.len,aPD,List.length_cons,Nat.succ_mul,Nat.add_comm]
theorem aKc {α:Type} {iα:fF α} {T E:TypeId} {sz len:Nat} {zs:List Value} {ps:Array (Nat × Operand)} (xs:List α) (h:∀ a w',aD G K (aG E K a len xs::L) w'->WO P n ops rest Q (upd f d (.slice a len len)) w') (hT:SLT P T E sz:=by exact st_S) (hE:EZ P E zs:=by exact st_e) (hsz:fF.sz α=sz:=by exact rfl) (hzs:zs.length=sz:=by exact rfl) (hs:aD G K L w:=by assumption) (hlen:xs.length=len:=by exact rfl)
  (hf:Instr.fill (fun i=>some (i * sz,sz)) ((Array.range (len * sz)).map ((if len * sz=0 then #[] else zs.toArray)[· % (if len * sz=0 then #[] else zs.toArray).size]!)) (ps.toList.map (fun p=>(p.1,ev f p.2)))=some (xs.flatMap fF.enc).toArray:=by first|exact rfl|kernel_rfl) (hbig:Nat.ble (len * sz) 16777216=true:=by exact rfl):
  WO P n ops (⟨some d,.buildSlice T len ps,ty,pos,af,none⟩::rest) Q f w:=
 cZ hT hE hsz hzs hs rfl hf hlen (by rw [aPD,hlen,hsz]) hbig els_pod h
end
section
variable {P:Program} {n:Nat} {ops:Array Oper} {rest:List Oper} {Q:sV} {f:Nat->Value} {w:World} {d:Nat} {x y:Operand} {ty:TypeId} {pos:String} {af:Array Go.Edge} {G:yU} {K:Hp} {L:List jN} {C:jN->List jN} {α:Type}
theorem aMq {iα:fF α} {T E E2:TypeId} {sz:Nat} {zs:List Value} {a a2:Option Addr} {cap c2 l1 l2:Nat} {xs ys zz:List α} {Ke K2:Hp} (h:∀ a' cap' w',aD G K (C (aG E K a' cap' zz)) w'->WO P n ops rest Q (upd f d (.slice a' zz.length cap')) w') (hT:SLT P T E sz:=by exact st_S) (hU:P.underlying T=some (.slice E):=by exact st_u) (hE:EZ P E zs:=by exact st_e) (hx:ev f x=.slice a l1 cap:=by exact cK) (hy:ev f y=.slice a2 l2 c2:=by exact cK)
  (hs:aD G K (aG E2 K2 a2 c2 ys::L) w:=by assumption) (hr:Rep L (aG E Ke a cap xs) C:=by exact st_M) (hm:xQ xs ys=some zz:=by assumption) (hsz:fF.sz α=sz:=by exact rfl) (hzs:zs.length=sz:=by exact rfl) (hl1:l1=xs.length:=by exact rfl) (hl2:l2=ys.length:=by exact rfl):
  WO P n ops (⟨some d,.call ⟨.builtin .append,#[x,y],#[T,T]⟩,ty,pos,af,none⟩::rest) Q f w:=by
 obtain ⟨i,h1,h2⟩:=hr.ix
 have hs:aD G K (aG E2 K a2 c2 ys::L) w:=hs
 have h1:L[i]?=some (aG E K a cap xs):=h1
 exact mF hT hU hE hsz hzs hs h1 (Hp.le_refl _) (Hp.le_refl _) hm hx hl1 hy hl2 (fun _ h=>h) fun a' c' w' q=>h a' c' w' (h2 _ ▸ q)
end
inductive Sub:List jN->List jN->Prop
 |refl {l:List jN}:Sub l l
 |pick {l m k:List jN} {x:jN} (h:Pck l x m) (g:Sub m k):Sub l (x::k)
 |drop {l m:List jN} {x:jN} (g:Sub l m):Sub (x::l) m
 |nilS {α:Type} {iα:El α} {E:TypeId} {Ke:Hp} {l k:List jN} (g:Sub l k):Sub l (aG E Ke none 0 ([]:List α)::k)
theorem Sub.sat {L M:List jN} (s:Sub L M):∀ {h:Hp},iF L h->iF M h:=by
 induction s with
 |refl=>exact fun a=>a
 |pick p _ ih=>
  intro h a
  obtain ⟨i,h1,rfl⟩:=p.ix
  obtain ⟨g1,g2,b1,b2,b3,b4,b5⟩:=a.pick h1
  exact ⟨g1,g2,b1,b2,b3,b4,ih b5⟩
 |drop _ ih=>
  intro h a
  obtain ⟨g1,g2,_,_,_,b4,b5⟩:=a
  exact (ih b5).le b4
 |nilS _ ih=>
  intro h a
  have e1:Hp.dj (fun _=>none) h:=fun _=>Or.inl rfl
  have e2:Hp.le (fun _=>none) h:=fun _ _ e=>by cases e
  exact ⟨fun _=>none,h,aG.nil _ _ _,e1,e2,Hp.le_refl _,ih a⟩
theorem st_N {p:Prop} (h:p:=by (repeat (first|with_reducible exact Sub.refl|(apply Sub.pick (by with_reducible first|exact Pck.head|exact Pck.tail Pck.head|exact Pck.tail (Pck.tail Pck.head)|exact Pck.tail (Pck.tail (Pck.tail Pck.head))|exact Pck.tail (Pck.tail (Pck.tail (Pck.tail Pck.head)))|exact Pck.tail (Pck.tail (Pck.tail (Pck.tail (Pck.tail Pck.head))))|exact Pck.tail (Pck.tail (Pck.tail (Pck.tail (Pck.tail (Pck.tail Pck.head)))))|exact Pck.tail (Pck.tail (Pck.tail (Pck.tail (Pck.tail (Pck.tail (Pck.tail Pck.head))))))|exact Pck.tail (Pck.tail (Pck.tail (Pck.tail (Pck.tail (Pck.tail (Pck.tail (Pck.tail Pck.head)))))))|exact Pck.tail (Pck.tail (Pck.tail (Pck.tail (Pck.tail (Pck.tail (Pck.tail (Pck.tail (Pck.tail Pck.head))))))))|exact Pck.tail (Pck.tail (Pck.tail (Pck.tail (Pck.tail (Pck.tail (Pck.tail (Pck.tail (Pck.tail (Pck.tail Pck.head)))))))))|exact Pck.tail (Pck.tail (Pck.tail (Pck.tail (Pck.tail (Pck.tail (Pck.tail (Pck.tail (Pck.tail (Pck.tail (Pck.tail Pck.head))))))))))|exact Pck.tail (Pck.tail (Pck.tail (Pck.tail (Pck.tail (Pck.tail (Pck.tail (Pck.tail (Pck.tail (Pck.tail (Pck.tail (Pck.tail Pck.head)))))))))))|exact Pck.tail (Pck.tail (Pck.tail (Pck.tail (Pck.tail (Pck.tail (Pck.tail (Pck.tail (Pck.tail (Pck.tail (Pck.tail (Pck.tail (Pck.tail Pck.head))))))))))))))|(apply Sub.pick (by first|exact Pck.head|exact Pck.tail Pck.head|exact Pck.tail (Pck.tail Pck.head)|exact Pck.tail (Pck.tail (Pck.tail Pck.head))|exact Pck.tail (Pck.tail (Pck.tail (Pck.tail Pck.head)))|exact Pck.tail (Pck.tail (Pck.tail (Pck.tail (Pck.tail Pck.head))))))|apply Sub.nilS|apply Sub.drop));first|done|fail):p:=h
theorem aKa {G:yU} {K K':Hp} {L M:List jN} {w:World} (hs:aD G K L w:=by assumption) (hk:K'.le K:=by first|exact Hp.le_refl _|exact oQ) (hb:Sub L M:=by exact st_N):aD G K' M w:=
 have hs:=hs.weakK hk
 let ⟨e,h,gd,gl,d,k,l,r⟩:=hs;⟨e,h,gd,gl,d,k,l,hb.sat r⟩
section
variable {P:Program} {n:Nat} {Q:sV} {f:Nat->Value} {w:World} {G:yU} {K:Hp} {L:List jN}
theorem aME {id:Nat} {l:List Oper} (h:WQ P n l.toArray (aD G K L) l (fun f=>∀ w',aD G K L w'->Q .normal f w') f) (hs:aD G K L w:=by assumption) (hB:Region.lexB .any l.toArray=true:=by kernel_rfl) (hm:P.follows .mixedOrders=true:=by exact Tryz_mixed):W P n (.region id l.toArray true) Q f w:=
 nO hm hB (hs.mono (fZ.drew _)) h
theorem aKg {id:Nat} {os:List Oper} (l:List (Nat × Nat)) (h:∀ w',aD G K L w'->WE P n os.toArray (fun w'=>∃ L',aD G K L' w') l (fun f w=>Q .normal f w) f w') (hs:aD G K L w:=by assumption) (hB:(Region.noSelect os.toArray&&lastB .any os.toArray l&&ordB .any os.toArray l (Array.replicate os.toArray.size false)&&l.length == os.toArray.size)=true:=by kernel_rfl) (hm:P.follows .mixedOrders=true:=by exact Tryz_mixed):W P n (.region id os.toArray true) Q f w:=
 dG l hm hB (fun _ g=>⟨_,hs.mono g⟩) fun _ g=>h _ (hs.mono g)
end
theorem aKo {α:Type} {a b:α} {p:Prop} (h:some a=some b) (k:a=b->p):p:=k (Option.some.inj h)
theorem st_no {α:Type} {a:α} {p:Prop} (h:none=some a):p:=nomatch h
theorem aDq {α:Type} {q:α->Prop} {p:Prop} (k:∀ x,q x->p) (h:∃ x,q x):p:=let ⟨x,h⟩:=h;k x h
theorem aDr {a b p:Prop} (k:a->b->p) (h:a/\b):p:=k h.1 h.2
section
variable {P:Program} {n:Nat} {ops:Array Oper} {rest:List Oper} {Q:sV} {f:Nat->Value} {w:World} {d:Nat} {x y:Operand} {ty:TypeId} {pos:String} {af:Array Go.Edge} {G:yU} {K:Hp} {L:List jN}
theorem st_ca {k:FuncId} {xs:Array Operand} {ats:Array TypeId} {vs:List Value} {Φ:Value->World->Prop} (hk:CE P k) (hc:Calls P k vs.toArray w (eQ Φ)) (hv:xs.toList.map (ev f)=vs) (h:∀ v w',Φ v w'->WO P n ops rest Q (upd f d v) w'):
  WO P n ops (⟨some d,.call ⟨.value (.func k),xs,ats⟩,ty,pos,af,none⟩::rest) Q f w:=aQ hk hv hc h
theorem st_cb {k:FuncId} {xs:Array Operand} {ats:Array TypeId} {vs:List Value} {Φ:Value->World->Prop} (hk:CE P k) (hc:Calls P k vs.toArray w (eQ Φ)) (hv:xs.toList.map (ev f)=vs) (h:∀ v w',Φ v w'->WO P n ops rest Q f w'):
  WO P n ops (⟨none,.call ⟨.value (.func k),xs,ats⟩,ty,pos,af,none⟩::rest) Q f w:=WO_call0 hk hv hc h
theorem st_cq {C:World->Prop} {R:(Nat->Value)->Prop} {k:FuncId} {xs:Array Operand} {ats:Array TypeId} {vs:List Value} {v:Value} (hk:CE P k) (hc:∀ w,C w->Calls P k vs.toArray w (eQ fun u w'=>u=v/\C w')) (hv:xs.toList.map (ev f)=vs) (h:WQ P n ops C rest R (upd f d v)):
  WQ P n ops C (⟨some d,.call ⟨.value (.func k),xs,ats⟩,ty,pos,af,none⟩::rest) R f:=aKI hk hv hc h
theorem st_i {α:Type} {iα:El α} {T E:TypeId} {sz:Nat} {a:Option Addr} {len cap:Nat} {xs:List α} {j:Int} {e:α} (hx:ev f x=.slice a len cap) (hy:ev f y=i64 j) (hr:bE K a cap xs) (hj:ix xs j=some e) (hl:len=xs.length) (hT:SLT P T E sz) (hz:El.sz α=sz)
  (h:∀ cs,fK K a (j.toNat * sz) cs->El.rd K cs e->WO P n ops rest Q (upd f d (cX a (j.toNat * sz))) w):WO P n ops (⟨some d,.indexAddr T x y,ty,pos,af,none⟩::rest) Q f w:=
 let ⟨cs,h1,h2⟩:=bE.el hz hr hj
 aF (eH hT hz hr hx hl hy hj) (h cs h1 h2)
theorem st_iQ {C:World->Prop} {R:(Nat->Value)->Prop} {α:Type} {iα:El α} {T E:TypeId} {sz:Nat} {a:Option Addr} {len cap:Nat} {xs:List α} {j:Int} {e:α} (hx:ev f x=.slice a len cap) (hy:ev f y=i64 j) (hr:bE K a cap xs) (hj:ix xs j=some e) (hl:len=xs.length) (hT:SLT P T E sz) (hz:El.sz α=sz)
  (h:∀ cs,fK K a (j.toNat * sz) cs->El.rd K cs e->WQ P n ops C rest R (upd f d (cX a (j.toNat * sz)))):WQ P n ops C (⟨some d,.indexAddr T x y,ty,pos,af,none⟩::rest) R f:=
 let ⟨cs,h1,h2⟩:=bE.el hz hr hj
 cJ (fun _ _=>eH hT hz hr hx hl hy hj) (h cs h1 h2)
theorem st_iE {C:World->Prop} {R:(Nat->Value)->World->Prop} {os:List Oper} {l:List (Nat × Nat)} {i:Nat} {α:Type} {iα:El α} {T E:TypeId} {sz:Nat} {a:Option Addr} {len cap:Nat} {xs:List α} {j:Int} {e:α} (hi:aFf os i=some ⟨some d,.indexAddr T x y,ty,pos,af,none⟩) (hx:ev f x=.slice a len cap) (hy:ev f y=i64 j) (hr:bE K a cap xs) (hj:ix xs j=some e) (hl:len=xs.length) (hT:SLT P T E sz) (hz:El.sz α=sz)
  (h:∀ cs,fK K a (j.toNat * sz) cs->El.rd K cs e->WE P n os.toArray C l R (upd f d (cX a (j.toNat * sz))) w):WE P n os.toArray C ((i,0)::l) R f w:=
 let ⟨cs,h1,h2⟩:=bE.el hz hr hj
 bB hi (fun _ _=>eH hT hz hr hx hl hy hj) (h cs h1 h2)
theorem st_pd {α:Type} [fF α] {K:Hp} {cs:List Value} {e:α} (h:El.rd K cs e):cs=fF.enc e:=h
theorem st_ba {α:Type} {iα:fF α} {T E:TypeId} {sz len:Nat} {zs:List Value} {ps:Array (Nat × Operand)} {xs ys zz:List α} (hq:xQ ys xs=some zz) (h:∀ a w',aD G K (aG E K a len xs::L) w'->WO P n ops rest Q (upd f d (.slice a len len)) w') (hT:SLT P T E sz:=by exact st_S) (hE:EZ P E zs:=by exact st_e) (hsz:fF.sz α=sz:=by exact rfl) (hzs:zs.length=sz:=by exact rfl) (hs:aD G K L w:=by assumption) (hlen:xs.length=len:=by exact rfl)
  (hf:Instr.fill (fun i=>some (i * sz,sz)) ((Array.range (len * sz)).map ((if len * sz=0 then #[] else zs.toArray)[· % (if len * sz=0 then #[] else zs.toArray).size]!)) (ps.toList.map (fun p=>(p.1,ev f p.2)))=some (xs.flatMap fF.enc).toArray:=by first|exact rfl|kernel_rfl) (hbig:Nat.ble (len * sz) 16777216=true:=by exact rfl):
  WO P n ops (⟨some d,.buildSlice T len ps,ty,pos,af,none⟩::rest) Q f w:=aKc xs h hT hE hsz hzs hs hlen hf hbig
end
theorem st_g0 {P:Program} {n:Nat} {c:Operand} {x y:Code} {Q:sV} {f:Nat->Value} {w:World} (h:W P n (.cond c x y) Q f w):W P n (.cond c x y) Q f w:=h
theorem st_g1 {P:Program} {n:Nat} {ops:Array Oper} {dst:Option Tmp} {op:Op} {ty:TypeId} {pos:String} {af:Array Go.Edge} {g:Nat × Bool} {rest:List Oper} {Q:sV} {f:Nat->Value} {w:World} (h:WO P n ops (⟨dst,op,ty,pos,af,some g⟩::rest) Q f w):WO P n ops (⟨dst,op,ty,pos,af,some g⟩::rest) Q f w:=h
theorem st_g2 {P:Program} {n:Nat} {ops:Array Oper} {dst:Option Tmp} {op:Op} {ty:TypeId} {pos:String} {af:Array Go.Edge} {g:Nat × Bool} {rest:List Oper} {C:World->Prop} {R:(Nat->Value)->Prop} {f:Nat->Value} (h:WQ P n ops C (⟨dst,op,ty,pos,af,some g⟩::rest) R f):WQ P n ops C (⟨dst,op,ty,pos,af,some g⟩::rest) R f:=h
theorem st_g3 {P:Program} {n:Nat} {ops:Array Oper} {dst:Option Tmp} {x y z:Operand} {ty:TypeId} {pos:String} {af:Array Go.Edge} {rest:List Oper} {Q:sV} {f:Nat->Value} {w:World} (h:WO P n ops (⟨dst,.pick x y z,ty,pos,af,none⟩::rest) Q f w):WO P n ops (⟨dst,.pick x y z,ty,pos,af,none⟩::rest) Q f w:=h
theorem st_g4 {P:Program} {n:Nat} {os:List Oper} {i q:Nat} {o:Oper} {g:Nat × Bool} {l:List (Nat × Nat)} {C:World->Prop} {R:(Nat->Value)->World->Prop} {f:Nat->Value} {w:World} (hi:(aFf os i).bind (·.guard)=some g) (h:WE P n os.toArray C ((i,q)::l) R f w):WE P n os.toArray C ((i,q)::l) R f w:=h
theorem st_we {P:Program} {n:Nat} {ops:Array Oper} {C:World->Prop} {l:List (Nat × Nat)} {R:(Nat->Value)->World->Prop} {f:Nat->Value} {w:World} {G:yU} {K:Hp} (h1:∃ L',aD G K L' w) (h2:WE P n ops C l R f w):(∃ L',aD G K L' w)/\WE P n ops C l R f w:=⟨h1,h2⟩
theorem st_cK {K K':Hp} {a:Option Addr} {k:Nat} {cs:List Value} (c:fK K a k cs) (h:K.le K'):fK K' a k cs:=c.mono h
theorem st_rK {α:Type} {iα:El α} {K K':Hp} {a:Option Addr} {cap:Nat} {xs:List α} (r:bE K a cap xs) (h:K.le K'):bE K' a cap xs:=r.mono h
section
variable {P:Program} {n:Nat} {ops:Array Oper} {rest:List Oper} {Q:sV} {f:Nat->Value} {w:World} {G:yU} {K:Hp} {L M:List jN}
theorem sA {α:Type} {iα:El α} {E:TypeId} {Ke:Hp} {a:Option Addr} {cap:Nat} {xs:List α} (hs:aD G K L w) (p:Pck L (aG E Ke a cap xs) M) (hK:Ke.le K) (h:∀ K',K.le K'->bE K' a cap xs->aD G K' M w->(∀ L' w',aD G K' L' w'->aD G K (aG E Ke a cap xs::L') w')->WO P n ops rest Q f w):WO P n ops rest Q f w:=by
 obtain ⟨K',h1,h2,h3,h4⟩:=aD.lendSp hs hK p
 exact h K' h1 h2 h3 h4
theorem sB {E:TypeId} {b:Nat} {vs:List Value} (hs:aD G K L w) (p:Pck L (box b E vs) M) (h:∀ K',K.le K'->fK K' (some ⟨b,0,none⟩) 0 vs->aD G K' M w->(∀ L' w',aD G K' L' w'->aD G K (box b E vs::L') w')->WO P n ops rest Q f w):WO P n ops rest Q f w:=by
 obtain ⟨K',h1,h2,h3,h4⟩:=aD.lendBp hs p
 exact h K' h1 h2 h3 h4
theorem st_q2 {α:Type} {iα:fF α} {d:Nat} {x y:Operand} {ty:TypeId} {pos:String} {af:Array Go.Edge} {C:jN->List jN} {T E:TypeId} {sz:Nat} {zs:List Value} {a a2:Option Addr} {cap c2 l1 l2:Nat} {xs ys zz:List α} {Ke:Hp} (hx:ev f x=.slice a l1 cap) (hy:ev f y=.slice a2 l2 c2) (hr0:bE K a2 c2 ys) (hs:aD G K L w) (hr:Rep L (aG E Ke a cap xs) C) (hm:xQ xs ys=some zz) (hT:SLT P T E sz) (hU:P.underlying T=some (.slice E)) (hE:EZ P E zs) (hsz:fF.sz α=sz) (hzs:zs.length=sz) (hl1:l1=xs.length) (hl2:l2=ys.length)
  (h:∀ a' cap' w',aD G K (C (aG E K a' cap' zz)) w'->WO P n ops rest Q (upd f d (.slice a' zz.length cap')) w'):
  WO P n ops (⟨some d,.call ⟨.builtin .append,#[x,y],#[T,T]⟩,ty,pos,af,none⟩::rest) Q f w:=by
 obtain ⟨i,h1,h2⟩:=hr.ix
 have h1:L[i]?=some (aG E K a cap xs):=h1
 exact aIl hT hU hE hsz hzs hs h1 (Hp.le_refl _) hr0 hm hx hl1 hy hl2 fun a' c' w' q=>h a' c' w' (h2 _ ▸ q)
end
end Gv
