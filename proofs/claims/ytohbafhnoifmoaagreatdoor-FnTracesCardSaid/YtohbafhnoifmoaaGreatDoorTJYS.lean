/- Bound arguments; rows that are taken or put; maps that may be nil; ways out of loops over maps. No program in sight. -/
import Derived.Test.YtohbafhnoifmoaaGreatDoorTJYR
import Derived.Test.YtohbafhnoifmoaaGreatDoorTJLM
set_option linter.all false
namespace Gv
open Go
section
variable {P:Program} {n:Nat} {ops:Array Oper} {rest:List Oper} {Q:xN} {f:Nat→Value} {w:World}
variable {d:Nat} {x y z:Operand} {ty:TypeId} {pos:String} {af:Array Go.Edge}
variable {G:Env} {K:Hp} {L:List nJ}
theorem R_shrU {a b c:Int} {yk:IntKind} {T U:TypeId} (hx:ev f x=.int .u64 a) (hy:ev f y=.int yk b) (hc:shU a b=some c):
  (execOp (ev f) ⟨some d,.binOp .shr T x y U,ty,pos,af,none⟩).run P w=.ok (.value (.int .u64 c)) w:=by
 unfold shU at hc
 split at hc
 ·rename_i h
  have hn:¬ b < 0:=by omega
  cases hc
  simp [execOp,hx,hy,eqGuard,binOp,Op.shift,hn,IntKind.bits]
 ·cases hc
theorem R_andU {a b:Int} {T U:TypeId} (hx:ev f x=.int .u64 a) (hy:ev f y=.int .u64 b):
  (execOp (ev f) ⟨some d,.binOp .and T x y U,ty,pos,af,none⟩).run P w=.ok (.value (.int .u64 (anU a b))) w:=by
 have e:(BitVec.ofInt 64 a&&& BitVec.ofInt 64 b).toNat=(a % 18446744073709551616).toNat&&& (b % 18446744073709551616).toNat:=by
  rw [BitVec.toNat_and];simp [BitVec.toNat_ofInt]
 simp [execOp,hx,hy,eqGuard,binOp,Op.intBits,anU,aFY,IntKind.bits]
 exact congrArg (fun n:Nat=>pR (n:Int)) e
end
section
variable {P:Program} {n:Nat} {ops:Array Oper} {rest:List Oper} {Q:xN} {f:Nat→Value} {w:World}
variable {d:Nat} {x y z:Operand} {ty:TypeId} {pos:String} {af:Array Go.Edge}
variable {G:Env} {K:Hp} {L:List nJ} {α:Type} [Dp α] {tys:List TypeId} {hds:List (Dp.Hd α)} {xs zz:List α}
end
section
variable {G:Env} {K:Hp} {L:List nJ} {w:World} {β:Type} [gF β] {tys:List TypeId} {hds:List (Dp.Hd (List β))} {xs:List (List β)}
end
section
variable {P:Program} {n:Nat} {ops:Array Oper} {rest:List Oper} {Q:xN} {f:Nat→Value} {w:World}
variable {d:Nat} {x y z:Operand} {ty:TypeId} {pos:String} {af:Array Go.Edge}
variable {G:Env} {K:Hp} {L:List nJ} {α:Type} [Dp α] {tys:List TypeId} {hds:List (Dp.Hd α)} {xs r:List α}
end
section
variable {α:Type} [El α] {G:Env} {K:Hp} {L:List nJ} {w:World}
theorem aK.cutE {E:TypeId} {K:Hp} {a a':Option Addr} {cap c':Nat} {lo hi:Int} {xs r:List α} {g:Hp} (ho:aK E K a cap xs g) (hc:tU xs lo hi=some r) (hx:Cut (El.sz α) a cap lo a' c'):aK E K a' c' r g:=by
 obtain ⟨h0,h1,h2,rfl⟩:=aDl hc
 obtain ⟨rfl,rfl⟩:=hx
 obtain ⟨hcap,ho⟩:=ho
 have hlen:((xs.drop lo.toNat).take (hi.toNat - lo.toNat)).length=hi.toNat - lo.toNat:=by simp;omega
 refine ⟨by rw [hlen];omega,?_⟩
 rcases ho with ⟨rfl,rfl,rfl⟩|⟨ad,c,rs,rfl,sp,hb,hcs,hrl,hr,hel⟩
 ·left
  exact ⟨by simp,by simp,by simp⟩
 ·right
  by_cases he:cap=lo.toNat
  ·have hz:hi.toNat - lo.toNat=0:=by omega
   rw [if_pos he,hz]
   refine ⟨ad,c,[],rfl,sp,hb,?_,by simp,by simp,by simp⟩
   have:(cap - lo.toNat)=0:=by omega
   rw [this,Nat.zero_mul]
   have:=Nat.le_trans (Nat.le_add_right _ _) hcs
   omega
  ·rw [if_neg he]
   obtain ⟨b,o,s⟩:=ad
   simp only at sp hb hcs hr
   subst sp
   have hsz:lo.toNat * El.sz α+(hi.toNat - lo.toNat) * El.sz α≤xs.length * El.sz α:=by rw [←Nat.add_mul];exact Nat.mul_le_mul_right _ (by omega)
   refine ⟨⟨b,o+lo.toNat * El.sz α,none⟩,c,(rs.drop (lo.toNat * El.sz α)).take ((hi.toNat - lo.toNat) * El.sz α),by simp [lR],rfl,hb,?_,?_,fun t v ht=>?_,fun i d hd=>?_⟩
   ·have:(lo.toNat+(cap - lo.toNat)) * El.sz α=cap * El.sz α:=by congr 1;omega
    rw [Nat.add_mul] at this
    simp only;omega
   ·rw [hlen,List.length_take,List.length_drop,hrl];omega
   ·have hlt:t < (hi.toNat - lo.toNat) * El.sz α:=by
     have:=(List.getElem?_eq_some_iff.1 ht).1
     simp only [List.length_take] at this;omega
    rw [List.getElem?_take_of_lt hlt,List.getElem?_drop] at ht
    have:=hr _ _ ht
    rw [←this];congr 1;simp only;omega
   ·have hi':i < hi.toNat - lo.toNat:=by have:=(List.getElem?_eq_some_iff.1 hd).1;rw [hlen] at this;exact this
    rw [List.getElem?_take_of_lt hi',List.getElem?_drop] at hd
    have h4:=hel _ _ hd
    have h5:i * El.sz α+El.sz α≤(hi.toNat - lo.toNat) * El.sz α:=by rw [←Nat.succ_mul];exact Nat.mul_le_mul_right _ hi'
    rw [List.drop_take,List.take_take,List.drop_drop,Nat.min_eq_left (by omega),←Nat.add_mul]
    exact h4
theorem aLG {E:TypeId} {Ke:Hp} {i:Nat} {a:Option Addr} {cap:Nat} {xs:List α} (hs:aI G K L w) (hi:L[i]?=some (aK E Ke a cap xs)):xs.length≤cap:=by
 obtain ⟨h1,hA,_⟩:=hs.entry hi
 exact hA.1
theorem aI.cutPE {E:TypeId} {Ke:Hp} {i:Nat} {a a':Option Addr} {cap c':Nat} {lo hi:Int} {xs r:List α} (hs:aI G K L w) (hi':L[i]?=some (aK E Ke a cap xs)) (hc:tU xs lo hi=some r) (hx:Cut (El.sz α) a cap lo a' c'):aI G K (L.set i (aK E Ke a' c' r)) w:=
 hs.weak hi' (fun _ h=>h.cutE hc hx)
end
section
variable {P:Program} {n:Nat} {ops:Array Oper} {rest:List Oper} {Q:xN} {f:Nat→Value} {w:World}
variable {d:Nat} {x y z:Operand} {ty:TypeId} {pos:String} {af:Array Go.Edge}
variable {β:Type} [gF β] {G:Env} {K:Hp} {L:List nJ}
theorem WO_appV {T E:TypeId} {sz i:Nat} {zs:List Value} {a a1 a2:Option Addr} {cap c1 c2 l1 l2:Nat} {lo1 hi1 lo2 hi2:Int} {xs r1 r2 zz:List β} {Ke:Hp} (hT:SLT P T E sz) (hU:P.underlying T=some (.slice E)) (hE:EZ P E zs) (hsz:El.sz β=sz) (hzs:zs.length=sz)
  (hs:aI G K L w) (hi:L[i]?=some (aK E Ke a cap xs)) (hc1:tU xs lo1 hi1=some r1) (hx1:Cut (gF.sz β) a cap lo1 a1 c1) (hc2:tU xs lo2 hi2=some r2) (hx2:Cut (gF.sz β) a cap lo2 a2 c2) (hm:pX r1 r2=some zz)
  (hx:ev f x=.slice a1 l1 c1) (hl1:l1=r1.length) (hy:ev f y=.slice a2 l2 c2) (hl2:l2=r2.length)
  (h:∀ a' cap' w',aI G K (L.set i (aK E Ke a' cap' zz)) w'→WO P n ops rest Q (upd f d (.slice a' zz.length cap')) w'):
  WO P n ops (⟨some d,.call ⟨.builtin .append,#[x,y],#[T,T]⟩,ty,pos,af,none⟩::rest) Q f w:=by
 obtain ⟨hlim,rfl⟩:=aDk hm
 subst hl1;subst hl2
 have hil:i < L.length:=(List.getElem?_eq_some_iff.1 hi).1
 obtain ⟨K',hK',hr,hs',_⟩:=aI.lendS (aI.cutP hs hi hc2 hx2) (Ke:=K) (Hp.le_refl _) (show (L.set i (aK E K a2 c2 r2))[i]?=some (aK E K a2 c2 r2) by simp [hil])
 obtain ⟨ry,k1,k2,k3,k4⟩:=hr.rows r2.length (Nat.le_refl _)
 obtain ⟨a',cap',w',hr',hs2⟩:=aCQ (ty:=ty) (Kt:=Ke) (Ke:=Ke) (a:=a1) (cap:=c1) (xs:=r1) (a2:=a2) (c2:=c2) (ys:=r2) (P:=P) (sz:=sz) (zs:=zs) hT hU hE hsz hzs (aI.cutP hs hi hc1 hx1) (i:=i) (by simp [hil]) (Hp.le_refl _) k1 k2 (fun hypos=>by
  have hrl:0 < ry.length:=by rw [k1];exact Nat.mul_pos hypos (El.pos (α:=β))
  obtain ⟨ad,c,E',fr,e,s,k,_⟩:=k3 0 _ (List.getElem?_eq_getElem hrl)
  refine ⟨ad,e,fun j u hj=>?_⟩
  obtain ⟨ad',c',E'',fr',e',s',k',hc'⟩:=k3 j u hj
  rw [e] at e';cases e'
  obtain ⟨ab,ao,as⟩:=ad
  simp only at s'
  subst s'
  rw [lR]
  exact pY hs'.know k' hc') (fun i d hi hd=>k4 i d hi hd) hlim
 rw [List.set_set] at hs2
 refine aBl rfl (w':=w') (v:=.slice a' (r1++r2).length cap') ?_ (h _ _ _ hs2)
 simp only [execOp,resolve,invoke,builtin,Sem.run_bind,Sem.run_pure,Result.andThen_ok,List.map_toArray,List.map_cons,List.map_nil,hx,hy,hr']
end
section
variable {κ ν:Type} [DecidableEq κ] [Vl κ] [Vl ν] {G:Env} {K:Hp} {L:List nJ} {w:World}
end
section
variable {κ:Type}
end
end Gv
