/- Bound arguments; rows that are taken or put; maps that may be nil; ways out of loops over maps. No program in sight. -/
import Derived.Test.YtcoeckcjdpbbkaaGreatDoorJYR
import Derived.Test.YtcoeckcjdpbbkaaGreatDoorJLM
set_option linter.all false
namespace Gv
open Go
section
variable {P:Program} {n:Nat} {ops:Array Oper} {rest:List Oper} {Q:uG} {f:Nat->Value} {w:World}
variable {d:Nat} {x y z:Operand} {ty:TypeId} {pos:String} {af:Array Go.Edge}
variable {G:Env} {K:Hp} {L:List gV}
theorem R_shrU {a b c:Int} {yk:IntKind} {T U:TypeId} (hx:ev f x=.int .u64 a) (hy:ev f y=.int yk b) (hc:shU a b=some c):
  (execOp (ev f) ⟨some d,.binOp .shr T x y U,ty,pos,af,none⟩).run P w=.ok (.value (.int .u64 c)) w:=by
 unfold shU at hc
 split at hc
 ·rename_i h
  have hn:¬ b < 0:=by omega
  cases hc
  simp [execOp,hx,hy,eqGuard,binOp,Op.shift,hn,IntKind.bits]
 ·cases hc
theorem R_andU {a b:Int} {T U:TypeId} (hx:ev f x=.int .u64 a) (hy:ev f y=.int .u64 b):
  (execOp (ev f) ⟨some d,.binOp .and T x y U,ty,pos,af,none⟩).run P w=.ok (.value (.int .u64 (anU a b))) w:=by
 have e:(BitVec.ofInt 64 a&&& BitVec.ofInt 64 b).toNat=(a % 18446744073709551616).toNat&&& (b % 18446744073709551616).toNat:=by
  rw [BitVec.toNat_and];simp [BitVec.toNat_ofInt]
 simp [execOp,hx,hy,eqGuard,binOp,Op.intBits,anU,aJv,IntKind.bits]
 exact congrArg (fun n:Nat=>rY (n:Int)) e
end
section
variable {P:Program} {n:Nat} {ops:Array Oper} {rest:List Oper} {Q:uG} {f:Nat->Value} {w:World}
variable {d:Nat} {x y z:Operand} {ty:TypeId} {pos:String} {af:Array Go.Edge}
variable {G:Env} {K:Hp} {L:List gV} {α:Type} [Dp α] {tys:List TypeId} {hds:List (Dp.Hd α)} {xs zz:List α}
theorem aD.rowHole {i:Nat} {j:Int} {hd':Dp.Hd α} {x':α} (s:aD G K (Dp.pcs tys hd' x'++L) w) (hl:hds.length=xs.length) (hz:Gv.st xs j x'=some zz) (hi:L[i]?=some (rows tys (hds.eraseIdx j.toNat) (xs.eraseIdx j.toNat))):
  aD G K (rows tys (hds.set j.toNat hd') zz::L.eraseIdx i) w:=by
 obtain ⟨h0,h1,rfl⟩:=aJr hz
 have s1:aD G K (rows tys (hds.eraseIdx j.toNat) (xs.eraseIdx j.toNat)::(Dp.pcs tys hd' x'++L.eraseIdx i)) w:=by
  have hi':(Dp.pcs tys hd' x'++L)[(Dp.pcs tys hd' x').length+i]?=some (rows tys (hds.eraseIdx j.toNat) (xs.eraseIdx j.toNat)):=by
   rw [List.getElem?_append_right (by omega),Nat.add_sub_cancel_left];exact hi
  have:=aD.pull s hi'
  rwa [List.eraseIdx_append_of_length_le (by omega),Nat.add_sub_cancel_left] at this
 obtain ⟨e,g,gd,gl,d,k,l,r⟩:=s1
 have r3:gW (Dp.pcs tys hd' x'++rows tys (hds.eraseIdx j.toNat) (xs.eraseIdx j.toNat)::L.eraseIdx i) g:=by
  have:gW ([rows tys (hds.eraseIdx j.toNat) (xs.eraseIdx j.toNat)]++(Dp.pcs tys hd' x'++L.eraseIdx i)) g:=r
  exact this.swap
 exact aD.rowIn (hd:=hd') (x:=x') ⟨e,g,gd,gl,d,k,l,r3⟩ hl h1
theorem WO_stH {T E:TypeId} {a:Option Addr} {i cap kk:Nat} {j:Int} {hd hd':Dp.Hd α} {e e':α} {v:Value} {Ke:Hp} (hT:∀ w,(Go.sizeOf T).run P w=.ok (Dp.sz1 α+1) w) (hs:aD G K (Dp.pcs tys hd' e'++L) w) (hl:hds.length=xs.length)
  (hi:L[i]?=some (aF E Ke a cap (aY hds xs))) (hi2:L[i+1]?=some (rows tys (hds.eraseIdx j.toNat) (xs.eraseIdx j.toNat))) (hx:ev f x=bR a kk) (hkk:kk=j.toNat * (Dp.sz1 α+1)+0) (hy:ev f y=v) (hj:ix xs j=some e) (hh:hds[j.toNat]?=some hd) (hst:Gv.st xs j e'=some zz)
  (hn:v.cells=(Dp.enc hd' e').toArray)
  (h:∀ w',aD G K (aF E K a cap (aY (hds.set j.toNat hd') zz)::rows tys (hds.set j.toNat hd') zz::(L.eraseIdx (i+1)).eraseIdx i) w'->WO P n ops rest Q f w'):
  WO P n ops (⟨none,.store T x y,ty,pos,af,none⟩::rest) Q f w:=by
 have hi':(Dp.pcs tys hd' e'++L)[(Dp.pcs tys hd' e').length+i]?=some (aF E K a cap (aY hds xs)):=by
  rw [List.getElem?_append_right (by omega),Nat.add_sub_cancel_left];exact hi
 refine nU (i:=(Dp.pcs tys hd' e').length+i) (t:=0) (Ke:=K) hT hs hi' (Hp.le_refl _) hx hkk hy (uY hl hj hh) (st_heads (hd:=hd') hl hst) hn (Dp.len _ _) (Dp.one _ _) (by simp [El.sz,dT.sz]) (fun cs hc=>?_) (fun w' hs'=>h w' ?_)
 ·cases hc
  have e1:(Dp.enc hd e).length=Dp.sz1 α+1:=Dp.len _ _
  show _=Dp.enc hd' e'
  simp only [aID,dT.enc,Nat.zero_add]
  rw [List.drop_of_length_le (by omega)]
  simp
 ·have hil:i < L.length:=(List.getElem?_eq_some_iff.1 hi).1
  rw [List.set_append_right _ _ (by omega),Nat.add_sub_cancel_left] at hs'
  have h1:=aD.rowHole (i:=i+1) hs' hl hst (by rw [List.getElem?_set_ne (by omega)];exact hi2)
  have h2:=aD.pull (i:=i+1) (A:=aF E K a cap (aY (hds.set j.toNat hd') zz)) h1 (by simp [aDH,hil])
  simp only [List.eraseIdx_cons_succ] at h2
  rw [List.eraseIdx_set_gt (by omega),List.eraseIdx_set_eq] at h2
  exact h2
end
section
variable {G:Env} {K:Hp} {L:List gV} {w:World} {β:Type} [dT β] {tys:List TypeId} {hds:List (Dp.Hd (List β))} {xs:List (List β)}
end
section
variable {P:Program} {n:Nat} {ops:Array Oper} {rest:List Oper} {Q:uG} {f:Nat->Value} {w:World}
variable {d:Nat} {x y z:Operand} {ty:TypeId} {pos:String} {af:Array Go.Edge}
variable {G:Env} {K:Hp} {L:List gV} {α:Type} [Dp α] {tys:List TypeId} {hds:List (Dp.Hd α)} {xs r:List α}
end
section
variable {α:Type} [El α] {G:Env} {K:Hp} {L:List gV} {w:World}
end
section
variable {P:Program} {n:Nat} {ops:Array Oper} {rest:List Oper} {Q:uG} {f:Nat->Value} {w:World}
variable {d:Nat} {x y z:Operand} {ty:TypeId} {pos:String} {af:Array Go.Edge}
variable {β:Type} [dT β] {G:Env} {K:Hp} {L:List gV}
theorem aPB {T E:TypeId} {sz i:Nat} {zs:List Value} {a a1 a2:Option Addr} {cap c1 c2 l1 l2:Nat} {lo1 hi1 lo2 hi2:Int} {xs r1 r2 zz:List β} {Ke:Hp} (hT:SLT P T E sz) (hU:P.underlying T=some (.slice E)) (hE:EZ P E zs) (hsz:El.sz β=sz) (hzs:zs.length=sz)
  (hs:aD G K L w) (hi:L[i]?=some (aF E Ke a cap xs)) (hc1:qT xs lo1 hi1=some r1) (hx1:Cut (dT.sz β) a cap lo1 a1 c1) (hc2:qT xs lo2 hi2=some r2) (hx2:Cut (dT.sz β) a cap lo2 a2 c2) (hm:rZ r1 r2=some zz)
  (hx:ev f x=.slice a1 l1 c1) (hl1:l1=r1.length) (hy:ev f y=.slice a2 l2 c2) (hl2:l2=r2.length)
  (h:∀ a' cap' w',aD G K (L.set i (aF E Ke a' cap' zz)) w'->WO P n ops rest Q (upd f d (.slice a' zz.length cap')) w'):
  WO P n ops (⟨some d,.call ⟨.builtin .append,#[x,y],#[T,T]⟩,ty,pos,af,none⟩::rest) Q f w:=by
 obtain ⟨hlim,rfl⟩:=aFN hm
 subst hl1;subst hl2
 have hil:i < L.length:=(List.getElem?_eq_some_iff.1 hi).1
 obtain ⟨K',hK',hr,hs',_⟩:=aD.lendS (aD.cutP hs hi hc2 hx2) (Ke:=K) (Hp.le_refl _) (show (L.set i (aF E K a2 c2 r2))[i]?=some (aF E K a2 c2 r2) by simp [hil])
 obtain ⟨ry,k1,k2,k3,k4⟩:=hr.rows r2.length (Nat.le_refl _)
 obtain ⟨a',cap',w',hr',hs2⟩:=aFb (ty:=ty) (Kt:=Ke) (Ke:=Ke) (a:=a1) (cap:=c1) (xs:=r1) (a2:=a2) (c2:=c2) (ys:=r2) (P:=P) (sz:=sz) (zs:=zs) hT hU hE hsz hzs (aD.cutP hs hi hc1 hx1) (i:=i) (by simp [hil]) (Hp.le_refl _) k1 k2 (fun hypos=>by
  have hrl:0 < ry.length:=by rw [k1];exact Nat.mul_pos hypos (El.pos (α:=β))
  obtain ⟨ad,c,E',fr,e,s,k,_⟩:=k3 0 _ (List.getElem?_eq_getElem hrl)
  refine ⟨ad,e,fun j u hj=>?_⟩
  obtain ⟨ad',c',E'',fr',e',s',k',hc'⟩:=k3 j u hj
  rw [e] at e';cases e'
  obtain ⟨ab,ao,as⟩:=ad
  simp only at s'
  subst s'
  rw [oF]
  exact sB hs'.know k' hc') (fun i d hi hd=>k4 i d hi hd) hlim
 rw [List.set_set] at hs2
 refine aAB rfl (w':=w') (v:=.slice a' (r1++r2).length cap') ?_ (h _ _ _ hs2)
 simp only [execOp,resolve,invoke,builtin,Sem.run_bind,Sem.run_pure,Result.andThen_ok,List.map_toArray,List.map_cons,List.map_nil,hx,hy,hr']
end
section
variable {κ ν:Type} [DecidableEq κ] [Vl κ] [Vl ν] {G:Env} {K:Hp} {L:List gV} {w:World}
end
section
variable {κ:Type}
end
end Gv
namespace Gv
open Go
structure Hd (q:Prop):Prop where
 k:q
theorem bD {p:Prop} (h:p:=by first|assumption|exact rfl):p:=h
theorem eD {p:Prop} (h:p:=by assumption):p:=h
theorem mX {p:Prop} (h:p:=by first|assumption|exact Hp.le_trans (by assumption) (by assumption)|exact Hp.le_trans (by assumption) (Hp.le_trans (by assumption) (by assumption))):p:=h
theorem aJc {p:Prop} (h:p:=by with_reducible first|exact List.Mem.head _|exact List.Mem.tail _ (List.Mem.head _)|exact List.Mem.tail _ (List.Mem.tail _ (List.Mem.head _))|exact List.Mem.tail _ (List.Mem.tail _ (List.Mem.tail _ (List.Mem.head _)))|exact List.Mem.tail _ (List.Mem.tail _ (List.Mem.tail _ (List.Mem.tail _ (List.Mem.head _))))|exact List.Mem.tail _ (List.Mem.tail _ (List.Mem.tail _ (List.Mem.tail _ (List.Mem.tail _ (List.Mem.head _)))))|exact List.Mem.tail _ (List.Mem.tail _ (List.Mem.tail _ (List.Mem.tail _ (List.Mem.tail _ (List.Mem.tail _ (List.Mem.head _))))))|exact List.Mem.tail _ (List.Mem.tail _ (List.Mem.tail _ (List.Mem.tail _ (List.Mem.tail _ (List.Mem.tail _ (List.Mem.tail _ (List.Mem.head _)))))))|exact List.Mem.tail _ (List.Mem.tail _ (List.Mem.tail _ (List.Mem.tail _ (List.Mem.tail _ (List.Mem.tail _ (List.Mem.tail _ (List.Mem.tail _ (List.Mem.head _))))))))|exact List.Mem.tail _ (List.Mem.tail _ (List.Mem.tail _ (List.Mem.tail _ (List.Mem.tail _ (List.Mem.tail _ (List.Mem.tail _ (List.Mem.tail _ (List.Mem.tail _ (List.Mem.head _)))))))))):p:=h
theorem aGD {γ:Type} {l:List γ} {a:γ} (h:a∈l):∃ i:Nat,l[i]?=some a:=by
 obtain ⟨i,hi,e⟩:=List.mem_iff_getElem.1 h
 exact ⟨i,by rw [List.getElem?_eq_getElem hi,e]⟩
section
variable {P:Program} {f:Nat->Value} {w:World} {d:Nat} {x y z:Operand} {ty:TypeId} {pos:String} {af:Array Go.Edge} {G:Env} {K:Hp} {L:List gV} {α:Type} {iα:El α}
structure EX (P:Program) (f:Nat->Value) (o:Op) (v:Value) (d:Nat) (ty:TypeId) (pos:String) (af:Array Go.Edge) (w:World):Prop where
 h:(execOp (ev f) ⟨some d,o,ty,pos,af,none⟩).run P w=.ok (.value v) w
theorem V_move {v:Value} (hx:ev f x=v):EX P f (.move x) v d ty pos af w:=⟨cC hx⟩
theorem V_assign {v:Value} (hx:ev f x=v):EX P f (.assign x) v d ty pos af w:=⟨sW hx⟩
theorem V_moveC {v:Value}:EX P f (.move (.const v)) v d ty pos af w:=⟨cC rfl⟩
theorem V_assignC {v:Value}:EX P f (.assign (.const v)) v d ty pos af w:=⟨sW rfl⟩
theorem V_moveF {k:FuncId}:EX P f (.move (.func k)) (.func (.func k) #[] #[]) d ty pos af w:=⟨cC rfl⟩
theorem V_assignF {k:FuncId}:EX P f (.assign (.func k)) (.func (.func k) #[] #[]) d ty pos af w:=⟨sW rfl⟩
theorem V_not {b:Bool} {T:TypeId} (hx:ev f x=.bool b):EX P f (.unOp .not T x) (.bool (!b)) d ty pos af w:=⟨aHw hx⟩
theorem V_nilP {ad:Addr} (hx:ev f x=.pointer (some ad)):EX P f (.nilCheck x) (.pointer (some ad)) d ty pos af w:=⟨qD hx⟩
theorem V_extract {vs:Array Value} {i:Nat} {v:Value} (hx:ev f x=.tuple vs) (hv:vs[i]?=some v):EX P f (.extract x i) v d ty pos af w:=⟨cN hx hv⟩
theorem V_lenS {T E:TypeId} {sz:Nat} {a:Option Addr} {len cap:Nat} (hT:SLT P T E sz) (hx:ev f x=.slice a len cap):EX P f (.call ⟨.builtin .len,#[x],#[T]⟩) (i64 len) d ty pos af w:=⟨mV hT hx⟩
theorem V_add {a b:Int} {T U:TypeId} (hx:ev f x=i64 a) (hy:ev f y=i64 b):EX P f (.binOp .add T x y U) (i64 (wr (a+b))) d ty pos af w:=⟨uW hx hy⟩
theorem V_sub {a b:Int} {T U:TypeId} (hx:ev f x=i64 a) (hy:ev f y=i64 b):EX P f (.binOp .sub T x y U) (i64 (wr (a - b))) d ty pos af w:=⟨R_sub hx hy⟩
theorem V_mul {a b:Int} {T U:TypeId} (hx:ev f x=i64 a) (hy:ev f y=i64 b):EX P f (.binOp .mul T x y U) (i64 (wr (a * b))) d ty pos af w:=⟨R_mul hx hy⟩
theorem V_lss {k:IntKind} {a b:Int} {T U:TypeId} (hx:ev f x=.int k a) (hy:ev f y=.int k b):EX P f (.binOp .lss T x y U) (.bool (decide (a < b))) d ty pos af w:=⟨wZ hx hy⟩
theorem V_leq {k:IntKind} {a b:Int} {T U:TypeId} (hx:ev f x=.int k a) (hy:ev f y=.int k b):EX P f (.binOp .leq T x y U) (.bool (decide (a<=b))) d ty pos af w:=⟨R_leq hx hy⟩
theorem V_gtr {k:IntKind} {a b:Int} {T U:TypeId} (hx:ev f x=.int k a) (hy:ev f y=.int k b):EX P f (.binOp .gtr T x y U) (.bool (decide (b < a))) d ty pos af w:=⟨aOs hx hy⟩
theorem V_geq {k:IntKind} {a b:Int} {T U:TypeId} (hx:ev f x=.int k a) (hy:ev f y=.int k b):EX P f (.binOp .geq T x y U) (.bool (decide (b<=a))) d ty pos af w:=⟨R_geq hx hy⟩
theorem V_eql {k:IntKind} {a b:Int} {T U:TypeId} (hx:ev f x=.int k a) (hy:ev f y=.int k b):EX P f (.binOp .eql T x y U) (.bool (a == b)) d ty pos af w:=⟨aMg hx hy⟩
theorem V_neq {k:IntKind} {a b:Int} {T U:TypeId} (hx:ev f x=.int k a) (hy:ev f y=.int k b):EX P f (.binOp .neq T x y U) (.bool (a != b)) d ty pos af w:=⟨R_neq hx hy⟩
theorem V_eqlS {a b:aH} {T U:TypeId} (hx:ev f x=str a) (hy:ev f y=str b):EX P f (.binOp .eql T x y U) (.bool (a == b)) d ty pos af w:=⟨R_eqlS hx hy⟩
theorem V_neqS {a b:aH} {T U:TypeId} (hx:ev f x=str a) (hy:ev f y=str b):EX P f (.binOp .neq T x y U) (.bool (!(a == b))) d ty pos af w:=⟨R_neqS hx hy⟩
theorem V_lssS {a b:aH} {T U:TypeId} (hx:ev f x=str a) (hy:ev f y=str b):EX P f (.binOp .lss T x y U) (.bool (wY a b)) d ty pos af w:=⟨R_lssS hx hy⟩
theorem V_leqS {a b:aH} {T U:TypeId} (hx:ev f x=str a) (hy:ev f y=str b):EX P f (.binOp .leq T x y U) (.bool (wY a b||a == b)) d ty pos af w:=⟨R_leqS hx hy⟩
theorem V_gtrS {a b:aH} {T U:TypeId} (hx:ev f x=str a) (hy:ev f y=str b):EX P f (.binOp .gtr T x y U) (.bool (!(wY a b||a == b))) d ty pos af w:=⟨R_gtrS hx hy⟩
theorem V_geqS {a b:aH} {T U:TypeId} (hx:ev f x=str a) (hy:ev f y=str b):EX P f (.binOp .geq T x y U) (.bool (!wY a b)) d ty pos af w:=⟨R_geqS hx hy⟩
theorem V_nilE {a:Option Addr} {k kk:Nat} {cs:List Value} (hx:ev f x=bR a kk) (hc:bZ K a k cs):
  EX P f (.nilCheck x) ((bR a kk)) d ty pos af w:=⟨aGy hx hc⟩
theorem V_fldE {S:TypeId} {a:Option Addr} {i o k k0:Nat} {cs:List Value} (hx:ev f x=bR a k) (hc:bZ K a k0 cs) (hF:FA P S i o):
  EX P f (.fieldAddr S x i) ((bR a (k+o))) d ty pos af w:=⟨aDf hF hx hc rfl⟩
theorem V_fldP {S:TypeId} {b i o t:Nat} (hx:ev f x=.pointer (some ⟨b,t,none⟩)) (hF:FA P S i o):
  EX P f (.fieldAddr S x i) ((.pointer (some ⟨b,t+o,none⟩))) d ty pos af w:=⟨cE hF hx rfl⟩
theorem V_ixE {T E:TypeId} {sz:Nat} {a:Option Addr} {len cap:Nat} {xs:List α} {j:Int} {e:α} (hx:ev f x=.slice a len cap) (hy:ev f y=i64 j) (hr:aN K a cap xs) (hj:ix xs j=some e) (hl:len=xs.length) (hT:SLT P T E sz) (hz:El.sz α=sz):
  EX P f (.indexAddr T x y) ((bR a (j.toNat * sz))) d ty pos af w:=⟨aHe hT hz hr hx hl hy hj⟩
theorem V_ixO {T E E':TypeId} {sz:Nat} {a:Option Addr} {len cap:Nat} {xs:List α} {j:Int} {e:α} {Ke:Hp} (hx:ev f x=.slice a len cap) (hy:ev f y=i64 j) (hs:aD G K L w) (hi:List.Mem (aF E' Ke a cap xs) L) (hj:ix xs j=some e) (hl:len=xs.length) (hT:SLT P T E sz) (hz:El.sz α=sz):
  EX P f (.indexAddr T x y) ((bR a (j.toNat * sz))) d ty pos af w:=by
 obtain ⟨i,hi⟩:=aGD hi
 exact ⟨R_ixO hT hz hs hi hx hl hy hj⟩
theorem aKY {T:TypeId} {a:Option Addr} {k t:Nat} {cs:List Value} {v:Value} (hx:ev f x=bR a (k+t)) (hc:bZ K a k cs) (hs:aD G K L w) (hv:cs[t]?=some v) (hT:SC P T):
  EX P f (.load T x) (v) d ty pos af w:=⟨dQ hT hs hc hx hv⟩
theorem aHF {T:TypeId} {a:Option Addr} {k t m:Nat} {cs vs:List Value} (hx:ev f x=bR a (k+t)) (hc:bZ K a k cs) (hs:aD G K L w) (hT:AG P T m) (hv:(cs.drop t).take m=vs) (hm:vs.length=m):
  EX P f (.load T x) ((.agg vs.toArray)) d ty pos af w:=⟨sX hT hs hc hx hv hm⟩
theorem V_ldB {T E:TypeId} {b t:Nat} {vs:List Value} {v:Value} (hx:ev f x=.pointer (some ⟨b,t,none⟩)) (hs:aD G K L w) (hi:List.Mem (box b E vs) L) (hv:vs[t]?=some v) (hT:SC P T):
  EX P f (.load T x) (v) d ty pos af w:=by
 obtain ⟨i,hi⟩:=aGD hi
 exact ⟨hY hT hs hi hx hv⟩
inductive DT:List Value->Nat->Nat->List Value->Prop
 |nil {l:List Value}:DT l 0 0 []
 |take {x:Value} {l us:List Value} {m:Nat} (h:DT l 0 m us):DT (x::l) 0 (m+1) (x::us)
 |drop {x:Value} {l us:List Value} {t m:Nat} (h:DT l t m us):DT (x::l) (t+1) m us
theorem DT.eq {l us:List Value} {t m:Nat} (h:DT l t m us):(l.drop t).take m=us/\us.length=m:=by
 induction h with
 |nil=>simp
 |take _ ih=>obtain ⟨h1,h2⟩:=ih;simp at h1;simp [h1,h2]
 |drop _ ih=>simpa using ih
theorem st_D {p:Prop} (h:p:=by repeat (first|exact DT.nil|apply DT.take|apply DT.drop)):p:=h
theorem V_ldBG {T E:TypeId} {b t m:Nat} {vs us:List Value} (hx:ev f x=.pointer (some ⟨b,t,none⟩)) (hs:aD G K L w) (hi:List.Mem (box b E vs) L) (hT:AG P T m) (hv:DT vs t m us):
  EX P f (.load T x) ((.agg us.toArray)) d ty pos af w:=by
 obtain ⟨i,hi⟩:=aGD hi
 exact ⟨kH hT hs hi hx hv.eq.1 hv.eq.2⟩
theorem V_rvG {n t b m:Nat} {T E:TypeId} {vs:List Value} (hp:f t=.pointer (some ⟨b,0,none⟩)) (hs:aD G K L w) (hi:List.Mem (box b E vs) L) (hT:AG P T m) (hm:vs.length=m) (ht:Nat.blt t n=true):aJy P n f w (.cell t T) (.agg vs.toArray):=by
 obtain ⟨i,hi⟩:=aGD hi
 exact aBm ht hT hs hi hp hm
theorem V_rvB {n t b:Nat} {T E:TypeId} {v:Value} (hp:f t=.pointer (some ⟨b,0,none⟩)) (hs:aD G K L w) (hi:List.Mem (box b E [v]) L) (hT:SC P T) (ht:Nat.blt t n=true):aJy P n f w (.cell t T) v:=by
 obtain ⟨i,hi⟩:=aGD hi
 exact rv_cell ht hT hs hi hp
theorem V_nilO {E:TypeId} {Ke:Hp} {kk:Nat} {a:Option Addr} {cap:Nat} {xs:List α} {j:Int} {e:α} (hx:ev f x=bR a kk) (hs:aD G K L w) (hi:List.Mem (aF E Ke a cap xs) L) (hj:ix xs j=some e):
  EX P f (.nilCheck x) ((bR a kk)) d ty pos af w:=by
 obtain ⟨i,hi⟩:=aGD hi
 exact ⟨R_nilO hs hi hj hx⟩
theorem V_fldO {S E:TypeId} {Ke:Hp} {q o k:Nat} {a:Option Addr} {cap:Nat} {xs:List α} {j:Int} {e:α} (hx:ev f x=bR a k) (hs:aD G K L w) (hi:List.Mem (aF E Ke a cap xs) L) (hj:ix xs j=some e) (hF:FA P S q o):
  EX P f (.fieldAddr S x q) ((bR a (k+o))) d ty pos af w:=by
 obtain ⟨i,hi⟩:=aGD hi
 exact ⟨R_fldO hF hs hi hj hx rfl⟩
theorem aKZ {T:TypeId} {a:Option Addr} {k t:Nat} {cs:List Value} {v:Value} (hs:aD G K L w) (hc:bZ K a k cs) (hx:ev f x=bR a (k+t)) (hv:cs[t]?=some v) (hT:SC P T):
  EX P f (.load T x) v d ty pos af w:=dQ hT hs hc hx hv |> EX.mk
theorem aPC {T:TypeId} {a:Option Addr} {k t m:Nat} {cs vs:List Value} (hs:aD G K L w) (hc:bZ K a k cs) (hx:ev f x=bR a (k+t)) (hT:AG P T m) (hv:(cs.drop t).take m=vs) (hm:vs.length=m):
  EX P f (.load T x) (.agg vs.toArray) d ty pos af w:=sX hT hs hc hx hv hm |> EX.mk
theorem V_ldO {β:Type} {iβ:dT β} {T E:TypeId} {Ke:Hp} {kk t:Nat} {a:Option Addr} {cap:Nat} {xs:List β} {j:Int} {e:β} {v:Value} (hx:ev f x=bR a kk) (hs:aD G K L w) (hi:List.Mem (aF E Ke a cap xs) L) (hj:ix xs j=some e) (hkk:kk=j.toNat * dT.sz β+t) (hv:(dT.enc e)[t]?=some v) (hT:SC P T):
  EX P f (.load T x) v d ty pos af w:=by
 obtain ⟨i,hi⟩:=aGD hi
 exact ⟨aCN hT hs hi hj hx hkk hv⟩
theorem V_ldOG {β:Type} {iβ:dT β} {T E:TypeId} {Ke:Hp} {kk t m:Nat} {a:Option Addr} {cap:Nat} {xs:List β} {j:Int} {e:β} {vs:List Value} (hx:ev f x=bR a kk) (hs:aD G K L w) (hi:List.Mem (aF E Ke a cap xs) L) (hj:ix xs j=some e) (hkk:kk=j.toNat * dT.sz β+t) (hT:AG P T m) (hv:((dT.enc e).drop t).take m=vs) (hm:vs.length=m):
  EX P f (.load T x) (.agg vs.toArray) d ty pos af w:=by
 obtain ⟨i,hi⟩:=aGD hi
 exact ⟨aPr hT hs hi hj hx hkk hv hm⟩
theorem aLa {T:TypeId} {K':Hp} {a:Option Addr} {k t:Nat} {cs:List Value} {v:Value} (hx:ev f x=bR a (k+t)) (hc:bZ K' a k cs) (hs:aD G K L w) (hK:K'.le K) (hv:cs[t]?=some v) (hT:SC P T):
  EX P f (.load T x) v d ty pos af w:=⟨dQ hT hs (hc.mono hK) hx hv⟩
theorem aPD {T:TypeId} {K':Hp} {a:Option Addr} {k t m:Nat} {cs vs:List Value} (hx:ev f x=bR a (k+t)) (hc:bZ K' a k cs) (hs:aD G K L w) (hK:K'.le K) (hT:AG P T m) (hv:(cs.drop t).take m=vs) (hm:vs.length=m):
  EX P f (.load T x) (.agg vs.toArray) d ty pos af w:=⟨sX hT hs (hc.mono hK) hx hv hm⟩
theorem V_pickT {b:Bool} {v:Value} (hx:ev f x=.bool b) (hb:b=true) (hv:ev f y=v):
  EX P f (.pick x y z) (v) d ty pos af w:=⟨aCM hb hx hv⟩
theorem V_pickF {b:Bool} {v:Value} (hx:ev f x=.bool b) (hb:¬ b=true) (hv:ev f z=v):
  EX P f (.pick x y z) (v) d ty pos af w:=⟨aEc hb hx hv⟩
theorem V_lenStr {T:TypeId} {s:aH} (hT:∀ w,(underlying T).run P w=.ok .string w) (hx:ev f x=str s):EX P f (.call ⟨.builtin .len,#[x],#[T]⟩) ((i64 s.length)) d ty pos af w:=⟨aEe hT hx⟩
theorem V_ixS {T:TypeId} {s:aH} {j:Int} {c:UInt8} (hT:∀ w,(underlying T).run P w=.ok .string w) (hx:ev f x=str s) (hy:ev f y=i64 j) (hj:ix s j=some c):EX P f (.index T x y) ((u8 c)) d ty pos af w:=⟨R_ixS hT hx hy hj⟩
theorem V_conv64 {S T:TypeId} {k:IntKind} {a:Int} (hT:∀ w,(underlying T).run P w=.ok (.int .i64) w) (hx:ev f x=.int k a) (hS:∃ d,∀ w,(underlying S).run P w=.ok d w):EX P f (.convert S T x) ((.int .i64 (wr a))) d ty pos af w:=⟨aJw hT hx hS⟩
theorem V_convu64 {S T:TypeId} {k:IntKind} {a:Int} (hT:∀ w,(underlying T).run P w=.ok (.int .u64) w) (hx:ev f x=.int k a) (hS:∃ d,∀ w,(underlying S).run P w=.ok d w):EX P f (.convert S T x) ((.int .u64 (rY a))) d ty pos af w:=⟨aFQ hT hx hS⟩
theorem V_u8sub' {a b:UInt8} {T U:TypeId} (hx:ev f x=.int .u8 (a.toNat:Int)) (hy:ev f y=.int .u8 (b.toNat:Int)):EX P f (.binOp .sub T x y U) ((.int .u8 ((a - b).toNat:Int))) d ty pos af w:=⟨aQJ hx hy⟩
theorem V_neg {a:Int} {T:TypeId} (hx:ev f x=i64 a):EX P f (.unOp .neg T x) ((i64 (wr (0 - a)))) d ty pos af w:=⟨R_neg hx⟩
theorem V_rem {a b c:Int} {T U:TypeId} (hx:ev f x=i64 a) (hy:ev f y=i64 b) (hc:rm a b=some c):EX P f (.binOp .rem T x y U) ((i64 c)) d ty pos af w:=⟨R_rem hx hy hc⟩
theorem V_cat {a b c:aH} {T U:TypeId} (hx:ev f x=str a) (hy:ev f y=str b) (hc:cat a b=some c):EX P f (.binOp .add T x y U) ((str c)) d ty pos af w:=⟨R_cat hx hy hc⟩
theorem V_eqlB {a b:Bool} {T U:TypeId} (hT:∀ w,(underlying T).run P w=.ok .bool w) (hx:ev f x=.bool a) (hy:ev f y=.bool b):EX P f (.binOp .eql T x y U) ((.bool (a == b))) d ty pos af w:=⟨R_eqlB hT hx hy⟩
theorem V_neqB {a b:Bool} {T U:TypeId} (hT:∀ w,(underlying T).run P w=.ok .bool w) (hx:ev f x=.bool a) (hy:ev f y=.bool b):EX P f (.binOp .neq T x y U) ((.bool (a != b))) d ty pos af w:=⟨R_neqB hT hx hy⟩
theorem V_u64add {a b:Int} {T U:TypeId} (hx:ev f x=.int .u64 a) (hy:ev f y=.int .u64 b):EX P f (.binOp .add T x y U) ((.int .u64 (rY (a+b)))) d ty pos af w:=⟨R_u64add hx hy⟩
theorem V_u64mul {a b:Int} {T U:TypeId} (hx:ev f x=.int .u64 a) (hy:ev f y=.int .u64 b):EX P f (.binOp .mul T x y U) ((.int .u64 (rY (a * b)))) d ty pos af w:=⟨R_u64mul hx hy⟩
theorem V_shrU {a b c:Int} {yk:IntKind} {T U:TypeId} (hx:ev f x=.int .u64 a) (hy:ev f y=.int yk b) (hc:shU a b=some c):EX P f (.binOp .shr T x y U) ((.int .u64 c)) d ty pos af w:=⟨R_shrU hx hy hc⟩
theorem V_andU {a b:Int} {T U:TypeId} (hx:ev f x=.int .u64 a) (hy:ev f y=.int .u64 b):EX P f (.binOp .and T x y U) ((.int .u64 (anU a b))) d ty pos af w:=⟨R_andU hx hy⟩
theorem V_slSLH {s r:aH} {lo hi:Int} {T:TypeId} (hT:∀ w,(underlying T).run P w=.ok .string w) (hx:ev f x=str s) (hl:ev f y=i64 lo) (hh:ev f z=i64 hi) (hr:qT s lo hi=some r):EX P f (.slice T x (some y) (some z) none) ((str r)) d ty pos af w:=⟨R_slSLH hT hx hl hh hr⟩
theorem V_slSL {s r:aH} {lo:Int} {T:TypeId} (hT:∀ w,(underlying T).run P w=.ok .string w) (hx:ev f x=str s) (hl:ev f y=i64 lo) (hr:qT s lo (s.length:Int)=some r):EX P f (.slice T x (some y) none none) ((str r)) d ty pos af w:=⟨R_slSL hT hx hl hr⟩
theorem V_slSH {s r:aH} {hi:Int} {T:TypeId} (hT:∀ w,(underlying T).run P w=.ok .string w) (hx:ev f x=str s) (hh:ev f z=i64 hi) (hr:qT s 0 hi=some r):EX P f (.slice T x none (some z) none) ((str r)) d ty pos af w:=⟨R_slSH hT hx hh hr⟩
theorem V_isNil {T E:TypeId} {sz:Nat} {U:TypeId} {a:Option Addr} {n c:Nat} (hT:SLT P T E sz) (hx:ev f x=.slice a n c) (hy:ev f y=.slice none 0 0):EX P f (.binOp .eql T x y U) ((.bool a.isNone)) d ty pos af w:=⟨aLK hT hx hy⟩
theorem V_build {T:TypeId} {places:List (Nat × Nat)} {zs cs:List Value} {ps:Array (Nat × Operand)} {vs:List (Nat × Value)} (hB:BS P T places zs)
  (hp:ps.toList.map (fun p=>(p.1,ev f p.2))=vs) (hf:Instr.fill (fun i=>places[i]?) zs.toArray vs=some cs.toArray):EX P f (.build T ps) ((.agg cs.toArray)) d ty pos af w:=⟨jZ hB hp hf⟩
theorem aSD {fn:Fn} {xs:Array Operand} {vs:List Value} (hv:xs.toList.map (ev f)=vs):EX P f (.makeFunc fn #[] xs) ((.func fn #[] vs.toArray)) d ty pos af w:=⟨kI hv⟩
end
section
variable {P:Program} {n:Nat} {ops:Array Oper} {Q:uG} {f:Nat->Value} {w:World} {ty:TypeId} {pos:String} {af:Array Go.Edge} {rest:List Oper} {C:World->Prop} {R:(Nat->Value)->Prop}
theorem VO {v:Value} {d:Nat} {op:Op} (hr:EX P f op v d ty pos af w) (h:WO P n ops rest Q (upd f d v) w):WO P n ops (⟨some d,op,ty,pos,af,none⟩::rest) Q f w:=aL hr.h h
theorem VQ {v:Value} {d:Nat} {op:Op} (hr:∀ w,C w->EX P f op v d ty pos af w) (h:WQ P n ops C rest R (upd f d v)):WQ P n ops C (⟨some d,op,ty,pos,af,none⟩::rest) R f:=jN (fun w hw=>(hr w hw).h) h
theorem V_onT {j g:Nat} {op:Op} {dst:Option Tmp} {b:Bool} (hd:(ops[j]?).bind (·.dst)=some g) (hx:f g=.bool b) (hb:b=true) (h:WO P n ops (⟨dst,op,ty,pos,af,none⟩::rest) Q f w):WO P n ops (⟨dst,op,ty,pos,af,some (j,true)⟩::rest) Q f w:=aJs hb hd hx h
theorem V_onF {j g:Nat} {op:Op} {dst:Option Tmp} {b:Bool} (hd:(ops[j]?).bind (·.dst)=some g) (hx:f g=.bool b) (hb:¬ b=true) (h:WO P n ops (⟨dst,op,ty,pos,af,none⟩::rest) Q f w):WO P n ops (⟨dst,op,ty,pos,af,some (j,false)⟩::rest) Q f w:=kG hb hd hx h
theorem V_offF {j g:Nat} {op:Op} {dst:Option Tmp} {b:Bool} (hd:(ops[j]?).bind (·.dst)=some g) (hx:f g=.bool b) (hb:¬ b=true) (h:WO P n ops rest Q (aFO f dst undef) w):WO P n ops (⟨dst,op,ty,pos,af,some (j,true)⟩::rest) Q f w:=WO_off_f hb hd hx h
theorem V_offT {j g:Nat} {op:Op} {dst:Option Tmp} {b:Bool} (hd:(ops[j]?).bind (·.dst)=some g) (hx:f g=.bool b) (hb:b=true) (h:WO P n ops rest Q (aFO f dst undef) w):WO P n ops (⟨dst,op,ty,pos,af,some (j,false)⟩::rest) Q f w:=jM hb hd hx h
theorem Q_onT {j g:Nat} {op:Op} {dst:Option Tmp} {b:Bool} (hd:(ops[j]?).bind (·.dst)=some g) (hx:f g=.bool b) (hb:b=true) (h:WQ P n ops C (⟨dst,op,ty,pos,af,none⟩::rest) R f):WQ P n ops C (⟨dst,op,ty,pos,af,some (j,true)⟩::rest) R f:=WQ_on hd hx hb h
theorem Q_onF {j g:Nat} {op:Op} {dst:Option Tmp} {b:Bool} (hd:(ops[j]?).bind (·.dst)=some g) (hx:f g=.bool b) (hb:¬ b=true) (h:WQ P n ops C (⟨dst,op,ty,pos,af,none⟩::rest) R f):WQ P n ops C (⟨dst,op,ty,pos,af,some (j,false)⟩::rest) R f:=WQ_on hd hx (by simpa using hb) h
theorem Q_offF {j g:Nat} {op:Op} {dst:Option Tmp} {b:Bool} (hd:(ops[j]?).bind (·.dst)=some g) (hx:f g=.bool b) (hb:¬ b=true) (h:WQ P n ops C rest R (aFO f dst undef)):WQ P n ops C (⟨dst,op,ty,pos,af,some (j,true)⟩::rest) R f:=WQ_off hd hx (by cases b<;>simp_all) h
theorem Q_offT {j g:Nat} {op:Op} {dst:Option Tmp} {b:Bool} (hd:(ops[j]?).bind (·.dst)=some g) (hx:f g=.bool b) (hb:b=true) (h:WQ P n ops C rest R (aFO f dst undef)):WQ P n ops C (⟨dst,op,ty,pos,af,some (j,false)⟩::rest) R f:=WQ_off hd hx (by cases b<;>simp_all) h
theorem aPE {c:Operand} {x y:Code} {b:Bool} (hc:ev f c=.bool b) (hb:b=true) (h:W P n x Q f w):W P n (.cond c x y) Q f w:=cP hb hc h
theorem aPF {c:Operand} {x y:Code} {b:Bool} (hc:ev f c=.bool b) (hb:¬ b=true) (h:W P n y Q f w):W P n (.cond c x y) Q f w:=bM hb hc h
end
section
variable {P:Program} {n:Nat} {ops:Array Oper} {Q:uG} {f:Nat->Value} {w:World} {ty:TypeId} {pos:String} {af:Array Go.Edge} {rest:List Oper} {C:World->Prop} {R:(Nat->Value)->World->Prop} {os:List Oper} {l:List (Nat × Nat)} {d:Nat} {op:Op} {v:Value}
theorem V_WE {i:Nat} (hi:aDg os i=some ⟨some d,op,ty,pos,af,none⟩) (hr:∀ w,C w->EX P f op v d ty pos af w) (h:WE P n os.toArray C l R (upd f d v) w):WE P n os.toArray C ((i,0)::l) R f w:=bN hi (fun w hw=>(hr w hw).h) h
theorem V_WT {i:Nat} (hi:aDg os i=some ⟨some d,op,ty,pos,af,none⟩) (hr:∀ w,EX P f op v d ty pos af w) (h:WE P n os.toArray C l R (upd f d v) w):WE P n os.toArray C ((i,3)::l) R f w:=WE_t hi (fun w=>(hr w).h) h
theorem V_WA {bs:List Nat} {m:Nat} {listed:Array Bool} {i:Nat} (hi:aDg os i=some ⟨some d,op,ty,pos,af,none⟩) (hB:aMn os.toArray bs listed i=true) (hC:C w) (hr:∀ w,C w->EX P f op v d ty pos af w) (h:WA P n os.toArray C bs R m (listed.setIfInBounds i true) (upd f d v) w):WA P n os.toArray C bs R (m+1) listed f w:=wE hi hB hC (fun w hw=>(hr w hw).h) h
theorem V_L {T:TypeId} {x:Operand} (h:EX P f (.load T x) v d ty pos af w):EX P f (.load T x) v d ty pos af w:=h
theorem V_B {o:BinOp} {T U:TypeId} {x y:Operand} (h:EX P f (.binOp o T x y U) v d ty pos af w):EX P f (.binOp o T x y U) v d ty pos af w:=h
theorem cG {k:FuncId} {xs:Array Operand} {ats:Array TypeId} {vs:List Value} {Φ:Value->World->Prop} (hk:CE P k) (hc:Calls P k vs.toArray w (dS Φ)) (h:∀ v w',Φ v w'->WO P n ops rest Q (upd f d v) w') (hv:xs.toList.map (ev f)=vs:=by exact rfl):
  WO P n ops (⟨some d,.call ⟨.value (.func k),xs,ats⟩,ty,pos,af,none⟩::rest) Q f w:=cI hk hv hc h
theorem cH {k:FuncId} {fn:Func} {c:Code} {args:List Value} {Φ:Value->World->Prop} (hf:P.funcs[k]?=some fn) (h:W P fn.ntmps c (retQ P fn Φ) (initF args) w) (hb:fn.body=some c:=by exact rfl) (hok:okc fn.ntmps c=true:=by kernel_rfl) (hl:Nat.ble args.length fn.ntmps=true:=by exact rfl):Calls P k args.toArray w (dS Φ):=nT hf hb hok (Nat.le_of_ble_eq_true hl) h
theorem st_E {fn:Func} {Φ:Value->World->Prop} {t:Nat} (hr:fn.results=#[.tmp t]) (h:Φ (f t) w) (ht:Nat.blt t fn.ntmps=true:=by exact rfl):W P fn.ntmps .ret (retQ P fn Φ) f w:=aFP (retQ_1 hr ht h)
end
theorem ft_:¬ (false=true):=by decide
theorem zH {p:Prop} (h:p:=by first|assumption|exact rfl|exact ft_):p:=h
inductive Rep:List gV->gV->(gV->List gV)->Prop
 |head {x:gV} {l:List gV}:Rep (x::l) x (fun y=>y::l)
 |tail {z x:gV} {l:List gV} {C:gV->List gV} (h:Rep l x C):Rep (z::l) x (fun y=>z::C y)
theorem Rep.ix {L:List gV} {x:gV} {C:gV->List gV} (h:Rep L x C):∃ i:Nat,L[i]?=some x/\∀ y,L.set i y=C y:=by
 induction h with
 |head=>exact ⟨0,rfl,fun _=>rfl⟩
 |tail h ih=>obtain ⟨i,h1,h2⟩:=ih;exact ⟨i+1,h1,fun y=>by rw [List.set_cons_succ,h2]⟩
theorem st_M {p:Prop} (h:p:=by with_reducible first|exact Rep.head|exact Rep.tail Rep.head|exact Rep.tail (Rep.tail Rep.head)|exact Rep.tail (Rep.tail (Rep.tail Rep.head))|exact Rep.tail (Rep.tail (Rep.tail (Rep.tail Rep.head)))|exact Rep.tail (Rep.tail (Rep.tail (Rep.tail (Rep.tail Rep.head))))|exact Rep.tail (Rep.tail (Rep.tail (Rep.tail (Rep.tail (Rep.tail Rep.head)))))|exact Rep.tail (Rep.tail (Rep.tail (Rep.tail (Rep.tail (Rep.tail (Rep.tail Rep.head))))))|exact Rep.tail (Rep.tail (Rep.tail (Rep.tail (Rep.tail (Rep.tail (Rep.tail (Rep.tail Rep.head)))))))|exact Rep.tail (Rep.tail (Rep.tail (Rep.tail (Rep.tail (Rep.tail (Rep.tail (Rep.tail (Rep.tail Rep.head))))))))|exact Rep.tail (Rep.tail (Rep.tail (Rep.tail (Rep.tail (Rep.tail (Rep.tail (Rep.tail (Rep.tail (Rep.tail Rep.head)))))))))|exact Rep.tail (Rep.tail (Rep.tail (Rep.tail (Rep.tail (Rep.tail (Rep.tail (Rep.tail (Rep.tail (Rep.tail (Rep.tail Rep.head))))))))))|exact Rep.tail (Rep.tail (Rep.tail (Rep.tail (Rep.tail (Rep.tail (Rep.tail (Rep.tail (Rep.tail (Rep.tail (Rep.tail (Rep.tail Rep.head)))))))))))|exact Rep.tail (Rep.tail (Rep.tail (Rep.tail (Rep.tail (Rep.tail (Rep.tail (Rep.tail (Rep.tail (Rep.tail (Rep.tail (Rep.tail (Rep.tail Rep.head))))))))))))):p:=h
inductive SetV:List Value->Nat->Value->List Value->Prop
 |zero {x v:Value} {l:List Value}:SetV (x::l) 0 v (v::l)
 |succ {x v:Value} {l m:List Value} {t:Nat} (h:SetV l t v m):SetV (x::l) (t+1) v (x::m)
theorem SetV.eq {l m:List Value} {t:Nat} {v:Value} (h:SetV l t v m):l.take t++[v]++l.drop (t+1)=m/\t+1<=l.length:=by
 induction h with
 |zero=>exact ⟨rfl,by simp⟩
 |succ h ih=>exact ⟨by simpa using ih.1,by simpa using ih.2⟩
inductive StR:Value->List Value->Nat->List Value->Nat->Prop
 |one {v:Value} {vs us:List Value} {t:Nat} (h:SetV vs t v us) (hv:v.cells=#[v]) (h1:v.oneCell'=true):StR v vs t us 1
 |all {v:Value} {vs us:List Value} {m:Nat} (hv:v.cells=us.toArray) (hm:us.length=m) (hl:vs.length=m) (h1:us.all (fun u=>u.oneCell')=true):StR v vs 0 us m
theorem st_U {p:Prop} (h:p:=by first|exact StR.one (by (repeat (first|exact SetV.zero|apply SetV.succ));first|done|fail) rfl rfl|exact StR.all rfl rfl rfl rfl):p:=h
section
variable {P:Program} {n:Nat} {ops:Array Oper} {rest:List Oper} {Q:uG} {f:Nat->Value} {w:World} {d:Nat} {x y:Operand} {ty:TypeId} {pos:String} {af:Array Go.Edge} {G:Env} {K:Hp} {L:List gV} {C:gV->List gV}
theorem kZ {T E:TypeId} {b t m:Nat} {vs us:List Value} {v:Value} (h:∀ w',aD G K (C (box b E us)) w'->WO P n ops rest Q f w') (hx:ev f x=.pointer (some ⟨b,t,none⟩):=by exact bD) (hs:aD G K L w:=by assumption) (hr:Rep L (box b E vs) C:=by exact st_M) (hy:ev f y=v:=by exact bD) (hT:∀ w,(Go.sizeOf T).run P w=.ok m w:=by exact st_z) (hu:StR v vs t us m:=by exact st_U):WO P n ops (⟨none,.store T x y,ty,pos,af,none⟩::rest) Q f w:=by
 obtain ⟨i,h1,h2⟩:=hr.ix
 cases hu with
 |one g1 g2 g3=>exact iS hT hs h1 hx hy g2 rfl (by simpa using g3) (by simpa using g1.eq.2) g1.eq.1 fun w' q=>h w' (h2 _ ▸ q)
 |all g1 g2 g3 g4=>exact iS hT hs h1 hx hy g1 g2 (by simpa using g4) (by simp [g3]) (by simp [g3]) fun w' q=>h w' (h2 _ ▸ q)
def ZA (P:Program) (T:TypeId) (vs:List Value):Prop:=∃ v,ZV P T v/\v.cells=vs.toArray
theorem kK {T:TypeId} {vs:List Value} (h:∀ b w',aD G K (box b T vs::L) w'->WO P n ops rest Q (upd f d (.pointer (some ⟨b,0,none⟩))) w') (hz:ZA P T vs:=by exact st_y) (hs:aD G K L w:=by assumption):WO P n ops (⟨some d,.alloc T,ty,pos,af,none⟩::rest) Q f w:=by
 obtain ⟨v,h1,h2⟩:=hz
 exact fG h1 hs h2 h
theorem oZ {T:TypeId} {v:Value} {vs:List Value} (h:∀ b w',aD G K (box b T vs::L) w'->WO P n ops rest Q (upd f d (.pointer (some ⟨b,0,none⟩))) w') (hx:ev f x=v:=by exact bD) (hv:v.cells=vs.toArray:=by exact rfl) (hs:aD G K L w:=by assumption):WO P n ops (⟨some d,.box T x,ty,pos,af,none⟩::rest) Q f w:=aEd hs hx hv h
theorem els_pod {α:Type} [dT α] {K:Hp}:∀ {xs:List α},els K (xs.flatMap dT.enc) xs
 |[]=>trivial
 |x::xs=>by
  have e:(dT.enc x).length=El.sz α:=dT.len x
  have e1:((x::xs).flatMap dT.enc).take (El.sz α)=dT.enc x:=by rw [List.flatMap_cons,←e,List.take_left'];rfl
  have e2:((x::xs).flatMap dT.enc).drop (El.sz α)=xs.flatMap dT.enc:=by rw [List.flatMap_cons,←e,List.drop_left'];rfl
  refine ⟨?_,?_⟩
  ·rw [e1];exact rfl
  ·rw [e2];exact els_pod
theorem aQW {α:Type} [dT α]:∀ {xs:List α},(xs.flatMap dT.enc).length=xs.length * dT.sz α
 |[]=>by simp
 |x::xs=>by rw [List.flatMap_cons,List.length_append,dT.len,aQW,List.length_cons,Nat.succ_mul,Nat.add_comm]
theorem nW {α:Type} {iα:dT α} {T E:TypeId} {sz len:Nat} {zs:List Value} {ps:Array (Nat × Operand)} (xs:List α) (h:∀ a w',aD G K (aF E K a len xs::L) w'->WO P n ops rest Q (upd f d (.slice a len len)) w') (hT:SLT P T E sz:=by exact st_S) (hE:EZ P E zs:=by exact st_e) (hsz:dT.sz α=sz:=by exact rfl) (hzs:zs.length=sz:=by exact rfl) (hs:aD G K L w:=by assumption) (hlen:xs.length=len:=by exact rfl)
  (hf:Instr.fill (fun i=>some (i * sz,sz)) ((Array.range (len * sz)).map ((if len * sz=0 then #[] else zs.toArray)[· % (if len * sz=0 then #[] else zs.toArray).size]!)) (ps.toList.map (fun p=>(p.1,ev f p.2)))=some (xs.flatMap dT.enc).toArray:=by first|exact rfl|kernel_rfl) (hbig:Nat.ble (len * sz) 16777216=true:=by exact rfl):
  WO P n ops (⟨some d,.buildSlice T len ps,ty,pos,af,none⟩::rest) Q f w:=
 iG hT hE hsz hzs hs rfl hf hlen (by rw [aQW,hlen,hsz]) hbig els_pod h
end
section
variable {P:Program} {n:Nat} {ops:Array Oper} {rest:List Oper} {Q:uG} {f:Nat->Value} {w:World} {d:Nat} {x y:Operand} {ty:TypeId} {pos:String} {af:Array Go.Edge} {G:Env} {K:Hp} {L:List gV} {C:gV->List gV} {α:Type}
theorem aIw {iα:dT α} {T E E2:TypeId} {sz:Nat} {zs:List Value} {a a2:Option Addr} {cap c2 l1 l2:Nat} {xs ys zz:List α} {Ke K2:Hp} (h:∀ a' cap' w',aD G K (C (aF E K a' cap' zz)) w'->WO P n ops rest Q (upd f d (.slice a' zz.length cap')) w') (hT:SLT P T E sz:=by exact st_S) (hU:P.underlying T=some (.slice E):=by exact st_u) (hE:EZ P E zs:=by exact st_e) (hx:ev f x=.slice a l1 cap:=by exact bD) (hy:ev f y=.slice a2 l2 c2:=by exact bD)
  (hs:aD G K (aF E2 K2 a2 c2 ys::L) w:=by assumption) (hr:Rep L (aF E Ke a cap xs) C:=by exact st_M) (hm:rZ xs ys=some zz:=by assumption) (hsz:dT.sz α=sz:=by exact rfl) (hzs:zs.length=sz:=by exact rfl) (hl1:l1=xs.length:=by exact rfl) (hl2:l2=ys.length:=by exact rfl):
  WO P n ops (⟨some d,.call ⟨.builtin .append,#[x,y],#[T,T]⟩,ty,pos,af,none⟩::rest) Q f w:=by
 obtain ⟨i,h1,h2⟩:=hr.ix
 have hs:aD G K (aF E2 K a2 c2 ys::L) w:=hs
 have h1:L[i]?=some (aF E K a cap xs):=h1
 exact aBl hT hU hE hsz hzs hs h1 (Hp.le_refl _) (Hp.le_refl _) hm hx hl1 hy hl2 (fun _ h=>h) fun a' c' w' q=>h a' c' w' (h2 _ ▸ q)
end
inductive Sub:List gV->List gV->Prop
 |refl {l:List gV}:Sub l l
 |pick {l m k:List gV} {x:gV} (h:Pck l x m) (g:Sub m k):Sub l (x::k)
 |drop {l m:List gV} {x:gV} (g:Sub l m):Sub (x::l) m
 |nilS {α:Type} {iα:El α} {E:TypeId} {Ke:Hp} {l k:List gV} (g:Sub l k):Sub l (aF E Ke none 0 ([]:List α)::k)
theorem Sub.sat {L M:List gV} (s:Sub L M):∀ {h:Hp},gW L h->gW M h:=by
 induction s with
 |refl=>exact fun a=>a
 |pick p _ ih=>
  intro h a
  obtain ⟨i,h1,rfl⟩:=p.ix
  obtain ⟨g1,g2,b1,b2,b3,b4,b5⟩:=a.pick h1
  exact ⟨g1,g2,b1,b2,b3,b4,ih b5⟩
 |drop _ ih=>
  intro h a
  obtain ⟨g1,g2,_,_,_,b4,b5⟩:=a
  exact (ih b5).le b4
 |nilS _ ih=>
  intro h a
  have e1:Hp.dj (fun _=>none) h:=fun _=>Or.inl rfl
  have e2:Hp.le (fun _=>none) h:=fun _ _ e=>by cases e
  exact ⟨fun _=>none,h,aF.nil _ _ _,e1,e2,Hp.le_refl _,ih a⟩
theorem st_N {p:Prop} (h:p:=by (repeat (first|with_reducible exact Sub.refl|(apply Sub.pick (by with_reducible first|exact Pck.head|exact Pck.tail Pck.head|exact Pck.tail (Pck.tail Pck.head)|exact Pck.tail (Pck.tail (Pck.tail Pck.head))|exact Pck.tail (Pck.tail (Pck.tail (Pck.tail Pck.head)))|exact Pck.tail (Pck.tail (Pck.tail (Pck.tail (Pck.tail Pck.head))))|exact Pck.tail (Pck.tail (Pck.tail (Pck.tail (Pck.tail (Pck.tail Pck.head)))))|exact Pck.tail (Pck.tail (Pck.tail (Pck.tail (Pck.tail (Pck.tail (Pck.tail Pck.head))))))|exact Pck.tail (Pck.tail (Pck.tail (Pck.tail (Pck.tail (Pck.tail (Pck.tail (Pck.tail Pck.head)))))))|exact Pck.tail (Pck.tail (Pck.tail (Pck.tail (Pck.tail (Pck.tail (Pck.tail (Pck.tail (Pck.tail Pck.head))))))))|exact Pck.tail (Pck.tail (Pck.tail (Pck.tail (Pck.tail (Pck.tail (Pck.tail (Pck.tail (Pck.tail (Pck.tail Pck.head)))))))))|exact Pck.tail (Pck.tail (Pck.tail (Pck.tail (Pck.tail (Pck.tail (Pck.tail (Pck.tail (Pck.tail (Pck.tail (Pck.tail Pck.head))))))))))|exact Pck.tail (Pck.tail (Pck.tail (Pck.tail (Pck.tail (Pck.tail (Pck.tail (Pck.tail (Pck.tail (Pck.tail (Pck.tail (Pck.tail Pck.head)))))))))))|exact Pck.tail (Pck.tail (Pck.tail (Pck.tail (Pck.tail (Pck.tail (Pck.tail (Pck.tail (Pck.tail (Pck.tail (Pck.tail (Pck.tail (Pck.tail Pck.head))))))))))))))|(apply Sub.pick (by first|exact Pck.head|exact Pck.tail Pck.head|exact Pck.tail (Pck.tail Pck.head)|exact Pck.tail (Pck.tail (Pck.tail Pck.head))|exact Pck.tail (Pck.tail (Pck.tail (Pck.tail Pck.head)))|exact Pck.tail (Pck.tail (Pck.tail (Pck.tail (Pck.tail Pck.head))))))|apply Sub.nilS|apply Sub.drop));first|done|fail):p:=h
theorem lI {G:Env} {K K':Hp} {L M:List gV} {w:World} (hs:aD G K L w:=by assumption) (hk:K'.le K:=by first|exact Hp.le_refl _|exact mX) (hb:Sub L M:=by exact st_N):aD G K' M w:=
 have hs:=hs.weakK hk
 let ⟨e,h,gd,gl,d,k,l,r⟩:=hs;⟨e,h,gd,gl,d,k,l,hb.sat r⟩
section
variable {P:Program} {n:Nat} {Q:uG} {f:Nat->Value} {w:World} {G:Env} {K:Hp} {L:List gV}
theorem aEi {id:Nat} {l:List Oper} (h:WQ P n l.toArray (aD G K L) l (fun f=>∀ w',aD G K L w'->Q .normal f w') f) (hs:aD G K L w:=by assumption) (hB:Region.lexB .any l.toArray=true:=by kernel_rfl) (hm:P.follows .mixedOrders=true:=by exact Tryz_mixed):W P n (.region id l.toArray true) Q f w:=
 aKj hm hB (hs.mono (gD.drew _)) h
theorem wW {id:Nat} {os:List Oper} (l:List (Nat × Nat)) (h:∀ w',aD G K L w'->WE P n os.toArray (fun w'=>∃ L',aD G K L' w') l (fun f w=>Q .normal f w) f w') (hs:aD G K L w:=by assumption) (hB:(Region.noSelect os.toArray&&lastB .any os.toArray l&&ordB .any os.toArray l (Array.replicate os.toArray.size false)&&l.length == os.toArray.size)=true:=by kernel_rfl) (hm:P.follows .mixedOrders=true:=by exact Tryz_mixed):W P n (.region id os.toArray true) Q f w:=
 aCm l hm hB (fun _ g=>⟨_,hs.mono g⟩) fun _ g=>h _ (hs.mono g)
end
theorem aLb {α:Type} {a b:α} {p:Prop} (h:some a=some b) (k:a=b->p):p:=k (Option.some.inj h)
theorem st_no {α:Type} {a:α} {p:Prop} (h:none=some a):p:=nomatch h
theorem aDs {α:Type} {q:α->Prop} {p:Prop} (k:∀ x,q x->p) (h:∃ x,q x):p:=let ⟨x,h⟩:=h;k x h
theorem aDt {a b p:Prop} (k:a->b->p) (h:a/\b):p:=k h.1 h.2
section
variable {P:Program} {n:Nat} {ops:Array Oper} {rest:List Oper} {Q:uG} {f:Nat->Value} {w:World} {d:Nat} {x y:Operand} {ty:TypeId} {pos:String} {af:Array Go.Edge} {G:Env} {K:Hp} {L:List gV}
theorem st_ca {k:FuncId} {xs:Array Operand} {ats:Array TypeId} {vs:List Value} {Φ:Value->World->Prop} (hk:CE P k) (hc:Calls P k vs.toArray w (dS Φ)) (hv:xs.toList.map (ev f)=vs) (h:∀ v w',Φ v w'->WO P n ops rest Q (upd f d v) w'):
  WO P n ops (⟨some d,.call ⟨.value (.func k),xs,ats⟩,ty,pos,af,none⟩::rest) Q f w:=cI hk hv hc h
theorem st_cb {k:FuncId} {xs:Array Operand} {ats:Array TypeId} {vs:List Value} {Φ:Value->World->Prop} (hk:CE P k) (hc:Calls P k vs.toArray w (dS Φ)) (hv:xs.toList.map (ev f)=vs) (h:∀ v w',Φ v w'->WO P n ops rest Q f w'):
  WO P n ops (⟨none,.call ⟨.value (.func k),xs,ats⟩,ty,pos,af,none⟩::rest) Q f w:=WO_call0 hk hv hc h
theorem st_cq {C:World->Prop} {R:(Nat->Value)->Prop} {k:FuncId} {xs:Array Operand} {ats:Array TypeId} {vs:List Value} {v:Value} (hk:CE P k) (hc:∀ w,C w->Calls P k vs.toArray w (dS fun u w'=>u=v/\C w')) (hv:xs.toList.map (ev f)=vs) (h:WQ P n ops C rest R (upd f d v)):
  WQ P n ops C (⟨some d,.call ⟨.value (.func k),xs,ats⟩,ty,pos,af,none⟩::rest) R f:=aDG hk hv hc h
theorem st_i {α:Type} {iα:El α} {T E:TypeId} {sz:Nat} {a:Option Addr} {len cap:Nat} {xs:List α} {j:Int} {e:α} (hx:ev f x=.slice a len cap) (hy:ev f y=i64 j) (hr:aN K a cap xs) (hj:ix xs j=some e) (hl:len=xs.length) (hT:SLT P T E sz) (hz:El.sz α=sz)
  (h:∀ cs,bZ K a (j.toNat * sz) cs->El.rd K cs e->WO P n ops rest Q (upd f d (bR a (j.toNat * sz))) w):WO P n ops (⟨some d,.indexAddr T x y,ty,pos,af,none⟩::rest) Q f w:=
 let ⟨cs,h1,h2⟩:=aN.el hz hr hj
 aL (aHe hT hz hr hx hl hy hj) (h cs h1 h2)
theorem st_iQ {C:World->Prop} {R:(Nat->Value)->Prop} {α:Type} {iα:El α} {T E:TypeId} {sz:Nat} {a:Option Addr} {len cap:Nat} {xs:List α} {j:Int} {e:α} (hx:ev f x=.slice a len cap) (hy:ev f y=i64 j) (hr:aN K a cap xs) (hj:ix xs j=some e) (hl:len=xs.length) (hT:SLT P T E sz) (hz:El.sz α=sz)
  (h:∀ cs,bZ K a (j.toNat * sz) cs->El.rd K cs e->WQ P n ops C rest R (upd f d (bR a (j.toNat * sz)))):WQ P n ops C (⟨some d,.indexAddr T x y,ty,pos,af,none⟩::rest) R f:=
 let ⟨cs,h1,h2⟩:=aN.el hz hr hj
 jN (fun _ _=>aHe hT hz hr hx hl hy hj) (h cs h1 h2)
theorem st_iE {C:World->Prop} {R:(Nat->Value)->World->Prop} {os:List Oper} {l:List (Nat × Nat)} {i:Nat} {α:Type} {iα:El α} {T E:TypeId} {sz:Nat} {a:Option Addr} {len cap:Nat} {xs:List α} {j:Int} {e:α} (hi:aDg os i=some ⟨some d,.indexAddr T x y,ty,pos,af,none⟩) (hx:ev f x=.slice a len cap) (hy:ev f y=i64 j) (hr:aN K a cap xs) (hj:ix xs j=some e) (hl:len=xs.length) (hT:SLT P T E sz) (hz:El.sz α=sz)
  (h:∀ cs,bZ K a (j.toNat * sz) cs->El.rd K cs e->WE P n os.toArray C l R (upd f d (bR a (j.toNat * sz))) w):WE P n os.toArray C ((i,0)::l) R f w:=
 let ⟨cs,h1,h2⟩:=aN.el hz hr hj
 bN hi (fun _ _=>aHe hT hz hr hx hl hy hj) (h cs h1 h2)
theorem st_pd {α:Type} [dT α] {K:Hp} {cs:List Value} {e:α} (h:El.rd K cs e):cs=dT.enc e:=h
theorem st_ba {α:Type} {iα:dT α} {T E:TypeId} {sz len:Nat} {zs:List Value} {ps:Array (Nat × Operand)} {xs ys zz:List α} (hq:rZ ys xs=some zz) (h:∀ a w',aD G K (aF E K a len xs::L) w'->WO P n ops rest Q (upd f d (.slice a len len)) w') (hT:SLT P T E sz:=by exact st_S) (hE:EZ P E zs:=by exact st_e) (hsz:dT.sz α=sz:=by exact rfl) (hzs:zs.length=sz:=by exact rfl) (hs:aD G K L w:=by assumption) (hlen:xs.length=len:=by exact rfl)
  (hf:Instr.fill (fun i=>some (i * sz,sz)) ((Array.range (len * sz)).map ((if len * sz=0 then #[] else zs.toArray)[· % (if len * sz=0 then #[] else zs.toArray).size]!)) (ps.toList.map (fun p=>(p.1,ev f p.2)))=some (xs.flatMap dT.enc).toArray:=by first|exact rfl|kernel_rfl) (hbig:Nat.ble (len * sz) 16777216=true:=by exact rfl):
  WO P n ops (⟨some d,.buildSlice T len ps,ty,pos,af,none⟩::rest) Q f w:=nW xs h hT hE hsz hzs hs hlen hf hbig
end
theorem st_g0 {P:Program} {n:Nat} {c:Operand} {x y:Code} {Q:uG} {f:Nat->Value} {w:World} (h:W P n (.cond c x y) Q f w):W P n (.cond c x y) Q f w:=h
theorem st_g1 {P:Program} {n:Nat} {ops:Array Oper} {dst:Option Tmp} {op:Op} {ty:TypeId} {pos:String} {af:Array Go.Edge} {g:Nat × Bool} {rest:List Oper} {Q:uG} {f:Nat->Value} {w:World} (h:WO P n ops (⟨dst,op,ty,pos,af,some g⟩::rest) Q f w):WO P n ops (⟨dst,op,ty,pos,af,some g⟩::rest) Q f w:=h
theorem st_g2 {P:Program} {n:Nat} {ops:Array Oper} {dst:Option Tmp} {op:Op} {ty:TypeId} {pos:String} {af:Array Go.Edge} {g:Nat × Bool} {rest:List Oper} {C:World->Prop} {R:(Nat->Value)->Prop} {f:Nat->Value} (h:WQ P n ops C (⟨dst,op,ty,pos,af,some g⟩::rest) R f):WQ P n ops C (⟨dst,op,ty,pos,af,some g⟩::rest) R f:=h
theorem st_g3 {P:Program} {n:Nat} {ops:Array Oper} {dst:Option Tmp} {x y z:Operand} {ty:TypeId} {pos:String} {af:Array Go.Edge} {rest:List Oper} {Q:uG} {f:Nat->Value} {w:World} (h:WO P n ops (⟨dst,.pick x y z,ty,pos,af,none⟩::rest) Q f w):WO P n ops (⟨dst,.pick x y z,ty,pos,af,none⟩::rest) Q f w:=h
theorem st_g4 {P:Program} {n:Nat} {os:List Oper} {i q:Nat} {o:Oper} {g:Nat × Bool} {l:List (Nat × Nat)} {C:World->Prop} {R:(Nat->Value)->World->Prop} {f:Nat->Value} {w:World} (hi:(aDg os i).bind (·.guard)=some g) (h:WE P n os.toArray C ((i,q)::l) R f w):WE P n os.toArray C ((i,q)::l) R f w:=h
theorem st_we {P:Program} {n:Nat} {ops:Array Oper} {C:World->Prop} {l:List (Nat × Nat)} {R:(Nat->Value)->World->Prop} {f:Nat->Value} {w:World} {G:Env} {K:Hp} (h1:∃ L',aD G K L' w) (h2:WE P n ops C l R f w):(∃ L',aD G K L' w)/\WE P n ops C l R f w:=⟨h1,h2⟩
theorem st_cK {K K':Hp} {a:Option Addr} {k:Nat} {cs:List Value} (c:bZ K a k cs) (h:K.le K'):bZ K' a k cs:=c.mono h
theorem st_rK {α:Type} {iα:El α} {K K':Hp} {a:Option Addr} {cap:Nat} {xs:List α} (r:aN K a cap xs) (h:K.le K'):aN K' a cap xs:=r.mono h
section
variable {P:Program} {n:Nat} {ops:Array Oper} {rest:List Oper} {Q:uG} {f:Nat->Value} {w:World} {G:Env} {K:Hp} {L M:List gV}
theorem qV {α:Type} {iα:El α} {E:TypeId} {Ke:Hp} {a:Option Addr} {cap:Nat} {xs:List α} (hs:aD G K L w) (p:Pck L (aF E Ke a cap xs) M) (hK:Ke.le K) (h:∀ K',K.le K'->aN K' a cap xs->aD G K' M w->(∀ L' w',aD G K' L' w'->aD G K (aF E Ke a cap xs::L') w')->WO P n ops rest Q f w):WO P n ops rest Q f w:=by
 obtain ⟨K',h1,h2,h3,h4⟩:=aD.lendSp hs hK p
 exact h K' h1 h2 h3 h4
theorem qW {E:TypeId} {b:Nat} {vs:List Value} (hs:aD G K L w) (p:Pck L (box b E vs) M) (h:∀ K',K.le K'->bZ K' (some ⟨b,0,none⟩) 0 vs->aD G K' M w->(∀ L' w',aD G K' L' w'->aD G K (box b E vs::L') w')->WO P n ops rest Q f w):WO P n ops rest Q f w:=by
 obtain ⟨K',h1,h2,h3,h4⟩:=aD.lendBp hs p
 exact h K' h1 h2 h3 h4
theorem st_q2 {α:Type} {iα:dT α} {d:Nat} {x y:Operand} {ty:TypeId} {pos:String} {af:Array Go.Edge} {C:gV->List gV} {T E:TypeId} {sz:Nat} {zs:List Value} {a a2:Option Addr} {cap c2 l1 l2:Nat} {xs ys zz:List α} {Ke:Hp} (hx:ev f x=.slice a l1 cap) (hy:ev f y=.slice a2 l2 c2) (hr0:aN K a2 c2 ys) (hs:aD G K L w) (hr:Rep L (aF E Ke a cap xs) C) (hm:rZ xs ys=some zz) (hT:SLT P T E sz) (hU:P.underlying T=some (.slice E)) (hE:EZ P E zs) (hsz:dT.sz α=sz) (hzs:zs.length=sz) (hl1:l1=xs.length) (hl2:l2=ys.length)
  (h:∀ a' cap' w',aD G K (C (aF E K a' cap' zz)) w'->WO P n ops rest Q (upd f d (.slice a' zz.length cap')) w'):
  WO P n ops (⟨some d,.call ⟨.builtin .append,#[x,y],#[T,T]⟩,ty,pos,af,none⟩::rest) Q f w:=by
 obtain ⟨i,h1,h2⟩:=hr.ix
 have h1:L[i]?=some (aF E K a cap xs):=h1
 exact aGA hT hU hE hsz hzs hs h1 (Hp.le_refl _) hr0 hm hx hl1 hy hl2 fun a' c' w' q=>h a' c' w' (h2 _ ▸ q)
end
end Gv
