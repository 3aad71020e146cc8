/- Bound arguments; rows that are taken or put; maps that may be nil; ways out of loops over maps. No program in sight. -/
import Derived.Test.YtohbafhnoifmoaaGreatDoorMJYR
import Derived.Test.YtohbafhnoifmoaaGreatDoorMJLM
set_option linter.all false
namespace Gv
open Go
section
variable {P:Program} {n:Nat} {ops:Array Oper} {rest:List Oper} {Q:oT} {f:Nat->Value} {w:World}
variable {d:Nat} {x y z:Operand} {ty:TypeId} {pos:String} {af:Array Go.Edge}
variable {G:uA} {K:Hp} {L:List iU}
theorem R_shrU {a b c:Int} {yk:IntKind} {T U:TypeId} (hx:ev f x=.int .u64 a) (hy:ev f y=.int yk b) (hc:shU a b=some c):
  (execOp (ev f) ⟨some d,.binOp .shr T x y U,ty,pos,af,none⟩).run P w=.ok (.value (.int .u64 c)) w:=by
 unfold shU at hc
 split at hc
 ·rename_i h
  have hn:¬ b < 0:=by omega
  cases hc
  simp [execOp,hx,hy,eqGuard,binOp,Op.shift,hn,IntKind.bits]
 ·cases hc
theorem R_andU {a b:Int} {T U:TypeId} (hx:ev f x=.int .u64 a) (hy:ev f y=.int .u64 b):
  (execOp (ev f) ⟨some d,.binOp .and T x y U,ty,pos,af,none⟩).run P w=.ok (.value (.int .u64 (anU a b))) w:=by
 have e:(BitVec.ofInt 64 a&&& BitVec.ofInt 64 b).toNat=(a % 18446744073709551616).toNat&&& (b % 18446744073709551616).toNat:=by
  rw [BitVec.toNat_and];simp [BitVec.toNat_ofInt]
 simp [execOp,hx,hy,eqGuard,binOp,Op.intBits,anU,aEb,IntKind.bits]
 exact congrArg (fun n:Nat=>lE (n:Int)) e
end
section
variable {P:Program} {n:Nat} {ops:Array Oper} {rest:List Oper} {Q:oT} {f:Nat->Value} {w:World}
variable {d:Nat} {x y z:Operand} {ty:TypeId} {pos:String} {af:Array Go.Edge}
variable {G:uA} {K:Hp} {L:List iU} {α:Type} [Dp α] {tys:List TypeId} {hds:List (Dp.Hd α)} {xs zz:List α}
end
section
variable {G:uA} {K:Hp} {L:List iU} {w:World} {β:Type} [eP β] {tys:List TypeId} {hds:List (Dp.Hd (List β))} {xs:List (List β)}
end
section
variable {P:Program} {n:Nat} {ops:Array Oper} {rest:List Oper} {Q:oT} {f:Nat->Value} {w:World}
variable {d:Nat} {x y z:Operand} {ty:TypeId} {pos:String} {af:Array Go.Edge}
variable {G:uA} {K:Hp} {L:List iU} {α:Type} [Dp α] {tys:List TypeId} {hds:List (Dp.Hd α)} {xs r:List α}
end
section
variable {α:Type} [El α] {G:uA} {K:Hp} {L:List iU} {w:World}
theorem aJ.cutE {E:TypeId} {K:Hp} {a a':Option Addr} {cap c':Nat} {lo hi:Int} {xs r:List α} {g:Hp} (ho:aJ E K a cap xs g) (hc:slc xs lo hi=some r) (hx:Cut (El.sz α) a cap lo a' c'):aJ E K a' c' r g:=by
 obtain ⟨h0,h1,h2,rfl⟩:=aAU hc
 obtain ⟨rfl,rfl⟩:=hx
 obtain ⟨hcap,ho⟩:=ho
 have hlen:((xs.drop lo.toNat).take (hi.toNat - lo.toNat)).length=hi.toNat - lo.toNat:=by simp;omega
 refine ⟨by rw [hlen];omega,?_⟩
 rcases ho with ⟨rfl,rfl,rfl⟩|⟨ad,c,rs,rfl,sp,hb,hcs,hrl,hr,hel⟩
 ·left
  exact ⟨by simp,by simp,by simp⟩
 ·right
  by_cases he:cap=lo.toNat
  ·have hz:hi.toNat - lo.toNat=0:=by omega
   rw [if_pos he,hz]
   refine ⟨ad,c,[],rfl,sp,hb,?_,by simp,by simp,by simp⟩
   have:(cap - lo.toNat)=0:=by omega
   rw [this,Nat.zero_mul]
   have:=Nat.le_trans (Nat.le_add_right _ _) hcs
   omega
  ·rw [if_neg he]
   obtain ⟨b,o,s⟩:=ad
   simp only at sp hb hcs hr
   subst sp
   have hsz:lo.toNat * El.sz α+(hi.toNat - lo.toNat) * El.sz α<=xs.length * El.sz α:=by rw [←Nat.add_mul];exact Nat.mul_le_mul_right _ (by omega)
   refine ⟨⟨b,o+lo.toNat * El.sz α,none⟩,c,(rs.drop (lo.toNat * El.sz α)).take ((hi.toNat - lo.toNat) * El.sz α),by simp [iJ],rfl,hb,?_,?_,fun t v ht=>?_,fun i d hd=>?_⟩
   ·have:(lo.toNat+(cap - lo.toNat)) * El.sz α=cap * El.sz α:=by congr 1;omega
    rw [Nat.add_mul] at this
    simp only;omega
   ·rw [hlen,List.length_take,List.length_drop,hrl];omega
   ·have hlt:t < (hi.toNat - lo.toNat) * El.sz α:=by
     have:=(List.getElem?_eq_some_iff.1 ht).1
     simp only [List.length_take] at this;omega
    rw [List.getElem?_take_of_lt hlt,List.getElem?_drop] at ht
    have:=hr _ _ ht
    rw [←this];congr 1;simp only;omega
   ·have hi':i < hi.toNat - lo.toNat:=by have:=(List.getElem?_eq_some_iff.1 hd).1;rw [hlen] at this;exact this
    rw [List.getElem?_take_of_lt hi',List.getElem?_drop] at hd
    have h4:=hel _ _ hd
    have h5:i * El.sz α+El.sz α<=(hi.toNat - lo.toNat) * El.sz α:=by rw [←Nat.succ_mul];exact Nat.mul_le_mul_right _ hi'
    rw [List.drop_take,List.take_take,List.drop_drop,Nat.min_eq_left (by omega),←Nat.add_mul]
    exact h4
theorem own_capE {E:TypeId} {Ke:Hp} {i:Nat} {a:Option Addr} {cap:Nat} {xs:List α} (hs:aH G K L w) (hi:L[i]?=some (aJ E Ke a cap xs)):xs.length<=cap:=by
 obtain ⟨h1,hA,_⟩:=hs.entry hi
 exact hA.1
theorem aH.cutPE {E:TypeId} {Ke:Hp} {i:Nat} {a a':Option Addr} {cap c':Nat} {lo hi:Int} {xs r:List α} (hs:aH G K L w) (hi':L[i]?=some (aJ E Ke a cap xs)) (hc:slc xs lo hi=some r) (hx:Cut (El.sz α) a cap lo a' c'):aH G K (L.set i (aJ E Ke a' c' r)) w:=
 hs.weak hi' (fun _ h=>h.cutE hc hx)
end
section
variable {P:Program} {n:Nat} {ops:Array Oper} {rest:List Oper} {Q:oT} {f:Nat->Value} {w:World}
variable {d:Nat} {x y z:Operand} {ty:TypeId} {pos:String} {af:Array Go.Edge}
variable {β:Type} [eP β] {G:uA} {K:Hp} {L:List iU}
theorem WO_appV {T E:TypeId} {sz i:Nat} {zs:List Value} {a a1 a2:Option Addr} {cap c1 c2 l1 l2:Nat} {lo1 hi1 lo2 hi2:Int} {xs r1 r2 zz:List β} {Ke:Hp} (hT:SLT P T E sz) (hU:P.underlying T=some (.slice E)) (hE:EZ P E zs) (hsz:El.sz β=sz) (hzs:zs.length=sz)
  (hs:aH G K L w) (hi:L[i]?=some (aJ E Ke a cap xs)) (hc1:slc xs lo1 hi1=some r1) (hx1:Cut (eP.sz β) a cap lo1 a1 c1) (hc2:slc xs lo2 hi2=some r2) (hx2:Cut (eP.sz β) a cap lo2 a2 c2) (hm:kC r1 r2=some zz)
  (hx:ev f x=.slice a1 l1 c1) (hl1:l1=r1.length) (hy:ev f y=.slice a2 l2 c2) (hl2:l2=r2.length)
  (h:∀ a' cap' w',aH G K (L.set i (aJ E Ke a' cap' zz)) w'->WO P n ops rest Q (upd f d (.slice a' zz.length cap')) w'):
  WO P n ops (⟨some d,.call ⟨.builtin .append,#[x,y],#[T,T]⟩,ty,pos,af,none⟩::rest) Q f w:=by
 obtain ⟨hlim,rfl⟩:=aAT hm
 subst hl1;subst hl2
 have hil:i < L.length:=(List.getElem?_eq_some_iff.1 hi).1
 obtain ⟨K',hK',hr,hs',_⟩:=aH.lendS (aH.cutP hs hi hc2 hx2) (Ke:=K) (Hp.le_refl _) (show (L.set i (aJ E K a2 c2 r2))[i]?=some (aJ E K a2 c2 r2) by simp [hil])
 obtain ⟨ry,k1,k2,k3,k4⟩:=hr.rows r2.length (Nat.le_refl _)
 obtain ⟨a',cap',w',hr',hs2⟩:=yQ (ty:=ty) (Kt:=Ke) (Ke:=Ke) (a:=a1) (cap:=c1) (xs:=r1) (a2:=a2) (c2:=c2) (ys:=r2) (P:=P) (sz:=sz) (zs:=zs) hT hU hE hsz hzs (aH.cutP hs hi hc1 hx1) (i:=i) (by simp [hil]) (Hp.le_refl _) k1 k2 (fun hypos=>by
  have hrl:0 < ry.length:=by rw [k1];exact Nat.mul_pos hypos (El.pos (α:=β))
  obtain ⟨ad,c,E',fr,e,s,k,_⟩:=k3 0 _ (List.getElem?_eq_getElem hrl)
  refine ⟨ad,e,fun j u hj=>?_⟩
  obtain ⟨ad',c',E'',fr',e',s',k',hc'⟩:=k3 j u hj
  rw [e] at e';cases e'
  obtain ⟨ab,ao,as⟩:=ad
  simp only at s'
  subst s'
  rw [iJ]
  exact kE hs'.know k' hc') (fun i d hi hd=>k4 i d hi hd) hlim
 rw [List.set_set] at hs2
 refine uB rfl (w':=w') (v:=.slice a' (r1++r2).length cap') ?_ (h _ _ _ hs2)
 simp only [execOp,resolve,invoke,builtin,Sem.run_bind,Sem.run_pure,Result.andThen_ok,List.map_toArray,List.map_cons,List.map_nil,hx,hy,hr']
end
section
variable {κ ν:Type} [DecidableEq κ] [Vl κ] [Vl ν] {G:uA} {K:Hp} {L:List iU} {w:World}
end
section
variable {κ:Type}
end
end Gv
namespace Gv
open Go
structure Hd (q:Prop):Prop where
 k:q
theorem zO {p:Prop} (h:p:=by first|assumption|exact rfl):p:=h
theorem zV {p:Prop} (h:p:=by assumption):p:=h
theorem aPJ {p:Prop} (h:p:=by first|assumption|exact Hp.le_trans (by assumption) (by assumption)|exact Hp.le_trans (by assumption) (Hp.le_trans (by assumption) (by assumption))):p:=h
theorem aPL {p:Prop} (h:p:=by with_reducible first|exact List.Mem.head _|exact List.Mem.tail _ (List.Mem.head _)|exact List.Mem.tail _ (List.Mem.tail _ (List.Mem.head _))|exact List.Mem.tail _ (List.Mem.tail _ (List.Mem.tail _ (List.Mem.head _)))|exact List.Mem.tail _ (List.Mem.tail _ (List.Mem.tail _ (List.Mem.tail _ (List.Mem.head _))))|exact List.Mem.tail _ (List.Mem.tail _ (List.Mem.tail _ (List.Mem.tail _ (List.Mem.tail _ (List.Mem.head _)))))|exact List.Mem.tail _ (List.Mem.tail _ (List.Mem.tail _ (List.Mem.tail _ (List.Mem.tail _ (List.Mem.tail _ (List.Mem.head _))))))|exact List.Mem.tail _ (List.Mem.tail _ (List.Mem.tail _ (List.Mem.tail _ (List.Mem.tail _ (List.Mem.tail _ (List.Mem.tail _ (List.Mem.head _)))))))|exact List.Mem.tail _ (List.Mem.tail _ (List.Mem.tail _ (List.Mem.tail _ (List.Mem.tail _ (List.Mem.tail _ (List.Mem.tail _ (List.Mem.tail _ (List.Mem.head _))))))))|exact List.Mem.tail _ (List.Mem.tail _ (List.Mem.tail _ (List.Mem.tail _ (List.Mem.tail _ (List.Mem.tail _ (List.Mem.tail _ (List.Mem.tail _ (List.Mem.tail _ (List.Mem.head _)))))))))):p:=h
theorem aMe {γ:Type} {l:List γ} {a:γ} (h:a∈l):∃ i:Nat,l[i]?=some a:=by
 obtain ⟨i,hi,e⟩:=List.mem_iff_getElem.1 h
 exact ⟨i,by rw [List.getElem?_eq_getElem hi,e]⟩
section
variable {P:Program} {f:Nat->Value} {w:World} {d:Nat} {x y z:Operand} {ty:TypeId} {pos:String} {af:Array Go.Edge} {G:uA} {K:Hp} {L:List iU} {α:Type} {iα:El α}
structure EX (P:Program) (f:Nat->Value) (o:Op) (v:Value) (d:Nat) (ty:TypeId) (pos:String) (af:Array Go.Edge) (w:World):Prop where
 h:(execOp (ev f) ⟨some d,o,ty,pos,af,none⟩).run P w=.ok (.value v) w
theorem V_move {v:Value} (hx:ev f x=v):EX P f (.move x) v d ty pos af w:=⟨bB hx⟩
theorem V_assign {v:Value} (hx:ev f x=v):EX P f (.assign x) v d ty pos af w:=⟨dK hx⟩
theorem V_not {b:Bool} {T:TypeId} (hx:ev f x=.bool b):EX P f (.unOp .not T x) (.bool (!b)) d ty pos af w:=⟨dO hx⟩
theorem V_nilP {ad:Addr} (hx:ev f x=.pointer (some ad)):EX P f (.nilCheck x) (.pointer (some ad)) d ty pos af w:=⟨dU hx⟩
theorem V_extract {vs:Array Value} {i:Nat} {v:Value} (hx:ev f x=.tuple vs) (hv:vs[i]?=some v):EX P f (.extract x i) v d ty pos af w:=⟨bP hx hv⟩
theorem V_lenS {T E:TypeId} {sz:Nat} {a:Option Addr} {len cap:Nat} (hT:SLT P T E sz) (hx:ev f x=.slice a len cap):EX P f (.call ⟨.builtin .len,#[x],#[T]⟩) (i64 len) d ty pos af w:=⟨bU hT hx⟩
theorem V_add {a b:Int} {T U:TypeId} (hx:ev f x=i64 a) (hy:ev f y=i64 b):EX P f (.binOp .add T x y U) (i64 (wr (a+b))) d ty pos af w:=⟨cK hx hy⟩
theorem V_sub {a b:Int} {T U:TypeId} (hx:ev f x=i64 a) (hy:ev f y=i64 b):EX P f (.binOp .sub T x y U) (i64 (wr (a - b))) d ty pos af w:=⟨gR hx hy⟩
theorem V_mul {a b:Int} {T U:TypeId} (hx:ev f x=i64 a) (hy:ev f y=i64 b):EX P f (.binOp .mul T x y U) (i64 (wr (a * b))) d ty pos af w:=⟨wQ hx hy⟩
theorem V_lss {k:IntKind} {a b:Int} {T U:TypeId} (hx:ev f x=.int k a) (hy:ev f y=.int k b):EX P f (.binOp .lss T x y U) (.bool (decide (a < b))) d ty pos af w:=⟨cM hx hy⟩
theorem V_leq {k:IntKind} {a b:Int} {T U:TypeId} (hx:ev f x=.int k a) (hy:ev f y=.int k b):EX P f (.binOp .leq T x y U) (.bool (decide (a<=b))) d ty pos af w:=⟨aCa hx hy⟩
theorem V_gtr {k:IntKind} {a b:Int} {T U:TypeId} (hx:ev f x=.int k a) (hy:ev f y=.int k b):EX P f (.binOp .gtr T x y U) (.bool (decide (b < a))) d ty pos af w:=⟨iI hx hy⟩
theorem V_geq {k:IntKind} {a b:Int} {T U:TypeId} (hx:ev f x=.int k a) (hy:ev f y=.int k b):EX P f (.binOp .geq T x y U) (.bool (decide (b<=a))) d ty pos af w:=⟨tS hx hy⟩
theorem V_eql {k:IntKind} {a b:Int} {T U:TypeId} (hx:ev f x=.int k a) (hy:ev f y=.int k b):EX P f (.binOp .eql T x y U) (.bool (a == b)) d ty pos af w:=⟨eT hx hy⟩
theorem V_neq {k:IntKind} {a b:Int} {T U:TypeId} (hx:ev f x=.int k a) (hy:ev f y=.int k b):EX P f (.binOp .neq T x y U) (.bool (a != b)) d ty pos af w:=⟨kD hx hy⟩
theorem V_eqlS {a b:bD} {T U:TypeId} (hx:ev f x=str a) (hy:ev f y=str b):EX P f (.binOp .eql T x y U) (.bool (a == b)) d ty pos af w:=⟨rB hx hy⟩
theorem V_neqS {a b:bD} {T U:TypeId} (hx:ev f x=str a) (hy:ev f y=str b):EX P f (.binOp .neq T x y U) (.bool (!(a == b))) d ty pos af w:=⟨aEt hx hy⟩
theorem V_lssS {a b:bD} {T U:TypeId} (hx:ev f x=str a) (hy:ev f y=str b):EX P f (.binOp .lss T x y U) (.bool (ltB a b)) d ty pos af w:=⟨R_lssS hx hy⟩
theorem V_leqS {a b:bD} {T U:TypeId} (hx:ev f x=str a) (hy:ev f y=str b):EX P f (.binOp .leq T x y U) (.bool (ltB a b||a == b)) d ty pos af w:=⟨R_leqS hx hy⟩
theorem V_gtrS {a b:bD} {T U:TypeId} (hx:ev f x=str a) (hy:ev f y=str b):EX P f (.binOp .gtr T x y U) (.bool (!(ltB a b||a == b))) d ty pos af w:=⟨R_gtrS hx hy⟩
theorem V_geqS {a b:bD} {T U:TypeId} (hx:ev f x=str a) (hy:ev f y=str b):EX P f (.binOp .geq T x y U) (.bool (!ltB a b)) d ty pos af w:=⟨R_geqS hx hy⟩
theorem V_nilE {a:Option Addr} {k kk:Nat} {cs:List Value} (hx:ev f x=cL a kk) (hc:fJ K a k cs):
  EX P f (.nilCheck x) ((cL a kk)) d ty pos af w:=⟨cG hx hc⟩
theorem V_fldE {S:TypeId} {a:Option Addr} {i o k k0:Nat} {cs:List Value} (hx:ev f x=cL a k) (hc:fJ K a k0 cs) (hF:FA P S i o):
  EX P f (.fieldAddr S x i) ((cL a (k+o))) d ty pos af w:=⟨bO hF hx hc rfl⟩
theorem V_fldP {S:TypeId} {b i o t:Nat} (hx:ev f x=.pointer (some ⟨b,t,none⟩)) (hF:FA P S i o):
  EX P f (.fieldAddr S x i) ((.pointer (some ⟨b,t+o,none⟩))) d ty pos af w:=⟨bQ hF hx rfl⟩
theorem V_ixE {T E:TypeId} {sz:Nat} {a:Option Addr} {len cap:Nat} {xs:List α} {j:Int} {e:α} (hx:ev f x=.slice a len cap) (hy:ev f y=i64 j) (hr:cR K a cap xs) (hj:ix xs j=some e) (hl:len=xs.length) (hT:SLT P T E sz) (hz:El.sz α=sz):
  EX P f (.indexAddr T x y) ((cL a (j.toNat * sz))) d ty pos af w:=⟨cW hT hz hr hx hl hy hj⟩
theorem V_ixO {T E E':TypeId} {sz:Nat} {a:Option Addr} {len cap:Nat} {xs:List α} {j:Int} {e:α} {Ke:Hp} (hx:ev f x=.slice a len cap) (hy:ev f y=i64 j) (hs:aH G K L w) (hi:List.Mem (aJ E' Ke a cap xs) L) (hj:ix xs j=some e) (hl:len=xs.length) (hT:SLT P T E sz) (hz:El.sz α=sz):
  EX P f (.indexAddr T x y) ((cL a (j.toNat * sz))) d ty pos af w:=by
 obtain ⟨i,hi⟩:=aMe hi
 exact ⟨R_ixO hT hz hs hi hx hl hy hj⟩
theorem aNp {T:TypeId} {a:Option Addr} {k t:Nat} {cs:List Value} {v:Value} (hx:ev f x=cL a (k+t)) (hc:fJ K a k cs) (hs:aH G K L w) (hv:cs[t]?=some v) (hT:SC P T):
  EX P f (.load T x) (v) d ty pos af w:=⟨bE hT hs hc hx hv⟩
theorem aLb {T:TypeId} {a:Option Addr} {k t m:Nat} {cs vs:List Value} (hx:ev f x=cL a (k+t)) (hc:fJ K a k cs) (hs:aH G K L w) (hT:AG P T m) (hv:(cs.drop t).take m=vs) (hm:vs.length=m):
  EX P f (.load T x) ((.agg vs.toArray)) d ty pos af w:=⟨eU hT hs hc hx hv hm⟩
theorem V_ldB {T E:TypeId} {b t:Nat} {vs:List Value} {v:Value} (hx:ev f x=.pointer (some ⟨b,t,none⟩)) (hs:aH G K L w) (hi:List.Mem (box b E vs) L) (hv:vs[t]?=some v) (hT:SC P T):
  EX P f (.load T x) (v) d ty pos af w:=by
 obtain ⟨i,hi⟩:=aMe hi
 exact ⟨cV hT hs hi hx hv⟩
theorem V_ldBG {T E:TypeId} {b t m:Nat} {vs us:List Value} (hx:ev f x=.pointer (some ⟨b,t,none⟩)) (hs:aH G K L w) (hi:List.Mem (box b E vs) L) (hT:AG P T m) (hv:(vs.drop t).take m=us) (hm:us.length=m):
  EX P f (.load T x) ((.agg us.toArray)) d ty pos af w:=by
 obtain ⟨i,hi⟩:=aMe hi
 exact ⟨dN hT hs hi hx hv hm⟩
theorem V_nilO {E:TypeId} {Ke:Hp} {kk:Nat} {a:Option Addr} {cap:Nat} {xs:List α} {j:Int} {e:α} (hx:ev f x=cL a kk) (hs:aH G K L w) (hi:List.Mem (aJ E Ke a cap xs) L) (hj:ix xs j=some e):
  EX P f (.nilCheck x) ((cL a kk)) d ty pos af w:=by
 obtain ⟨i,hi⟩:=aMe hi
 exact ⟨R_nilO hs hi hj hx⟩
theorem V_fldO {S E:TypeId} {Ke:Hp} {q o k:Nat} {a:Option Addr} {cap:Nat} {xs:List α} {j:Int} {e:α} (hx:ev f x=cL a k) (hs:aH G K L w) (hi:List.Mem (aJ E Ke a cap xs) L) (hj:ix xs j=some e) (hF:FA P S q o):
  EX P f (.fieldAddr S x q) ((cL a (k+o))) d ty pos af w:=by
 obtain ⟨i,hi⟩:=aMe hi
 exact ⟨R_fldO hF hs hi hj hx rfl⟩
theorem aOa {T:TypeId} {a:Option Addr} {k t:Nat} {cs:List Value} {v:Value} (hs:aH G K L w) (hc:fJ K a k cs) (hx:ev f x=cL a (k+t)) (hv:cs[t]?=some v) (hT:SC P T):
  EX P f (.load T x) v d ty pos af w:=bE hT hs hc hx hv |> EX.mk
theorem aPQ {T:TypeId} {a:Option Addr} {k t m:Nat} {cs vs:List Value} (hs:aH G K L w) (hc:fJ K a k cs) (hx:ev f x=cL a (k+t)) (hT:AG P T m) (hv:(cs.drop t).take m=vs) (hm:vs.length=m):
  EX P f (.load T x) (.agg vs.toArray) d ty pos af w:=eU hT hs hc hx hv hm |> EX.mk
theorem V_ldO {β:Type} {iβ:eP β} {T E:TypeId} {Ke:Hp} {kk t:Nat} {a:Option Addr} {cap:Nat} {xs:List β} {j:Int} {e:β} {v:Value} (hx:ev f x=cL a kk) (hs:aH G K L w) (hi:List.Mem (aJ E Ke a cap xs) L) (hj:ix xs j=some e) (hkk:kk=j.toNat * eP.sz β+t) (hv:(eP.enc e)[t]?=some v) (hT:SC P T):
  EX P f (.load T x) v d ty pos af w:=by
 obtain ⟨i,hi⟩:=aMe hi
 exact ⟨eO hT hs hi hj hx hkk hv⟩
theorem V_ldOG {β:Type} {iβ:eP β} {T E:TypeId} {Ke:Hp} {kk t m:Nat} {a:Option Addr} {cap:Nat} {xs:List β} {j:Int} {e:β} {vs:List Value} (hx:ev f x=cL a kk) (hs:aH G K L w) (hi:List.Mem (aJ E Ke a cap xs) L) (hj:ix xs j=some e) (hkk:kk=j.toNat * eP.sz β+t) (hT:AG P T m) (hv:((eP.enc e).drop t).take m=vs) (hm:vs.length=m):
  EX P f (.load T x) (.agg vs.toArray) d ty pos af w:=by
 obtain ⟨i,hi⟩:=aMe hi
 exact ⟨wR hT hs hi hj hx hkk hv hm⟩
theorem aNs {T:TypeId} {K':Hp} {a:Option Addr} {k t:Nat} {cs:List Value} {v:Value} (hx:ev f x=cL a (k+t)) (hc:fJ K' a k cs) (hs:aH G K L w) (hK:K'.le K) (hv:cs[t]?=some v) (hT:SC P T):
  EX P f (.load T x) v d ty pos af w:=⟨bE hT hs (hc.mono hK) hx hv⟩
theorem aPK {T:TypeId} {K':Hp} {a:Option Addr} {k t m:Nat} {cs vs:List Value} (hx:ev f x=cL a (k+t)) (hc:fJ K' a k cs) (hs:aH G K L w) (hK:K'.le K) (hT:AG P T m) (hv:(cs.drop t).take m=vs) (hm:vs.length=m):
  EX P f (.load T x) (.agg vs.toArray) d ty pos af w:=⟨eU hT hs (hc.mono hK) hx hv hm⟩
theorem V_pickT {b:Bool} {v:Value} (hx:ev f x=.bool b) (hb:b=true) (hv:ev f y=v):
  EX P f (.pick x y z) (v) d ty pos af w:=⟨bH hb hx hv⟩
theorem V_pickF {b:Bool} {v:Value} (hx:ev f x=.bool b) (hb:¬ b=true) (hv:ev f z=v):
  EX P f (.pick x y z) (v) d ty pos af w:=⟨bJ hb hx hv⟩
end
section
variable {P:Program} {n:Nat} {ops:Array Oper} {Q:oT} {f:Nat->Value} {w:World} {ty:TypeId} {pos:String} {af:Array Go.Edge} {rest:List Oper} {C:World->Prop} {R:(Nat->Value)->Prop}
theorem VO {v:Value} {d:Nat} {op:Op} (hr:EX P f op v d ty pos af w) (h:WO P n ops rest Q (upd f d v) w):WO P n ops (⟨some d,op,ty,pos,af,none⟩::rest) Q f w:=aC hr.h h
theorem VQ {v:Value} {d:Nat} {op:Op} (hr:∀ w,C w->EX P f op v d ty pos af w) (h:WQ P n ops C rest R (upd f d v)):WQ P n ops C (⟨some d,op,ty,pos,af,none⟩::rest) R f:=aU (fun w hw=>(hr w hw).h) h
theorem V_onT {j g:Nat} {op:Op} {dst:Option Tmp} {b:Bool} (hd:(ops[j]?).bind (·.dst)=some g) (hx:f g=.bool b) (hb:b=true) (h:WO P n ops (⟨dst,op,ty,pos,af,none⟩::rest) Q f w):WO P n ops (⟨dst,op,ty,pos,af,some (j,true)⟩::rest) Q f w:=bG hb hd hx h
theorem V_onF {j g:Nat} {op:Op} {dst:Option Tmp} {b:Bool} (hd:(ops[j]?).bind (·.dst)=some g) (hx:f g=.bool b) (hb:¬ b=true) (h:WO P n ops (⟨dst,op,ty,pos,af,none⟩::rest) Q f w):WO P n ops (⟨dst,op,ty,pos,af,some (j,false)⟩::rest) Q f w:=bF hb hd hx h
theorem V_offF {j g:Nat} {op:Op} {dst:Option Tmp} {b:Bool} (hd:(ops[j]?).bind (·.dst)=some g) (hx:f g=.bool b) (hb:¬ b=true) (h:WO P n ops rest Q (aDv f dst undef) w):WO P n ops (⟨dst,op,ty,pos,af,some (j,true)⟩::rest) Q f w:=bA hb hd hx h
theorem V_offT {j g:Nat} {op:Op} {dst:Option Tmp} {b:Bool} (hd:(ops[j]?).bind (·.dst)=some g) (hx:f g=.bool b) (hb:b=true) (h:WO P n ops rest Q (aDv f dst undef) w):WO P n ops (⟨dst,op,ty,pos,af,some (j,false)⟩::rest) Q f w:=aT hb hd hx h
theorem Q_onT {j g:Nat} {op:Op} {dst:Option Tmp} {b:Bool} (hd:(ops[j]?).bind (·.dst)=some g) (hx:f g=.bool b) (hb:b=true) (h:WQ P n ops C (⟨dst,op,ty,pos,af,none⟩::rest) R f):WQ P n ops C (⟨dst,op,ty,pos,af,some (j,true)⟩::rest) R f:=bL hd hx hb h
theorem Q_onF {j g:Nat} {op:Op} {dst:Option Tmp} {b:Bool} (hd:(ops[j]?).bind (·.dst)=some g) (hx:f g=.bool b) (hb:¬ b=true) (h:WQ P n ops C (⟨dst,op,ty,pos,af,none⟩::rest) R f):WQ P n ops C (⟨dst,op,ty,pos,af,some (j,false)⟩::rest) R f:=bL hd hx (by simpa using hb) h
theorem Q_offF {j g:Nat} {op:Op} {dst:Option Tmp} {b:Bool} (hd:(ops[j]?).bind (·.dst)=some g) (hx:f g=.bool b) (hb:¬ b=true) (h:WQ P n ops C rest R (aDv f dst undef)):WQ P n ops C (⟨dst,op,ty,pos,af,some (j,true)⟩::rest) R f:=aQ hd hx (by cases b<;>simp_all) h
theorem Q_offT {j g:Nat} {op:Op} {dst:Option Tmp} {b:Bool} (hd:(ops[j]?).bind (·.dst)=some g) (hx:f g=.bool b) (hb:b=true) (h:WQ P n ops C rest R (aDv f dst undef)):WQ P n ops C (⟨dst,op,ty,pos,af,some (j,false)⟩::rest) R f:=aQ hd hx (by cases b<;>simp_all) h
theorem V_condT {c:Operand} {x y:Code} {b:Bool} (hc:ev f c=.bool b) (hb:b=true) (h:W P n x Q f w):W P n (.cond c x y) Q f w:=aL hb hc h
theorem V_condF {c:Operand} {x y:Code} {b:Bool} (hc:ev f c=.bool b) (hb:¬ b=true) (h:W P n y Q f w):W P n (.cond c x y) Q f w:=aI hb hc h
end
section
variable {P:Program} {n:Nat} {ops:Array Oper} {Q:oT} {f:Nat->Value} {w:World} {ty:TypeId} {pos:String} {af:Array Go.Edge} {rest:List Oper} {C:World->Prop} {R:(Nat->Value)->World->Prop} {os:List Oper} {l:List (Nat × Nat)} {d:Nat} {op:Op} {v:Value}
theorem V_WE {i:Nat} (hi:aBi os i=some ⟨some d,op,ty,pos,af,none⟩) (hr:∀ w,C w->EX P f op v d ty pos af w) (h:WE P n os.toArray C l R (upd f d v) w):WE P n os.toArray C ((i,0)::l) R f w:=bX hi (fun w hw=>(hr w hw).h) h
theorem V_WT {i:Nat} (hi:aBi os i=some ⟨some d,op,ty,pos,af,none⟩) (hr:∀ w,EX P f op v d ty pos af w) (h:WE P n os.toArray C l R (upd f d v) w):WE P n os.toArray C ((i,3)::l) R f w:=WE_t hi (fun w=>(hr w).h) h
theorem V_WA {bs:List Nat} {m:Nat} {listed:Array Bool} {i:Nat} (hi:aBi os i=some ⟨some d,op,ty,pos,af,none⟩) (hB:lookB os.toArray bs listed i=true) (hC:C w) (hr:∀ w,C w->EX P f op v d ty pos af w) (h:WA P n os.toArray C bs R m (listed.setIfInBounds i true) (upd f d v) w):WA P n os.toArray C bs R (m+1) listed f w:=cY hi hB hC (fun w hw=>(hr w hw).h) h
theorem V_L {T:TypeId} {x:Operand} (h:EX P f (.load T x) v d ty pos af w):EX P f (.load T x) v d ty pos af w:=h
theorem V_B {o:BinOp} {T U:TypeId} {x y:Operand} (h:EX P f (.binOp o T x y U) v d ty pos af w):EX P f (.binOp o T x y U) v d ty pos af w:=h
theorem zF {k:FuncId} {xs:Array Operand} {ats:Array TypeId} {vs:List Value} {Φ:Value->World->Prop} (hk:CE P k) (hc:Calls P k vs.toArray w (eN Φ)) (h:∀ v w',Φ v w'->WO P n ops rest Q (upd f d v) w') (hv:xs.toList.map (ev f)=vs:=by exact rfl):
  WO P n ops (⟨some d,.call ⟨.value (.func k),xs,ats⟩,ty,pos,af,none⟩::rest) Q f w:=aS hk hv hc h
theorem zH {k:FuncId} {fn:Func} {c:Code} {args:List Value} {Φ:Value->World->Prop} (hf:P.funcs[k]?=some fn) (h:W P fn.ntmps c (retQ P fn Φ) (initF args) w) (hb:fn.body=some c:=by exact rfl) (hok:okc fn.ntmps c=true:=by kernel_rfl) (hl:Nat.ble args.length fn.ntmps=true:=by exact rfl):Calls P k args.toArray w (eN Φ):=aV hf hb hok (Nat.le_of_ble_eq_true hl) h
theorem aIK {fn:Func} {Φ:Value->World->Prop} {t:Nat} (hr:fn.results=#[.tmp t]) (h:Φ (f t) w) (ht:Nat.blt t fn.ntmps=true:=by exact rfl):W P fn.ntmps .ret (retQ P fn Φ) f w:=bK (bM hr ht h)
end
theorem ft_:¬ (false=true):=by decide
theorem aLc {p:Prop} (h:p:=by first|assumption|exact rfl|exact ft_):p:=h
end Gv
