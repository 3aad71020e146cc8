/- Rules for the operations that read, write and make memory. No program in sight. -/
import Derived.Test.YthbfapccpmppoaaGreatDoorJC
set_option linter.all false
namespace Gv
open Go
theorem aAf (ad:Addr) (k:Nat):cE (some ad) k=.pointer (some ⟨ad.block,ad.off+k,none⟩):=rfl
theorem mM (b o n:Nat):(⟨b,o,none⟩:Addr).add n=⟨b,o+n,none⟩:=by unfold Addr.add;split<;>simp_all
section
variable {P:Program} {n:Nat} {ops:Array Oper} {rest:List Oper} {Q:lI} {f:Nat->Value} {w:World}
variable {d:Nat} {x y z:Operand} {ty:TypeId} {pos:String} {af:Array Edge}
variable {G:kH} {K:Hp} {L:List eW} {α:Type} [El α]
theorem dO {a:Option Addr} {k kk:Nat} {cs:List Value} (hx:ev f x=cE a kk) (hc:eR K a k cs):
  (execOp (ev f) ⟨some d,.nilCheck x,ty,pos,af,none⟩).run P w=.ok (.value (cE a kk)) w:=by
 obtain ⟨ad,_,_,_,rfl,_⟩:=hc
 exact (by simp [execOp,hx,cE])
theorem vK {ad:Addr} (hx:ev f x=.pointer (some ad)):
  (execOp (ev f) ⟨some d,.nilCheck x,ty,pos,af,none⟩).run P w=.ok (.value (.pointer (some ad))) w:=
 (by simp [execOp,hx])
theorem aCP {S:TypeId} {i o b t:Nat} (hF:FA P S i o):(Instr.fieldAt S (.pointer (some ⟨b,t,none⟩)) i).run P w=.ok (.pointer (some ⟨b,t+o,none⟩)) w:=by
 obtain ⟨fields,fd,m,h1,h2,h3,h4,rfl⟩:=hF
 have hm:m≠0:=by intro e;rw [e] at h4;simp [Nat.beq] at h4
 simp [Instr.fieldAt,h1,h2,Instr.sureAddr,fieldPlace,h3,hm,mM]
theorem cF {S:TypeId} {a:Option Addr} {i o k k' k0:Nat} {cs:List Value} (hF:FA P S i o) (hx:ev f x=cE a k) (hc:eR K a k0 cs) (hk:k+o=k'):
  (execOp (ev f) ⟨some d,.fieldAddr S x i,ty,pos,af,none⟩).run P w=.ok (.value (cE a k')) w:=by
 obtain ⟨ad,_,_,_,rfl,_⟩:=hc
 subst hk
 simp only [execOp,hx,aAf,Sem.run_bind,aCP hF]
 simp [Nat.add_assoc]
theorem bH {S:TypeId} {b i o t t':Nat} (hF:FA P S i o) (hx:ev f x=.pointer (some ⟨b,t,none⟩)) (hk:t+o=t'):
  (execOp (ev f) ⟨some d,.fieldAddr S x i,ty,pos,af,none⟩).run P w=.ok (.value (.pointer (some ⟨b,t',none⟩))) w:=by
 subst hk
 simp only [execOp,hx,Sem.run_bind,aCP hF]
 simp
theorem aCQ {T E:TypeId} {sz:Nat} {ad:Addr} {len cap:Nat} {j:Int} (hT:SLT P T E sz) (hs:ad.spot=none) (h0:0<=j) (hl:j.toNat < len):
  (Instr.indexAt T (.slice (some ad) len cap) (i64 j)).run P w=.ok (.pointer (some ⟨ad.block,ad.off+j.toNat * sz,none⟩)) w:=by
 obtain ⟨b,o,s⟩:=ad
 simp only at hs
 subst hs
 have hj:0<=j/\j < (len:Int):=⟨h0,by omega⟩
 simp [Instr.indexAt,i64,asIntOf,hT.un,hT.size,hj,mM]
theorem cR {T E:TypeId} {sz:Nat} {a:Option Addr} {len cap:Nat} {xs:List α} {j:Int} {e:α} (hT:SLT P T E sz) (hz:El.sz α=sz) (hr:aW K a cap xs)
  (hx:ev f x=.slice a len cap) (hl:len=xs.length) (hy:ev f y=i64 j) (hj:ix xs j=some e):
  (execOp (ev f) ⟨some d,.indexAddr T x y,ty,pos,af,none⟩).run P w=.ok (.value (cE a (j.toNat * sz+0))) w:=by
 obtain ⟨h0,h1,h2⟩:=aAO hj
 obtain ⟨cs,⟨ad,c,E',fr,rfl,hs,_⟩,_⟩:=hr.cell _ _ h2
 subst hl
 simp [execOp,hx,hy,aCQ (w:=w) (cap:=cap) hT hs h0 h1,cE]
theorem R_ixO {T E E':TypeId} {sz i:Nat} {a:Option Addr} {len cap:Nat} {xs:List α} {j:Int} {e:α} {Ke:Hp} (hT:SLT P T E sz) (hz:El.sz α=sz) (hs:aF G K L w) (hi:L[i]?=some (aV E' Ke a cap xs))
  (hx:ev f x=.slice a len cap) (hl:len=xs.length) (hy:ev f y=i64 j) (hj:ix xs j=some e):
  (execOp (ev f) ⟨some d,.indexAddr T x y,ty,pos,af,none⟩).run P w=.ok (.value (cE a (j.toNat * sz+0))) w:=by
 obtain ⟨h0,h1,h2⟩:=aAO hj
 obtain ⟨h1',hA,_,_⟩:=hs.entry hi
 subst hl
 obtain ⟨_,hA⟩:=hA
 rcases hA with ⟨rfl,rfl,rfl⟩|⟨ad,c,rows,rfl,s,_⟩
 ·simp at h1
 ·
  simp [execOp,hx,hy,aCQ (w:=w) (cap:=cap) hT s h0 h1,cE]
theorem aW.el {a:Option Addr} {cap:Nat} {xs:List α} {j:Int} {e:α} {sz:Nat} (hz:El.sz α=sz) (hr:aW K a cap xs) (hj:ix xs j=some e):∃ cs,eR K a (j.toNat * sz) cs/\El.rd K cs e:=by
 obtain ⟨_,_,h2⟩:=aAO hj
 subst hz
 exact hr.cell _ _ h2
theorem eR.at {a:Option Addr} {k t:Nat} {cs:List Value} {v:Value} (hc:eR K a k cs) (hs:K.le (hp w)) (hv:cs[t]?=some v):∃ ad,a=some ad/\w.cell? ⟨ad.block,ad.off+(k+t),none⟩=some v:=by
 obtain ⟨ad,c,E,fr,rfl,_,hK,hcs⟩:=hc
 refine ⟨ad,rfl,qH hs hK ?_⟩
 rw [←Nat.add_assoc]
 exact hcs t v hv
theorem aBL {T:TypeId} {ad:Addr} {v:Value} (hT:SC P T) (hv:w.cell? ad=some v):(Instr.loadAt T (.pointer (some ad))).run P w=.ok v w:=by
 simp [Instr.loadAt,Instr.sureAddr,loadVar,hT.agg,hv]
theorem aFU {T:TypeId} {b o m:Nat} {vs:List Value} (hT:AG P T m) (hm:vs.length=m) (hv:∀ t v,vs[t]?=some v->w.cell? ⟨b,o+t,none⟩=some v):
  (Instr.loadAt T (.pointer (some ⟨b,o,none⟩))).run P w=.ok (.agg vs.toArray) w:=by
 have:=run_loadCells_list (P:=P) w ⟨b,o,none⟩ vs (fun j v h=>by rw [mM];exact hv j v h)
 rw [hm] at this
 simp [Instr.loadAt,Instr.sureAddr,loadVar,hT.agg,hT.size,this]
theorem bZ {T:TypeId} {a:Option Addr} {k t:Nat} {cs:List Value} {v:Value} (hT:SC P T) (hs:aF G K L w) (hc:eR K a k cs) (hx:ev f x=cE a (k+t)) (hv:cs[t]?=some v):
  (execOp (ev f) ⟨some d,.load T x,ty,pos,af,none⟩).run P w=.ok (.value v) w:=by
 obtain ⟨ad,rfl,hw⟩:=hc.at hs.know hv
 exact (by simp only [execOp,hx,aAf,Sem.run_bind,aBL hT hw];simp)
theorem eD {T:TypeId} {a:Option Addr} {k t m:Nat} {cs vs:List Value} (hT:AG P T m) (hs:aF G K L w) (hc:eR K a k cs) (hx:ev f x=cE a (k+t)) (hv:(cs.drop t).take m=vs) (hm:vs.length=m):
  (execOp (ev f) ⟨some d,.load T x,ty,pos,af,none⟩).run P w=.ok (.value (.agg vs.toArray)) w:=by
 obtain ⟨ad,c,E,fr,rfl,_,hK,hcs⟩:=hc
 have hr:(Instr.loadAt T (cE (some ad) (k+t))).run P w=.ok (.agg vs.toArray) w:=by
  rw [aAf]
  refine aFU hT hm (fun j v hj=>?_)
  refine qH hs.know hK ?_
  have:cs[t+j]?=some v:=by
   rw [←hv] at hj
   have hlt:j < m:=by
    have:=(List.getElem?_eq_some_iff.1 hj).1
    simp at this;omega
   rw [List.getElem?_take_of_lt hlt,List.getElem?_drop] at hj
   exact hj
  have:=hcs _ _ this
  rw [←this];congr 1;omega
 exact (by simp only [execOp,hx,Sem.run_bind,hr];simp)
theorem aIS {b t i:Nat} {E:TypeId} {vs:List Value} {v:Value} (hs:aF G K L w) (hi:L[i]?=some (box b E vs)) (hv:vs[t]?=some v):w.cell? ⟨b,t,none⟩=some v:=by
 obtain ⟨h1,hA,hle,_⟩:=hs.entry hi
 exact qH hle hA (by simpa using hv)
theorem dD {T E:TypeId} {b t i:Nat} {vs:List Value} {v:Value} (hT:SC P T) (hs:aF G K L w) (hi:L[i]?=some (box b E vs)) (hx:ev f x=.pointer (some ⟨b,t,none⟩)) (hv:vs[t]?=some v):
  (execOp (ev f) ⟨some d,.load T x,ty,pos,af,none⟩).run P w=.ok (.value v) w:=
 (by simp only [execOp,hx,Sem.run_bind,aBL hT (aIS hs hi hv)];simp)
theorem jL {T E:TypeId} {b t i m:Nat} {vs us:List Value} (hT:AG P T m) (hs:aF G K L w) (hi:L[i]?=some (box b E vs)) (hx:ev f x=.pointer (some ⟨b,t,none⟩)) (hv:(vs.drop t).take m=us) (hm:us.length=m):
  (execOp (ev f) ⟨some d,.load T x,ty,pos,af,none⟩).run P w=.ok (.value (.agg us.toArray)) w:=by
 have hr:(Instr.loadAt T (.pointer (some ⟨b,t,none⟩))).run P w=.ok (.agg us.toArray) w:=by
  refine aFU hT hm (fun j v hj=>aIS hs hi ?_)
  rw [←hv] at hj
  have hlt:j < m:=by
   have:=(List.getElem?_eq_some_iff.1 hj).1
   simp at this;omega
  rw [List.getElem?_take_of_lt hlt,List.getElem?_drop] at hj
  exact hj
 exact (by simp only [execOp,hx,Sem.run_bind,hr];simp)
theorem aOm {β:Type} [iQ β] {E:TypeId} {Ke:Hp} {i:Nat} {a:Option Addr} {cap:Nat} {xs:List β} {j:Int} {e:β} (hs:aF G K L w) (hi:L[i]?=some (aV E Ke a cap xs)) (hj:ix xs j=some e):
  ∃ ad,a=some ad/\∀ (t:Nat) (v:Value),(iQ.enc e)[t]?=some v->w.cell? ⟨ad.block,ad.off+(j.toNat * iQ.sz β+t),none⟩=some v:=by
 obtain ⟨_,hjl,hje⟩:=aAO hj
 obtain ⟨h1,⟨_,hA⟩,hle,_⟩:=hs.entry hi
 rcases hA with ⟨_,rfl,_⟩|⟨ad,c,rows,rfl,sp,hb,hcs,hrl,hrc,hel⟩
 ·simp at hjl
 ·refine ⟨ad,rfl,fun t v ht=>qH hle hb ?_⟩
  have he:(rows.drop (j.toNat * iQ.sz β)).take (iQ.sz β)=iQ.enc e:=hel _ _ hje
  have ht':t < iQ.sz β:=by have:=(List.getElem?_eq_some_iff.1 ht).1;rw [iQ.len] at this;exact this
  rw [←he,List.getElem?_take_of_lt ht',List.getElem?_drop] at ht
  exact hrc _ _ ht
theorem aPR {E:TypeId} {Ke:Hp} {i:Nat} {a:Option Addr} {cap:Nat} {xs:List α} {j:Int} {e:α} (hs:aF G K L w) (hi:L[i]?=some (aV E Ke a cap xs)) (hj:ix xs j=some e):∃ ad,a=some ad:=by
 obtain ⟨_,hjl,hje⟩:=aAO hj
 obtain ⟨h1,⟨_,hA⟩,hle,_⟩:=hs.entry hi
 rcases hA with ⟨_,rfl,_⟩|⟨ad,c,rows,rfl,_⟩
 ·simp at hjl
 ·exact ⟨ad,rfl⟩
theorem R_nilO {E:TypeId} {Ke:Hp} {i kk:Nat} {a:Option Addr} {cap:Nat} {xs:List α} {j:Int} {e:α} (hs:aF G K L w) (hi:L[i]?=some (aV E Ke a cap xs)) (hj:ix xs j=some e) (hx:ev f x=cE a kk):
  (execOp (ev f) ⟨some d,.nilCheck x,ty,pos,af,none⟩).run P w=.ok (.value (cE a kk)) w:=by
 obtain ⟨ad,rfl⟩:=aPR hs hi hj
 exact (by simp [execOp,hx,cE])
theorem R_fldO {S E:TypeId} {Ke:Hp} {i q o k k':Nat} {a:Option Addr} {cap:Nat} {xs:List α} {j:Int} {e:α} (hF:FA P S q o) (hs:aF G K L w) (hi:L[i]?=some (aV E Ke a cap xs)) (hj:ix xs j=some e) (hx:ev f x=cE a k) (hk:k+o=k'):
  (execOp (ev f) ⟨some d,.fieldAddr S x q,ty,pos,af,none⟩).run P w=.ok (.value (cE a k')) w:=by
 obtain ⟨ad,rfl⟩:=aPR hs hi hj
 subst hk
 simp only [execOp,hx,aAf,Sem.run_bind,aCP hF]
 simp [Nat.add_assoc]
theorem oJ {β:Type} [iQ β] {T E:TypeId} {Ke:Hp} {i kk t:Nat} {a:Option Addr} {cap:Nat} {xs:List β} {j:Int} {e:β} {v:Value} (hT:SC P T) (hs:aF G K L w) (hi:L[i]?=some (aV E Ke a cap xs)) (hj:ix xs j=some e)
  (hx:ev f x=cE a kk) (hkk:kk=j.toNat * iQ.sz β+t) (hv:(iQ.enc e)[t]?=some v):
  (execOp (ev f) ⟨some d,.load T x,ty,pos,af,none⟩).run P w=.ok (.value v) w:=by
 obtain ⟨ad,rfl,hc⟩:=aOm hs hi hj
 subst hkk
 simp only [execOp,hx,aAf,Sem.run_bind,aBL hT (hc t v hv)];simp
theorem R_ldOG {β:Type} [iQ β] {T E:TypeId} {Ke:Hp} {i kk t m:Nat} {a:Option Addr} {cap:Nat} {xs:List β} {j:Int} {e:β} {vs:List Value} (hT:AG P T m) (hs:aF G K L w) (hi:L[i]?=some (aV E Ke a cap xs)) (hj:ix xs j=some e)
  (hx:ev f x=cE a kk) (hkk:kk=j.toNat * iQ.sz β+t) (hv:((iQ.enc e).drop t).take m=vs) (hm:vs.length=m):
  (execOp (ev f) ⟨some d,.load T x,ty,pos,af,none⟩).run P w=.ok (.value (.agg vs.toArray)) w:=by
 obtain ⟨ad,rfl,hc⟩:=aOm hs hi hj
 subst hkk
 have hr:(Instr.loadAt T (cE (some ad) (j.toNat * iQ.sz β+t))).run P w=.ok (.agg vs.toArray) w:=by
  rw [aAf]
  refine aFU hT hm (fun q v hq=>?_)
  rw [←hv] at hq
  have hlt:q < m:=by
   have:=(List.getElem?_eq_some_iff.1 hq).1
   simp at this;omega
  rw [List.getElem?_take_of_lt hlt,List.getElem?_drop] at hq
  have:=hc _ _ hq
  rw [←this];congr 2;omega
 simp only [execOp,hx,Sem.run_bind,hr];simp
theorem eT {T:TypeId} {v:Value} {vs:List Value} (hs:aF G K L w) (hx:ev f x=v) (hv:v.cells=vs.toArray)
  (h:∀ b w',aF G K (box b T vs::L) w'->WO P n ops rest Q (upd f d (.pointer (some ⟨b,0,none⟩))) w'):
  WO P n ops (⟨some d,.box T x,ty,pos,af,none⟩::rest) Q f w:=by
 refine aFT rfl (w':=w.alloc (.cells vs.toArray T)) (v:=.pointer (some ⟨w.heap.size,0,none⟩)) ?_ (h _ _ ?_)
 ·simp [execOp,hx,Instr.box,newVar,newRow,hv]
 ·exact hs.alloc _ (Hp.one_self _ _)
theorem eE {T:TypeId} {v:Value} {vs:List Value} (hz:ZV P T v) (hs:aF G K L w) (hv:v.cells=vs.toArray)
  (h:∀ b w',aF G K (box b T vs::L) w'->WO P n ops rest Q (upd f d (.pointer (some ⟨b,0,none⟩))) w'):
  WO P n ops (⟨some d,.alloc T,ty,pos,af,none⟩::rest) Q f w:=by
 refine aFT rfl (w':=w.alloc (.cells vs.toArray T)) (v:=.pointer (some ⟨w.heap.size,0,none⟩)) ?_ (h _ _ ?_)
 ·have hz':(zeroValue T).run P w=.ok v w:=hz w
  simp [execOp,Instr.alloc,hz',newVar,newRow,hv]
 ·exact hs.alloc _ (Hp.one_self _ _)
theorem aF.setBox {b i:Nat} {E:TypeId} {vs us:List Value} (hs:aF G K L w) (hi:L[i]?=some (box b E vs)):aF G K (L.set i (box b E us)) (w.setRow b us.toArray):=by
 obtain ⟨h1,hA,hle,_,ch⟩:=hs.change hi
 have hw:w.heap[b]?=some (.cells vs.toArray E (0,0)):=hle _ _ hA
 refine ch _ _ (Hp.one b (.cells us.toArray E (0,0))) (Same.refl _) ?_ ?_ ?_ (Hp.one_self _ _)
 ·intro k o hk ho
  have hne:k≠b:=by intro e;subst e;rw [show h1 k=_ from hA] at hk;cases hk
  unfold hp at *
  rw [setRow_other w b k _ hne];exact ho
 ·exact Hp.one_le (setRow_heap w b _ _ E _ hw)
 ·intro k
  by_cases hk:k=b
  ·subst hk;right;left;rw [show h1 k=_ from hA];rfl
  ·left;simp [Hp.one,hk]
theorem box_heap {b i:Nat} {E:TypeId} {vs:List Value} (hs:aF G K L w) (hi:L[i]?=some (box b E vs)):w.heap[b]?=some (.cells vs.toArray E (0,0)):=by
 obtain ⟨h1,hA,hle,_⟩:=hs.entry hi
 exact hle _ _ hA
theorem fA {T E:TypeId} {b t i m:Nat} {vs us ns:List Value} {v:Value} (hT:∀ w,(Go.sizeOf T).run P w=.ok m w) (hs:aF G K L w) (hi:L[i]?=some (box b E vs)) (hx:ev f x=.pointer (some ⟨b,t,none⟩)) (hy:ev f y=v)
  (hn:v.cells=ns.toArray) (hm:ns.length=m) (h1:∀ u∈ns,u.oneCell'=true) (hfit:Nat.ble (t+m) vs.length=true) (hu:vs.take t++ns++vs.drop (t+m)=us)
  (h:∀ w',aF G K (L.set i (box b E us)) w'->WO P n ops rest Q f w'):
  WO P n ops (⟨none,.store T x y,ty,pos,af,none⟩::rest) Q f w:=by
 have hw:=box_heap hs hi
 have hfit':t+m<=vs.length:=by simpa using hfit
 have hr:=run_storeCells_at P b t E ns 0 vs.toArray w hw (by simp;omega) h1
 subst hm
 refine WO_eff rfl (w':=w.setRow b us.toArray) ?_ (h _ (aF.setBox hs hi))
 have hsz:v.cells.size=ns.length:=by rw [hn];simp
 simp only [execOp,hx,hy,Instr.storeAt,Instr.sureAddr,storeVar,Sem.run_bind,Sem.run_pure,Result.andThen_ok,hT,Sem.run_ite,hsz,hn]
 simp only [ne_eq,not_true_eq_false,if_false,Nat.add_zero] at hr ⊢
 rw [hr,←hu]
 simp
theorem aX {T E:TypeId} {sz:Nat} {a:Option Addr} {len cap:Nat} (hT:SLT P T E sz) (hx:ev f x=.slice a len cap):
  (execOp (ev f) ⟨some d,.call ⟨.builtin .len,#[x],#[T]⟩,ty,pos,af,none⟩).run P w=.ok (.value (i64 len)) w:=
 (by simp [execOp,resolve,invoke,builtin,Builtin.len_,hx,hT.un,goInt,i64])
def STR (P:Program) (T:TypeId):Prop:=∀ w,(underlying T).run P w=.ok .string w
theorem aFV (s:aL):(⟨⟨s⟩⟩:ByteArray).size=s.length:=rfl
theorem sK {T:TypeId} {s:aL} (hT:STR P T) (hx:ev f x=str s):
  (execOp (ev f) ⟨some d,.call ⟨.builtin .len,#[x],#[T]⟩,ty,pos,af,none⟩).run P w=.ok (.value (i64 s.length)) w:=by
 have hT':(underlying T).run P w=.ok .string w:=hT w
 exact (by simp [execOp,resolve,invoke,builtin,Builtin.len_,hx,hT',goInt,i64,str,aFV])
theorem R_ixS {T:TypeId} {s:aL} {j:Int} {c:UInt8} (hT:STR P T) (hx:ev f x=str s) (hy:ev f y=i64 j) (hj:ix s j=some c):
  (execOp (ev f) ⟨some d,.index T x y,ty,pos,af,none⟩).run P w=.ok (.value (u8 c)) w:=by
 have hT':(underlying T).run P w=.ok .string w:=hT w
 obtain ⟨h0,h1,h2⟩:=aAO hj
 have h3:s[j.toNat]=c:=(List.getElem?_eq_some_iff.1 h2).2
 have hb:(⟨⟨s⟩⟩:ByteArray)[j.toNat]?=some c:=by
  have hlt:j.toNat < (⟨⟨s⟩⟩:ByteArray).size:=h1
  simp only [getElem?_def,hlt,dif_pos]
  exact congrArg some h3
 exact (by simp [execOp,Instr.index,asIntOf,hx,hy,hT',i64,str,u8,h0,hb])
end
end Gv
