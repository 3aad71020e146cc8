/- Bound arguments; rows that are taken or put; maps that may be nil; ways out of loops over maps. No program in sight. -/
import Derived.Test.YtingjpdikgpflaaGreatDoorJYR
import Derived.Test.YtingjpdikgpflaaGreatDoorJLM
set_option linter.all false
namespace Gv
open Go
section
variable {P:Program} {n:Nat} {ops:Array Oper} {rest:List Oper} {Q:mB} {f:Nat->Value} {w:World}
variable {d:Nat} {x y z:Operand} {ty:TypeId} {pos:String} {af:Array Go.Edge}
variable {G:qN} {K:Hp} {L:List gH}
theorem R_shrU {a b c:Int} {yk:IntKind} {T U:TypeId} (hx:ev f x=.int .u64 a) (hy:ev f y=.int yk b) (hc:shU a b=some c):
  (execOp (ev f) ⟨some d,.binOp .shr T x y U,ty,pos,af,none⟩).run P w=.ok (.value (.int .u64 c)) w:=by
 unfold shU at hc
 split at hc
 ·rename_i h
  have hn:¬ b < 0:=by omega
  cases hc
  simp [execOp,hx,hy,eqGuard,binOp,Op.shift,hn,IntKind.bits]
 ·cases hc
theorem R_andU {a b:Int} {T U:TypeId} (hx:ev f x=.int .u64 a) (hy:ev f y=.int .u64 b):
  (execOp (ev f) ⟨some d,.binOp .and T x y U,ty,pos,af,none⟩).run P w=.ok (.value (.int .u64 (anU a b))) w:=by
 have e:(BitVec.ofInt 64 a&&& BitVec.ofInt 64 b).toNat=(a % 18446744073709551616).toNat&&& (b % 18446744073709551616).toNat:=by
  rw [BitVec.toNat_and];simp [BitVec.toNat_ofInt]
 simp [execOp,hx,hy,eqGuard,binOp,Op.intBits,anU,aEp,IntKind.bits]
 exact congrArg (fun n:Nat=>nD (n:Int)) e
end
section
variable {P:Program} {n:Nat} {ops:Array Oper} {rest:List Oper} {Q:mB} {f:Nat->Value} {w:World}
variable {d:Nat} {x y z:Operand} {ty:TypeId} {pos:String} {af:Array Go.Edge}
variable {G:qN} {K:Hp} {L:List gH} {α:Type} [Dp α] {tys:List TypeId} {hds:List (Dp.Hd α)} {xs zz:List α}
end
section
variable {G:qN} {K:Hp} {L:List gH} {w:World} {β:Type} [fB β] {tys:List TypeId} {hds:List (Dp.Hd (List β))} {xs:List (List β)}
end
section
variable {P:Program} {n:Nat} {ops:Array Oper} {rest:List Oper} {Q:mB} {f:Nat->Value} {w:World}
variable {d:Nat} {x y z:Operand} {ty:TypeId} {pos:String} {af:Array Go.Edge}
variable {G:qN} {K:Hp} {L:List gH} {α:Type} [Dp α] {tys:List TypeId} {hds:List (Dp.Hd α)} {xs r:List α}
end
section
variable {α:Type} [El α] {G:qN} {K:Hp} {L:List gH} {w:World}
theorem aN.cutE {E:TypeId} {K:Hp} {a a':Option Addr} {cap c':Nat} {lo hi:Int} {xs r:List α} {g:Hp} (ho:aN E K a cap xs g) (hc:yK xs lo hi=some r) (hx:Cut (El.sz α) a cap lo a' c'):aN E K a' c' r g:=by
 obtain ⟨h0,h1,h2,rfl⟩:=aAv hc
 obtain ⟨rfl,rfl⟩:=hx
 obtain ⟨hcap,ho⟩:=ho
 have hlen:((xs.drop lo.toNat).take (hi.toNat - lo.toNat)).length=hi.toNat - lo.toNat:=by simp;omega
 refine ⟨by rw [hlen];omega,?_⟩
 rcases ho with ⟨rfl,rfl,rfl⟩|⟨ad,c,rs,rfl,sp,hb,hcs,hrl,hr,hel⟩
 ·left
  exact ⟨by simp,by simp,by simp⟩
 ·right
  by_cases he:cap=lo.toNat
  ·have hz:hi.toNat - lo.toNat=0:=by omega
   rw [if_pos he,hz]
   refine ⟨ad,c,[],rfl,sp,hb,?_,by simp,by simp,by simp⟩
   have:(cap - lo.toNat)=0:=by omega
   rw [this,Nat.zero_mul]
   have:=Nat.le_trans (Nat.le_add_right _ _) hcs
   omega
  ·rw [if_neg he]
   obtain ⟨b,o,s⟩:=ad
   simp only at sp hb hcs hr
   subst sp
   have hsz:lo.toNat * El.sz α+(hi.toNat - lo.toNat) * El.sz α<=xs.length * El.sz α:=by rw [←Nat.add_mul];exact Nat.mul_le_mul_right _ (by omega)
   refine ⟨⟨b,o+lo.toNat * El.sz α,none⟩,c,(rs.drop (lo.toNat * El.sz α)).take ((hi.toNat - lo.toNat) * El.sz α),by simp [jN],rfl,hb,?_,?_,fun t v ht=>?_,fun i d hd=>?_⟩
   ·have:(lo.toNat+(cap - lo.toNat)) * El.sz α=cap * El.sz α:=by congr 1;omega
    rw [Nat.add_mul] at this
    simp only;omega
   ·rw [hlen,List.length_take,List.length_drop,hrl];omega
   ·have hlt:t < (hi.toNat - lo.toNat) * El.sz α:=by
     have:=(List.getElem?_eq_some_iff.1 ht).1
     simp only [List.length_take] at this;omega
    rw [List.getElem?_take_of_lt hlt,List.getElem?_drop] at ht
    have:=hr _ _ ht
    rw [←this];congr 1;simp only;omega
   ·have hi':i < hi.toNat - lo.toNat:=by have:=(List.getElem?_eq_some_iff.1 hd).1;rw [hlen] at this;exact this
    rw [List.getElem?_take_of_lt hi',List.getElem?_drop] at hd
    have h4:=hel _ _ hd
    have h5:i * El.sz α+El.sz α<=(hi.toNat - lo.toNat) * El.sz α:=by rw [←Nat.succ_mul];exact Nat.mul_le_mul_right _ hi'
    rw [List.drop_take,List.take_take,List.drop_drop,Nat.min_eq_left (by omega),←Nat.add_mul]
    exact h4
theorem aEv {E:TypeId} {Ke:Hp} {i:Nat} {a:Option Addr} {cap:Nat} {xs:List α} (hs:aJ G K L w) (hi:L[i]?=some (aN E Ke a cap xs)):xs.length<=cap:=by
 obtain ⟨h1,hA,_⟩:=hs.entry hi
 exact hA.1
theorem aJ.cutPE {E:TypeId} {Ke:Hp} {i:Nat} {a a':Option Addr} {cap c':Nat} {lo hi:Int} {xs r:List α} (hs:aJ G K L w) (hi':L[i]?=some (aN E Ke a cap xs)) (hc:yK xs lo hi=some r) (hx:Cut (El.sz α) a cap lo a' c'):aJ G K (L.set i (aN E Ke a' c' r)) w:=
 hs.weak hi' (fun _ h=>h.cutE hc hx)
end
section
variable {P:Program} {n:Nat} {ops:Array Oper} {rest:List Oper} {Q:mB} {f:Nat->Value} {w:World}
variable {d:Nat} {x y z:Operand} {ty:TypeId} {pos:String} {af:Array Go.Edge}
variable {β:Type} [fB β] {G:qN} {K:Hp} {L:List gH}
theorem WO_appV {T E:TypeId} {sz i:Nat} {zs:List Value} {a a1 a2:Option Addr} {cap c1 c2 l1 l2:Nat} {lo1 hi1 lo2 hi2:Int} {xs r1 r2 zz:List β} {Ke:Hp} (hT:SLT P T E sz) (hU:P.underlying T=some (.slice E)) (hE:EZ P E zs) (hsz:El.sz β=sz) (hzs:zs.length=sz)
  (hs:aJ G K L w) (hi:L[i]?=some (aN E Ke a cap xs)) (hc1:yK xs lo1 hi1=some r1) (hx1:Cut (fB.sz β) a cap lo1 a1 c1) (hc2:yK xs lo2 hi2=some r2) (hx2:Cut (fB.sz β) a cap lo2 a2 c2) (hm:nE r1 r2=some zz)
  (hx:ev f x=.slice a1 l1 c1) (hl1:l1=r1.length) (hy:ev f y=.slice a2 l2 c2) (hl2:l2=r2.length)
  (h:∀ a' cap' w',aJ G K (L.set i (aN E Ke a' cap' zz)) w'->WO P n ops rest Q (upd f d (.slice a' zz.length cap')) w'):
  WO P n ops (⟨some d,.call ⟨.builtin .append,#[x,y],#[T,T]⟩,ty,pos,af,none⟩::rest) Q f w:=by
 obtain ⟨hlim,rfl⟩:=aAu hm
 subst hl1;subst hl2
 have hil:i < L.length:=(List.getElem?_eq_some_iff.1 hi).1
 obtain ⟨K',hK',hr,hs',_⟩:=aJ.lendS (aJ.cutP hs hi hc2 hx2) (Ke:=K) (Hp.le_refl _) (show (L.set i (aN E K a2 c2 r2))[i]?=some (aN E K a2 c2 r2) by simp [hil])
 obtain ⟨ry,k1,k2,k3,k4⟩:=hr.rows r2.length (Nat.le_refl _)
 obtain ⟨a',cap',w',hr',hs2⟩:=yT (ty:=ty) (Kt:=Ke) (Ke:=Ke) (a:=a1) (cap:=c1) (xs:=r1) (a2:=a2) (c2:=c2) (ys:=r2) (P:=P) (sz:=sz) (zs:=zs) hT hU hE hsz hzs (aJ.cutP hs hi hc1 hx1) (i:=i) (by simp [hil]) (Hp.le_refl _) k1 k2 (fun hypos=>by
  have hrl:0 < ry.length:=by rw [k1];exact Nat.mul_pos hypos (El.pos (α:=β))
  obtain ⟨ad,c,E',fr,e,s,k,_⟩:=k3 0 _ (List.getElem?_eq_getElem hrl)
  refine ⟨ad,e,fun j u hj=>?_⟩
  obtain ⟨ad',c',E'',fr',e',s',k',hc'⟩:=k3 j u hj
  rw [e] at e';cases e'
  obtain ⟨ab,ao,as⟩:=ad
  simp only at s'
  subst s'
  rw [jN]
  exact lT hs'.know k' hc') (fun i d hi hd=>k4 i d hi hd) hlim
 rw [List.set_set] at hs2
 refine vI rfl (w':=w') (v:=.slice a' (r1++r2).length cap') ?_ (h _ _ _ hs2)
 simp only [execOp,resolve,invoke,builtin,Sem.run_bind,Sem.run_pure,Result.andThen_ok,List.map_toArray,List.map_cons,List.map_nil,hx,hy,hr']
end
section
variable {κ ν:Type} [DecidableEq κ] [Vl κ] [Vl ν] {G:qN} {K:Hp} {L:List gH} {w:World}
end
section
variable {κ:Type}
end
end Gv
namespace Gv
open Go
section
variable {β:Type} [fB β] {G:qN} {K Ke:Hp} {L:List gH} {w:World}
theorem aJ.ex {γ:Type} {i:Nat} {A:gH} {B:γ->gH} {p:γ->Prop} (s:aJ G K L w) (hi:L[i]?=some A) (h:∀ h1,A h1->∃ x,p x/\B x h1):∃ x,p x/\aJ G K (L.set i (B x)) w:=by
 obtain ⟨e,g,gd,gl,d,k,l,r⟩:=s
 obtain ⟨h1,h2,a,dj,l1,l2,r'⟩:=r.pick hi
 obtain ⟨x,px,bx⟩:=h h1 a
 have hlt:i < L.length:=(List.getElem?_eq_some_iff.1 hi).1
 exact ⟨x,px,e,g,gd,gl,d,k,l,(iT.put bx dj r' hlt).le (Hp.un_le l1 l2)⟩
def HdR (Ke:Hp) (hds:List (Option Addr × Nat)) (xs:List (List β)):Prop:=hds.length=xs.length/\∀ (j:Nat) (hd:Option Addr × Nat) (x:List β),hds[j]?=some hd->xs[j]?=some x->cF Ke hd.1 hd.2 x
theorem frz_own {E:TypeId} {a:Option Addr} {cap:Nat} {xs:List (List β)} {h:Hp} (o:aN E Ke a cap xs h):∃ hds:List (Dp.Hd (List β)),HdR Ke hds xs/\aN E Ke a cap (dB hds xs) h:=by
 obtain ⟨h1,h3⟩:=o
 rcases h3 with ⟨rfl,rfl,rfl⟩|⟨ad,c,rx,rfl,s,m,z,l,r1,r2⟩
 ·exact ⟨[],⟨rfl,fun j hd x h=>by simp at h⟩,Nat.le_refl _,.inl ⟨rfl,rfl,rfl⟩⟩
 ·have key:∀ i:Fin xs.length,∃ hd:Option Addr × Nat,(rx.drop (i.val * 1)).take 1=[Value.slice hd.1 (xs[i]).length hd.2]/\cF Ke hd.1 hd.2 xs[i]:=fun i=>by
   obtain ⟨a,c,e,r⟩:=r2 i.val xs[i] (List.getElem?_eq_getElem i.isLt)
   exact ⟨(a,c),e,r⟩
  let f:Fin xs.length->Option Addr × Nat:=fun i=>Classical.choose (key i)
  have hf:∀ i,(rx.drop (i.val * 1)).take 1=[Value.slice (f i).1 (xs[i]).length (f i).2]/\cF Ke (f i).1 (f i).2 xs[i]:=fun i=>Classical.choose_spec (key i)
  have hl:(List.ofFn f).length=xs.length:=List.length_ofFn
  have hg:∀ j (hj:j < xs.length),(List.ofFn f)[j]?=some (f ⟨j,hj⟩):=fun j hj=>by rw [List.getElem?_ofFn,dif_pos hj]
  refine ⟨List.ofFn f,⟨hl,fun j hd x h4 h5=>?_⟩,?_,.inr ⟨ad,c,rx,rfl,s,m,z,?_,r1,fun i d hd=>?_⟩⟩
  ·obtain ⟨hj,rfl⟩:=List.getElem?_eq_some_iff.1 h5
   rw [hg j hj] at h4
   cases h4
   exact (hf ⟨j,hj⟩).2
  ·rw [iJ hl];exact h1
  ·rw [iJ hl];exact l
  ·have hj:i < xs.length:=by
    have:=(List.getElem?_eq_some_iff.1 hd).1
    rwa [iJ hl] at this
   unfold dB at hd
   rw [aEs uY (hg i hj) (List.getElem?_eq_getElem hj)] at hd
   cases hd
   exact (hf ⟨i,hj⟩).1
theorem frz_back {E:TypeId} {a:Option Addr} {cap:Nat} {hds:List (Dp.Hd (List β))} {xs:List (List β)} {Kb:Hp} {h:Hp} (hr:HdR Ke hds xs) (o:aN E Kb a cap (dB hds xs) h):aN E Ke a cap xs h:=by
 obtain ⟨hl,hr⟩:=hr
 obtain ⟨h1,h3⟩:=o
 rw [iJ hl] at h1
 rcases h3 with ⟨rfl,h4,rfl⟩|⟨ad,c,rx,rfl,s,m,z,l,r1,r2⟩
 ·obtain rfl:xs=[]:=List.length_eq_zero_iff.1 (by omega)
  exact ⟨Nat.le_refl _,.inl ⟨rfl,rfl,rfl⟩⟩
 ·rw [iJ hl] at l
  refine ⟨h1,.inr ⟨ad,c,rx,rfl,s,m,z,l,r1,fun i d hd=>?_⟩⟩
  obtain ⟨hj,rfl⟩:=List.getElem?_eq_some_iff.1 hd
  have hh:hds[i]?=some (hds[i]'(by omega)):=List.getElem?_eq_getElem _
  have:=r2 i _ (aEs uY hh hd)
  exact ⟨_,_,this,hr i _ _ hh hd⟩
theorem aJ.frzOpen {E:TypeId} {i:Nat} {a:Option Addr} {cap:Nat} {xs:List (List β)} (s:aJ G K L w) (hi:L[i]?=some (aN E Ke a cap xs)):∃ hds:List (Dp.Hd (List β)),HdR Ke hds xs/\aJ G K (L.set i (aN E Ke a cap (dB hds xs))) w:=
 aJ.ex (B:=fun hds:List (Dp.Hd (List β))=>aN E Ke a cap (dB hds xs)) s hi fun _ o=>frz_own o
theorem aJ.frzClose {E:TypeId} {i:Nat} {a:Option Addr} {cap:Nat} {hds:List (Dp.Hd (List β))} {xs:List (List β)} {Kb:Hp} (s:aJ G K L w) (hi:L[i]?=some (aN E Kb a cap (dB hds xs))) (hr:HdR Ke hds xs):aJ G K (L.set i (aN E Ke a cap xs)) w:=by
 obtain ⟨_,_,h⟩:=aJ.ex (γ:=Unit) (p:=fun _=>True) (B:=fun _=>aN E Ke a cap xs) s hi fun _ o=>⟨(),trivial,frz_back hr o⟩
 exact h
theorem HdR.mono {K':Hp} {hds:List (Option Addr × Nat)} {xs:List (List β)} (h:HdR Ke hds xs) (hk:Ke.le K'):HdR K' hds xs:=⟨h.1,fun j hd x h1 h2=>(h.2 j hd x h1 h2).mono hk⟩
theorem HdR.set {hds:List (Option Addr × Nat)} {xs:List (List β)} (h:HdR Ke hds xs) {j:Nat} {hd:Option Addr × Nat} {x:List β} (hx:cF Ke hd.1 hd.2 x):HdR Ke (hds.set j hd) (xs.set j x):=by
 refine ⟨by rw [List.length_set,List.length_set];exact h.1,fun k d y h1 h2=>?_⟩
 rw [List.getElem?_set] at h1 h2
 by_cases e:j=k
 ·subst e
  rw [if_pos rfl] at h1 h2
  split at h1
  ·split at h2
   ·cases h1;cases h2;exact hx
   ·cases h2
  ·cases h1
 ·rw [if_neg e] at h1 h2
  exact h.2 k d y h1 h2
theorem HdR.ovw {hds:List (Option Addr × Nat)} {xs:List (List β)} (h:HdR Ke hds xs) {lo m:Nat} (hm:lo+m<=xs.length):HdR Ke (hds.take lo++List.replicate m (none,0)++hds.drop (lo+m)) (xs.take lo++List.replicate m []++xs.drop (lo+m)):=by
 have hl:=h.1
 refine ⟨by simp only [List.length_append,List.length_take,List.length_replicate,List.length_drop];omega,fun k d y h1 h2=>?_⟩
 by_cases k1:k < lo
 ·rw [List.append_assoc,List.getElem?_append_left (by rw [List.length_take];omega),List.getElem?_take_of_lt k1] at h1 h2
  exact h.2 k d y h1 h2
 ·by_cases k2:k < lo+m
  ·rw [List.append_assoc,List.getElem?_append_right (by rw [List.length_take];omega),List.getElem?_append_left (by rw [List.length_take,List.length_replicate];omega),List.getElem?_replicate_of_lt (by rw [List.length_take];omega)] at h1 h2
   cases h1;cases h2
   exact jW _
  ·rw [List.getElem?_append_right (by simp only [List.length_append,List.length_take,List.length_replicate];omega),List.getElem?_drop] at h1 h2
   have e1:lo+m+(k - (hds.take lo++List.replicate m (none,0)).length)=k:=by simp only [List.length_append,List.length_take,List.length_replicate];omega
   have e2:lo+m+(k - (xs.take lo++List.replicate m []).length)=k:=by simp only [List.length_append,List.length_take,List.length_replicate];omega
   rw [e1] at h1
   rw [e2] at h2
   exact h.2 k d y h1 h2
variable {P:Program} {n:Nat} {ops:Array Oper} {rest:List Oper} {Q:mB} {f:Nat->Value}
variable {d:Nat} {x y z:Operand} {ty:TypeId} {pos:String} {af:Array Go.Edge}
theorem aEw {γ:Type} {l:List γ} {i:Nat} {a b:γ} (h:l[i]?=some a):(l.set i b)[i]?=some b:=List.getElem?_set_self (List.getElem?_eq_some_iff.1 h).1
theorem WO_stF {T E:TypeId} {a ra:Option Addr} {i cap kk rc:Nat} {j:Int} {xs zz:List (List β)} {e r:List β} (hT:∀ w,(Go.sizeOf T).run P w=.ok 1 w) (hs:aJ G K L w) (hi:L[i]?=some (aN E Ke a cap xs)) (hK:Ke.le K)
  (hx:ev f x=cS a kk) (hkk:kk=j.toNat * El.sz (List β)+0) (hy:ev f y=.slice ra r.length rc) (hj:ix xs j=some e) (hst:Gv.st xs j r=some zz) (hr:cF Ke ra rc r)
  (h:∀ w',aJ G K (L.set i (aN E Ke a cap zz)) w'->WO P n ops rest Q f w'):
  WO P n ops (⟨none,.store T x y,ty,pos,af,none⟩::rest) Q f w:=by
 obtain ⟨hds,hh,s1⟩:=hs.frzOpen hi
 obtain ⟨h0,h1,h2⟩:=yP hj
 have hlt:j.toNat < hds.length:=by rw [hh.1];exact h1
 have hd:hds[j.toNat]?=some hds[j.toNat]:=List.getElem?_eq_getElem hlt
 refine jL (α:=Cells 0) (i:=i) (t:=0) (m:=1) (ns:=[Value.slice ra r.length rc]) (e:=uY hds[j.toNat] e) (e':=uY ((ra,rc):Dp.Hd (List β)) r) hT s1 (aEw hi) hK hx hkk hy (aEt hh.1 hj hd) (st_heads hh.1 hst) rfl rfl (fun u hu=>by simp at hu;subst hu;rfl) rfl (fun cs hc=>by cases hc;rfl) (fun w' s2=>h w' ?_)
 obtain ⟨_,_,rfl⟩:=aGy hst
 rw [List.set_set] at s2
 have s3:=s2.frzClose (xs:=xs.set j.toNat r) (aEw hi) (hh.set (j:=j.toNat) (hd:=(ra,rc)) hr)
 rw [List.set_set] at s3
 exact s3
theorem WO_clearF {T E E':TypeId} {sz i:Nat} {zs:List Value} {a a':Option Addr} {cap c' len m:Nat} {lo:Int} {xs zz:List (List β)} (hT:SLT P T E sz) (hE:EZ P E zs) (hz:zs=[Value.slice none 0 0]) (hs:aJ G K L w) (hi:L[i]?=some (aN E' Ke a cap xs)) (hx':Cut (El.sz (List β)) a cap lo a' c')
  (hx:ev f x=.slice a' len c') (hl:len=m) (hm:ovw xs lo (List.replicate m [])=some zz)
  (h:∀ w',aJ G K (L.set i (aN E' Ke a cap zz)) w'->WO P n ops rest Q f w'):WO P n ops (⟨none,.call ⟨.builtin .clear,#[x],#[T]⟩,ty,pos,af,none⟩::rest) Q f w:=by
 obtain ⟨hds,hh,s1⟩:=hs.frzOpen hi
 obtain ⟨h0,h1,rfl⟩:=aEo hm
 rw [List.length_replicate] at h1
 have hl1:=hh.1
 have e1:ovw (dB hds xs) lo (List.replicate m (uY ((none,0):Dp.Hd (List β)) []))=some (dB (hds.take lo.toNat++List.replicate m (none,0)++hds.drop (lo.toNat+m)) (xs.take lo.toNat++List.replicate m []++xs.drop (lo.toNat+m))):=by
  unfold ovw
  rw [List.length_replicate,iJ hl1,if_pos ⟨h0,h1⟩]
  congr 1
  unfold dB
  rw [List.zipWith_append (by simp only [List.length_append,List.length_take,List.length_replicate];omega),List.zipWith_append (by simp only [List.length_take];omega),List.take_zipWith,List.drop_zipWith]
  congr 2
  rw [←heads_rep];rfl
 refine xK (i:=i) (z:=uY ((none,0):Dp.Hd (List β)) ([]:List β)) hT hE (show zs=fB.enc (uY ((none,0):Dp.Hd (List β)) ([]:List β)) from hz) s1 (aEw hi) hx' hx hl e1 (fun w' s2=>h w' ?_)
 rw [List.set_set] at s2
 have s3:=s2.frzClose (xs:=xs.take lo.toNat++List.replicate m []++xs.drop (lo.toNat+m)) (aEw hi) (hh.ovw h1)
 rw [List.set_set] at s3
 rw [List.length_replicate]
 exact s3
end
end Gv
namespace Gv
open Go
section
variable {P:Program} {w:World}
theorem xQ {fn:Func} {Φ:Value->World->Prop} {t u x y:Nat} {f:Nat->Value} (hr:fn.results=#[.tmp t,.tmp u,.tmp x,.tmp y]) (ht:Nat.blt t fn.ntmps=true) (hu:Nat.blt u fn.ntmps=true) (hx:Nat.blt x fn.ntmps=true) (hy:Nat.blt y fn.ntmps=true) (h:Φ (.tuple #[f t,f u,f x,f y]) w):retQ P fn Φ .ret f w:=by
 refine ⟨.tuple #[f t,f u,f x,f y],?_,h⟩
 have h1:t < fn.ntmps:=by simpa [Nat.blt_eq] using ht
 have h2:u < fn.ntmps:=by simpa [Nat.blt_eq] using hu
 have h3:x < fn.ntmps:=by simpa [Nat.blt_eq] using hx
 have h4:y < fn.ntmps:=by simpa [Nat.blt_eq] using hy
 simp [results,hr,act,Array.getD,h1,h2,h3,h4]
end
end Gv
namespace Gv
open Go
structure Hd (q:Prop):Prop where
 k:q
theorem aJu {p:Prop} (h:p:=by first|assumption|exact rfl):p:=h
theorem aJO {p:Prop} (h:p:=by assumption):p:=h
theorem aKg {p:Prop} (h:p:=by first|assumption|exact Hp.le_trans (by assumption) (by assumption)|exact Hp.le_trans (by assumption) (Hp.le_trans (by assumption) (by assumption))):p:=h
theorem aQq {p:Prop} (h:p:=by with_reducible first|exact List.Mem.head _|exact List.Mem.tail _ (List.Mem.head _)|exact List.Mem.tail _ (List.Mem.tail _ (List.Mem.head _))|exact List.Mem.tail _ (List.Mem.tail _ (List.Mem.tail _ (List.Mem.head _)))|exact List.Mem.tail _ (List.Mem.tail _ (List.Mem.tail _ (List.Mem.tail _ (List.Mem.head _))))|exact List.Mem.tail _ (List.Mem.tail _ (List.Mem.tail _ (List.Mem.tail _ (List.Mem.tail _ (List.Mem.head _)))))|exact List.Mem.tail _ (List.Mem.tail _ (List.Mem.tail _ (List.Mem.tail _ (List.Mem.tail _ (List.Mem.tail _ (List.Mem.head _))))))|exact List.Mem.tail _ (List.Mem.tail _ (List.Mem.tail _ (List.Mem.tail _ (List.Mem.tail _ (List.Mem.tail _ (List.Mem.tail _ (List.Mem.head _)))))))|exact List.Mem.tail _ (List.Mem.tail _ (List.Mem.tail _ (List.Mem.tail _ (List.Mem.tail _ (List.Mem.tail _ (List.Mem.tail _ (List.Mem.tail _ (List.Mem.head _))))))))|exact List.Mem.tail _ (List.Mem.tail _ (List.Mem.tail _ (List.Mem.tail _ (List.Mem.tail _ (List.Mem.tail _ (List.Mem.tail _ (List.Mem.tail _ (List.Mem.tail _ (List.Mem.head _)))))))))):p:=h
theorem aPB {γ:Type} {l:List γ} {a:γ} (h:a∈l):∃ i:Nat,l[i]?=some a:=by
 obtain ⟨i,hi,e⟩:=List.mem_iff_getElem.1 h
 exact ⟨i,by rw [List.getElem?_eq_getElem hi,e]⟩
section
variable {P:Program} {f:Nat->Value} {w:World} {d:Nat} {x y z:Operand} {ty:TypeId} {pos:String} {af:Array Go.Edge} {G:qN} {K:Hp} {L:List gH} {α:Type} {iα:El α}
structure EX (P:Program) (f:Nat->Value) (o:Op) (v:Value) (d:Nat) (ty:TypeId) (pos:String) (af:Array Go.Edge) (w:World):Prop where
 h:(execOp (ev f) ⟨some d,o,ty,pos,af,none⟩).run P w=.ok (.value v) w
theorem V_move {v:Value} (hx:ev f x=v):EX P f (.move x) v d ty pos af w:=⟨bA hx⟩
theorem V_assign {v:Value} (hx:ev f x=v):EX P f (.assign x) v d ty pos af w:=⟨cZ hx⟩
theorem V_moveC {v:Value}:EX P f (.move (.const v)) v d ty pos af w:=⟨bA rfl⟩
theorem V_assignC {v:Value}:EX P f (.assign (.const v)) v d ty pos af w:=⟨cZ rfl⟩
theorem V_moveF {k:FuncId}:EX P f (.move (.func k)) (.func (.func k) #[] #[]) d ty pos af w:=⟨bA rfl⟩
theorem V_assignF {k:FuncId}:EX P f (.assign (.func k)) (.func (.func k) #[] #[]) d ty pos af w:=⟨cZ rfl⟩
theorem V_not {b:Bool} {T:TypeId} (hx:ev f x=.bool b):EX P f (.unOp .not T x) (.bool (!b)) d ty pos af w:=⟨dE hx⟩
theorem V_nilP {ad:Addr} (hx:ev f x=.pointer (some ad)):EX P f (.nilCheck x) (.pointer (some ad)) d ty pos af w:=⟨iN hx⟩
theorem V_extract {vs:Array Value} {i:Nat} {v:Value} (hx:ev f x=.tuple vs) (hv:vs[i]?=some v):EX P f (.extract x i) v d ty pos af w:=⟨bS hx hv⟩
theorem V_lenS {T E:TypeId} {sz:Nat} {a:Option Addr} {len cap:Nat} (hT:SLT P T E sz) (hx:ev f x=.slice a len cap):EX P f (.call ⟨.builtin .len,#[x],#[T]⟩) (i64 len) d ty pos af w:=⟨bO hT hx⟩
theorem V_add {a b:Int} {T U:TypeId} (hx:ev f x=i64 a) (hy:ev f y=i64 b):EX P f (.binOp .add T x y U) (i64 (wr (a+b))) d ty pos af w:=⟨cE hx hy⟩
theorem V_sub {a b:Int} {T U:TypeId} (hx:ev f x=i64 a) (hy:ev f y=i64 b):EX P f (.binOp .sub T x y U) (i64 (wr (a - b))) d ty pos af w:=⟨iK hx hy⟩
theorem V_mul {a b:Int} {T U:TypeId} (hx:ev f x=i64 a) (hy:ev f y=i64 b):EX P f (.binOp .mul T x y U) (i64 (wr (a * b))) d ty pos af w:=⟨yR hx hy⟩
theorem V_lss {k:IntKind} {a b:Int} {T U:TypeId} (hx:ev f x=.int k a) (hy:ev f y=.int k b):EX P f (.binOp .lss T x y U) (.bool (decide (a < b))) d ty pos af w:=⟨cG hx hy⟩
theorem V_leq {k:IntKind} {a b:Int} {T U:TypeId} (hx:ev f x=.int k a) (hy:ev f y=.int k b):EX P f (.binOp .leq T x y U) (.bool (decide (a<=b))) d ty pos af w:=⟨aBL hx hy⟩
theorem V_gtr {k:IntKind} {a b:Int} {T U:TypeId} (hx:ev f x=.int k a) (hy:ev f y=.int k b):EX P f (.binOp .gtr T x y U) (.bool (decide (b < a))) d ty pos af w:=⟨kC hx hy⟩
theorem V_geq {k:IntKind} {a b:Int} {T U:TypeId} (hx:ev f x=.int k a) (hy:ev f y=.int k b):EX P f (.binOp .geq T x y U) (.bool (decide (b<=a))) d ty pos af w:=⟨nG hx hy⟩
theorem V_eql {k:IntKind} {a b:Int} {T U:TypeId} (hx:ev f x=.int k a) (hy:ev f y=.int k b):EX P f (.binOp .eql T x y U) (.bool (a == b)) d ty pos af w:=⟨fA hx hy⟩
theorem V_neq {k:IntKind} {a b:Int} {T U:TypeId} (hx:ev f x=.int k a) (hy:ev f y=.int k b):EX P f (.binOp .neq T x y U) (.bool (a != b)) d ty pos af w:=⟨qQ hx hy⟩
theorem V_eqlS {a b:aZ} {T U:TypeId} (hx:ev f x=str a) (hy:ev f y=str b):EX P f (.binOp .eql T x y U) (.bool (a == b)) d ty pos af w:=⟨sY hx hy⟩
theorem V_neqS {a b:aZ} {T U:TypeId} (hx:ev f x=str a) (hy:ev f y=str b):EX P f (.binOp .neq T x y U) (.bool (!(a == b))) d ty pos af w:=⟨aDN hx hy⟩
theorem V_lssS {a b:aZ} {T U:TypeId} (hx:ev f x=str a) (hy:ev f y=str b):EX P f (.binOp .lss T x y U) (.bool (qJ a b)) d ty pos af w:=⟨R_lssS hx hy⟩
theorem V_leqS {a b:aZ} {T U:TypeId} (hx:ev f x=str a) (hy:ev f y=str b):EX P f (.binOp .leq T x y U) (.bool (qJ a b||a == b)) d ty pos af w:=⟨R_leqS hx hy⟩
theorem V_gtrS {a b:aZ} {T U:TypeId} (hx:ev f x=str a) (hy:ev f y=str b):EX P f (.binOp .gtr T x y U) (.bool (!(qJ a b||a == b))) d ty pos af w:=⟨R_gtrS hx hy⟩
theorem V_geqS {a b:aZ} {T U:TypeId} (hx:ev f x=str a) (hy:ev f y=str b):EX P f (.binOp .geq T x y U) (.bool (!qJ a b)) d ty pos af w:=⟨R_geqS hx hy⟩
theorem V_nilE {a:Option Addr} {k kk:Nat} {cs:List Value} (hx:ev f x=cS a kk) (hc:eY K a k cs):
  EX P f (.nilCheck x) ((cS a kk)) d ty pos af w:=⟨cM hx hc⟩
theorem V_fldE {S:TypeId} {a:Option Addr} {i o k k0:Nat} {cs:List Value} (hx:ev f x=cS a k) (hc:eY K a k0 cs) (hF:FA P S i o):
  EX P f (.fieldAddr S x i) ((cS a (k+o))) d ty pos af w:=⟨bU hF hx hc rfl⟩
theorem V_fldP {S:TypeId} {b i o t:Nat} (hx:ev f x=.pointer (some ⟨b,t,none⟩)) (hF:FA P S i o):
  EX P f (.fieldAddr S x i) ((.pointer (some ⟨b,t+o,none⟩))) d ty pos af w:=⟨bT hF hx rfl⟩
theorem V_ixE {T E:TypeId} {sz:Nat} {a:Option Addr} {len cap:Nat} {xs:List α} {j:Int} {e:α} (hx:ev f x=.slice a len cap) (hy:ev f y=i64 j) (hr:cF K a cap xs) (hj:ix xs j=some e) (hl:len=xs.length) (hT:SLT P T E sz) (hz:El.sz α=sz):
  EX P f (.indexAddr T x y) ((cS a (j.toNat * sz))) d ty pos af w:=⟨cT hT hz hr hx hl hy hj⟩
theorem V_ixO {T E E':TypeId} {sz:Nat} {a:Option Addr} {len cap:Nat} {xs:List α} {j:Int} {e:α} {Ke:Hp} (hx:ev f x=.slice a len cap) (hy:ev f y=i64 j) (hs:aJ G K L w) (hi:List.Mem (aN E' Ke a cap xs) L) (hj:ix xs j=some e) (hl:len=xs.length) (hT:SLT P T E sz) (hz:El.sz α=sz):
  EX P f (.indexAddr T x y) ((cS a (j.toNat * sz))) d ty pos af w:=by
 obtain ⟨i,hi⟩:=aPB hi
 exact ⟨R_ixO hT hz hs hi hx hl hy hj⟩
theorem aQB {T:TypeId} {a:Option Addr} {k t:Nat} {cs:List Value} {v:Value} (hx:ev f x=cS a (k+t)) (hc:eY K a k cs) (hs:aJ G K L w) (hv:cs[t]?=some v) (hT:SC P T):
  EX P f (.load T x) (v) d ty pos af w:=⟨bG hT hs hc hx hv⟩
theorem aPM {T:TypeId} {a:Option Addr} {k t m:Nat} {cs vs:List Value} (hx:ev f x=cS a (k+t)) (hc:eY K a k cs) (hs:aJ G K L w) (hT:AG P T m) (hv:(cs.drop t).take m=vs) (hm:vs.length=m):
  EX P f (.load T x) ((.agg vs.toArray)) d ty pos af w:=⟨eI hT hs hc hx hv hm⟩
theorem V_ldB {T E:TypeId} {b t:Nat} {vs:List Value} {v:Value} (hx:ev f x=.pointer (some ⟨b,t,none⟩)) (hs:aJ G K L w) (hi:List.Mem (box b E vs) L) (hv:vs[t]?=some v) (hT:SC P T):
  EX P f (.load T x) (v) d ty pos af w:=by
 obtain ⟨i,hi⟩:=aPB hi
 exact ⟨dC hT hs hi hx hv⟩
inductive DT:List Value->Nat->Nat->List Value->Prop
 |nil {l:List Value}:DT l 0 0 []
 |take {x:Value} {l us:List Value} {m:Nat} (h:DT l 0 m us):DT (x::l) 0 (m+1) (x::us)
 |drop {x:Value} {l us:List Value} {t m:Nat} (h:DT l t m us):DT (x::l) (t+1) m us
theorem DT.eq {l us:List Value} {t m:Nat} (h:DT l t m us):(l.drop t).take m=us/\us.length=m:=by
 induction h with
 |nil=>simp
 |take _ ih=>obtain ⟨h1,h2⟩:=ih;simp at h1;simp [h1,h2]
 |drop _ ih=>simpa using ih
theorem st_D {p:Prop} (h:p:=by repeat (first|exact DT.nil|apply DT.take|apply DT.drop)):p:=h
theorem V_ldBG {T E:TypeId} {b t m:Nat} {vs us:List Value} (hx:ev f x=.pointer (some ⟨b,t,none⟩)) (hs:aJ G K L w) (hi:List.Mem (box b E vs) L) (hT:AG P T m) (hv:DT vs t m us):
  EX P f (.load T x) ((.agg us.toArray)) d ty pos af w:=by
 obtain ⟨i,hi⟩:=aPB hi
 exact ⟨dI hT hs hi hx hv.eq.1 hv.eq.2⟩
theorem V_rvG {n t b m:Nat} {T E:TypeId} {vs:List Value} (hp:f t=.pointer (some ⟨b,0,none⟩)) (hs:aJ G K L w) (hi:List.Mem (box b E vs) L) (hT:AG P T m) (hm:vs.length=m) (ht:Nat.blt t n=true):aQt P n f w (.cell t T) (.agg vs.toArray):=by
 obtain ⟨i,hi⟩:=aPB hi
 exact fK ht hT hs hi hp hm
theorem V_rvB {n t b:Nat} {T E:TypeId} {v:Value} (hp:f t=.pointer (some ⟨b,0,none⟩)) (hs:aJ G K L w) (hi:List.Mem (box b E [v]) L) (hT:SC P T) (ht:Nat.blt t n=true):aQt P n f w (.cell t T) v:=by
 obtain ⟨i,hi⟩:=aPB hi
 exact rv_cell ht hT hs hi hp
theorem V_nilO {E:TypeId} {Ke:Hp} {kk:Nat} {a:Option Addr} {cap:Nat} {xs:List α} {j:Int} {e:α} (hx:ev f x=cS a kk) (hs:aJ G K L w) (hi:List.Mem (aN E Ke a cap xs) L) (hj:ix xs j=some e):
  EX P f (.nilCheck x) ((cS a kk)) d ty pos af w:=by
 obtain ⟨i,hi⟩:=aPB hi
 exact ⟨R_nilO hs hi hj hx⟩
theorem V_fldO {S E:TypeId} {Ke:Hp} {q o k:Nat} {a:Option Addr} {cap:Nat} {xs:List α} {j:Int} {e:α} (hx:ev f x=cS a k) (hs:aJ G K L w) (hi:List.Mem (aN E Ke a cap xs) L) (hj:ix xs j=some e) (hF:FA P S q o):
  EX P f (.fieldAddr S x q) ((cS a (k+o))) d ty pos af w:=by
 obtain ⟨i,hi⟩:=aPB hi
 exact ⟨R_fldO hF hs hi hj hx rfl⟩
theorem aQC {T:TypeId} {a:Option Addr} {k t:Nat} {cs:List Value} {v:Value} (hs:aJ G K L w) (hc:eY K a k cs) (hx:ev f x=cS a (k+t)) (hv:cs[t]?=some v) (hT:SC P T):
  EX P f (.load T x) v d ty pos af w:=bG hT hs hc hx hv |> EX.mk
theorem aQY {T:TypeId} {a:Option Addr} {k t m:Nat} {cs vs:List Value} (hs:aJ G K L w) (hc:eY K a k cs) (hx:ev f x=cS a (k+t)) (hT:AG P T m) (hv:(cs.drop t).take m=vs) (hm:vs.length=m):
  EX P f (.load T x) (.agg vs.toArray) d ty pos af w:=eI hT hs hc hx hv hm |> EX.mk
theorem V_ldO {β:Type} {iβ:fB β} {T E:TypeId} {Ke:Hp} {kk t:Nat} {a:Option Addr} {cap:Nat} {xs:List β} {j:Int} {e:β} {v:Value} (hx:ev f x=cS a kk) (hs:aJ G K L w) (hi:List.Mem (aN E Ke a cap xs) L) (hj:ix xs j=some e) (hkk:kk=j.toNat * fB.sz β+t) (hv:(fB.enc e)[t]?=some v) (hT:SC P T):
  EX P f (.load T x) v d ty pos af w:=by
 obtain ⟨i,hi⟩:=aPB hi
 exact ⟨gX hT hs hi hj hx hkk hv⟩
theorem V_ldOG {β:Type} {iβ:fB β} {T E:TypeId} {Ke:Hp} {kk t m:Nat} {a:Option Addr} {cap:Nat} {xs:List β} {j:Int} {e:β} {vs:List Value} (hx:ev f x=cS a kk) (hs:aJ G K L w) (hi:List.Mem (aN E Ke a cap xs) L) (hj:ix xs j=some e) (hkk:kk=j.toNat * fB.sz β+t) (hT:AG P T m) (hv:((fB.enc e).drop t).take m=vs) (hm:vs.length=m):
  EX P f (.load T x) (.agg vs.toArray) d ty pos af w:=by
 obtain ⟨i,hi⟩:=aPB hi
 exact ⟨aAh hT hs hi hj hx hkk hv hm⟩
theorem aQD {T:TypeId} {K':Hp} {a:Option Addr} {k t:Nat} {cs:List Value} {v:Value} (hx:ev f x=cS a (k+t)) (hc:eY K' a k cs) (hs:aJ G K L w) (hK:K'.le K) (hv:cs[t]?=some v) (hT:SC P T):
  EX P f (.load T x) v d ty pos af w:=⟨bG hT hs (hc.mono hK) hx hv⟩
theorem aQZ {T:TypeId} {K':Hp} {a:Option Addr} {k t m:Nat} {cs vs:List Value} (hx:ev f x=cS a (k+t)) (hc:eY K' a k cs) (hs:aJ G K L w) (hK:K'.le K) (hT:AG P T m) (hv:(cs.drop t).take m=vs) (hm:vs.length=m):
  EX P f (.load T x) (.agg vs.toArray) d ty pos af w:=⟨eI hT hs (hc.mono hK) hx hv hm⟩
theorem V_pickT {b:Bool} {v:Value} (hx:ev f x=.bool b) (hb:b=true) (hv:ev f y=v):
  EX P f (.pick x y z) (v) d ty pos af w:=⟨bL hb hx hv⟩
theorem V_pickF {b:Bool} {v:Value} (hx:ev f x=.bool b) (hb:¬ b=true) (hv:ev f z=v):
  EX P f (.pick x y z) (v) d ty pos af w:=⟨bP hb hx hv⟩
theorem V_lenStr {T:TypeId} {s:aZ} (hT:∀ w,(underlying T).run P w=.ok .string w) (hx:ev f x=str s):EX P f (.call ⟨.builtin .len,#[x],#[T]⟩) ((i64 s.length)) d ty pos af w:=⟨gI hT hx⟩
theorem V_ixS {T:TypeId} {s:aZ} {j:Int} {c:UInt8} (hT:∀ w,(underlying T).run P w=.ok .string w) (hx:ev f x=str s) (hy:ev f y=i64 j) (hj:ix s j=some c):EX P f (.index T x y) ((u8 c)) d ty pos af w:=⟨aAw hT hx hy hj⟩
theorem V_conv64 {S T:TypeId} {k:IntKind} {a:Int} (hT:∀ w,(underlying T).run P w=.ok (.int .i64) w) (hx:ev f x=.int k a) (hS:∃ d,∀ w,(underlying S).run P w=.ok d w):EX P f (.convert S T x) ((.int .i64 (wr a))) d ty pos af w:=⟨aGH hT hx hS⟩
theorem V_convu64 {S T:TypeId} {k:IntKind} {a:Int} (hT:∀ w,(underlying T).run P w=.ok (.int .u64) w) (hx:ev f x=.int k a) (hS:∃ d,∀ w,(underlying S).run P w=.ok d w):EX P f (.convert S T x) ((.int .u64 (nD a))) d ty pos af w:=⟨R_convu64 hT hx hS⟩
theorem V_u8sub' {a b:UInt8} {T U:TypeId} (hx:ev f x=.int .u8 (a.toNat:Int)) (hy:ev f y=.int .u8 (b.toNat:Int)):EX P f (.binOp .sub T x y U) ((.int .u8 ((a - b).toNat:Int))) d ty pos af w:=⟨aRi hx hy⟩
theorem V_neg {a:Int} {T:TypeId} (hx:ev f x=i64 a):EX P f (.unOp .neg T x) ((i64 (wr (0 - a)))) d ty pos af w:=⟨R_neg hx⟩
theorem V_rem {a b c:Int} {T U:TypeId} (hx:ev f x=i64 a) (hy:ev f y=i64 b) (hc:rm a b=some c):EX P f (.binOp .rem T x y U) ((i64 c)) d ty pos af w:=⟨R_rem hx hy hc⟩
theorem V_cat {a b c:aZ} {T U:TypeId} (hx:ev f x=str a) (hy:ev f y=str b) (hc:cat a b=some c):EX P f (.binOp .add T x y U) ((str c)) d ty pos af w:=⟨R_cat hx hy hc⟩
theorem V_neqB {a b:Bool} {T U:TypeId} (hT:∀ w,(underlying T).run P w=.ok .bool w) (hx:ev f x=.bool a) (hy:ev f y=.bool b):EX P f (.binOp .neq T x y U) ((.bool (a != b))) d ty pos af w:=⟨R_neqB hT hx hy⟩
theorem V_u64add {a b:Int} {T U:TypeId} (hx:ev f x=.int .u64 a) (hy:ev f y=.int .u64 b):EX P f (.binOp .add T x y U) ((.int .u64 (nD (a+b)))) d ty pos af w:=⟨aIt hx hy⟩
theorem V_u64mul {a b:Int} {T U:TypeId} (hx:ev f x=.int .u64 a) (hy:ev f y=.int .u64 b):EX P f (.binOp .mul T x y U) ((.int .u64 (nD (a * b)))) d ty pos af w:=⟨R_u64mul hx hy⟩
theorem V_shrU {a b c:Int} {yk:IntKind} {T U:TypeId} (hx:ev f x=.int .u64 a) (hy:ev f y=.int yk b) (hc:shU a b=some c):EX P f (.binOp .shr T x y U) ((.int .u64 c)) d ty pos af w:=⟨R_shrU hx hy hc⟩
theorem V_andU {a b:Int} {T U:TypeId} (hx:ev f x=.int .u64 a) (hy:ev f y=.int .u64 b):EX P f (.binOp .and T x y U) ((.int .u64 (anU a b))) d ty pos af w:=⟨R_andU hx hy⟩
theorem V_slSLH {s r:aZ} {lo hi:Int} {T:TypeId} (hT:∀ w,(underlying T).run P w=.ok .string w) (hx:ev f x=str s) (hl:ev f y=i64 lo) (hh:ev f z=i64 hi) (hr:yK s lo hi=some r):EX P f (.slice T x (some y) (some z) none) ((str r)) d ty pos af w:=⟨R_slSLH hT hx hl hh hr⟩
theorem V_slSL {s r:aZ} {lo:Int} {T:TypeId} (hT:∀ w,(underlying T).run P w=.ok .string w) (hx:ev f x=str s) (hl:ev f y=i64 lo) (hr:yK s lo (s.length:Int)=some r):EX P f (.slice T x (some y) none none) ((str r)) d ty pos af w:=⟨R_slSL hT hx hl hr⟩
theorem V_slSH {s r:aZ} {hi:Int} {T:TypeId} (hT:∀ w,(underlying T).run P w=.ok .string w) (hx:ev f x=str s) (hh:ev f z=i64 hi) (hr:yK s 0 hi=some r):EX P f (.slice T x none (some z) none) ((str r)) d ty pos af w:=⟨R_slSH hT hx hh hr⟩
theorem V_isNil {T E:TypeId} {sz:Nat} {U:TypeId} {a:Option Addr} {n c:Nat} (hT:SLT P T E sz) (hx:ev f x=.slice a n c) (hy:ev f y=.slice none 0 0):EX P f (.binOp .eql T x y U) ((.bool a.isNone)) d ty pos af w:=⟨aQX hT hx hy⟩
theorem V_field {S:TypeId} {i o:Nat} {cs:List Value} {v:Value} (hF:FV P S i o) (hx:ev f x=.agg cs.toArray) (hv:cs[o]?=some v):EX P f (.field S x i) (v) d ty pos af w:=⟨aQV hF hx hv⟩
theorem V_build {T:TypeId} {places:List (Nat × Nat)} {zs cs:List Value} {ps:Array (Nat × Operand)} {vs:List (Nat × Value)} (hB:BS P T places zs)
  (hp:ps.toList.map (fun p=>(p.1,ev f p.2))=vs) (hf:Instr.fill (fun i=>places[i]?) zs.toArray vs=some cs.toArray):EX P f (.build T ps) ((.agg cs.toArray)) d ty pos af w:=⟨dF hB hp hf⟩
theorem aRx {fn:Fn} {xs:Array Operand} {vs:List Value} (hv:xs.toList.map (ev f)=vs):EX P f (.makeFunc fn #[] xs) ((.func fn #[] vs.toArray)) d ty pos af w:=⟨nH hv⟩
end
section
variable {P:Program} {n:Nat} {ops:Array Oper} {Q:mB} {f:Nat->Value} {w:World} {ty:TypeId} {pos:String} {af:Array Go.Edge} {rest:List Oper} {C:World->Prop} {R:(Nat->Value)->Prop}
theorem VO {v:Value} {d:Nat} {op:Op} (hr:EX P f op v d ty pos af w) (h:WO P n ops rest Q (upd f d v) w):WO P n ops (⟨some d,op,ty,pos,af,none⟩::rest) Q f w:=aC hr.h h
theorem VQ {v:Value} {d:Nat} {op:Op} (hr:∀ w,C w->EX P f op v d ty pos af w) (h:WQ P n ops C rest R (upd f d v)):WQ P n ops C (⟨some d,op,ty,pos,af,none⟩::rest) R f:=bD (fun w hw=>(hr w hw).h) h
theorem V_onT {j g:Nat} {op:Op} {dst:Option Tmp} {b:Bool} (hd:(ops[j]?).bind (·.dst)=some g) (hx:f g=.bool b) (hb:b=true) (h:WO P n ops (⟨dst,op,ty,pos,af,none⟩::rest) Q f w):WO P n ops (⟨dst,op,ty,pos,af,some (j,true)⟩::rest) Q f w:=bF hb hd hx h
theorem V_onF {j g:Nat} {op:Op} {dst:Option Tmp} {b:Bool} (hd:(ops[j]?).bind (·.dst)=some g) (hx:f g=.bool b) (hb:¬ b=true) (h:WO P n ops (⟨dst,op,ty,pos,af,none⟩::rest) Q f w):WO P n ops (⟨dst,op,ty,pos,af,some (j,false)⟩::rest) Q f w:=bK hb hd hx h
theorem V_offF {j g:Nat} {op:Op} {dst:Option Tmp} {b:Bool} (hd:(ops[j]?).bind (·.dst)=some g) (hx:f g=.bool b) (hb:¬ b=true) (h:WO P n ops rest Q (aDb f dst undef) w):WO P n ops (⟨dst,op,ty,pos,af,some (j,true)⟩::rest) Q f w:=aV hb hd hx h
theorem V_offT {j g:Nat} {op:Op} {dst:Option Tmp} {b:Bool} (hd:(ops[j]?).bind (·.dst)=some g) (hx:f g=.bool b) (hb:b=true) (h:WO P n ops rest Q (aDb f dst undef) w):WO P n ops (⟨dst,op,ty,pos,af,some (j,false)⟩::rest) Q f w:=bC hb hd hx h
theorem Q_onT {j g:Nat} {op:Op} {dst:Option Tmp} {b:Bool} (hd:(ops[j]?).bind (·.dst)=some g) (hx:f g=.bool b) (hb:b=true) (h:WQ P n ops C (⟨dst,op,ty,pos,af,none⟩::rest) R f):WQ P n ops C (⟨dst,op,ty,pos,af,some (j,true)⟩::rest) R f:=bW hd hx hb h
theorem Q_onF {j g:Nat} {op:Op} {dst:Option Tmp} {b:Bool} (hd:(ops[j]?).bind (·.dst)=some g) (hx:f g=.bool b) (hb:¬ b=true) (h:WQ P n ops C (⟨dst,op,ty,pos,af,none⟩::rest) R f):WQ P n ops C (⟨dst,op,ty,pos,af,some (j,false)⟩::rest) R f:=bW hd hx (by simpa using hb) h
theorem Q_offF {j g:Nat} {op:Op} {dst:Option Tmp} {b:Bool} (hd:(ops[j]?).bind (·.dst)=some g) (hx:f g=.bool b) (hb:¬ b=true) (h:WQ P n ops C rest R (aDb f dst undef)):WQ P n ops C (⟨dst,op,ty,pos,af,some (j,true)⟩::rest) R f:=bE hd hx (by cases b<;>simp_all) h
theorem Q_offT {j g:Nat} {op:Op} {dst:Option Tmp} {b:Bool} (hd:(ops[j]?).bind (·.dst)=some g) (hx:f g=.bool b) (hb:b=true) (h:WQ P n ops C rest R (aDb f dst undef)):WQ P n ops C (⟨dst,op,ty,pos,af,some (j,false)⟩::rest) R f:=bE hd hx (by cases b<;>simp_all) h
theorem V_condT {c:Operand} {x y:Code} {b:Bool} (hc:ev f c=.bool b) (hb:b=true) (h:W P n x Q f w):W P n (.cond c x y) Q f w:=aL hb hc h
theorem V_condF {c:Operand} {x y:Code} {b:Bool} (hc:ev f c=.bool b) (hb:¬ b=true) (h:W P n y Q f w):W P n (.cond c x y) Q f w:=aI hb hc h
end
section
variable {P:Program} {n:Nat} {ops:Array Oper} {Q:mB} {f:Nat->Value} {w:World} {ty:TypeId} {pos:String} {af:Array Go.Edge} {rest:List Oper} {C:World->Prop} {R:(Nat->Value)->World->Prop} {os:List Oper} {l:List (Nat × Nat)} {d:Nat} {op:Op} {v:Value}
theorem V_WE {i:Nat} (hi:aBP os i=some ⟨some d,op,ty,pos,af,none⟩) (hr:∀ w,C w->EX P f op v d ty pos af w) (h:WE P n os.toArray C l R (upd f d v) w):WE P n os.toArray C ((i,0)::l) R f w:=bQ hi (fun w hw=>(hr w hw).h) h
theorem V_WT {i:Nat} (hi:aBP os i=some ⟨some d,op,ty,pos,af,none⟩) (hr:∀ w,EX P f op v d ty pos af w) (h:WE P n os.toArray C l R (upd f d v) w):WE P n os.toArray C ((i,3)::l) R f w:=WE_t hi (fun w=>(hr w).h) h
theorem V_L {T:TypeId} {x:Operand} (h:EX P f (.load T x) v d ty pos af w):EX P f (.load T x) v d ty pos af w:=h
theorem V_B {o:BinOp} {T U:TypeId} {x y:Operand} (h:EX P f (.binOp o T x y U) v d ty pos af w):EX P f (.binOp o T x y U) v d ty pos af w:=h
theorem st_I {k:FuncId} {fn:Func} {c:Code} {args:List Value} {Φ:Value->World->Prop} (hf:P.funcs[k]?=some fn) (h:W P fn.ntmps c (retQ P fn Φ) (initF args) w) (hb:fn.body=some c:=by exact rfl) (hok:okc fn.ntmps c=true:=by kernel_rfl) (hl:Nat.ble args.length fn.ntmps=true:=by exact rfl):Calls P k args.toArray w (eH Φ):=aS hf hb hok (Nat.le_of_ble_eq_true hl) h
end
theorem ft_:¬ (false=true):=by decide
theorem aQH {p:Prop} (h:p:=by first|assumption|exact rfl|exact ft_):p:=h
inductive Rep:List gH->gH->(gH->List gH)->Prop
 |head {x:gH} {l:List gH}:Rep (x::l) x (fun y=>y::l)
 |tail {z x:gH} {l:List gH} {C:gH->List gH} (h:Rep l x C):Rep (z::l) x (fun y=>z::C y)
theorem Rep.ix {L:List gH} {x:gH} {C:gH->List gH} (h:Rep L x C):∃ i:Nat,L[i]?=some x/\∀ y,L.set i y=C y:=by
 induction h with
 |head=>exact ⟨0,rfl,fun _=>rfl⟩
 |tail h ih=>obtain ⟨i,h1,h2⟩:=ih;exact ⟨i+1,h1,fun y=>by rw [List.set_cons_succ,h2]⟩
theorem st_M {p:Prop} (h:p:=by with_reducible first|exact Rep.head|exact Rep.tail Rep.head|exact Rep.tail (Rep.tail Rep.head)|exact Rep.tail (Rep.tail (Rep.tail Rep.head))|exact Rep.tail (Rep.tail (Rep.tail (Rep.tail Rep.head)))|exact Rep.tail (Rep.tail (Rep.tail (Rep.tail (Rep.tail Rep.head))))|exact Rep.tail (Rep.tail (Rep.tail (Rep.tail (Rep.tail (Rep.tail Rep.head)))))|exact Rep.tail (Rep.tail (Rep.tail (Rep.tail (Rep.tail (Rep.tail (Rep.tail Rep.head))))))|exact Rep.tail (Rep.tail (Rep.tail (Rep.tail (Rep.tail (Rep.tail (Rep.tail (Rep.tail Rep.head)))))))|exact Rep.tail (Rep.tail (Rep.tail (Rep.tail (Rep.tail (Rep.tail (Rep.tail (Rep.tail (Rep.tail Rep.head))))))))|exact Rep.tail (Rep.tail (Rep.tail (Rep.tail (Rep.tail (Rep.tail (Rep.tail (Rep.tail (Rep.tail (Rep.tail Rep.head)))))))))|exact Rep.tail (Rep.tail (Rep.tail (Rep.tail (Rep.tail (Rep.tail (Rep.tail (Rep.tail (Rep.tail (Rep.tail (Rep.tail Rep.head))))))))))|exact Rep.tail (Rep.tail (Rep.tail (Rep.tail (Rep.tail (Rep.tail (Rep.tail (Rep.tail (Rep.tail (Rep.tail (Rep.tail (Rep.tail Rep.head)))))))))))|exact Rep.tail (Rep.tail (Rep.tail (Rep.tail (Rep.tail (Rep.tail (Rep.tail (Rep.tail (Rep.tail (Rep.tail (Rep.tail (Rep.tail (Rep.tail Rep.head))))))))))))):p:=h
inductive SetV:List Value->Nat->Value->List Value->Prop
 |zero {x v:Value} {l:List Value}:SetV (x::l) 0 v (v::l)
 |succ {x v:Value} {l m:List Value} {t:Nat} (h:SetV l t v m):SetV (x::l) (t+1) v (x::m)
theorem SetV.eq {l m:List Value} {t:Nat} {v:Value} (h:SetV l t v m):l.take t++[v]++l.drop (t+1)=m/\t+1<=l.length:=by
 induction h with
 |zero=>exact ⟨rfl,by simp⟩
 |succ h ih=>exact ⟨by simpa using ih.1,by simpa using ih.2⟩
inductive StR:Value->List Value->Nat->List Value->Nat->Prop
 |one {v:Value} {vs us:List Value} {t:Nat} (h:SetV vs t v us) (hv:v.cells=#[v]) (h1:v.oneCell'=true):StR v vs t us 1
 |all {v:Value} {vs us:List Value} {m:Nat} (hv:v.cells=us.toArray) (hm:us.length=m) (hl:vs.length=m) (h1:us.all (fun u=>u.oneCell')=true):StR v vs 0 us m
theorem st_U {p:Prop} (h:p:=by first|exact StR.one (by (repeat (first|exact SetV.zero|apply SetV.succ));first|done|fail) rfl rfl|exact StR.all rfl rfl rfl rfl):p:=h
section
variable {P:Program} {n:Nat} {ops:Array Oper} {rest:List Oper} {Q:mB} {f:Nat->Value} {w:World} {d:Nat} {x y:Operand} {ty:TypeId} {pos:String} {af:Array Go.Edge} {G:qN} {K:Hp} {L:List gH} {C:gH->List gH}
theorem st_s {T E:TypeId} {b t m:Nat} {vs us:List Value} {v:Value} (h:∀ w',aJ G K (C (box b E us)) w'->WO P n ops rest Q f w') (hx:ev f x=.pointer (some ⟨b,t,none⟩):=by exact aJu) (hs:aJ G K L w:=by assumption) (hr:Rep L (box b E vs) C:=by exact st_M) (hy:ev f y=v:=by exact aJu) (hT:∀ w,(Go.sizeOf T).run P w=.ok m w:=by exact st_z) (hu:StR v vs t us m:=by exact st_U):WO P n ops (⟨none,.store T x y,ty,pos,af,none⟩::rest) Q f w:=by
 obtain ⟨i,h1,h2⟩:=hr.ix
 cases hu with
 |one g1 g2 g3=>exact cA hT hs h1 hx hy g2 rfl (by simpa using g3) (by simpa using g1.eq.2) g1.eq.1 fun w' q=>h w' (h2 _ ▸ q)
 |all g1 g2 g3 g4=>exact cA hT hs h1 hx hy g1 g2 (by simpa using g4) (by simp [g3]) (by simp [g3]) fun w' q=>h w' (h2 _ ▸ q)
def ZA (P:Program) (T:TypeId) (vs:List Value):Prop:=∃ v,ZV P T v/\v.cells=vs.toArray
theorem st_a {T:TypeId} {vs:List Value} (h:∀ b w',aJ G K (box b T vs::L) w'->WO P n ops rest Q (upd f d (.pointer (some ⟨b,0,none⟩))) w') (hz:ZA P T vs:=by exact st_y) (hs:aJ G K L w:=by assumption):WO P n ops (⟨some d,.alloc T,ty,pos,af,none⟩::rest) Q f w:=by
 obtain ⟨v,h1,h2⟩:=hz
 exact bZ h1 hs h2 h
theorem st_x {T:TypeId} {v:Value} {vs:List Value} (h:∀ b w',aJ G K (box b T vs::L) w'->WO P n ops rest Q (upd f d (.pointer (some ⟨b,0,none⟩))) w') (hx:ev f x=v:=by exact aJu) (hv:v.cells=vs.toArray:=by exact rfl) (hs:aJ G K L w:=by assumption):WO P n ops (⟨some d,.box T x,ty,pos,af,none⟩::rest) Q f w:=fJ hs hx hv h
theorem els_pod {α:Type} [fB α] {K:Hp}:∀ {xs:List α},els K (xs.flatMap fB.enc) xs
 |[]=>trivial
 |x::xs=>by
  have e:(fB.enc x).length=El.sz α:=fB.len x
  have e1:((x::xs).flatMap fB.enc).take (El.sz α)=fB.enc x:=by rw [List.flatMap_cons,←e,List.take_left'];rfl
  have e2:((x::xs).flatMap fB.enc).drop (El.sz α)=xs.flatMap fB.enc:=by rw [List.flatMap_cons,←e,List.drop_left'];rfl
  refine ⟨?_,?_⟩
  ·rw [e1];exact rfl
  ·rw [e2];exact els_pod
theorem aRl {α:Type} [fB α]:∀ {xs:List α},(xs.flatMap fB.enc).length=xs.length * fB.sz α
 |[]=>by simp
 |x::xs=>by rw [List.flatMap_cons,List.length_append,fB.len,aRl,List.length_cons,Nat.succ_mul,Nat.add_comm]
theorem st_b {α:Type} {iα:fB α} {T E:TypeId} {sz len:Nat} {zs:List Value} {ps:Array (Nat × Operand)} (xs:List α) (h:∀ a w',aJ G K (aN E K a len xs::L) w'->WO P n ops rest Q (upd f d (.slice a len len)) w') (hT:SLT P T E sz:=by exact st_S) (hE:EZ P E zs:=by exact st_e) (hsz:fB.sz α=sz:=by exact rfl) (hzs:zs.length=sz:=by exact rfl) (hs:aJ G K L w:=by assumption) (hlen:xs.length=len:=by exact rfl)
  (hf:Instr.fill (fun i=>some (i * sz,sz)) ((Array.range (len * sz)).map ((if len * sz=0 then #[] else zs.toArray)[· % (if len * sz=0 then #[] else zs.toArray).size]!)) (ps.toList.map (fun p=>(p.1,ev f p.2)))=some (xs.flatMap fB.enc).toArray:=by first|exact rfl|kernel_rfl) (hbig:Nat.ble (len * sz) 16777216=true:=by exact rfl):
  WO P n ops (⟨some d,.buildSlice T len ps,ty,pos,af,none⟩::rest) Q f w:=
 cB hT hE hsz hzs hs rfl hf hlen (by rw [aRl,hlen,hsz]) hbig els_pod h
end
section
variable {P:Program} {n:Nat} {ops:Array Oper} {rest:List Oper} {Q:mB} {f:Nat->Value} {w:World} {d:Nat} {x y:Operand} {ty:TypeId} {pos:String} {af:Array Go.Edge} {G:qN} {K:Hp} {L:List gH} {C:gH->List gH} {α:Type}
theorem st_p {iα:fB α} {T E E2:TypeId} {sz:Nat} {zs:List Value} {a a2:Option Addr} {cap c2 l1 l2:Nat} {xs ys zz:List α} {Ke K2:Hp} (h:∀ a' cap' w',aJ G K (C (aN E K a' cap' zz)) w'->WO P n ops rest Q (upd f d (.slice a' zz.length cap')) w') (hT:SLT P T E sz:=by exact st_S) (hU:P.underlying T=some (.slice E):=by exact st_u) (hE:EZ P E zs:=by exact st_e) (hx:ev f x=.slice a l1 cap:=by exact aJu) (hy:ev f y=.slice a2 l2 c2:=by exact aJu)
  (hs:aJ G K (aN E2 K2 a2 c2 ys::L) w:=by assumption) (hr:Rep L (aN E Ke a cap xs) C:=by exact st_M) (hm:nE xs ys=some zz:=by assumption) (hsz:fB.sz α=sz:=by exact rfl) (hzs:zs.length=sz:=by exact rfl) (hl1:l1=xs.length:=by exact rfl) (hl2:l2=ys.length:=by exact rfl):
  WO P n ops (⟨some d,.call ⟨.builtin .append,#[x,y],#[T,T]⟩,ty,pos,af,none⟩::rest) Q f w:=by
 obtain ⟨i,h1,h2⟩:=hr.ix
 have hs:aJ G K (aN E2 K a2 c2 ys::L) w:=hs
 have h1:L[i]?=some (aN E K a cap xs):=h1
 exact dG hT hU hE hsz hzs hs h1 (Hp.le_refl _) (Hp.le_refl _) hm hx hl1 hy hl2 (fun _ h=>h) fun a' c' w' q=>h a' c' w' (h2 _ ▸ q)
end
inductive Sub:List gH->List gH->Prop
 |refl {l:List gH}:Sub l l
 |pick {l m k:List gH} {x:gH} (h:Pck l x m) (g:Sub m k):Sub l (x::k)
 |drop {l m:List gH} {x:gH} (g:Sub l m):Sub (x::l) m
 |nilS {α:Type} {iα:El α} {E:TypeId} {Ke:Hp} {l k:List gH} (g:Sub l k):Sub l (aN E Ke none 0 ([]:List α)::k)
theorem Sub.sat {L M:List gH} (s:Sub L M):∀ {h:Hp},iT L h->iT M h:=by
 induction s with
 |refl=>exact fun a=>a
 |pick p _ ih=>
  intro h a
  obtain ⟨i,h1,rfl⟩:=p.ix
  obtain ⟨g1,g2,b1,b2,b3,b4,b5⟩:=a.pick h1
  exact ⟨g1,g2,b1,b2,b3,b4,ih b5⟩
 |drop _ ih=>
  intro h a
  obtain ⟨g1,g2,_,_,_,b4,b5⟩:=a
  exact (ih b5).le b4
 |nilS _ ih=>
  intro h a
  have e1:Hp.dj (fun _=>none) h:=fun _=>Or.inl rfl
  have e2:Hp.le (fun _=>none) h:=fun _ _ e=>by cases e
  exact ⟨fun _=>none,h,aN.nil _ _ _,e1,e2,Hp.le_refl _,ih a⟩
theorem st_N {p:Prop} (h:p:=by (repeat (first|with_reducible exact Sub.refl|(apply Sub.pick (by with_reducible first|exact Pck.head|exact Pck.tail Pck.head|exact Pck.tail (Pck.tail Pck.head)|exact Pck.tail (Pck.tail (Pck.tail Pck.head))|exact Pck.tail (Pck.tail (Pck.tail (Pck.tail Pck.head)))|exact Pck.tail (Pck.tail (Pck.tail (Pck.tail (Pck.tail Pck.head))))|exact Pck.tail (Pck.tail (Pck.tail (Pck.tail (Pck.tail (Pck.tail Pck.head)))))|exact Pck.tail (Pck.tail (Pck.tail (Pck.tail (Pck.tail (Pck.tail (Pck.tail Pck.head))))))|exact Pck.tail (Pck.tail (Pck.tail (Pck.tail (Pck.tail (Pck.tail (Pck.tail (Pck.tail Pck.head)))))))|exact Pck.tail (Pck.tail (Pck.tail (Pck.tail (Pck.tail (Pck.tail (Pck.tail (Pck.tail (Pck.tail Pck.head))))))))|exact Pck.tail (Pck.tail (Pck.tail (Pck.tail (Pck.tail (Pck.tail (Pck.tail (Pck.tail (Pck.tail (Pck.tail Pck.head)))))))))|exact Pck.tail (Pck.tail (Pck.tail (Pck.tail (Pck.tail (Pck.tail (Pck.tail (Pck.tail (Pck.tail (Pck.tail (Pck.tail Pck.head))))))))))|exact Pck.tail (Pck.tail (Pck.tail (Pck.tail (Pck.tail (Pck.tail (Pck.tail (Pck.tail (Pck.tail (Pck.tail (Pck.tail (Pck.tail Pck.head)))))))))))|exact Pck.tail (Pck.tail (Pck.tail (Pck.tail (Pck.tail (Pck.tail (Pck.tail (Pck.tail (Pck.tail (Pck.tail (Pck.tail (Pck.tail (Pck.tail Pck.head))))))))))))))|(apply Sub.pick (by first|exact Pck.head|exact Pck.tail Pck.head|exact Pck.tail (Pck.tail Pck.head)|exact Pck.tail (Pck.tail (Pck.tail Pck.head))|exact Pck.tail (Pck.tail (Pck.tail (Pck.tail Pck.head)))|exact Pck.tail (Pck.tail (Pck.tail (Pck.tail (Pck.tail Pck.head))))))|apply Sub.nilS|apply Sub.drop));first|done|fail):p:=h
theorem st_c {G:qN} {K K':Hp} {L M:List gH} {w:World} (hs:aJ G K L w:=by assumption) (hk:K'.le K:=by first|exact Hp.le_refl _|exact aKg) (hb:Sub L M:=by exact st_N):aJ G K' M w:=
 have hs:=hs.weakK hk
 let ⟨e,h,gd,gl,d,k,l,r⟩:=hs;⟨e,h,gd,gl,d,k,l,hb.sat r⟩
section
variable {P:Program} {n:Nat} {Q:mB} {f:Nat->Value} {w:World} {G:qN} {K:Hp} {L:List gH}
theorem st_k {id:Nat} {l:List Oper} (h:WQ P n l.toArray (aJ G K L) l (fun f=>∀ w',aJ G K L w'->Q .normal f w') f) (hs:aJ G K L w:=by assumption) (hB:Region.lexB .any l.toArray=true:=by kernel_rfl) (hm:P.follows .mixedOrders=true:=by exact bY):W P n (.region id l.toArray true) Q f w:=
 dO hm hB (hs.mono (dK.drew _)) h
end
theorem aQE {α:Type} {a b:α} {p:Prop} (h:some a=some b) (k:a=b->p):p:=k (Option.some.inj h)
theorem st_no {α:Type} {a:α} {p:Prop} (h:none=some a):p:=nomatch h
theorem aMt {α:Type} {q:α->Prop} {p:Prop} (k:∀ x,q x->p) (h:∃ x,q x):p:=let ⟨x,h⟩:=h;k x h
theorem aNd {a b p:Prop} (k:a->b->p) (h:a/\b):p:=k h.1 h.2
section
variable {P:Program} {n:Nat} {ops:Array Oper} {rest:List Oper} {Q:mB} {f:Nat->Value} {w:World} {d:Nat} {x y:Operand} {ty:TypeId} {pos:String} {af:Array Go.Edge} {G:qN} {K:Hp} {L:List gH}
theorem st_ca {k:FuncId} {xs:Array Operand} {ats:Array TypeId} {vs:List Value} {Φ:Value->World->Prop} (hk:CE P k) (hc:Calls P k vs.toArray w (eH Φ)) (hv:xs.toList.map (ev f)=vs) (h:∀ v w',Φ v w'->WO P n ops rest Q (upd f d v) w'):
  WO P n ops (⟨some d,.call ⟨.value (.func k),xs,ats⟩,ty,pos,af,none⟩::rest) Q f w:=aR hk hv hc h
theorem st_cb {k:FuncId} {xs:Array Operand} {ats:Array TypeId} {vs:List Value} {Φ:Value->World->Prop} (hk:CE P k) (hc:Calls P k vs.toArray w (eH Φ)) (hv:xs.toList.map (ev f)=vs) (h:∀ v w',Φ v w'->WO P n ops rest Q f w'):
  WO P n ops (⟨none,.call ⟨.value (.func k),xs,ats⟩,ty,pos,af,none⟩::rest) Q f w:=WO_call0 hk hv hc h
theorem st_cq {C:World->Prop} {R:(Nat->Value)->Prop} {k:FuncId} {xs:Array Operand} {ats:Array TypeId} {vs:List Value} {v:Value} (hk:CE P k) (hc:∀ w,C w->Calls P k vs.toArray w (eH fun u w'=>u=v/\C w')) (hv:xs.toList.map (ev f)=vs) (h:WQ P n ops C rest R (upd f d v)):
  WQ P n ops C (⟨some d,.call ⟨.value (.func k),xs,ats⟩,ty,pos,af,none⟩::rest) R f:=lU hk hv hc h
theorem st_i {α:Type} {iα:El α} {T E:TypeId} {sz:Nat} {a:Option Addr} {len cap:Nat} {xs:List α} {j:Int} {e:α} (hx:ev f x=.slice a len cap) (hy:ev f y=i64 j) (hr:cF K a cap xs) (hj:ix xs j=some e) (hl:len=xs.length) (hT:SLT P T E sz) (hz:El.sz α=sz)
  (h:∀ cs,eY K a (j.toNat * sz) cs->El.rd K cs e->WO P n ops rest Q (upd f d (cS a (j.toNat * sz))) w):WO P n ops (⟨some d,.indexAddr T x y,ty,pos,af,none⟩::rest) Q f w:=
 let ⟨cs,h1,h2⟩:=cF.el hz hr hj
 aC (cT hT hz hr hx hl hy hj) (h cs h1 h2)
theorem st_iQ {C:World->Prop} {R:(Nat->Value)->Prop} {α:Type} {iα:El α} {T E:TypeId} {sz:Nat} {a:Option Addr} {len cap:Nat} {xs:List α} {j:Int} {e:α} (hx:ev f x=.slice a len cap) (hy:ev f y=i64 j) (hr:cF K a cap xs) (hj:ix xs j=some e) (hl:len=xs.length) (hT:SLT P T E sz) (hz:El.sz α=sz)
  (h:∀ cs,eY K a (j.toNat * sz) cs->El.rd K cs e->WQ P n ops C rest R (upd f d (cS a (j.toNat * sz)))):WQ P n ops C (⟨some d,.indexAddr T x y,ty,pos,af,none⟩::rest) R f:=
 let ⟨cs,h1,h2⟩:=cF.el hz hr hj
 bD (fun _ _=>cT hT hz hr hx hl hy hj) (h cs h1 h2)
theorem st_iE {C:World->Prop} {R:(Nat->Value)->World->Prop} {os:List Oper} {l:List (Nat × Nat)} {i:Nat} {α:Type} {iα:El α} {T E:TypeId} {sz:Nat} {a:Option Addr} {len cap:Nat} {xs:List α} {j:Int} {e:α} (hi:aBP os i=some ⟨some d,.indexAddr T x y,ty,pos,af,none⟩) (hx:ev f x=.slice a len cap) (hy:ev f y=i64 j) (hr:cF K a cap xs) (hj:ix xs j=some e) (hl:len=xs.length) (hT:SLT P T E sz) (hz:El.sz α=sz)
  (h:∀ cs,eY K a (j.toNat * sz) cs->El.rd K cs e->WE P n os.toArray C l R (upd f d (cS a (j.toNat * sz))) w):WE P n os.toArray C ((i,0)::l) R f w:=
 let ⟨cs,h1,h2⟩:=cF.el hz hr hj
 bQ hi (fun _ _=>cT hT hz hr hx hl hy hj) (h cs h1 h2)
theorem st_pd {α:Type} [fB α] {K:Hp} {cs:List Value} {e:α} (h:El.rd K cs e):cs=fB.enc e:=h
theorem st_ba {α:Type} {iα:fB α} {T E:TypeId} {sz len:Nat} {zs:List Value} {ps:Array (Nat × Operand)} {xs ys zz:List α} (hq:nE ys xs=some zz) (h:∀ a w',aJ G K (aN E K a len xs::L) w'->WO P n ops rest Q (upd f d (.slice a len len)) w') (hT:SLT P T E sz:=by exact st_S) (hE:EZ P E zs:=by exact st_e) (hsz:fB.sz α=sz:=by exact rfl) (hzs:zs.length=sz:=by exact rfl) (hs:aJ G K L w:=by assumption) (hlen:xs.length=len:=by exact rfl)
  (hf:Instr.fill (fun i=>some (i * sz,sz)) ((Array.range (len * sz)).map ((if len * sz=0 then #[] else zs.toArray)[· % (if len * sz=0 then #[] else zs.toArray).size]!)) (ps.toList.map (fun p=>(p.1,ev f p.2)))=some (xs.flatMap fB.enc).toArray:=by first|exact rfl|kernel_rfl) (hbig:Nat.ble (len * sz) 16777216=true:=by exact rfl):
  WO P n ops (⟨some d,.buildSlice T len ps,ty,pos,af,none⟩::rest) Q f w:=st_b xs h hT hE hsz hzs hs hlen hf hbig
end
theorem st_g0 {P:Program} {n:Nat} {c:Operand} {x y:Code} {Q:mB} {f:Nat->Value} {w:World} (h:W P n (.cond c x y) Q f w):W P n (.cond c x y) Q f w:=h
theorem st_g1 {P:Program} {n:Nat} {ops:Array Oper} {dst:Option Tmp} {op:Op} {ty:TypeId} {pos:String} {af:Array Go.Edge} {g:Nat × Bool} {rest:List Oper} {Q:mB} {f:Nat->Value} {w:World} (h:WO P n ops (⟨dst,op,ty,pos,af,some g⟩::rest) Q f w):WO P n ops (⟨dst,op,ty,pos,af,some g⟩::rest) Q f w:=h
theorem st_g2 {P:Program} {n:Nat} {ops:Array Oper} {dst:Option Tmp} {op:Op} {ty:TypeId} {pos:String} {af:Array Go.Edge} {g:Nat × Bool} {rest:List Oper} {C:World->Prop} {R:(Nat->Value)->Prop} {f:Nat->Value} (h:WQ P n ops C (⟨dst,op,ty,pos,af,some g⟩::rest) R f):WQ P n ops C (⟨dst,op,ty,pos,af,some g⟩::rest) R f:=h
theorem st_g3 {P:Program} {n:Nat} {ops:Array Oper} {dst:Option Tmp} {x y z:Operand} {ty:TypeId} {pos:String} {af:Array Go.Edge} {rest:List Oper} {Q:mB} {f:Nat->Value} {w:World} (h:WO P n ops (⟨dst,.pick x y z,ty,pos,af,none⟩::rest) Q f w):WO P n ops (⟨dst,.pick x y z,ty,pos,af,none⟩::rest) Q f w:=h
theorem st_g4 {P:Program} {n:Nat} {os:List Oper} {i q:Nat} {o:Oper} {g:Nat × Bool} {l:List (Nat × Nat)} {C:World->Prop} {R:(Nat->Value)->World->Prop} {f:Nat->Value} {w:World} (hi:(aBP os i).bind (·.guard)=some g) (h:WE P n os.toArray C ((i,q)::l) R f w):WE P n os.toArray C ((i,q)::l) R f w:=h
theorem st_we {P:Program} {n:Nat} {ops:Array Oper} {C:World->Prop} {l:List (Nat × Nat)} {R:(Nat->Value)->World->Prop} {f:Nat->Value} {w:World} {G:qN} {K:Hp} (h1:∃ L',aJ G K L' w) (h2:WE P n ops C l R f w):(∃ L',aJ G K L' w)/\WE P n ops C l R f w:=⟨h1,h2⟩
theorem st_cK {K K':Hp} {a:Option Addr} {k:Nat} {cs:List Value} (c:eY K a k cs) (h:K.le K'):eY K' a k cs:=c.mono h
theorem st_rK {α:Type} {iα:El α} {K K':Hp} {a:Option Addr} {cap:Nat} {xs:List α} (r:cF K a cap xs) (h:K.le K'):cF K' a cap xs:=r.mono h
section
variable {P:Program} {n:Nat} {ops:Array Oper} {rest:List Oper} {Q:mB} {f:Nat->Value} {w:World} {G:qN} {K:Hp} {L M:List gH}
theorem aKo {α:Type} {iα:El α} {E:TypeId} {Ke:Hp} {a:Option Addr} {cap:Nat} {xs:List α} (hs:aJ G K L w) (p:Pck L (aN E Ke a cap xs) M) (hK:Ke.le K) (h:∀ K',K.le K'->cF K' a cap xs->aJ G K' M w->(∀ L' w',aJ G K' L' w'->aJ G K (aN E Ke a cap xs::L') w')->WO P n ops rest Q f w):WO P n ops rest Q f w:=by
 obtain ⟨K',h1,h2,h3,h4⟩:=aJ.lendSp hs hK p
 exact h K' h1 h2 h3 h4
theorem aKp {E:TypeId} {b:Nat} {vs:List Value} (hs:aJ G K L w) (p:Pck L (box b E vs) M) (h:∀ K',K.le K'->eY K' (some ⟨b,0,none⟩) 0 vs->aJ G K' M w->(∀ L' w',aJ G K' L' w'->aJ G K (box b E vs::L') w')->WO P n ops rest Q f w):WO P n ops rest Q f w:=by
 obtain ⟨K',h1,h2,h3,h4⟩:=aJ.lendBp hs p
 exact h K' h1 h2 h3 h4
theorem st_q2 {α:Type} {iα:fB α} {d:Nat} {x y:Operand} {ty:TypeId} {pos:String} {af:Array Go.Edge} {C:gH->List gH} {T E:TypeId} {sz:Nat} {zs:List Value} {a a2:Option Addr} {cap c2 l1 l2:Nat} {xs ys zz:List α} {Ke:Hp} (hx:ev f x=.slice a l1 cap) (hy:ev f y=.slice a2 l2 c2) (hr0:cF K a2 c2 ys) (hs:aJ G K L w) (hr:Rep L (aN E Ke a cap xs) C) (hm:nE xs ys=some zz) (hT:SLT P T E sz) (hU:P.underlying T=some (.slice E)) (hE:EZ P E zs) (hsz:fB.sz α=sz) (hzs:zs.length=sz) (hl1:l1=xs.length) (hl2:l2=ys.length)
  (h:∀ a' cap' w',aJ G K (C (aN E K a' cap' zz)) w'->WO P n ops rest Q (upd f d (.slice a' zz.length cap')) w'):
  WO P n ops (⟨some d,.call ⟨.builtin .append,#[x,y],#[T,T]⟩,ty,pos,af,none⟩::rest) Q f w:=by
 obtain ⟨i,h1,h2⟩:=hr.ix
 have h1:L[i]?=some (aN E K a cap xs):=h1
 exact kP hT hU hE hsz hzs hs h1 (Hp.le_refl _) hr0 hm hx hl1 hy hl2 fun a' c' w' q=>h a' c' w' (h2 _ ▸ q)
end
end Gv
