/- Bound arguments; rows that are taken or put; maps that may be nil; ways out of loops over maps. No program in sight. -/
import Derived.Test.YtkcggmmjnpdgnaaGreatDoorJYR
import Derived.Test.YtkcggmmjnpdgnaaGreatDoorJLM
set_option linter.all false
namespace Gv
open Go
section
variable {P:Program} {n:Nat} {ops:Array Oper} {rest:List Oper} {Q:pS} {f:Nat->Value} {w:World}
variable {d:Nat} {x y z:Operand} {ty:TypeId} {pos:String} {af:Array Go.Edge}
variable {G:uK} {K:Hp} {L:List gQ}
theorem R_shrU {a b c:Int} {yk:IntKind} {T U:TypeId} (hx:ev f x=.int .u64 a) (hy:ev f y=.int yk b) (hc:shU a b=some c):
  (execOp (ev f) ⟨some d,.binOp .shr T x y U,ty,pos,af,none⟩).run P w=.ok (.value (.int .u64 c)) w:=by
 unfold shU at hc
 split at hc
 ·rename_i h
  have hn:¬ b < 0:=by omega
  cases hc
  simp [execOp,hx,hy,eqGuard,binOp,Op.shift,hn,IntKind.bits]
 ·cases hc
theorem R_andU {a b:Int} {T U:TypeId} (hx:ev f x=.int .u64 a) (hy:ev f y=.int .u64 b):
  (execOp (ev f) ⟨some d,.binOp .and T x y U,ty,pos,af,none⟩).run P w=.ok (.value (.int .u64 (anU a b))) w:=by
 have e:(BitVec.ofInt 64 a&&& BitVec.ofInt 64 b).toNat=(a % 18446744073709551616).toNat&&& (b % 18446744073709551616).toNat:=by
  rw [BitVec.toNat_and];simp [BitVec.toNat_ofInt]
 simp [execOp,hx,hy,eqGuard,binOp,Op.intBits,anU,aIR,IntKind.bits]
 exact congrArg (fun n:Nat=>gG (n:Int)) e
end
section
variable {P:Program} {n:Nat} {ops:Array Oper} {rest:List Oper} {Q:pS} {f:Nat->Value} {w:World}
variable {d:Nat} {x y z:Operand} {ty:TypeId} {pos:String} {af:Array Go.Edge}
variable {G:uK} {K:Hp} {L:List gQ} {α:Type} [Dp α] {tys:List TypeId} {hds:List (Dp.Hd α)} {xs zz:List α}
end
section
variable {G:uK} {K:Hp} {L:List gQ} {w:World} {β:Type} [gH β] {tys:List TypeId} {hds:List (Dp.Hd (List β))} {xs:List (List β)}
end
section
variable {P:Program} {n:Nat} {ops:Array Oper} {rest:List Oper} {Q:pS} {f:Nat->Value} {w:World}
variable {d:Nat} {x y z:Operand} {ty:TypeId} {pos:String} {af:Array Go.Edge}
variable {G:uK} {K:Hp} {L:List gQ} {α:Type} [Dp α] {tys:List TypeId} {hds:List (Dp.Hd α)} {xs r:List α}
end
section
variable {α:Type} [El α] {G:uK} {K:Hp} {L:List gQ} {w:World}
theorem aIX {E:TypeId} {Ke:Hp} {i:Nat} {a:Option Addr} {cap:Nat} {xs:List α} (hs:aI G K L w) (hi:L[i]?=some (aN E Ke a cap xs)):xs.length<=cap:=by
 obtain ⟨h1,hA,_⟩:=hs.entry hi
 exact hA.1
end
section
variable {P:Program} {n:Nat} {ops:Array Oper} {rest:List Oper} {Q:pS} {f:Nat->Value} {w:World}
variable {d:Nat} {x y z:Operand} {ty:TypeId} {pos:String} {af:Array Go.Edge}
variable {β:Type} [gH β] {G:uK} {K:Hp} {L:List gQ}
theorem WO_appV {T E:TypeId} {sz i:Nat} {zs:List Value} {a a1 a2:Option Addr} {cap c1 c2 l1 l2:Nat} {lo1 hi1 lo2 hi2:Int} {xs r1 r2 zz:List β} {Ke:Hp} (hT:SLT P T E sz) (hU:P.underlying T=some (.slice E)) (hE:EZ P E zs) (hsz:El.sz β=sz) (hzs:zs.length=sz)
  (hs:aI G K L w) (hi:L[i]?=some (aN E Ke a cap xs)) (hc1:slc xs lo1 hi1=some r1) (hx1:Cut (gH.sz β) a cap lo1 a1 c1) (hc2:slc xs lo2 hi2=some r2) (hx2:Cut (gH.sz β) a cap lo2 a2 c2) (hm:rE r1 r2=some zz)
  (hx:ev f x=.slice a1 l1 c1) (hl1:l1=r1.length) (hy:ev f y=.slice a2 l2 c2) (hl2:l2=r2.length)
  (h:∀ a' cap' w',aI G K (L.set i (aN E Ke a' cap' zz)) w'->WO P n ops rest Q (upd f d (.slice a' zz.length cap')) w'):
  WO P n ops (⟨some d,.call ⟨.builtin .append,#[x,y],#[T,T]⟩,ty,pos,af,none⟩::rest) Q f w:=by
 obtain ⟨hlim,rfl⟩:=aEk hm
 subst hl1;subst hl2
 have hil:i < L.length:=(List.getElem?_eq_some_iff.1 hi).1
 obtain ⟨K',hK',hr,hs',_⟩:=aI.lendS (aI.cutP hs hi hc2 hx2) (Ke:=K) (Hp.le_refl _) (show (L.set i (aN E K a2 c2 r2))[i]?=some (aN E K a2 c2 r2) by simp [hil])
 obtain ⟨ry,k1,k2,k3,k4⟩:=hr.rows r2.length (Nat.le_refl _)
 obtain ⟨a',cap',w',hr',hs2⟩:=aFg (ty:=ty) (Kt:=Ke) (Ke:=Ke) (a:=a1) (cap:=c1) (xs:=r1) (a2:=a2) (c2:=c2) (ys:=r2) (P:=P) (sz:=sz) (zs:=zs) hT hU hE hsz hzs (aI.cutP hs hi hc1 hx1) (i:=i) (by simp [hil]) (Hp.le_refl _) k1 k2 (fun hypos=>by
  have hrl:0 < ry.length:=by rw [k1];exact Nat.mul_pos hypos (El.pos (α:=β))
  obtain ⟨ad,c,E',fr,e,s,k,_⟩:=k3 0 _ (List.getElem?_eq_getElem hrl)
  refine ⟨ad,e,fun j u hj=>?_⟩
  obtain ⟨ad',c',E'',fr',e',s',k',hc'⟩:=k3 j u hj
  rw [e] at e';cases e'
  obtain ⟨ab,ao,as⟩:=ad
  simp only at s'
  subst s'
  rw [nW]
  exact rF hs'.know k' hc') (fun i d hi hd=>k4 i d hi hd) hlim
 rw [List.set_set] at hs2
 refine aAm rfl (w':=w') (v:=.slice a' (r1++r2).length cap') ?_ (h _ _ _ hs2)
 simp only [execOp,resolve,invoke,builtin,Sem.run_bind,Sem.run_pure,Result.andThen_ok,List.map_toArray,List.map_cons,List.map_nil,hx,hy,hr']
end
section
variable {κ ν:Type} [DecidableEq κ] [Vl κ] [Vl ν] {G:uK} {K:Hp} {L:List gQ} {w:World}
def mpc (ok:Bool) (r:Nat) (kv:List (κ × ν)):gQ:=fun h=>ok=true->mpo r kv h
theorem aI.mpcN {r:Nat} {kv:List (κ × ν)} (s:aI G K L w):aI G K (mpc false r kv::L) w:=
 s.new (dQ.refl w) (h1:=Hp.nil) (fun h=>by cases h) (Hp.nil_le _) (Hp.nil_dj _)
theorem aI.mpcT {i r:Nat} {kv:List (κ × ν)} (s:aI G K L w) (e:L[i]?=some (mpo r kv)):aI G K (L.set i (mpc true r kv)) w:=s.weak e fun _ a _=>a
theorem aI.mpcE {i r:Nat} {ok:Bool} {kv:List (κ × ν)} (s:aI G K L w) (e:L[i]?=some (mpc ok r kv)) (h:ok=true):aI G K (L.set i (mpo r kv)) w:=s.weak e fun _ a=>a h
end
section
variable {κ:Type}
theorem aNU {t:κ->Option Bool}:∀ {l ks:List κ},mfil t l=some ks->ks.length<=l.length/\(ks.length=l.length<->∀ k∈l,t k=some true):=by
 intro l
 induction l with
 |nil=>intro ks h;cases h;simp
 |cons k l ih=>
  intro ks h
  unfold mfil at h
  obtain ⟨b,hb,h⟩:=aC h
  obtain ⟨r,hr,h⟩:=aC h
  obtain ⟨i1,i2⟩:=ih hr
  cases h
  cases b with
  |true=>simp [hb,i2,i1]
  |false=>
   simp only [Bool.false_eq_true,if_false,List.length_cons]
   refine ⟨by omega,⟨fun e=>by omega,fun e=>?_⟩⟩
   have:=e k List.mem_cons_self
   rw [hb] at this;cases this
theorem mall_t {ρ:Type} {t:κ->Option Bool} {l ks seen:List κ} {A B R:Option ρ} (hks:mfil t l=some ks) (p:(seen++[]).Perm l) (hs:∀ j∈seen,t j=some true)
  (hm:(if (decide (ks.length=l.length))=true then A else B)=R):A=R:=by
 have:ks.length=l.length:=(aNU hks).2.2 fun k hk=>hs k (by have:=p.mem_iff.2 hk;simpa using this)
 rw [if_pos (by simp [this])] at hm
 exact hm
theorem mall_f {ρ:Type} {t:κ->Option Bool} {l ks seen rem rem':List κ} {k:κ} {A B R:Option ρ} (hks:mfil t l=some ks) (p:(seen++rem).Perm l) (q:(k::rem').Perm rem) (hb:t k=some false)
  (hm:(if (decide (ks.length=l.length))=true then A else B)=R):B=R:=by
 have:¬ ks.length=l.length:=fun e=>by
  have:=(aNU hks).2.1 e k (p.mem_iff.1 (List.mem_append_right _ (q.mem_iff.1 List.mem_cons_self)))
  rw [hb] at this;cases this
 rw [if_neg (by simp [this])] at hm
 exact hm
theorem all_next {t:κ->Option Bool} {seen:List κ} {k:κ} (h:∀ j∈seen,t j=some true) (hb:t k=some true):∀ j∈seen++[k],t j=some true:=by
 intro j hj
 rcases List.mem_append.1 hj with hj|hj
 ·exact h j hj
 ·simp at hj;subst hj;exact hb
end
end Gv
namespace Gv
open Go
section
variable {β:Type} [gH β] {G:uK} {K Ke:Hp} {L:List gQ} {w:World}
theorem aI.ex {γ:Type} {i:Nat} {A:gQ} {B:γ->gQ} {p:γ->Prop} (s:aI G K L w) (hi:L[i]?=some A) (h:∀ h1,A h1->∃ x,p x/\B x h1):∃ x,p x/\aI G K (L.set i (B x)) w:=by
 obtain ⟨e,g,gd,gl,d,k,l,r⟩:=s
 obtain ⟨h1,h2,a,dj,l1,l2,r'⟩:=r.pick hi
 obtain ⟨x,px,bx⟩:=h h1 a
 have hlt:i < L.length:=(List.getElem?_eq_some_iff.1 hi).1
 exact ⟨x,px,e,g,gd,gl,d,k,l,(kS.put bx dj r' hlt).le (Hp.un_le l1 l2)⟩
def HdR (Ke:Hp) (hds:List (Option Addr × Nat)) (xs:List (List β)):Prop:=hds.length=xs.length/\∀ (j:Nat) (hd:Option Addr × Nat) (x:List β),hds[j]?=some hd->xs[j]?=some x->bW Ke hd.1 hd.2 x
theorem frz_own {E:TypeId} {a:Option Addr} {cap:Nat} {xs:List (List β)} {h:Hp} (o:aN E Ke a cap xs h):∃ hds:List (Dp.Hd (List β)),HdR Ke hds xs/\aN E Ke a cap (dZ hds xs) h:=by
 obtain ⟨h1,h3⟩:=o
 rcases h3 with ⟨rfl,rfl,rfl⟩|⟨ad,c,rx,rfl,s,m,z,l,r1,r2⟩
 ·exact ⟨[],⟨rfl,fun j hd x h=>by simp at h⟩,Nat.le_refl _,.inl ⟨rfl,rfl,rfl⟩⟩
 ·have key:∀ i:Fin xs.length,∃ hd:Option Addr × Nat,(rx.drop (i.val * 1)).take 1=[Value.slice hd.1 (xs[i]).length hd.2]/\bW Ke hd.1 hd.2 xs[i]:=fun i=>by
   obtain ⟨a,c,e,r⟩:=r2 i.val xs[i] (List.getElem?_eq_getElem i.isLt)
   exact ⟨(a,c),e,r⟩
  let f:Fin xs.length->Option Addr × Nat:=fun i=>Classical.choose (key i)
  have hf:∀ i,(rx.drop (i.val * 1)).take 1=[Value.slice (f i).1 (xs[i]).length (f i).2]/\bW Ke (f i).1 (f i).2 xs[i]:=fun i=>Classical.choose_spec (key i)
  have hl:(List.ofFn f).length=xs.length:=List.length_ofFn
  have hg:∀ j (hj:j < xs.length),(List.ofFn f)[j]?=some (f ⟨j,hj⟩):=fun j hj=>by rw [List.getElem?_ofFn,dif_pos hj]
  refine ⟨List.ofFn f,⟨hl,fun j hd x h4 h5=>?_⟩,?_,.inr ⟨ad,c,rx,rfl,s,m,z,?_,r1,fun i d hd=>?_⟩⟩
  ·obtain ⟨hj,rfl⟩:=List.getElem?_eq_some_iff.1 h5
   rw [hg j hj] at h4
   cases h4
   exact (hf ⟨j,hj⟩).2
  ·rw [jW hl];exact h1
  ·rw [jW hl];exact l
  ·have hj:i < xs.length:=by
    have:=(List.getElem?_eq_some_iff.1 hd).1
    rwa [jW hl] at this
   unfold dZ at hd
   rw [aHV aHp (hg i hj) (List.getElem?_eq_getElem hj)] at hd
   cases hd
   exact (hf ⟨i,hj⟩).1
theorem frz_back {E:TypeId} {a:Option Addr} {cap:Nat} {hds:List (Dp.Hd (List β))} {xs:List (List β)} {Kb:Hp} {h:Hp} (hr:HdR Ke hds xs) (o:aN E Kb a cap (dZ hds xs) h):aN E Ke a cap xs h:=by
 obtain ⟨hl,hr⟩:=hr
 obtain ⟨h1,h3⟩:=o
 rw [jW hl] at h1
 rcases h3 with ⟨rfl,h4,rfl⟩|⟨ad,c,rx,rfl,s,m,z,l,r1,r2⟩
 ·obtain rfl:xs=[]:=List.length_eq_zero_iff.1 (by omega)
  exact ⟨Nat.le_refl _,.inl ⟨rfl,rfl,rfl⟩⟩
 ·rw [jW hl] at l
  refine ⟨h1,.inr ⟨ad,c,rx,rfl,s,m,z,l,r1,fun i d hd=>?_⟩⟩
  obtain ⟨hj,rfl⟩:=List.getElem?_eq_some_iff.1 hd
  have hh:hds[i]?=some (hds[i]'(by omega)):=List.getElem?_eq_getElem _
  have:=r2 i _ (aHV aHp hh hd)
  exact ⟨_,_,this,hr i _ _ hh hd⟩
theorem aI.frzOpen {E:TypeId} {i:Nat} {a:Option Addr} {cap:Nat} {xs:List (List β)} (s:aI G K L w) (hi:L[i]?=some (aN E Ke a cap xs)):∃ hds:List (Dp.Hd (List β)),HdR Ke hds xs/\aI G K (L.set i (aN E Ke a cap (dZ hds xs))) w:=
 aI.ex (B:=fun hds:List (Dp.Hd (List β))=>aN E Ke a cap (dZ hds xs)) s hi fun _ o=>frz_own o
theorem aI.frzClose {E:TypeId} {i:Nat} {a:Option Addr} {cap:Nat} {hds:List (Dp.Hd (List β))} {xs:List (List β)} {Kb:Hp} (s:aI G K L w) (hi:L[i]?=some (aN E Kb a cap (dZ hds xs))) (hr:HdR Ke hds xs):aI G K (L.set i (aN E Ke a cap xs)) w:=by
 obtain ⟨_,_,h⟩:=aI.ex (γ:=Unit) (p:=fun _=>True) (B:=fun _=>aN E Ke a cap xs) s hi fun _ o=>⟨(),trivial,frz_back hr o⟩
 exact h
theorem HdR.mono {K':Hp} {hds:List (Option Addr × Nat)} {xs:List (List β)} (h:HdR Ke hds xs) (hk:Ke.le K'):HdR K' hds xs:=⟨h.1,fun j hd x h1 h2=>(h.2 j hd x h1 h2).mono hk⟩
theorem HdR.set {hds:List (Option Addr × Nat)} {xs:List (List β)} (h:HdR Ke hds xs) {j:Nat} {hd:Option Addr × Nat} {x:List β} (hx:bW Ke hd.1 hd.2 x):HdR Ke (hds.set j hd) (xs.set j x):=by
 refine ⟨by rw [List.length_set,List.length_set];exact h.1,fun k d y h1 h2=>?_⟩
 rw [List.getElem?_set] at h1 h2
 by_cases e:j=k
 ·subst e
  rw [if_pos rfl] at h1 h2
  split at h1
  ·split at h2
   ·cases h1;cases h2;exact hx
   ·cases h2
  ·cases h1
 ·rw [if_neg e] at h1 h2
  exact h.2 k d y h1 h2
theorem HdR.ovw {hds:List (Option Addr × Nat)} {xs:List (List β)} (h:HdR Ke hds xs) {lo m:Nat} (hm:lo+m<=xs.length):HdR Ke (hds.take lo++List.replicate m (none,0)++hds.drop (lo+m)) (xs.take lo++List.replicate m []++xs.drop (lo+m)):=by
 have hl:=h.1
 refine ⟨by simp only [List.length_append,List.length_take,List.length_replicate,List.length_drop];omega,fun k d y h1 h2=>?_⟩
 by_cases k1:k < lo
 ·rw [List.append_assoc,List.getElem?_append_left (by rw [List.length_take];omega),List.getElem?_take_of_lt k1] at h1 h2
  exact h.2 k d y h1 h2
 ·by_cases k2:k < lo+m
  ·rw [List.append_assoc,List.getElem?_append_right (by rw [List.length_take];omega),List.getElem?_append_left (by rw [List.length_take,List.length_replicate];omega),List.getElem?_replicate_of_lt (by rw [List.length_take];omega)] at h1 h2
   cases h1;cases h2
   exact aKn _
  ·rw [List.getElem?_append_right (by simp only [List.length_append,List.length_take,List.length_replicate];omega),List.getElem?_drop] at h1 h2
   have e1:lo+m+(k - (hds.take lo++List.replicate m (none,0)).length)=k:=by simp only [List.length_append,List.length_take,List.length_replicate];omega
   have e2:lo+m+(k - (xs.take lo++List.replicate m []).length)=k:=by simp only [List.length_append,List.length_take,List.length_replicate];omega
   rw [e1] at h1
   rw [e2] at h2
   exact h.2 k d y h1 h2
variable {P:Program} {n:Nat} {ops:Array Oper} {rest:List Oper} {Q:pS} {f:Nat->Value}
variable {d:Nat} {x y z:Operand} {ty:TypeId} {pos:String} {af:Array Go.Edge}
theorem aIY {γ:Type} {l:List γ} {i:Nat} {a b:γ} (h:l[i]?=some a):(l.set i b)[i]?=some b:=List.getElem?_set_self (List.getElem?_eq_some_iff.1 h).1
theorem aMW {T E:TypeId} {a ra:Option Addr} {i cap kk rc:Nat} {j:Int} {xs zz:List (List β)} {e r:List β} (hT:∀ w,(Go.sizeOf T).run P w=.ok 1 w) (hs:aI G K L w) (hi:L[i]?=some (aN E Ke a cap xs)) (hK:Ke.le K)
  (hx:ev f x=cC a kk) (hkk:kk=j.toNat * El.sz (List β)+0) (hy:ev f y=.slice ra r.length rc) (hj:ix xs j=some e) (hst:Gv.st xs j r=some zz) (hr:bW Ke ra rc r)
  (h:∀ w',aI G K (L.set i (aN E Ke a cap zz)) w'->WO P n ops rest Q f w'):
  WO P n ops (⟨none,.store T x y,ty,pos,af,none⟩::rest) Q f w:=by
 obtain ⟨hds,hh,s1⟩:=hs.frzOpen hi
 obtain ⟨h0,h1,h2⟩:=aDy hj
 have hlt:j.toNat < hds.length:=by rw [hh.1];exact h1
 have hd:hds[j.toNat]?=some hds[j.toNat]:=List.getElem?_eq_getElem hlt
 refine kU (α:=Cells 0) (i:=i) (t:=0) (m:=1) (ns:=[Value.slice ra r.length rc]) (e:=aHp hds[j.toNat] e) (e':=aHp ((ra,rc):Dp.Hd (List β)) r) hT s1 (aIY hi) hK hx hkk hy (aEp hh.1 hj hd) (st_heads hh.1 hst) rfl rfl (fun u hu=>by simp at hu;subst hu;rfl) rfl (fun cs hc=>by cases hc;rfl) (fun w' s2=>h w' ?_)
 obtain ⟨_,_,rfl⟩:=aKm hst
 rw [List.set_set] at s2
 have s3:=s2.frzClose (xs:=xs.set j.toNat r) (aIY hi) (hh.set (j:=j.toNat) (hd:=(ra,rc)) hr)
 rw [List.set_set] at s3
 exact s3
end
end Gv
namespace Gv
open Go
section
variable {P:Program} {w:World}
end
end Gv
namespace Gv
open Go
section
variable {P:Program} {f:Nat->Value} {w:World} {d:Nat} {x y:Operand} {ty:TypeId} {pos:String} {af:Array Go.Edge} {Ts:Array TypeId}
end
end Gv
namespace Gv
open Go
section
variable {α:Type} [Dp α] {tys:List TypeId} {hds:List (Dp.Hd α)} {xs zz:List α} {G:uK} {K:Hp} {L:List gQ} {w:World}
end
section
variable {P:Program} {n:Nat} {ops:Array Oper} {rest:List Oper} {Q:pS} {f:Nat->Value} {w:World}
variable {x y:Operand} {ty:TypeId} {pos:String} {af:Array Go.Edge}
variable {G:uK} {K:Hp} {L:List gQ}
variable {α:Type} [Dp α] {tys:List TypeId} {hds:List (Dp.Hd α)} {xs zz:List α}
end
end Gv
namespace Gv
open Vl (vl)
open Go
section
variable {P:Program} {f:Nat->Value} {w:World}
variable {d:Nat} {x y:Operand} {ty:TypeId} {pos:String} {af:Array Go.Edge}
end
section
variable {α:Type} [El α]
end
section
variable {κ ν:Type} [DecidableEq κ] [Vl κ] [Vl ν]
variable {P:Program} {n:Nat} {ops:Array Oper} {rest:List Oper} {Q:pS} {f:Nat->Value} {w:World}
variable {d:Nat} {x y z:Operand} {ty:TypeId} {pos:String} {af:Array Go.Edge}
variable {G:uK} {K:Hp} {L:List gQ}
end
section
variable {G:uK} {K:Hp} {L:List gQ} {w:World}
end
section
variable {P:Program} {md:Region.Mode} {ops:Array Oper} {C C':World->Prop}
def wpF (P:Program) (ops:Array Oper) (R:Act->World->Prop):List (Nat × Nat)->(World->Prop)->Act->World->Prop
 |[],_,a,w=>R a w
 |(i,0)::l,C,a,w=>∃ o v,ops[i]?=some o/\qI P ops C o v a/\wpF P ops R l C (a.put o.dst v) w
 |(i,1)::l,C,a,w=>wpOp P ops noQ i (fun a' w'=>∃ C':World->Prop,(∀ w,C' w->C w)/\C' w'/\wpF P ops R l C' a' w') a w
 |(_,_+2)::_,_,_,_=>False
end
section
variable {P:Program} {n:Nat} {C:World->Prop} {Q:pS} {f:Nat->Value} {w:World} {R:(Nat->Value)->World->Prop} {l:List (Nat × Nat)} {os:List Oper}
structure WFm (P:Program) (n:Nat) (ops:Array Oper) (C:World->Prop) (l:List (Nat × Nat)) (R:(Nat->Value)->World->Prop) (f:Nat->Value) (w:World):Prop where
 go:ops.all (fun o=>oko n o&&okg n ops o.guard)=true->wpF P ops (fun a w=>∃ f,a=act n f/\R f w) l C (act n f) w
end
section
variable {β:Type} [gH β] {G:uK} {K:Hp} {L:List gQ} {w:World}
theorem aI.frzRows {E:TypeId} {Ke:Hp} {i:Nat} {a:Option Addr} {cap:Nat} {tys:List TypeId} {hds:List (Dp.Hd (List β))} {xs:List (List β)} (s:aI G K L w) (hl:hds.length=xs.length) (hi:L[i]?=some (aN E Ke a cap (dZ hds xs))) (hi2:L[i+1]?=some (rows tys hds xs)):
  ∃ K',K.le K'/\(∀ (j:Nat) (hd:Dp.Hd (List β)) (x:List β),hds[j]?=some hd->xs[j]?=some x->El.rd K' (Dp.enc hd x) x)/\aI G K' ((L.eraseIdx (i+1)).set i (aN E K' a cap xs)) w:=by
 obtain ⟨K2,h2,a2,l2,k2,s2,_⟩:=s.lend hi2
 refine ⟨K2,k2,fun j hd x hh hx=>aKp a2 l2 hh hx,aI.frzClose (Kb:=Ke) (hds:=hds) s2 ?_ ⟨hl,fun j hd x hh hx=>rd_row (aKp a2 l2 hh hx)⟩⟩
 rw [List.getElem?_eraseIdx,if_pos (Nat.lt_succ_self i)]
 exact hi
end
section
variable {β:Type} [gH β] {G:uK} {K Ke:Hp} {L:List gQ} {w:World}
variable {P:Program} {n:Nat} {ops:Array Oper} {rest:List Oper} {Q:pS} {f:Nat->Value}
variable {d:Nat} {x y:Operand} {ty:TypeId} {pos:String} {af:Array Go.Edge}
theorem HdR.slc {hds:List (Dp.Hd (List β))} {xs r:List (List β)} {lo hi:Int} (h:HdR Ke hds xs) (hc:Gv.slc xs lo hi=some r):∃ h2:List (Dp.Hd (List β)),HdR Ke h2 r/\Gv.slc (dZ hds xs) lo hi=some (dZ h2 r):=by
 have hl:=h.1
 unfold Gv.slc at hc ⊢
 split at hc
 ·rename_i hb
  cases hc
  refine ⟨(hds.drop lo.toNat).take (hi.toNat - lo.toNat),⟨by simp [hl],fun j hd x h1 h2=>?_⟩,?_⟩
  ·by_cases hj:j < hi.toNat - lo.toNat
   ·rw [List.getElem?_take_of_lt hj,List.getElem?_drop] at h1 h2
    exact h.2 _ hd x h1 h2
   ·rw [List.getElem?_eq_none (by rw [List.length_take];omega)] at h1
    cases h1
  ·rw [if_pos ⟨hb.1,hb.2.1,by rw [jW hl];exact hb.2.2⟩]
   unfold dZ
   rw [List.drop_zipWith,List.take_zipWith]
 ·cases hc
theorem HdR.app {h1 h2:List (Dp.Hd (List β))} {x1 x2:List (List β)} (a:HdR Ke h1 x1) (b:HdR Ke h2 x2):HdR Ke (h1++h2) (x1++x2):=by
 refine ⟨by rw [List.length_append,List.length_append,a.1,b.1],fun j hd x e1 e2=>?_⟩
 by_cases hj:j < h1.length
 ·rw [List.getElem?_append_left hj] at e1
  rw [List.getElem?_append_left (by rw [←a.1];exact hj)] at e2
  exact a.2 _ hd x e1 e2
 ·rw [List.getElem?_append_right (by omega)] at e1
  rw [List.getElem?_append_right (by rw [←a.1];omega),←a.1] at e2
  exact b.2 _ hd x e1 e2
theorem aNV {T E:TypeId} {sz i:Nat} {zs:List Value} {a a1 a2:Option Addr} {cap c1 c2 l1 l2:Nat} {lo1 hi1 lo2 hi2:Int} {xs r1 r2 zz:List (List β)} (hT:SLT P T E sz) (hU:P.underlying T=some (.slice E)) (hE:EZ P E zs) (hsz:El.sz (List β)=sz) (hzs:zs.length=sz)
  (hs:aI G K L w) (hi:L[i]?=some (aN E Ke a cap xs)) (hc1:slc xs lo1 hi1=some r1) (hx1:Cut (El.sz (List β)) a cap lo1 a1 c1) (hc2:slc xs lo2 hi2=some r2) (hx2:Cut (El.sz (List β)) a cap lo2 a2 c2) (hm:rE r1 r2=some zz)
  (hx:ev f x=.slice a1 l1 c1) (hl1:l1=r1.length) (hy:ev f y=.slice a2 l2 c2) (hl2:l2=r2.length)
  (h:∀ a' cap' w',aI G K (L.set i (aN E Ke a' cap' zz)) w'->WO P n ops rest Q (upd f d (.slice a' zz.length cap')) w'):
  WO P n ops (⟨some d,.call ⟨.builtin .append,#[x,y],#[T,T]⟩,ty,pos,af,none⟩::rest) Q f w:=by
 obtain ⟨hlim,rfl⟩:=aEk hm
 obtain ⟨hds,hh,s1⟩:=hs.frzOpen hi
 obtain ⟨h1,g1,e1⟩:=hh.slc hc1
 obtain ⟨h2,g2,e2⟩:=hh.slc hc2
 have k1:(dZ h1 r1).length=r1.length:=jW g1.1
 have k2:(dZ h2 r2).length=r2.length:=jW g2.1
 refine WO_appV (β:=Cells 0) (i:=i) hT hU hE hsz hzs s1 (aIY hi) e1 hx1 e2 hx2 (show rE _ _=some _ from if_pos (by rw [k1,k2];exact hlim)) hx (by rw [k1];exact hl1) hy (by rw [k2];exact hl2) (fun a' cap' w' s2=>?_)
 rw [←aJr g1.1,List.set_set] at s2
 have s3:=s2.frzClose (xs:=r1++r2) (aIY hi) (g1.app g2)
 rw [List.set_set] at s3
 rw [←aJr g1.1,jW (g1.app g2).1]
 exact h a' cap' w' s3
end
end Gv
namespace Gv
open Go
section
variable {N:Type} [gH N]
inductive trd (K:Hp):Tr N->Option Addr->Prop
 |mk {n:N} {l:List (Tr N)} {a x:Option Addr} {c:Nat} (q:Nat->Option Addr) (h1:dT K a 0 (gH.enc n++[Value.slice x l.length c])) (h2:l.length<=c) (h3:x=none->l=[]/\c=0)
   (h4:∀ i d,l[i]?=some d->dT K x (i * 1) [cC (q i) 0]) (h5:∀ i d,l[i]?=some d->trd K d (q i)):trd K (.mk n l) a
theorem trd.mono {K K':Hp} {t:Tr N} {a:Option Addr} (h:K.le K') (r:trd K t a):trd K' t a:=by
 induction r with
 |mk q h1 h2 h3 h4 h5 ih=>exact .mk q (h1.mono h) h2 h3 (fun i d e=>(h4 i d e).mono h) (fun i d e=>ih i d e)
instance:El (Tr N) where
 sz:=1
 rd K cs d:=∃ a,cs=[cC a 0]/\trd K d a
 mono:=fun h ⟨a,e,r⟩=>⟨a,e,r.mono h⟩
 len:=fun ⟨_,e,_⟩=>by rw [e];rfl
 one:=fun ⟨_,e,_⟩ v hv=>by rw [e] at hv;simp at hv;subst hv;rfl
 pos:=Nat.one_pos
theorem trd.el {K:Hp} {t:Tr N} {a:Option Addr} (h:trd K t a):∃ (x:Option Addr) (c:Nat),dT K a 0 (gH.enc t.val++[Value.slice x t.kids.length c])/\bW K x c t.kids:=by
 cases h with
 |mk q h1 h2 h3 h4 h5=>exact ⟨_,_,h1,⟨h2,h3,fun i d e=>⟨_,h4 i d e,_,rfl,h5 i d e⟩⟩⟩
theorem trd_mk {K:Hp} {n:N} {l:List (Tr N)} {a x:Option Addr} {c:Nat} (h:dT K a 0 (gH.enc n++[Value.slice x l.length c])) (r:bW K x c l):trd K (.mk n l) a:=by
 have hq:∀ i,∃ p:Option Addr,∀ d,l[i]?=some d->dT K x (i * 1) [cC p 0]/\trd K d p:=by
  intro i
  cases e:l[i]? with
  |none=>exact ⟨none,fun d h=>by cases h⟩
  |some d=>
   obtain ⟨cs,hc,p,rfl,hr⟩:=r.cell i d e
   exact ⟨p,fun d' h'=>by cases h';exact ⟨hc,hr⟩⟩
 exact .mk (fun i=>(hq i).choose) h r.room r.nil (fun i d e=>((hq i).choose_spec d e).1) (fun i d e=>((hq i).choose_spec d e).2)
end
end Gv
namespace Gv
open Go
structure Hd (q:Prop):Prop where
 k:q
theorem dB {p:Prop} (h:p:=by first|assumption|exact rfl):p:=h
theorem fJ {p:Prop} (h:p:=by assumption):p:=h
theorem mT {p:Prop} (h:p:=by first|assumption|exact Hp.le_trans (by assumption) (by assumption)|exact Hp.le_trans (by assumption) (Hp.le_trans (by assumption) (by assumption))):p:=h
theorem aID {p:Prop} (h:p:=by with_reducible first|exact List.Mem.head _|exact List.Mem.tail _ (List.Mem.head _)|exact List.Mem.tail _ (List.Mem.tail _ (List.Mem.head _))|exact List.Mem.tail _ (List.Mem.tail _ (List.Mem.tail _ (List.Mem.head _)))|exact List.Mem.tail _ (List.Mem.tail _ (List.Mem.tail _ (List.Mem.tail _ (List.Mem.head _))))|exact List.Mem.tail _ (List.Mem.tail _ (List.Mem.tail _ (List.Mem.tail _ (List.Mem.tail _ (List.Mem.head _)))))|exact List.Mem.tail _ (List.Mem.tail _ (List.Mem.tail _ (List.Mem.tail _ (List.Mem.tail _ (List.Mem.tail _ (List.Mem.head _))))))|exact List.Mem.tail _ (List.Mem.tail _ (List.Mem.tail _ (List.Mem.tail _ (List.Mem.tail _ (List.Mem.tail _ (List.Mem.tail _ (List.Mem.head _)))))))|exact List.Mem.tail _ (List.Mem.tail _ (List.Mem.tail _ (List.Mem.tail _ (List.Mem.tail _ (List.Mem.tail _ (List.Mem.tail _ (List.Mem.tail _ (List.Mem.head _))))))))|exact List.Mem.tail _ (List.Mem.tail _ (List.Mem.tail _ (List.Mem.tail _ (List.Mem.tail _ (List.Mem.tail _ (List.Mem.tail _ (List.Mem.tail _ (List.Mem.tail _ (List.Mem.head _)))))))))):p:=h
theorem aGD {γ:Type} {l:List γ} {a:γ} (h:a∈l):∃ i:Nat,l[i]?=some a:=by
 obtain ⟨i,hi,e⟩:=List.mem_iff_getElem.1 h
 exact ⟨i,by rw [List.getElem?_eq_getElem hi,e]⟩
section
variable {P:Program} {f:Nat->Value} {w:World} {d:Nat} {x y z:Operand} {ty:TypeId} {pos:String} {af:Array Go.Edge} {G:uK} {K:Hp} {L:List gQ} {α:Type} {iα:El α}
structure EX (P:Program) (f:Nat->Value) (o:Op) (v:Value) (d:Nat) (ty:TypeId) (pos:String) (af:Array Go.Edge) (w:World):Prop where
 h:(execOp (ev f) ⟨some d,o,ty,pos,af,none⟩).run P w=.ok (.value v) w
theorem V_move {v:Value} (hx:ev f x=v):EX P f (.move x) v d ty pos af w:=⟨aT hx⟩
theorem V_assign {v:Value} (hx:ev f x=v):EX P f (.assign x) v d ty pos af w:=⟨gR hx⟩
theorem V_moveC {v:Value}:EX P f (.move (.const v)) v d ty pos af w:=⟨aT rfl⟩
theorem V_assignC {v:Value}:EX P f (.assign (.const v)) v d ty pos af w:=⟨gR rfl⟩
theorem V_moveF {k:FuncId}:EX P f (.move (.func k)) (.func (.func k) #[] #[]) d ty pos af w:=⟨aT rfl⟩
theorem V_assignF {k:FuncId}:EX P f (.assign (.func k)) (.func (.func k) #[] #[]) d ty pos af w:=⟨gR rfl⟩
theorem V_not {b:Bool} {T:TypeId} (hx:ev f x=.bool b):EX P f (.unOp .not T x) (.bool (!b)) d ty pos af w:=⟨eC hx⟩
theorem V_nilP {ad:Addr} (hx:ev f x=.pointer (some ad)):EX P f (.nilCheck x) (.pointer (some ad)) d ty pos af w:=⟨nF hx⟩
theorem V_extract {vs:Array Value} {i:Nat} {v:Value} (hx:ev f x=.tuple vs) (hv:vs[i]?=some v):EX P f (.extract x i) v d ty pos af w:=⟨dC hx hv⟩
theorem V_lenS {T E:TypeId} {sz:Nat} {a:Option Addr} {len cap:Nat} (hT:SLT P T E sz) (hx:ev f x=.slice a len cap):EX P f (.call ⟨.builtin .len,#[x],#[T]⟩) (i64 len) d ty pos af w:=⟨bX hT hx⟩
theorem V_add {a b:Int} {T U:TypeId} (hx:ev f x=i64 a) (hy:ev f y=i64 b):EX P f (.binOp .add T x y U) (i64 (wr (a+b))) d ty pos af w:=⟨cL hx hy⟩
theorem V_sub {a b:Int} {T U:TypeId} (hx:ev f x=i64 a) (hy:ev f y=i64 b):EX P f (.binOp .sub T x y U) (i64 (wr (a - b))) d ty pos af w:=⟨kT hx hy⟩
theorem V_mul {a b:Int} {T U:TypeId} (hx:ev f x=i64 a) (hy:ev f y=i64 b):EX P f (.binOp .mul T x y U) (i64 (wr (a * b))) d ty pos af w:=⟨aCD hx hy⟩
theorem V_lss {k:IntKind} {a b:Int} {T U:TypeId} (hx:ev f x=.int k a) (hy:ev f y=.int k b):EX P f (.binOp .lss T x y U) (.bool (decide (a < b))) d ty pos af w:=⟨cV hx hy⟩
theorem V_leq {k:IntKind} {a b:Int} {T U:TypeId} (hx:ev f x=.int k a) (hy:ev f y=.int k b):EX P f (.binOp .leq T x y U) (.bool (decide (a<=b))) d ty pos af w:=⟨aIO hx hy⟩
theorem V_gtr {k:IntKind} {a b:Int} {T U:TypeId} (hx:ev f x=.int k a) (hy:ev f y=.int k b):EX P f (.binOp .gtr T x y U) (.bool (decide (b < a))) d ty pos af w:=⟨jU hx hy⟩
theorem V_geq {k:IntKind} {a b:Int} {T U:TypeId} (hx:ev f x=.int k a) (hy:ev f y=.int k b):EX P f (.binOp .geq T x y U) (.bool (decide (b<=a))) d ty pos af w:=⟨aEn hx hy⟩
theorem V_eql {k:IntKind} {a b:Int} {T U:TypeId} (hx:ev f x=.int k a) (hy:ev f y=.int k b):EX P f (.binOp .eql T x y U) (.bool (a == b)) d ty pos af w:=⟨dM hx hy⟩
theorem V_neq {k:IntKind} {a b:Int} {T U:TypeId} (hx:ev f x=.int k a) (hy:ev f y=.int k b):EX P f (.binOp .neq T x y U) (.bool (a != b)) d ty pos af w:=⟨aDz hx hy⟩
theorem V_eqlS {a b:aY} {T U:TypeId} (hx:ev f x=str a) (hy:ev f y=str b):EX P f (.binOp .eql T x y U) (.bool (a == b)) d ty pos af w:=⟨aDp hx hy⟩
theorem V_neqS {a b:aY} {T U:TypeId} (hx:ev f x=str a) (hy:ev f y=str b):EX P f (.binOp .neq T x y U) (.bool (!(a == b))) d ty pos af w:=⟨aMM hx hy⟩
theorem V_lssS {a b:aY} {T U:TypeId} (hx:ev f x=str a) (hy:ev f y=str b):EX P f (.binOp .lss T x y U) (.bool (ltB a b)) d ty pos af w:=⟨R_lssS hx hy⟩
theorem V_leqS {a b:aY} {T U:TypeId} (hx:ev f x=str a) (hy:ev f y=str b):EX P f (.binOp .leq T x y U) (.bool (ltB a b||a == b)) d ty pos af w:=⟨R_leqS hx hy⟩
theorem V_gtrS {a b:aY} {T U:TypeId} (hx:ev f x=str a) (hy:ev f y=str b):EX P f (.binOp .gtr T x y U) (.bool (!(ltB a b||a == b))) d ty pos af w:=⟨R_gtrS hx hy⟩
theorem V_geqS {a b:aY} {T U:TypeId} (hx:ev f x=str a) (hy:ev f y=str b):EX P f (.binOp .geq T x y U) (.bool (!ltB a b)) d ty pos af w:=⟨R_geqS hx hy⟩
theorem V_nilE {a:Option Addr} {k kk:Nat} {cs:List Value} (hx:ev f x=cC a kk) (hc:dT K a k cs):
  EX P f (.nilCheck x) ((cC a kk)) d ty pos af w:=⟨cA hx hc⟩
theorem V_fldE {S:TypeId} {a:Option Addr} {i o k k0:Nat} {cs:List Value} (hx:ev f x=cC a k) (hc:dT K a k0 cs) (hF:FA P S i o):
  EX P f (.fieldAddr S x i) ((cC a (k+o))) d ty pos af w:=⟨bS hF hx hc rfl⟩
theorem V_fldP {S:TypeId} {b i o t:Nat} (hx:ev f x=.pointer (some ⟨b,t,none⟩)) (hF:FA P S i o):
  EX P f (.fieldAddr S x i) ((.pointer (some ⟨b,t+o,none⟩))) d ty pos af w:=⟨bH hF hx rfl⟩
theorem V_ixE {T E:TypeId} {sz:Nat} {a:Option Addr} {len cap:Nat} {xs:List α} {j:Int} {e:α} (hx:ev f x=.slice a len cap) (hy:ev f y=i64 j) (hr:bW K a cap xs) (hj:ix xs j=some e) (hl:len=xs.length) (hT:SLT P T E sz) (hz:El.sz α=sz):
  EX P f (.indexAddr T x y) ((cC a (j.toNat * sz))) d ty pos af w:=⟨cO hT hz hr hx hl hy hj⟩
theorem V_ixO {T E E':TypeId} {sz:Nat} {a:Option Addr} {len cap:Nat} {xs:List α} {j:Int} {e:α} {Ke:Hp} (hx:ev f x=.slice a len cap) (hy:ev f y=i64 j) (hs:aI G K L w) (hi:List.Mem (aN E' Ke a cap xs) L) (hj:ix xs j=some e) (hl:len=xs.length) (hT:SLT P T E sz) (hz:El.sz α=sz):
  EX P f (.indexAddr T x y) ((cC a (j.toNat * sz))) d ty pos af w:=by
 obtain ⟨i,hi⟩:=aGD hi
 exact ⟨R_ixO hT hz hs hi hx hl hy hj⟩
theorem aJR {T:TypeId} {a:Option Addr} {k t:Nat} {cs:List Value} {v:Value} (hx:ev f x=cC a (k+t)) (hc:dT K a k cs) (hs:aI G K L w) (hv:cs[t]?=some v) (hT:SC P T):
  EX P f (.load T x) (v) d ty pos af w:=⟨bE hT hs hc hx hv⟩
theorem aHq {T:TypeId} {a:Option Addr} {k t m:Nat} {cs vs:List Value} (hx:ev f x=cC a (k+t)) (hc:dT K a k cs) (hs:aI G K L w) (hT:AG P T m) (hv:(cs.drop t).take m=vs) (hm:vs.length=m):
  EX P f (.load T x) ((.agg vs.toArray)) d ty pos af w:=⟨gC hT hs hc hx hv hm⟩
theorem V_ldB {T E:TypeId} {b t:Nat} {vs:List Value} {v:Value} (hx:ev f x=.pointer (some ⟨b,t,none⟩)) (hs:aI G K L w) (hi:List.Mem (box b E vs) L) (hv:vs[t]?=some v) (hT:SC P T):
  EX P f (.load T x) (v) d ty pos af w:=by
 obtain ⟨i,hi⟩:=aGD hi
 exact ⟨cR hT hs hi hx hv⟩
inductive DT:List Value->Nat->Nat->List Value->Prop
 |nil {l:List Value}:DT l 0 0 []
 |take {x:Value} {l us:List Value} {m:Nat} (h:DT l 0 m us):DT (x::l) 0 (m+1) (x::us)
 |drop {x:Value} {l us:List Value} {t m:Nat} (h:DT l t m us):DT (x::l) (t+1) m us
theorem DT.eq {l us:List Value} {t m:Nat} (h:DT l t m us):(l.drop t).take m=us/\us.length=m:=by
 induction h with
 |nil=>simp
 |take _ ih=>obtain ⟨h1,h2⟩:=ih;simp at h1;simp [h1,h2]
 |drop _ ih=>simpa using ih
theorem st_D {p:Prop} (h:p:=by repeat (first|exact DT.nil|apply DT.take|apply DT.drop)):p:=h
theorem V_ldBG {T E:TypeId} {b t m:Nat} {vs us:List Value} (hx:ev f x=.pointer (some ⟨b,t,none⟩)) (hs:aI G K L w) (hi:List.Mem (box b E vs) L) (hT:AG P T m) (hv:DT vs t m us):
  EX P f (.load T x) ((.agg us.toArray)) d ty pos af w:=by
 obtain ⟨i,hi⟩:=aGD hi
 exact ⟨eJ hT hs hi hx hv.eq.1 hv.eq.2⟩
theorem V_rvG {n t b m:Nat} {T E:TypeId} {vs:List Value} (hp:f t=.pointer (some ⟨b,0,none⟩)) (hs:aI G K L w) (hi:List.Mem (box b E vs) L) (hT:AG P T m) (hm:vs.length=m) (ht:Nat.blt t n=true):aIT P n f w (.cell t T) (.agg vs.toArray):=by
 obtain ⟨i,hi⟩:=aGD hi
 exact lV ht hT hs hi hp hm
theorem V_rvB {n t b:Nat} {T E:TypeId} {v:Value} (hp:f t=.pointer (some ⟨b,0,none⟩)) (hs:aI G K L w) (hi:List.Mem (box b E [v]) L) (hT:SC P T) (ht:Nat.blt t n=true):aIT P n f w (.cell t T) v:=by
 obtain ⟨i,hi⟩:=aGD hi
 exact rv_cell ht hT hs hi hp
theorem V_nilO {E:TypeId} {Ke:Hp} {kk:Nat} {a:Option Addr} {cap:Nat} {xs:List α} {j:Int} {e:α} (hx:ev f x=cC a kk) (hs:aI G K L w) (hi:List.Mem (aN E Ke a cap xs) L) (hj:ix xs j=some e):
  EX P f (.nilCheck x) ((cC a kk)) d ty pos af w:=by
 obtain ⟨i,hi⟩:=aGD hi
 exact ⟨R_nilO hs hi hj hx⟩
theorem V_fldO {S E:TypeId} {Ke:Hp} {q o k:Nat} {a:Option Addr} {cap:Nat} {xs:List α} {j:Int} {e:α} (hx:ev f x=cC a k) (hs:aI G K L w) (hi:List.Mem (aN E Ke a cap xs) L) (hj:ix xs j=some e) (hF:FA P S q o):
  EX P f (.fieldAddr S x q) ((cC a (k+o))) d ty pos af w:=by
 obtain ⟨i,hi⟩:=aGD hi
 exact ⟨R_fldO hF hs hi hj hx rfl⟩
theorem aJS {T:TypeId} {a:Option Addr} {k t:Nat} {cs:List Value} {v:Value} (hs:aI G K L w) (hc:dT K a k cs) (hx:ev f x=cC a (k+t)) (hv:cs[t]?=some v) (hT:SC P T):
  EX P f (.load T x) v d ty pos af w:=bE hT hs hc hx hv |> EX.mk
theorem aMX {T:TypeId} {a:Option Addr} {k t m:Nat} {cs vs:List Value} (hs:aI G K L w) (hc:dT K a k cs) (hx:ev f x=cC a (k+t)) (hT:AG P T m) (hv:(cs.drop t).take m=vs) (hm:vs.length=m):
  EX P f (.load T x) (.agg vs.toArray) d ty pos af w:=gC hT hs hc hx hv hm |> EX.mk
theorem V_ldO {β:Type} {iβ:gH β} {T E:TypeId} {Ke:Hp} {kk t:Nat} {a:Option Addr} {cap:Nat} {xs:List β} {j:Int} {e:β} {v:Value} (hx:ev f x=cC a kk) (hs:aI G K L w) (hi:List.Mem (aN E Ke a cap xs) L) (hj:ix xs j=some e) (hkk:kk=j.toNat * gH.sz β+t) (hv:(gH.enc e)[t]?=some v) (hT:SC P T):
  EX P f (.load T x) v d ty pos af w:=by
 obtain ⟨i,hi⟩:=aGD hi
 exact ⟨jV hT hs hi hj hx hkk hv⟩
theorem V_ldOG {β:Type} {iβ:gH β} {T E:TypeId} {Ke:Hp} {kk t m:Nat} {a:Option Addr} {cap:Nat} {xs:List β} {j:Int} {e:β} {vs:List Value} (hx:ev f x=cC a kk) (hs:aI G K L w) (hi:List.Mem (aN E Ke a cap xs) L) (hj:ix xs j=some e) (hkk:kk=j.toNat * gH.sz β+t) (hT:AG P T m) (hv:((gH.enc e).drop t).take m=vs) (hm:vs.length=m):
  EX P f (.load T x) (.agg vs.toArray) d ty pos af w:=by
 obtain ⟨i,hi⟩:=aGD hi
 exact ⟨aJq hT hs hi hj hx hkk hv hm⟩
theorem aJT {T:TypeId} {K':Hp} {a:Option Addr} {k t:Nat} {cs:List Value} {v:Value} (hx:ev f x=cC a (k+t)) (hc:dT K' a k cs) (hs:aI G K L w) (hK:K'.le K) (hv:cs[t]?=some v) (hT:SC P T):
  EX P f (.load T x) v d ty pos af w:=⟨bE hT hs (hc.mono hK) hx hv⟩
theorem aMY {T:TypeId} {K':Hp} {a:Option Addr} {k t m:Nat} {cs vs:List Value} (hx:ev f x=cC a (k+t)) (hc:dT K' a k cs) (hs:aI G K L w) (hK:K'.le K) (hT:AG P T m) (hv:(cs.drop t).take m=vs) (hm:vs.length=m):
  EX P f (.load T x) (.agg vs.toArray) d ty pos af w:=⟨gC hT hs (hc.mono hK) hx hv hm⟩
theorem V_pickT {b:Bool} {v:Value} (hx:ev f x=.bool b) (hb:b=true) (hv:ev f y=v):
  EX P f (.pick x y z) (v) d ty pos af w:=⟨bJ hb hx hv⟩
theorem V_pickF {b:Bool} {v:Value} (hx:ev f x=.bool b) (hb:¬ b=true) (hv:ev f z=v):
  EX P f (.pick x y z) (v) d ty pos af w:=⟨bN hb hx hv⟩
theorem V_lenStr {T:TypeId} {s:aY} (hT:∀ w,(underlying T).run P w=.ok .string w) (hx:ev f x=str s):EX P f (.call ⟨.builtin .len,#[x],#[T]⟩) ((i64 s.length)) d ty pos af w:=⟨oW hT hx⟩
theorem V_ixS {T:TypeId} {s:aY} {j:Int} {c:UInt8} (hT:∀ w,(underlying T).run P w=.ok .string w) (hx:ev f x=str s) (hy:ev f y=i64 j) (hj:ix s j=some c):EX P f (.index T x y) ((u8 c)) d ty pos af w:=⟨aIj hT hx hy hj⟩
theorem V_conv64 {S T:TypeId} {k:IntKind} {a:Int} (hT:∀ w,(underlying T).run P w=.ok (.int .i64) w) (hx:ev f x=.int k a) (hS:∃ d,∀ w,(underlying S).run P w=.ok d w):EX P f (.convert S T x) ((.int .i64 (wr a))) d ty pos af w:=⟨aEo hT hx hS⟩
theorem V_convu64 {S T:TypeId} {k:IntKind} {a:Int} (hT:∀ w,(underlying T).run P w=.ok (.int .u64) w) (hx:ev f x=.int k a) (hS:∃ d,∀ w,(underlying S).run P w=.ok d w):EX P f (.convert S T x) ((.int .u64 (gG a))) d ty pos af w:=⟨aFP hT hx hS⟩
theorem V_u8sub' {a b:UInt8} {T U:TypeId} (hx:ev f x=.int .u8 (a.toNat:Int)) (hy:ev f y=.int .u8 (b.toNat:Int)):EX P f (.binOp .sub T x y U) ((.int .u8 ((a - b).toNat:Int))) d ty pos af w:=⟨aND hx hy⟩
theorem V_neg {a:Int} {T:TypeId} (hx:ev f x=i64 a):EX P f (.unOp .neg T x) ((i64 (wr (0 - a)))) d ty pos af w:=⟨R_neg hx⟩
theorem V_rem {a b c:Int} {T U:TypeId} (hx:ev f x=i64 a) (hy:ev f y=i64 b) (hc:rm a b=some c):EX P f (.binOp .rem T x y U) ((i64 c)) d ty pos af w:=⟨aLS hx hy hc⟩
theorem V_cat {a b c:aY} {T U:TypeId} (hx:ev f x=str a) (hy:ev f y=str b) (hc:cat a b=some c):EX P f (.binOp .add T x y U) ((str c)) d ty pos af w:=⟨R_cat hx hy hc⟩
theorem V_eqlB {a b:Bool} {T U:TypeId} (hT:∀ w,(underlying T).run P w=.ok .bool w) (hx:ev f x=.bool a) (hy:ev f y=.bool b):EX P f (.binOp .eql T x y U) ((.bool (a == b))) d ty pos af w:=⟨R_eqlB hT hx hy⟩
theorem V_neqB {a b:Bool} {T U:TypeId} (hT:∀ w,(underlying T).run P w=.ok .bool w) (hx:ev f x=.bool a) (hy:ev f y=.bool b):EX P f (.binOp .neq T x y U) ((.bool (a != b))) d ty pos af w:=⟨R_neqB hT hx hy⟩
theorem V_u64add {a b:Int} {T U:TypeId} (hx:ev f x=.int .u64 a) (hy:ev f y=.int .u64 b):EX P f (.binOp .add T x y U) ((.int .u64 (gG (a+b)))) d ty pos af w:=⟨aHm hx hy⟩
theorem V_u64mul {a b:Int} {T U:TypeId} (hx:ev f x=.int .u64 a) (hy:ev f y=.int .u64 b):EX P f (.binOp .mul T x y U) ((.int .u64 (gG (a * b)))) d ty pos af w:=⟨aKE hx hy⟩
theorem V_shrU {a b c:Int} {yk:IntKind} {T U:TypeId} (hx:ev f x=.int .u64 a) (hy:ev f y=.int yk b) (hc:shU a b=some c):EX P f (.binOp .shr T x y U) ((.int .u64 c)) d ty pos af w:=⟨R_shrU hx hy hc⟩
theorem V_andU {a b:Int} {T U:TypeId} (hx:ev f x=.int .u64 a) (hy:ev f y=.int .u64 b):EX P f (.binOp .and T x y U) ((.int .u64 (anU a b))) d ty pos af w:=⟨R_andU hx hy⟩
theorem V_slSLH {s r:aY} {lo hi:Int} {T:TypeId} (hT:∀ w,(underlying T).run P w=.ok .string w) (hx:ev f x=str s) (hl:ev f y=i64 lo) (hh:ev f z=i64 hi) (hr:slc s lo hi=some r):EX P f (.slice T x (some y) (some z) none) ((str r)) d ty pos af w:=⟨aMP hT hx hl hh hr⟩
theorem V_slSL {s r:aY} {lo:Int} {T:TypeId} (hT:∀ w,(underlying T).run P w=.ok .string w) (hx:ev f x=str s) (hl:ev f y=i64 lo) (hr:slc s lo (s.length:Int)=some r):EX P f (.slice T x (some y) none none) ((str r)) d ty pos af w:=⟨R_slSL hT hx hl hr⟩
theorem V_slSH {s r:aY} {hi:Int} {T:TypeId} (hT:∀ w,(underlying T).run P w=.ok .string w) (hx:ev f x=str s) (hh:ev f z=i64 hi) (hr:slc s 0 hi=some r):EX P f (.slice T x none (some z) none) ((str r)) d ty pos af w:=⟨aMQ hT hx hh hr⟩
theorem V_isNil {T E:TypeId} {sz:Nat} {U:TypeId} {a:Option Addr} {n c:Nat} (hT:SLT P T E sz) (hx:ev f x=.slice a n c) (hy:ev f y=.slice none 0 0):EX P f (.binOp .eql T x y U) ((.bool a.isNone)) d ty pos af w:=⟨aMU hT hx hy⟩
theorem V_build {T:TypeId} {places:List (Nat × Nat)} {zs cs:List Value} {ps:Array (Nat × Operand)} {vs:List (Nat × Value)} (hB:BS P T places zs)
  (hp:ps.toList.map (fun p=>(p.1,ev f p.2))=vs) (hf:Instr.fill (fun i=>places[i]?) zs.toArray vs=some cs.toArray):EX P f (.build T ps) ((.agg cs.toArray)) d ty pos af w:=⟨gW hB hp hf⟩
theorem aPh {fn:Fn} {xs:Array Operand} {vs:List Value} (hv:xs.toList.map (ev f)=vs):EX P f (.makeFunc fn #[] xs) ((.func fn #[] vs.toArray)) d ty pos af w:=⟨aAn hv⟩
end
section
variable {P:Program} {n:Nat} {ops:Array Oper} {Q:pS} {f:Nat->Value} {w:World} {ty:TypeId} {pos:String} {af:Array Go.Edge} {rest:List Oper} {C:World->Prop} {R:(Nat->Value)->Prop}
theorem VO {v:Value} {d:Nat} {op:Op} (hr:EX P f op v d ty pos af w) (h:WO P n ops rest Q (upd f d v) w):WO P n ops (⟨some d,op,ty,pos,af,none⟩::rest) Q f w:=aD hr.h h
theorem VQ {v:Value} {d:Nat} {op:Op} (hr:∀ w,C w->EX P f op v d ty pos af w) (h:WQ P n ops C rest R (upd f d v)):WQ P n ops C (⟨some d,op,ty,pos,af,none⟩::rest) R f:=aU (fun w hw=>(hr w hw).h) h
theorem V_onT {j g:Nat} {op:Op} {dst:Option Tmp} {b:Bool} (hd:(ops[j]?).bind (·.dst)=some g) (hx:f g=.bool b) (hb:b=true) (h:WO P n ops (⟨dst,op,ty,pos,af,none⟩::rest) Q f w):WO P n ops (⟨dst,op,ty,pos,af,some (j,true)⟩::rest) Q f w:=bK hb hd hx h
theorem V_onF {j g:Nat} {op:Op} {dst:Option Tmp} {b:Bool} (hd:(ops[j]?).bind (·.dst)=some g) (hx:f g=.bool b) (hb:¬ b=true) (h:WO P n ops (⟨dst,op,ty,pos,af,none⟩::rest) Q f w):WO P n ops (⟨dst,op,ty,pos,af,some (j,false)⟩::rest) Q f w:=bG hb hd hx h
theorem V_offF {j g:Nat} {op:Op} {dst:Option Tmp} {b:Bool} (hd:(ops[j]?).bind (·.dst)=some g) (hx:f g=.bool b) (hb:¬ b=true) (h:WO P n ops rest Q (aFO f dst undef) w):WO P n ops (⟨dst,op,ty,pos,af,some (j,true)⟩::rest) Q f w:=bD hb hd hx h
theorem V_offT {j g:Nat} {op:Op} {dst:Option Tmp} {b:Bool} (hd:(ops[j]?).bind (·.dst)=some g) (hx:f g=.bool b) (hb:b=true) (h:WO P n ops rest Q (aFO f dst undef) w):WO P n ops (⟨dst,op,ty,pos,af,some (j,false)⟩::rest) Q f w:=aS hb hd hx h
theorem Q_onT {j g:Nat} {op:Op} {dst:Option Tmp} {b:Bool} (hd:(ops[j]?).bind (·.dst)=some g) (hx:f g=.bool b) (hb:b=true) (h:WQ P n ops C (⟨dst,op,ty,pos,af,none⟩::rest) R f):WQ P n ops C (⟨dst,op,ty,pos,af,some (j,true)⟩::rest) R f:=bO hd hx hb h
theorem Q_onF {j g:Nat} {op:Op} {dst:Option Tmp} {b:Bool} (hd:(ops[j]?).bind (·.dst)=some g) (hx:f g=.bool b) (hb:¬ b=true) (h:WQ P n ops C (⟨dst,op,ty,pos,af,none⟩::rest) R f):WQ P n ops C (⟨dst,op,ty,pos,af,some (j,false)⟩::rest) R f:=bO hd hx (by simpa using hb) h
theorem Q_offF {j g:Nat} {op:Op} {dst:Option Tmp} {b:Bool} (hd:(ops[j]?).bind (·.dst)=some g) (hx:f g=.bool b) (hb:¬ b=true) (h:WQ P n ops C rest R (aFO f dst undef)):WQ P n ops C (⟨dst,op,ty,pos,af,some (j,true)⟩::rest) R f:=aV hd hx (by cases b<;>simp_all) h
theorem Q_offT {j g:Nat} {op:Op} {dst:Option Tmp} {b:Bool} (hd:(ops[j]?).bind (·.dst)=some g) (hx:f g=.bool b) (hb:b=true) (h:WQ P n ops C rest R (aFO f dst undef)):WQ P n ops C (⟨dst,op,ty,pos,af,some (j,false)⟩::rest) R f:=aV hd hx (by cases b<;>simp_all) h
theorem V_condT {c:Operand} {x y:Code} {b:Bool} (hc:ev f c=.bool b) (hb:b=true) (h:W P n x Q f w):W P n (.cond c x y) Q f w:=aL hb hc h
theorem V_condF {c:Operand} {x y:Code} {b:Bool} (hc:ev f c=.bool b) (hb:¬ b=true) (h:W P n y Q f w):W P n (.cond c x y) Q f w:=aJ hb hc h
end
section
variable {P:Program} {n:Nat} {ops:Array Oper} {Q:pS} {f:Nat->Value} {w:World} {ty:TypeId} {pos:String} {af:Array Go.Edge} {rest:List Oper} {C:World->Prop} {R:(Nat->Value)->World->Prop} {os:List Oper} {l:List (Nat × Nat)} {d:Nat} {op:Op} {v:Value}
theorem V_WE {i:Nat} (hi:aDN os i=some ⟨some d,op,ty,pos,af,none⟩) (hr:∀ w,C w->EX P f op v d ty pos af w) (h:WE P n os.toArray C l R (upd f d v) w):WE P n os.toArray C ((i,0)::l) R f w:=bL hi (fun w hw=>(hr w hw).h) h
theorem V_WT {i:Nat} (hi:aDN os i=some ⟨some d,op,ty,pos,af,none⟩) (hr:∀ w,EX P f op v d ty pos af w) (h:WE P n os.toArray C l R (upd f d v) w):WE P n os.toArray C ((i,3)::l) R f w:=WE_t hi (fun w=>(hr w).h) h
theorem V_L {T:TypeId} {x:Operand} (h:EX P f (.load T x) v d ty pos af w):EX P f (.load T x) v d ty pos af w:=h
theorem V_B {o:BinOp} {T U:TypeId} {x y:Operand} (h:EX P f (.binOp o T x y U) v d ty pos af w):EX P f (.binOp o T x y U) v d ty pos af w:=h
theorem st_I {k:FuncId} {fn:Func} {c:Code} {args:List Value} {Φ:Value->World->Prop} (hf:P.funcs[k]?=some fn) (h:W P fn.ntmps c (retQ P fn Φ) (initF args) w) (hb:fn.body=some c:=by exact rfl) (hok:okc fn.ntmps c=true:=by kernel_rfl) (hl:Nat.ble args.length fn.ntmps=true:=by exact rfl):Calls P k args.toArray w (eV Φ):=aR hf hb hok (Nat.le_of_ble_eq_true hl) h
end
theorem ft_:¬ (false=true):=by decide
theorem aKh {p:Prop} (h:p:=by first|assumption|exact rfl|exact ft_):p:=h
inductive Rep:List gQ->gQ->(gQ->List gQ)->Prop
 |head {x:gQ} {l:List gQ}:Rep (x::l) x (fun y=>y::l)
 |tail {z x:gQ} {l:List gQ} {C:gQ->List gQ} (h:Rep l x C):Rep (z::l) x (fun y=>z::C y)
theorem Rep.ix {L:List gQ} {x:gQ} {C:gQ->List gQ} (h:Rep L x C):∃ i:Nat,L[i]?=some x/\∀ y,L.set i y=C y:=by
 induction h with
 |head=>exact ⟨0,rfl,fun _=>rfl⟩
 |tail h ih=>obtain ⟨i,h1,h2⟩:=ih;exact ⟨i+1,h1,fun y=>by rw [List.set_cons_succ,h2]⟩
theorem st_M {p:Prop} (h:p:=by with_reducible first|exact Rep.head|exact Rep.tail Rep.head|exact Rep.tail (Rep.tail Rep.head)|exact Rep.tail (Rep.tail (Rep.tail Rep.head))|exact Rep.tail (Rep.tail (Rep.tail (Rep.tail Rep.head)))|exact Rep.tail (Rep.tail (Rep.tail (Rep.tail (Rep.tail Rep.head))))|exact Rep.tail (Rep.tail (Rep.tail (Rep.tail (Rep.tail (Rep.tail Rep.head)))))|exact Rep.tail (Rep.tail (Rep.tail (Rep.tail (Rep.tail (Rep.tail (Rep.tail Rep.head))))))|exact Rep.tail (Rep.tail (Rep.tail (Rep.tail (Rep.tail (Rep.tail (Rep.tail (Rep.tail Rep.head)))))))|exact Rep.tail (Rep.tail (Rep.tail (Rep.tail (Rep.tail (Rep.tail (Rep.tail (Rep.tail (Rep.tail Rep.head))))))))|exact Rep.tail (Rep.tail (Rep.tail (Rep.tail (Rep.tail (Rep.tail (Rep.tail (Rep.tail (Rep.tail (Rep.tail Rep.head)))))))))|exact Rep.tail (Rep.tail (Rep.tail (Rep.tail (Rep.tail (Rep.tail (Rep.tail (Rep.tail (Rep.tail (Rep.tail (Rep.tail Rep.head))))))))))|exact Rep.tail (Rep.tail (Rep.tail (Rep.tail (Rep.tail (Rep.tail (Rep.tail (Rep.tail (Rep.tail (Rep.tail (Rep.tail (Rep.tail Rep.head)))))))))))|exact Rep.tail (Rep.tail (Rep.tail (Rep.tail (Rep.tail (Rep.tail (Rep.tail (Rep.tail (Rep.tail (Rep.tail (Rep.tail (Rep.tail (Rep.tail Rep.head))))))))))))):p:=h
inductive SetV:List Value->Nat->Value->List Value->Prop
 |zero {x v:Value} {l:List Value}:SetV (x::l) 0 v (v::l)
 |succ {x v:Value} {l m:List Value} {t:Nat} (h:SetV l t v m):SetV (x::l) (t+1) v (x::m)
theorem SetV.eq {l m:List Value} {t:Nat} {v:Value} (h:SetV l t v m):l.take t++[v]++l.drop (t+1)=m/\t+1<=l.length:=by
 induction h with
 |zero=>exact ⟨rfl,by simp⟩
 |succ h ih=>exact ⟨by simpa using ih.1,by simpa using ih.2⟩
inductive StR:Value->List Value->Nat->List Value->Nat->Prop
 |one {v:Value} {vs us:List Value} {t:Nat} (h:SetV vs t v us) (hv:v.cells=#[v]) (h1:v.oneCell'=true):StR v vs t us 1
 |all {v:Value} {vs us:List Value} {m:Nat} (hv:v.cells=us.toArray) (hm:us.length=m) (hl:vs.length=m) (h1:us.all (fun u=>u.oneCell')=true):StR v vs 0 us m
theorem st_U {p:Prop} (h:p:=by first|exact StR.one (by (repeat (first|exact SetV.zero|apply SetV.succ));first|done|fail) rfl rfl|exact StR.all rfl rfl rfl rfl):p:=h
section
variable {P:Program} {n:Nat} {ops:Array Oper} {rest:List Oper} {Q:pS} {f:Nat->Value} {w:World} {d:Nat} {x y:Operand} {ty:TypeId} {pos:String} {af:Array Go.Edge} {G:uK} {K:Hp} {L:List gQ} {C:gQ->List gQ}
theorem st_s {T E:TypeId} {b t m:Nat} {vs us:List Value} {v:Value} (h:∀ w',aI G K (C (box b E us)) w'->WO P n ops rest Q f w') (hx:ev f x=.pointer (some ⟨b,t,none⟩):=by exact dB) (hs:aI G K L w:=by assumption) (hr:Rep L (box b E vs) C:=by exact st_M) (hy:ev f y=v:=by exact dB) (hT:∀ w,(Go.sizeOf T).run P w=.ok m w:=by exact st_z) (hu:StR v vs t us m:=by exact st_U):WO P n ops (⟨none,.store T x y,ty,pos,af,none⟩::rest) Q f w:=by
 obtain ⟨i,h1,h2⟩:=hr.ix
 cases hu with
 |one g1 g2 g3=>exact cG hT hs h1 hx hy g2 rfl (by simpa using g3) (by simpa using g1.eq.2) g1.eq.1 fun w' q=>h w' (h2 _ ▸ q)
 |all g1 g2 g3 g4=>exact cG hT hs h1 hx hy g1 g2 (by simpa using g4) (by simp [g3]) (by simp [g3]) fun w' q=>h w' (h2 _ ▸ q)
def ZA (P:Program) (T:TypeId) (vs:List Value):Prop:=∃ v,ZV P T v/\v.cells=vs.toArray
theorem st_a {T:TypeId} {vs:List Value} (h:∀ b w',aI G K (box b T vs::L) w'->WO P n ops rest Q (upd f d (.pointer (some ⟨b,0,none⟩))) w') (hz:ZA P T vs:=by exact st_y) (hs:aI G K L w:=by assumption):WO P n ops (⟨some d,.alloc T,ty,pos,af,none⟩::rest) Q f w:=by
 obtain ⟨v,h1,h2⟩:=hz
 exact cI h1 hs h2 h
theorem st_x {T:TypeId} {v:Value} {vs:List Value} (h:∀ b w',aI G K (box b T vs::L) w'->WO P n ops rest Q (upd f d (.pointer (some ⟨b,0,none⟩))) w') (hx:ev f x=v:=by exact dB) (hv:v.cells=vs.toArray:=by exact rfl) (hs:aI G K L w:=by assumption):WO P n ops (⟨some d,.box T x,ty,pos,af,none⟩::rest) Q f w:=fO hs hx hv h
theorem els_pod {α:Type} [gH α] {K:Hp}:∀ {xs:List α},els K (xs.flatMap gH.enc) xs
 |[]=>trivial
 |x::xs=>by
  have e:(gH.enc x).length=El.sz α:=gH.len x
  have e1:((x::xs).flatMap gH.enc).take (El.sz α)=gH.enc x:=by rw [List.flatMap_cons,←e,List.take_left'];rfl
  have e2:((x::xs).flatMap gH.enc).drop (El.sz α)=xs.flatMap gH.enc:=by rw [List.flatMap_cons,←e,List.drop_left'];rfl
  refine ⟨?_,?_⟩
  ·rw [e1];exact rfl
  ·rw [e2];exact els_pod
theorem aNX {α:Type} [gH α]:∀ {xs:List α},(xs.flatMap gH.enc).length=xs.length * gH.sz α
 |[]=>by simp
 |x::xs=>by rw [List.flatMap_cons,List.length_append,gH.len,aNX,List.length_cons,Nat.succ_mul,Nat.add_comm]
theorem st_b {α:Type} {iα:gH α} {T E:TypeId} {sz len:Nat} {zs:List Value} {ps:Array (Nat × Operand)} (xs:List α) (h:∀ a w',aI G K (aN E K a len xs::L) w'->WO P n ops rest Q (upd f d (.slice a len len)) w') (hT:SLT P T E sz:=by exact st_S) (hE:EZ P E zs:=by exact st_e) (hsz:gH.sz α=sz:=by exact rfl) (hzs:zs.length=sz:=by exact rfl) (hs:aI G K L w:=by assumption) (hlen:xs.length=len:=by exact rfl)
  (hf:Instr.fill (fun i=>some (i * sz,sz)) ((Array.range (len * sz)).map ((if len * sz=0 then #[] else zs.toArray)[· % (if len * sz=0 then #[] else zs.toArray).size]!)) (ps.toList.map (fun p=>(p.1,ev f p.2)))=some (xs.flatMap gH.enc).toArray:=by first|exact rfl|kernel_rfl) (hbig:Nat.ble (len * sz) 16777216=true:=by exact rfl):
  WO P n ops (⟨some d,.buildSlice T len ps,ty,pos,af,none⟩::rest) Q f w:=
 bT hT hE hsz hzs hs rfl hf hlen (by rw [aNX,hlen,hsz]) hbig els_pod h
end
section
variable {P:Program} {n:Nat} {ops:Array Oper} {rest:List Oper} {Q:pS} {f:Nat->Value} {w:World} {d:Nat} {x y:Operand} {ty:TypeId} {pos:String} {af:Array Go.Edge} {G:uK} {K:Hp} {L:List gQ} {C:gQ->List gQ} {α:Type}
theorem st_p {iα:gH α} {T E E2:TypeId} {sz:Nat} {zs:List Value} {a a2:Option Addr} {cap c2 l1 l2:Nat} {xs ys zz:List α} {Ke K2:Hp} (h:∀ a' cap' w',aI G K (C (aN E K a' cap' zz)) w'->WO P n ops rest Q (upd f d (.slice a' zz.length cap')) w') (hT:SLT P T E sz:=by exact st_S) (hU:P.underlying T=some (.slice E):=by exact st_u) (hE:EZ P E zs:=by exact st_e) (hx:ev f x=.slice a l1 cap:=by exact dB) (hy:ev f y=.slice a2 l2 c2:=by exact dB)
  (hs:aI G K (aN E2 K2 a2 c2 ys::L) w:=by assumption) (hr:Rep L (aN E Ke a cap xs) C:=by exact st_M) (hm:rE xs ys=some zz:=by assumption) (hsz:gH.sz α=sz:=by exact rfl) (hzs:zs.length=sz:=by exact rfl) (hl1:l1=xs.length:=by exact rfl) (hl2:l2=ys.length:=by exact rfl):
  WO P n ops (⟨some d,.call ⟨.builtin .append,#[x,y],#[T,T]⟩,ty,pos,af,none⟩::rest) Q f w:=by
 obtain ⟨i,h1,h2⟩:=hr.ix
 have hs:aI G K (aN E2 K a2 c2 ys::L) w:=hs
 have h1:L[i]?=some (aN E K a cap xs):=h1
 exact eR hT hU hE hsz hzs hs h1 (Hp.le_refl _) (Hp.le_refl _) hm hx hl1 hy hl2 (fun _ h=>h) fun a' c' w' q=>h a' c' w' (h2 _ ▸ q)
end
inductive Sub:List gQ->List gQ->Prop
 |refl {l:List gQ}:Sub l l
 |pick {l m k:List gQ} {x:gQ} (h:Pck l x m) (g:Sub m k):Sub l (x::k)
 |drop {l m:List gQ} {x:gQ} (g:Sub l m):Sub (x::l) m
 |nilS {α:Type} {iα:El α} {E:TypeId} {Ke:Hp} {l k:List gQ} (g:Sub l k):Sub l (aN E Ke none 0 ([]:List α)::k)
theorem Sub.sat {L M:List gQ} (s:Sub L M):∀ {h:Hp},kS L h->kS M h:=by
 induction s with
 |refl=>exact fun a=>a
 |pick p _ ih=>
  intro h a
  obtain ⟨i,h1,rfl⟩:=p.ix
  obtain ⟨g1,g2,b1,b2,b3,b4,b5⟩:=a.pick h1
  exact ⟨g1,g2,b1,b2,b3,b4,ih b5⟩
 |drop _ ih=>
  intro h a
  obtain ⟨g1,g2,_,_,_,b4,b5⟩:=a
  exact (ih b5).le b4
 |nilS _ ih=>
  intro h a
  have e1:Hp.dj (fun _=>none) h:=fun _=>Or.inl rfl
  have e2:Hp.le (fun _=>none) h:=fun _ _ e=>by cases e
  exact ⟨fun _=>none,h,aN.nil _ _ _,e1,e2,Hp.le_refl _,ih a⟩
theorem st_N {p:Prop} (h:p:=by (repeat (first|with_reducible exact Sub.refl|(apply Sub.pick (by with_reducible first|exact Pck.head|exact Pck.tail Pck.head|exact Pck.tail (Pck.tail Pck.head)|exact Pck.tail (Pck.tail (Pck.tail Pck.head))|exact Pck.tail (Pck.tail (Pck.tail (Pck.tail Pck.head)))|exact Pck.tail (Pck.tail (Pck.tail (Pck.tail (Pck.tail Pck.head))))|exact Pck.tail (Pck.tail (Pck.tail (Pck.tail (Pck.tail (Pck.tail Pck.head)))))|exact Pck.tail (Pck.tail (Pck.tail (Pck.tail (Pck.tail (Pck.tail (Pck.tail Pck.head))))))|exact Pck.tail (Pck.tail (Pck.tail (Pck.tail (Pck.tail (Pck.tail (Pck.tail (Pck.tail Pck.head)))))))|exact Pck.tail (Pck.tail (Pck.tail (Pck.tail (Pck.tail (Pck.tail (Pck.tail (Pck.tail (Pck.tail Pck.head))))))))|exact Pck.tail (Pck.tail (Pck.tail (Pck.tail (Pck.tail (Pck.tail (Pck.tail (Pck.tail (Pck.tail (Pck.tail Pck.head)))))))))|exact Pck.tail (Pck.tail (Pck.tail (Pck.tail (Pck.tail (Pck.tail (Pck.tail (Pck.tail (Pck.tail (Pck.tail (Pck.tail Pck.head))))))))))|exact Pck.tail (Pck.tail (Pck.tail (Pck.tail (Pck.tail (Pck.tail (Pck.tail (Pck.tail (Pck.tail (Pck.tail (Pck.tail (Pck.tail Pck.head)))))))))))|exact Pck.tail (Pck.tail (Pck.tail (Pck.tail (Pck.tail (Pck.tail (Pck.tail (Pck.tail (Pck.tail (Pck.tail (Pck.tail (Pck.tail (Pck.tail Pck.head))))))))))))))|(apply Sub.pick (by first|exact Pck.head|exact Pck.tail Pck.head|exact Pck.tail (Pck.tail Pck.head)|exact Pck.tail (Pck.tail (Pck.tail Pck.head))|exact Pck.tail (Pck.tail (Pck.tail (Pck.tail Pck.head)))|exact Pck.tail (Pck.tail (Pck.tail (Pck.tail (Pck.tail Pck.head))))))|apply Sub.nilS|apply Sub.drop));first|done|fail):p:=h
theorem st_c {G:uK} {K K':Hp} {L M:List gQ} {w:World} (hs:aI G K L w:=by assumption) (hk:K'.le K:=by first|exact Hp.le_refl _|exact mT) (hb:Sub L M:=by exact st_N):aI G K' M w:=
 have hs:=hs.weakK hk
 let ⟨e,h,gd,gl,d,k,l,r⟩:=hs;⟨e,h,gd,gl,d,k,l,hb.sat r⟩
section
variable {P:Program} {n:Nat} {Q:pS} {f:Nat->Value} {w:World} {G:uK} {K:Hp} {L:List gQ}
theorem st_k {id:Nat} {l:List Oper} (h:WQ P n l.toArray (aI G K L) l (fun f=>∀ w',aI G K L w'->Q .normal f w') f) (hs:aI G K L w:=by assumption) (hB:Region.lexB .any l.toArray=true:=by kernel_rfl) (hm:P.follows .mixedOrders=true:=by exact Tryz_mixed):W P n (.region id l.toArray true) Q f w:=
 dR hm hB (hs.mono (dQ.drew _)) h
end
theorem aJU {α:Type} {a b:α} {p:Prop} (h:some a=some b) (k:a=b->p):p:=k (Option.some.inj h)
theorem st_no {α:Type} {a:α} {p:Prop} (h:none=some a):p:=nomatch h
theorem aDA {α:Type} {q:α->Prop} {p:Prop} (k:∀ x,q x->p) (h:∃ x,q x):p:=let ⟨x,h⟩:=h;k x h
theorem aDB {a b p:Prop} (k:a->b->p) (h:a/\b):p:=k h.1 h.2
section
variable {P:Program} {n:Nat} {ops:Array Oper} {rest:List Oper} {Q:pS} {f:Nat->Value} {w:World} {d:Nat} {x y:Operand} {ty:TypeId} {pos:String} {af:Array Go.Edge} {G:uK} {K:Hp} {L:List gQ}
theorem st_ca {k:FuncId} {xs:Array Operand} {ats:Array TypeId} {vs:List Value} {Φ:Value->World->Prop} (hk:CE P k) (hc:Calls P k vs.toArray w (eV Φ)) (hv:xs.toList.map (ev f)=vs) (h:∀ v w',Φ v w'->WO P n ops rest Q (upd f d v) w'):
  WO P n ops (⟨some d,.call ⟨.value (.func k),xs,ats⟩,ty,pos,af,none⟩::rest) Q f w:=aP hk hv hc h
theorem st_cb {k:FuncId} {xs:Array Operand} {ats:Array TypeId} {vs:List Value} {Φ:Value->World->Prop} (hk:CE P k) (hc:Calls P k vs.toArray w (eV Φ)) (hv:xs.toList.map (ev f)=vs) (h:∀ v w',Φ v w'->WO P n ops rest Q f w'):
  WO P n ops (⟨none,.call ⟨.value (.func k),xs,ats⟩,ty,pos,af,none⟩::rest) Q f w:=WO_call0 hk hv hc h
theorem st_cq {C:World->Prop} {R:(Nat->Value)->Prop} {k:FuncId} {xs:Array Operand} {ats:Array TypeId} {vs:List Value} {v:Value} (hk:CE P k) (hc:∀ w,C w->Calls P k vs.toArray w (eV fun u w'=>u=v/\C w')) (hv:xs.toList.map (ev f)=vs) (h:WQ P n ops C rest R (upd f d v)):
  WQ P n ops C (⟨some d,.call ⟨.value (.func k),xs,ats⟩,ty,pos,af,none⟩::rest) R f:=kN hk hv hc h
theorem st_i {α:Type} {iα:El α} {T E:TypeId} {sz:Nat} {a:Option Addr} {len cap:Nat} {xs:List α} {j:Int} {e:α} (hx:ev f x=.slice a len cap) (hy:ev f y=i64 j) (hr:bW K a cap xs) (hj:ix xs j=some e) (hl:len=xs.length) (hT:SLT P T E sz) (hz:El.sz α=sz)
  (h:∀ cs,dT K a (j.toNat * sz) cs->El.rd K cs e->WO P n ops rest Q (upd f d (cC a (j.toNat * sz))) w):WO P n ops (⟨some d,.indexAddr T x y,ty,pos,af,none⟩::rest) Q f w:=
 let ⟨cs,h1,h2⟩:=bW.el hz hr hj
 aD (cO hT hz hr hx hl hy hj) (h cs h1 h2)
theorem st_iQ {C:World->Prop} {R:(Nat->Value)->Prop} {α:Type} {iα:El α} {T E:TypeId} {sz:Nat} {a:Option Addr} {len cap:Nat} {xs:List α} {j:Int} {e:α} (hx:ev f x=.slice a len cap) (hy:ev f y=i64 j) (hr:bW K a cap xs) (hj:ix xs j=some e) (hl:len=xs.length) (hT:SLT P T E sz) (hz:El.sz α=sz)
  (h:∀ cs,dT K a (j.toNat * sz) cs->El.rd K cs e->WQ P n ops C rest R (upd f d (cC a (j.toNat * sz)))):WQ P n ops C (⟨some d,.indexAddr T x y,ty,pos,af,none⟩::rest) R f:=
 let ⟨cs,h1,h2⟩:=bW.el hz hr hj
 aU (fun _ _=>cO hT hz hr hx hl hy hj) (h cs h1 h2)
theorem st_iE {C:World->Prop} {R:(Nat->Value)->World->Prop} {os:List Oper} {l:List (Nat × Nat)} {i:Nat} {α:Type} {iα:El α} {T E:TypeId} {sz:Nat} {a:Option Addr} {len cap:Nat} {xs:List α} {j:Int} {e:α} (hi:aDN os i=some ⟨some d,.indexAddr T x y,ty,pos,af,none⟩) (hx:ev f x=.slice a len cap) (hy:ev f y=i64 j) (hr:bW K a cap xs) (hj:ix xs j=some e) (hl:len=xs.length) (hT:SLT P T E sz) (hz:El.sz α=sz)
  (h:∀ cs,dT K a (j.toNat * sz) cs->El.rd K cs e->WE P n os.toArray C l R (upd f d (cC a (j.toNat * sz))) w):WE P n os.toArray C ((i,0)::l) R f w:=
 let ⟨cs,h1,h2⟩:=bW.el hz hr hj
 bL hi (fun _ _=>cO hT hz hr hx hl hy hj) (h cs h1 h2)
theorem st_pd {α:Type} [gH α] {K:Hp} {cs:List Value} {e:α} (h:El.rd K cs e):cs=gH.enc e:=h
theorem st_ba {α:Type} {iα:gH α} {T E:TypeId} {sz len:Nat} {zs:List Value} {ps:Array (Nat × Operand)} {xs ys zz:List α} (hq:rE ys xs=some zz) (h:∀ a w',aI G K (aN E K a len xs::L) w'->WO P n ops rest Q (upd f d (.slice a len len)) w') (hT:SLT P T E sz:=by exact st_S) (hE:EZ P E zs:=by exact st_e) (hsz:gH.sz α=sz:=by exact rfl) (hzs:zs.length=sz:=by exact rfl) (hs:aI G K L w:=by assumption) (hlen:xs.length=len:=by exact rfl)
  (hf:Instr.fill (fun i=>some (i * sz,sz)) ((Array.range (len * sz)).map ((if len * sz=0 then #[] else zs.toArray)[· % (if len * sz=0 then #[] else zs.toArray).size]!)) (ps.toList.map (fun p=>(p.1,ev f p.2)))=some (xs.flatMap gH.enc).toArray:=by first|exact rfl|kernel_rfl) (hbig:Nat.ble (len * sz) 16777216=true:=by exact rfl):
  WO P n ops (⟨some d,.buildSlice T len ps,ty,pos,af,none⟩::rest) Q f w:=st_b xs h hT hE hsz hzs hs hlen hf hbig
end
theorem st_g0 {P:Program} {n:Nat} {c:Operand} {x y:Code} {Q:pS} {f:Nat->Value} {w:World} (h:W P n (.cond c x y) Q f w):W P n (.cond c x y) Q f w:=h
theorem st_g1 {P:Program} {n:Nat} {ops:Array Oper} {dst:Option Tmp} {op:Op} {ty:TypeId} {pos:String} {af:Array Go.Edge} {g:Nat × Bool} {rest:List Oper} {Q:pS} {f:Nat->Value} {w:World} (h:WO P n ops (⟨dst,op,ty,pos,af,some g⟩::rest) Q f w):WO P n ops (⟨dst,op,ty,pos,af,some g⟩::rest) Q f w:=h
theorem st_g2 {P:Program} {n:Nat} {ops:Array Oper} {dst:Option Tmp} {op:Op} {ty:TypeId} {pos:String} {af:Array Go.Edge} {g:Nat × Bool} {rest:List Oper} {C:World->Prop} {R:(Nat->Value)->Prop} {f:Nat->Value} (h:WQ P n ops C (⟨dst,op,ty,pos,af,some g⟩::rest) R f):WQ P n ops C (⟨dst,op,ty,pos,af,some g⟩::rest) R f:=h
theorem st_g3 {P:Program} {n:Nat} {ops:Array Oper} {dst:Option Tmp} {x y z:Operand} {ty:TypeId} {pos:String} {af:Array Go.Edge} {rest:List Oper} {Q:pS} {f:Nat->Value} {w:World} (h:WO P n ops (⟨dst,.pick x y z,ty,pos,af,none⟩::rest) Q f w):WO P n ops (⟨dst,.pick x y z,ty,pos,af,none⟩::rest) Q f w:=h
theorem st_g4 {P:Program} {n:Nat} {os:List Oper} {i q:Nat} {o:Oper} {g:Nat × Bool} {l:List (Nat × Nat)} {C:World->Prop} {R:(Nat->Value)->World->Prop} {f:Nat->Value} {w:World} (hi:(aDN os i).bind (·.guard)=some g) (h:WE P n os.toArray C ((i,q)::l) R f w):WE P n os.toArray C ((i,q)::l) R f w:=h
theorem st_we {P:Program} {n:Nat} {ops:Array Oper} {C:World->Prop} {l:List (Nat × Nat)} {R:(Nat->Value)->World->Prop} {f:Nat->Value} {w:World} {G:uK} {K:Hp} (h1:∃ L',aI G K L' w) (h2:WE P n ops C l R f w):(∃ L',aI G K L' w)/\WE P n ops C l R f w:=⟨h1,h2⟩
theorem st_cK {K K':Hp} {a:Option Addr} {k:Nat} {cs:List Value} (c:dT K a k cs) (h:K.le K'):dT K' a k cs:=c.mono h
theorem st_rK {α:Type} {iα:El α} {K K':Hp} {a:Option Addr} {cap:Nat} {xs:List α} (r:bW K a cap xs) (h:K.le K'):bW K' a cap xs:=r.mono h
section
variable {P:Program} {n:Nat} {ops:Array Oper} {rest:List Oper} {Q:pS} {f:Nat->Value} {w:World} {G:uK} {K:Hp} {L M:List gQ}
theorem qJ {α:Type} {iα:El α} {E:TypeId} {Ke:Hp} {a:Option Addr} {cap:Nat} {xs:List α} (hs:aI G K L w) (p:Pck L (aN E Ke a cap xs) M) (hK:Ke.le K) (h:∀ K',K.le K'->bW K' a cap xs->aI G K' M w->(∀ L' w',aI G K' L' w'->aI G K (aN E Ke a cap xs::L') w')->WO P n ops rest Q f w):WO P n ops rest Q f w:=by
 obtain ⟨K',h1,h2,h3,h4⟩:=aI.lendSp hs hK p
 exact h K' h1 h2 h3 h4
theorem qK {E:TypeId} {b:Nat} {vs:List Value} (hs:aI G K L w) (p:Pck L (box b E vs) M) (h:∀ K',K.le K'->dT K' (some ⟨b,0,none⟩) 0 vs->aI G K' M w->(∀ L' w',aI G K' L' w'->aI G K (box b E vs::L') w')->WO P n ops rest Q f w):WO P n ops rest Q f w:=by
 obtain ⟨K',h1,h2,h3,h4⟩:=aI.lendBp hs p
 exact h K' h1 h2 h3 h4
theorem st_q2 {α:Type} {iα:gH α} {d:Nat} {x y:Operand} {ty:TypeId} {pos:String} {af:Array Go.Edge} {C:gQ->List gQ} {T E:TypeId} {sz:Nat} {zs:List Value} {a a2:Option Addr} {cap c2 l1 l2:Nat} {xs ys zz:List α} {Ke:Hp} (hx:ev f x=.slice a l1 cap) (hy:ev f y=.slice a2 l2 c2) (hr0:bW K a2 c2 ys) (hs:aI G K L w) (hr:Rep L (aN E Ke a cap xs) C) (hm:rE xs ys=some zz) (hT:SLT P T E sz) (hU:P.underlying T=some (.slice E)) (hE:EZ P E zs) (hsz:gH.sz α=sz) (hzs:zs.length=sz) (hl1:l1=xs.length) (hl2:l2=ys.length)
  (h:∀ a' cap' w',aI G K (C (aN E K a' cap' zz)) w'->WO P n ops rest Q (upd f d (.slice a' zz.length cap')) w'):
  WO P n ops (⟨some d,.call ⟨.builtin .append,#[x,y],#[T,T]⟩,ty,pos,af,none⟩::rest) Q f w:=by
 obtain ⟨i,h1,h2⟩:=hr.ix
 have h1:L[i]?=some (aN E K a cap xs):=h1
 exact nG hT hU hE hsz hzs hs h1 (Hp.le_refl _) hr0 hm hx hl1 hy hl2 fun a' c' w' q=>h a' c' w' (h2 _ ▸ q)
end
end Gv
