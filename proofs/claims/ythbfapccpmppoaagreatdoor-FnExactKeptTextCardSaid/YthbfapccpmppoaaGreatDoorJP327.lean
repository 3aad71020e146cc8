/- Numbers and lists of numbers as texts; labels that are made and read again, on both sides. -/
import Derived.Test.YthbfapccpmppoaaGreatDoorJP320
set_option linter.all false
namespace Gv
open Go
theorem itoaP {n:Int} (h:0<=n):Lib.itoa n=Lib.decDigits n.toNat:=by unfold Lib.itoa;rw [if_neg (by omega)]
def dgs (m:Nat):List UInt8:=if h:m=0 then [] else UInt8.ofNat (48+m % 10)::dgs (m / 10)
termination_by m
decreasing_by omega
theorem dgs_rev (m:Nat) (h:m≠0):(dgs m).reverse=Lib.decDigits m:=by
 induction m using Nat.strongRecOn with
 |_ m ih=>
  rw [dgs,dif_neg h,List.reverse_cons]
  by_cases h10:m < 10
  ·rw [Lib.decDigits_one h10,show m / 10=0 by omega,dgs,dif_pos rfl,show m % 10=m by omega];rfl
  ·rw [ih (m / 10) (by omega) (by omega)]
   conv=>rhs;rw [Lib.decDigits,dif_neg h10]
theorem dgs_len (m:Nat) (k:Nat) (h:m < 10 ^ k):(dgs m).length<=k:=by
 induction k generalizing m with
 |zero=>simp at h;subst h;rw [dgs,dif_pos rfl];simp
 |succ k ih=>
  rw [dgs]
  split
  ·simp
  ·have:=ih (m / 10) (by rw [Nat.pow_succ] at h;omega)
   rw [List.length_cons];omega
theorem aHl {n:Int} (h:0<=n) (h2:n < 4611686018427387904):(Lib.itoa n).length<=21:=by
 rw [itoaP h]
 by_cases h0:n.toNat=0
 ·rw [h0,Lib.decDigits_one (by omega)];simp
 ·rw [←dgs_rev _ h0,List.length_reverse]
  have:=dgs_len n.toNat 19 (by
    have:(10:Nat) ^ 19=10000000000000000000:=by decide
    omega)
  omega
theorem u8_48 {d:Nat} (h:d < 10):UInt8.ofInt (wr (48+(d:Int)))=UInt8.ofNat (48+d):=by
 rw [dW (by omega) (by omega)]
 have:d=0\/d=1\/d=2\/d=3\/d=4\/d=5\/d=6\/d=7\/d=8\/d=9:=by omega
 rcases this with rfl|rfl|rfl|rfl|rfl|rfl|rfl|rfl|rfl|rfl<;>rfl
theorem dgs_loop:∀ (k m:Nat) (out:List UInt8),m < 10 ^ k->out.length+k<=1000->m < 4611686018427387904->loop (fun s=>aAn s.1 s.2) (out,(m:Int))=some (out++dgs m):=by
 intro k
 induction k with
 |zero=>
  intro m out h _ _
  simp at h;subst h
  rw [dgs,dif_pos rfl,List.append_nil]
  exact fJ rfl
 |succ k ih=>
  intro m out h ho hm
  by_cases h0:m=0
  ·subst h0
   rw [dgs,dif_pos rfl,List.append_nil]
   exact fJ rfl
  ·have hst:aAn out (m:Int)=some (.inl (out++[UInt8.ofNat (48+m % 10)],((m / 10:Nat):Int))):=by
    unfold aAn
    have hrm:rm (m:Int) 10=some ((m % 10:Nat):Int):=by unfold rm;rw [if_neg (by omega)];congr 1
    have hqu:qu (m:Int) 10=some ((m / 10:Nat):Int):=by
     unfold qu
     rw [if_neg (by omega)]
     have e:(m:Int).tdiv 10=((m / 10:Nat):Int):=by rw [Int.tdiv_eq_ediv_of_nonneg (by omega)];omega
     rw [e,dW (by omega) (by omega)]
    rw [if_pos (by simp;exact h0),hrm,aA,if_neg (by simp;omega)]
    unfold aDd
    rw [u8_48 (by omega),fB (by unfold iK;simp;omega),aA,hqu,aA]
   rw [oF hst]
   rw [ih (m / 10) _ (by rw [Nat.pow_succ] at h;omega) (by simp;omega) (by omega)]
   conv=>rhs;rw [dgs,dif_neg h0]
   simp
theorem rev_loop (ds:List UInt8) (hl:ds.length < 1000):∀ (k:Nat) (out:List UInt8),k<=ds.length->out.length+k<=1000->loop (fun s=>aDb ds s.1 s.2) (out,(k:Int) - 1)=some (out++(ds.take k).reverse):=by
 intro k
 induction k with
 |zero=>
  intro out _ _
  rw [List.take_zero,List.reverse_nil,List.append_nil]
  exact fJ rfl
 |succ k ih=>
  intro out hk ho
  have hkl:k < ds.length:=by omega
  have hst:aDb ds out (((k+1:Nat):Int) - 1)=some (.inl (out++[ds[k]],(k:Int) - 1)):=by
   rw [show (((k+1:Nat):Int) - 1)=(k:Int) by omega]
   unfold aDb
   rw [if_pos (by simp),bY hkl,aA,fB (by unfold iK;simp;omega),aA,dW (by omega) (by omega)]
  have ht:ds.take (k+1)=ds.take k++[ds[k]]:=by rw [List.take_add_one];simp [hkl]
  rw [oF hst,ih _ (by omega) (by simp;omega),ht,List.reverse_append,List.append_assoc]
  rfl
theorem aOK {n:Int} (h:0<=n) (h2:n < 4611686018427387904):iD n=some (Lib.itoa n):=by
 unfold iD
 by_cases h0:n=0
 ·subst h0;rw [if_pos (by rfl),itoaP (by omega),show ((0:Int)).toNat=0 from rfl,Lib.decDigits_one (by omega)];rfl
 ·rw [if_neg (by simp;exact h0)]
  obtain ⟨m,rfl⟩:∃ m:Nat,n=(m:Int):=⟨n.toNat,by omega⟩
  have hp:m < 10 ^ 19:=by
    have:(10:Nat) ^ 19=10000000000000000000:=by decide
    omega
  rw [dgs_loop 19 m [] hp (by simp) (by omega),aA,List.nil_append]
  unfold aDc aAm
  have hdl:=dgs_len m 19 hp
  rw [if_neg (by simp),dW (by omega) (by omega),rev_loop (dgs m) (by omega) (dgs m).length [] (by omega) (by simp;omega),aA,List.nil_append,List.take_length,dgs_rev m (by omega),itoaP (by omega)]
  rfl
def vF (vs:List Int):aL:=Lib.join (vs.map Lib.itoa) [44]
theorem aHm (v:Int):vF [v]=Lib.itoa v:=by unfold vF;rw [List.map_cons,List.map_nil,Lib.join_one]
theorem aFr (v w:Int) (vs:List Int):vF (v::w::vs)=Lib.itoa v++44::vF (w::vs):=by
 unfold vF
 simp only [List.map_cons,Lib.join_cons,Lib.joinTail,List.flatten_cons]
 simp
theorem aNw:∀ (vs:List Int) (v:Int),vs≠[]->vF (vs++[v])=vF vs++[44]++Lib.itoa v
 |[],_,h=>absurd rfl h
 |[a],v,_=>by rw [List.singleton_append,aFr,aHm,aHm];simp
 |a::b::vs,v,_=>by
  rw [List.cons_append,List.cons_append,aFr,aFr,←List.cons_append,aNw (b::vs) v (by simp)]
  simp
theorem aBG:∀ {vs:List Int},(∀ v∈vs,0<=v/\v < 4611686018427387904)->(vF vs).length<=22 * vs.length
 |[],_=>by simp [vF,Lib.join_nil]
 |[v],p=>by rw [aHm];have:=aHl (p v (by simp)).1 (p v (by simp)).2;simp;omega
 |v::w::vs,p=>by
  rw [aFr,List.length_append,List.length_cons]
  have h1:=aHl (p v (by simp)).1 (p v (by simp)).2
  have h2:=aBG (vs:=w::vs) (fun x hx=>p x (List.mem_cons_of_mem _ hx))
  simp only [List.length_cons] at h2 ⊢
  omega
theorem joined_C {vs:List Int} (hl:vs.length < 1000000) (p:∀ v∈vs,0<=v/\v < 4611686018427387904):aAi vs [44]=some (vF vs):=by
 have:=aBG p
 exact aKK vs [44] (by omega) (fun x hx=>by have:=p x hx;omega) (by unfold vF at this;unfold iK;omega)
def lstT (vs:List Int):aL:=if vs.length=0 then [45] else vF vs
theorem aRN {vs:List Int} (hl:vs.length < 1000000) (p:∀ v∈vs,0<=v/\v < 4611686018427387904):aEc vs=some (lstT vs):=by
 unfold aEc lstT
 by_cases h0:vs.length=0
 ·rw [if_pos (by simp [h0]),if_pos h0]
 rw [if_neg (by simpa using h0),if_neg h0]
 have key:=aDt (step:=fun s:aL × Int=>nW vs s.1 s.2) vs.length (fun k (out:aL)=>(out,(k:Int))) (fun _ _=>vF vs) (fun k out=>out=vF (vs.take k)) (fun k out hk hI=>?_) (fun out hI=>?_) vs.length 0 [] (by omega) (by simp [vF,Lib.join_nil])
 ·rw [show (([]:aL),(0:Int))=(([]:aL),((0:Nat):Int)) from rfl,key];rfl
 ·left
  have hm:vs[k]∈vs:=List.getElem_mem hk
  obtain ⟨q1,q2⟩:=p _ hm
  have hil:=aHl q1 q2
  have hjl:=aBG (vs:=vs.take k) (fun v hv=>p v (List.mem_of_mem_take hv))
  rw [List.length_take] at hjl
  rw [←hI] at hjl
  refine ⟨vF (vs.take (k+1)),?_,rfl,rfl⟩
  have hst:vs.take (k+1)=vs.take k++[vs[k]]:=by rw [List.take_add_one];simp [hk]
  show nW vs out (k:Int)=_
  unfold nW aBm
  rw [if_pos (bV hk)]
  simp only [bY hk,aA,aOK q1 q2,bO hk (show vs.length < 4611686018427387904 by omega)]
  by_cases hk0:k=0
  ·subst hk0
   rw [List.take_zero] at hI
   have:out=[]:=by rw [hI];simp [vF,Lib.join_nil]
   subst this
   rw [if_neg (by simp),aIG (by unfold iK;simp;omega),aA,hst,List.take_zero,List.nil_append,List.nil_append,aHm]
  ·rw [if_pos (by simp;omega),aIG (by unfold iK;simp;omega),aA,aIG (by unfold iK;simp;omega),aA,hst,aNw _ _ (by intro h;have:=congrArg List.length h;rw [List.length_take,List.length_nil] at this;omega),←hI]
 ·show nW vs out (vs.length:Int)=_
  unfold nW
  rw [if_neg (by simp),hI,List.take_of_length_le (Nat.le_refl _)]
def lab (nm:aL) (vs:List Int):aL:=if vs.length=0 then nm else nm++[40]++vF vs++[41]
def LbOk (nm:aL) (vs:List Int):Prop:=oE nm=true/\vs.length<=2/\vs.all vG=true/\(nm=gY->vs=[])
theorem ok63_iff {v:Int}:vG v=true<->0<=v/\v<=63:=by unfold vG;simp
theorem LbOk.pos {nm:aL} {vs:List Int} (h:LbOk nm vs):∀ v∈vs,0<=v/\v < 4611686018427387904:=fun v hv=>by
 have:=ok63_iff.1 (List.all_eq_true.1 h.2.2.1 v hv);omega
theorem aEt {s:aL} (h:oE s=true):s.length<=10/\s≠[]:=by
 cases s with
 |nil=>simp [oE] at h
 |cons c r=>simp only [oE,Bool.and_eq_true,decide_eq_true_eq] at h;exact ⟨by simp only [List.length_cons];omega,by simp⟩
end Gv
