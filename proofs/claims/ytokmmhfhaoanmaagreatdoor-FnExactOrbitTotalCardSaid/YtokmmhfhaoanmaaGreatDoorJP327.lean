/- Numbers and lists of numbers as texts; labels that are made and read again, on both sides. -/
import Derived.Test.YtokmmhfhaoanmaaGreatDoorJP320
set_option linter.all false
namespace Gv
open Go
theorem ofn48 {n:Nat} (h:n < 10):(UInt8.ofNat (48+n)).toNat=48+n:=by simp;omega
theorem dig48 {n:Nat} (h:n < 10):dig (UInt8.ofNat (48+n))=true:=by rw [uV,ofn48 h];omega
theorem dd_all (u:Nat):(Lib.decDigits u).all dig=true:=by
 induction u using Nat.strongRecOn with
 |_ u ih=>
  by_cases h:u < 10
  ·rw [Lib.decDigits_one h];simp only [List.all_cons,List.all_nil,Bool.and_true];exact dig48 h
  ·rw [Lib.decDigits,dif_neg h,List.all_append,ih (u / 10) (by omega)]
   simp only [List.all_cons,List.all_nil,Bool.and_true,Bool.true_and];exact dig48 (by omega)
theorem dd_ne (u:Nat):Lib.decDigits u≠[]:=by
 rw [Lib.decDigits]
 split<;>simp
theorem val_app (n:Int) (l:aH) (c:UInt8):val n (l++[c])=10 * val n l+((c.toNat:Int) - 48):=by unfold val;rw [List.foldl_append];rfl
theorem dd_val (u:Nat):val 0 (Lib.decDigits u)=u:=by
 induction u using Nat.strongRecOn with
 |_ u ih=>
  by_cases h:u < 10
  ·rw [Lib.decDigits_one h];simp only [val,List.foldl_cons,List.foldl_nil,ofn48 h];omega
  ·rw [Lib.decDigits,dif_neg h,val_app,ih (u / 10) (by omega),ofn48 (n:=u % 10) (by omega)];omega
theorem dd_head (u:Nat) (h:u≠0):(Lib.decDigits u).head?≠some 48:=by
 induction u using Nat.strongRecOn with
 |_ u ih=>
  by_cases h10:u < 10
  ·rw [Lib.decDigits_one h10]
   intro e
   simp only [List.head?_cons,Option.some.injEq] at e
   have:=ofn48 h10
   rw [e] at this
   have h48:(48:UInt8).toNat=48:=rfl
   omega
  ·rw [Lib.decDigits,dif_neg h10]
   have:=ih (u / 10) (by omega) (by omega)
   cases hd:Lib.decDigits (u / 10) with
   |nil=>exact absurd hd (dd_ne _)
   |cons c r=>rw [hd] at this;simpa using this
theorem aML {n:Int} (h:0<=n):Lib.itoa n=Lib.decDigits n.toNat:=by unfold Lib.itoa;rw [if_neg (by omega)]
theorem oQ {n:Int} (h:0<=n):(Lib.itoa n).all dig=true:=by rw [aML h];exact dd_all _
theorem itoa_ne {n:Int} (h:0<=n):Lib.itoa n≠[]:=by rw [aML h];exact dd_ne _
theorem aJm {n:Int} (h:0<=n):val 0 (Lib.itoa n)=n:=by rw [aML h,dd_val];omega
theorem aGq {a b:Int} (ha:0<=a) (hb:0<=b) (h:Lib.itoa a=Lib.itoa b):a=b:=by rw [←aJm ha,←aJm hb,h]
theorem sG {s:aH} {c:UInt8} (h:s.all dig=true) (hc:dig c=false):c∉s:=fun hm=>by have:=List.all_eq_true.1 h c hm;rw [hc] at this;cases this
theorem aFn {c:UInt8}:∀ {a b x y:aH},c∉a->c∉b->a++c::x=b++c::y->a=b/\x=y
 |[],[],x,y,_,_,h=>by simpa using h
 |[],d::b,x,y,_,hb,h=>by simp at h;exact absurd (by rw [h.1];simp) hb
 |d::a,[],x,y,ha,_,h=>by simp at h;exact absurd (by rw [h.1];simp) ha
 |d::a,e::b,x,y,ha,hb,h=>by
  simp only [List.cons_append,List.cons.injEq] at h
  obtain ⟨h1,h2⟩:=aFn (a:=a) (b:=b) (fun m=>ha (by simp [m])) (fun m=>hb (by simp [m])) h.2
  exact ⟨by rw [h.1,h1],h2⟩
def dgs (m:Nat):List UInt8:=if h:m=0 then [] else UInt8.ofNat (48+m % 10)::dgs (m / 10)
termination_by m
decreasing_by omega
theorem dgs_rev (m:Nat) (h:m≠0):(dgs m).reverse=Lib.decDigits m:=by
 induction m using Nat.strongRecOn with
 |_ m ih=>
  rw [dgs,dif_neg h,List.reverse_cons]
  by_cases h10:m < 10
  ·rw [Lib.decDigits_one h10,show m / 10=0 by omega,dgs,dif_pos rfl,show m % 10=m by omega];rfl
  ·rw [ih (m / 10) (by omega) (by omega)]
   conv=>rhs;rw [Lib.decDigits,dif_neg h10]
theorem dgs_len (m:Nat) (k:Nat) (h:m < 10 ^ k):(dgs m).length<=k:=by
 induction k generalizing m with
 |zero=>simp at h;subst h;rw [dgs,dif_pos rfl];simp
 |succ k ih=>
  rw [dgs]
  split
  ·simp
  ·have:=ih (m / 10) (by rw [Nat.pow_succ] at h;omega)
   rw [List.length_cons];omega
theorem qI {n:Int} (h:0<=n) (h2:n < 4611686018427387904):(Lib.itoa n).length<=21:=by
 rw [aML h]
 by_cases h0:n.toNat=0
 ·rw [h0,Lib.decDigits_one (by omega)];simp
 ·rw [←dgs_rev _ h0,List.length_reverse]
  have:=dgs_len n.toNat 19 (by
    have:(10:Nat) ^ 19=10000000000000000000:=by decide
    omega)
  omega
theorem u8_48 {d:Nat} (h:d < 10):UInt8.ofInt (wr (48+(d:Int)))=UInt8.ofNat (48+d):=by
 rw [eG (by omega) (by omega)]
 have:d=0\/d=1\/d=2\/d=3\/d=4\/d=5\/d=6\/d=7\/d=8\/d=9:=by omega
 rcases this with rfl|rfl|rfl|rfl|rfl|rfl|rfl|rfl|rfl|rfl<;>rfl
theorem dgs_loop:∀ (k m:Nat) (out:List UInt8),m < 10 ^ k->out.length+k<=1000->m < 4611686018427387904->loop (fun s=>aBQ s.1 s.2) (out,(m:Int))=some (out++dgs m):=by
 intro k
 induction k with
 |zero=>
  intro m out h _ _
  simp at h;subst h
  rw [dgs,dif_pos rfl,List.append_nil]
  exact bA rfl
 |succ k ih=>
  intro m out h ho hm
  by_cases h0:m=0
  ·subst h0
   rw [dgs,dif_pos rfl,List.append_nil]
   exact bA rfl
  ·have hst:aBQ out (m:Int)=some (.inl (out++[UInt8.ofNat (48+m % 10)],((m / 10:Nat):Int))):=by
    unfold aBQ
    have hrm:rm (m:Int) 10=some ((m % 10:Nat):Int):=by unfold rm;rw [if_neg (by omega)];congr 1
    have hqu:qu (m:Int) 10=some ((m / 10:Nat):Int):=by
     unfold qu
     rw [if_neg (by omega)]
     have e:(m:Int).tdiv 10=((m / 10:Nat):Int):=by rw [Int.tdiv_eq_ediv_of_nonneg (by omega)];omega
     rw [e,eG (by omega) (by omega)]
    rw [if_pos (by simp;exact h0),hrm,aA,if_neg (by simp;omega)]
    unfold aES
    rw [u8_48 (by omega),dM (by unfold fG;simp;omega),aA,hqu,aA]
   rw [fD hst]
   rw [ih (m / 10) _ (by rw [Nat.pow_succ] at h;omega) (by simp;omega) (by omega)]
   conv=>rhs;rw [dgs,dif_neg h0]
   simp
theorem rev_loop (ds:List UInt8) (hl:ds.length < 1000):∀ (k:Nat) (out:List UInt8),k<=ds.length->out.length+k<=1000->loop (fun s=>aEQ ds s.1 s.2) (out,(k:Int) - 1)=some (out++(ds.take k).reverse):=by
 intro k
 induction k with
 |zero=>
  intro out _ _
  rw [List.take_zero,List.reverse_nil,List.append_nil]
  exact bA rfl
 |succ k ih=>
  intro out hk ho
  have hkl:k < ds.length:=by omega
  have hst:aEQ ds out (((k+1:Nat):Int) - 1)=some (.inl (out++[ds[k]],(k:Int) - 1)):=by
   rw [show (((k+1:Nat):Int) - 1)=(k:Int) by omega]
   unfold aEQ
   rw [if_pos (by simp),aU hkl,aA,dM (by unfold fG;simp;omega),aA,eG (by omega) (by omega)]
  have ht:ds.take (k+1)=ds.take k++[ds[k]]:=by rw [List.take_add_one];simp [hkl]
  rw [fD hst,ih _ (by omega) (by simp;omega),ht,List.reverse_append,List.append_assoc]
  rfl
theorem l01Dec_eq {n:Int} (h:0<=n) (h2:n < 4611686018427387904):aIt n=some (Lib.itoa n):=by
 unfold aIt
 by_cases h0:n=0
 ·subst h0;rw [if_pos (by rfl),aML (by omega),show ((0:Int)).toNat=0 from rfl,Lib.decDigits_one (by omega)];rfl
 ·rw [if_neg (by simp;exact h0)]
  obtain ⟨m,rfl⟩:∃ m:Nat,n=(m:Int):=⟨n.toNat,by omega⟩
  have hp:m < 10 ^ 19:=by
    have:(10:Nat) ^ 19=10000000000000000000:=by decide
    omega
  rw [dgs_loop 19 m [] hp (by simp) (by omega),aA,List.nil_append]
  unfold aER aBP
  have hdl:=dgs_len m 19 hp
  rw [if_neg (by simp),eG (by omega) (by omega),rev_loop (dgs m) (by omega) (dgs m).length [] (by omega) (by simp;omega),aA,List.nil_append,List.take_length,dgs_rev m (by omega),aML (by omega)]
  rfl
def iC (vs:List Int):aH:=Lib.join (vs.map Lib.itoa) [44]
theorem aDy (v:Int):iC [v]=Lib.itoa v:=by unfold iC;rw [List.map_cons,List.map_nil,Lib.join_one]
theorem aBo (v w:Int) (vs:List Int):iC (v::w::vs)=Lib.itoa v++44::iC (w::vs):=by
 unfold iC
 simp only [List.map_cons,Lib.join_cons,Lib.joinTail,List.flatten_cons]
 simp
theorem aQe:∀ (vs:List Int) (v:Int),vs≠[]->iC (vs++[v])=iC vs++[44]++Lib.itoa v
 |[],_,h=>absurd rfl h
 |[a],v,_=>by rw [List.singleton_append,aBo,aDy,aDy];simp
 |a::b::vs,v,_=>by
  rw [List.cons_append,List.cons_append,aBo,aBo,←List.cons_append,aQe (b::vs) v (by simp)]
  simp
theorem spl_no {b:UInt8}:∀ {s:aH},b∉s->spl b s=[s]
 |[],_=>rfl
 |c::r,h=>by
  have hc:(c == b)=false:=by simp;intro e;exact h (by simp [e])
  rw [aEs,spl_no (s:=r) (fun m=>h (by simp [m])),hc];rfl
theorem spl_app {b:UInt8}:∀ {s:aH} (r:aH),b∉s->spl b (s++b::r)=s::spl b r
 |[],r,_=>by rw [List.nil_append,aEs];simp
 |c::s,r,h=>by
  have hc:(c == b)=false:=by simp;intro e;exact h (by simp [e])
  rw [List.cons_append,aEs,spl_app (s:=s) r (fun m=>h (by simp [m])),hc];rfl
theorem aDz:∀ {vs:List Int},vs≠[]->(∀ v∈vs,0<=v)->spl 44 (iC vs)=vs.map Lib.itoa
 |[],h,_=>absurd rfl h
 |[v],_,h=>by rw [aDy,spl_no (sG (oQ (h v (by simp))) rfl)];rfl
 |v::w::vs,_,h=>by
  rw [aBo,spl_app _ (sG (oQ (h v (by simp))) rfl),aDz (vs:=w::vs) (by simp) (fun x hx=>h x (List.mem_cons_of_mem _ hx))]
  rfl
theorem joinC_inj {vs us:List Int} (h1:vs≠[]) (h2:us≠[]) (p1:∀ v∈vs,0<=v) (p2:∀ v∈us,0<=v) (h:iC vs=iC us):vs=us:=by
 have:=congrArg (spl 44) h
 rw [aDz h1 p1,aDz h2 p2] at this
 clear h h1 h2
 induction vs generalizing us with
 |nil=>simp at this;exact this.symm
 |cons v vs ih=>
  cases us with
  |nil=>simp at this
  |cons u us=>
   simp only [List.map_cons,List.cons.injEq] at this
   rw [aGq (p1 v (by simp)) (p2 u (by simp)) this.1,ih (fun x hx=>p1 x (List.mem_cons_of_mem _ hx)) (us:=us) (fun x hx=>p2 x (List.mem_cons_of_mem _ hx)) this.2]
theorem aJO:∀ {vs:List Int},(∀ v∈vs,0<=v)->∀ c∈iC vs,dig c=true\/c=44
 |[],_,c,h=>by simp [iC,Lib.join_nil] at h
 |[v],p,c,h=>by rw [aDy] at h;exact .inl (List.all_eq_true.1 (oQ (p v (by simp))) c h)
 |v::w::vs,p,c,h=>by
  rw [aBo] at h
  rcases List.mem_append.1 h with h|h
  ·exact .inl (List.all_eq_true.1 (oQ (p v (by simp))) c h)
  ·rcases List.mem_cons.1 h with h|h
   ·exact .inr h
   ·exact aJO (vs:=w::vs) (fun x hx=>p x (List.mem_cons_of_mem _ hx)) c h
theorem uX:∀ {vs:List Int},(∀ v∈vs,0<=v/\v < 4611686018427387904)->(iC vs).length<=22 * vs.length
 |[],_=>by simp [iC,Lib.join_nil]
 |[v],p=>by rw [aDy];have:=qI (p v (by simp)).1 (p v (by simp)).2;simp;omega
 |v::w::vs,p=>by
  rw [aBo,List.length_append,List.length_cons]
  have h1:=qI (p v (by simp)).1 (p v (by simp)).2
  have h2:=uX (vs:=w::vs) (fun x hx=>p x (List.mem_cons_of_mem _ hx))
  simp only [List.length_cons] at h2 ⊢
  omega
theorem joined_C {vs:List Int} (hl:vs.length < 1000000) (p:∀ v∈vs,0<=v/\v < 4611686018427387904):aDL vs [44]=some (iC vs):=by
 have:=uX p
 exact aRg vs [44] (by omega) (fun x hx=>by have:=p x hx;omega) (by unfold iC at this;unfold fG;omega)
def aNF (vs:List Int):aH:=if vs.length=0 then [45] else iC vs
theorem aVP {vs:List Int} (hl:vs.length < 1000000) (p:∀ v∈vs,0<=v/\v < 4611686018427387904):aFW vs=some (aNF vs):=by
 unfold aFW aNF
 by_cases h0:vs.length=0
 ·rw [if_pos (by simp [h0]),if_pos h0]
 rw [if_neg (by simpa using h0),if_neg h0]
 have key:=aAG (step:=fun s:aH × Int=>rB vs s.1 s.2) vs.length (fun k (out:aH)=>(out,(k:Int))) (fun _ _=>iC vs) (fun k out=>out=iC (vs.take k)) (fun k out hk hI=>?_) (fun out hI=>?_) vs.length 0 [] (by omega) (by simp [iC,Lib.join_nil])
 ·rw [show (([]:aH),(0:Int))=(([]:aH),((0:Nat):Int)) from rfl,key];rfl
 ·left
  have hm:vs[k]∈vs:=List.getElem_mem hk
  obtain ⟨q1,q2⟩:=p _ hm
  have hil:=qI q1 q2
  have hjl:=uX (vs:=vs.take k) (fun v hv=>p v (List.mem_of_mem_take hv))
  rw [List.length_take] at hjl
  rw [←hI] at hjl
  refine ⟨iC (vs.take (k+1)),?_,rfl,rfl⟩
  have hst:vs.take (k+1)=vs.take k++[vs[k]]:=by rw [List.take_add_one];simp [hk]
  show rB vs out (k:Int)=_
  unfold rB aCR
  rw [if_pos (aY hk)]
  simp only [aU hk,aA,l01Dec_eq q1 q2,aV hk (show vs.length < 4611686018427387904 by omega)]
  by_cases hk0:k=0
  ·subst hk0
   rw [List.take_zero] at hI
   have:out=[]:=by rw [hI];simp [iC,Lib.join_nil]
   subst this
   rw [if_neg (by simp),pC (by unfold fG;simp;omega),aA,hst,List.take_zero,List.nil_append,List.nil_append,aDy]
  ·rw [if_pos (by simp;omega),pC (by unfold fG;simp;omega),aA,pC (by unfold fG;simp;omega),aA,hst,aQe _ _ (by intro h;have:=congrArg List.length h;rw [List.length_take,List.length_nil] at this;omega),←hI]
 ·show rB vs out (vs.length:Int)=_
  unfold rB
  rw [if_neg (by simp),hI,List.take_of_length_le (Nat.le_refl _)]
def lab (nm:aH) (vs:List Int):aH:=if vs.length=0 then nm else nm++[40]++iC vs++[41]
def rN (nm:aH) (vs:List Int):Prop:=qM nm=true/\vs.length<=2/\vs.all oP=true/\(nm=bS->vs=[])
theorem aCd {v:Int}:oP v=true<->0<=v/\v<=63:=by unfold oP;simp
theorem rN.pos {nm:aH} {vs:List Int} (h:rN nm vs):∀ v∈vs,0<=v/\v < 4611686018427387904:=fun v hv=>by
 have:=aCd.1 (List.all_eq_true.1 h.2.2.1 v hv);omega
theorem aGr {s:aH} (h:qM s=true):s.length<=10/\s≠[]:=by
 cases s with
 |nil=>simp [qM] at h
 |cons c r=>simp only [qM,Bool.and_eq_true,decide_eq_true_eq] at h;exact ⟨by simp only [List.length_cons];omega,by simp⟩
theorem aUi {s:aH} (h:qM s=true):∀ c∈s,low c=true\/dig c=true:=by
 cases s with
 |nil=>simp [qM] at h
 |cons c r=>
  simp only [qM,Bool.and_eq_true] at h
  intro d hd
  rcases List.mem_cons.1 hd with rfl|hd
  ·exact .inl (by simp_all)
  ·have:=List.all_eq_true.1 (show (r.all fun c=>low c||dig c)=true by simp_all) d hd
   simpa using this
end Gv
namespace Gv
open Go
theorem low_ne {c:UInt8} (h:low c=true\/dig c=true):c≠40/\c≠32/\c≠41/\c≠44:=by
 rcases h with h|h
 ·refine ⟨?_,?_,?_,?_⟩<;>(rintro rfl;revert h;decide)
 ·refine ⟨?_,?_,?_,?_⟩<;>(rintro rfl;revert h;decide)
theorem nm_no {nm:aH} (h:qM nm=true):(40:UInt8)∉nm/\(32:UInt8)∉nm:=⟨fun m=>(low_ne (aUi h _ m)).1 rfl,fun m=>(low_ne (aUi h _ m)).2.1 rfl⟩
theorem aUj {vs:List Int} (p:∀ v∈vs,0<=v):(40:UInt8)∉iC vs/\(32:UInt8)∉iC vs/\(41:UInt8)∉iC vs/\(58:UInt8)∉iC vs:=by
 refine ⟨fun m=>?_,fun m=>?_,fun m=>?_,fun m=>?_⟩<;>(rcases aJO p _ m with h|h<;>(revert h;decide))
theorem aRx {nm:aH} {vs:List Int} (h:rN nm vs):(lab nm vs).length<=56:=by
 have h1:=(aGr h.1).1
 have h2:=uX h.pos
 have h3:=h.2.1
 unfold lab
 split
 ·omega
 ·simp;omega
theorem aSF {nm:aH} {vs:List Int} (h:rN nm vs):(32:UInt8)∉lab nm vs:=by
 unfold lab
 split
 ·exact (nm_no h.1).2
 ·have:=(aUj (fun v hv=>(h.pos v hv).1)).2.1
  simp [(nm_no h.1).2,this]
theorem aCe {nm:aH} {vs:List Int} (h:rN nm vs):xW nm vs=some (lab nm vs,true):=by
 have h1:=(aGr h.1).1
 have h2:=uX h.pos
 have h3:=h.2.1
 have e:Lib.join (vs.map Lib.itoa) [44]=iC vs:=rfl
 rw [aLc nm vs (by omega) (by omega) (by rw [e];omega),e]
 by_cases ht:nm=bS
 ·rw [if_pos ht,h.2.2.2 ht,ht];rfl
 ·have ha:iB nm=true:=by unfold iB;rw [h.1];simpa using ht
  rw [if_neg ht,if_pos ⟨ha,h3,h.2.2.1⟩];rfl
theorem aQf {nm:aH} {vs:List Int} (h:rN nm vs):aFX nm vs=some (lab nm vs):=by
 have h1:=(aGr h.1).1
 have h2:=uX h.pos
 have h3:=h.2.1
 unfold aFX lab
 by_cases h0:vs.length=0
 ·rw [if_pos (by simp [h0]),if_pos h0]
 ·have e:aNF vs=iC vs:=by unfold aNF;rw [if_neg h0]
  rw [if_neg (by simpa using h0),if_neg h0,pC (by unfold fG;simp;omega),aA,aVP (by omega) h.pos,aA,e,pC (by unfold fG;simp;omega),aA,pC (by unfold fG;simp;omega),aA]
theorem aUk {b:UInt8}:∀ {s:aH},b∉s->iZ b s=(s,none)
 |[],_=>rfl
 |c::r,h=>by
  have hc:(c == b)=false:=by simp;intro e;exact h (by simp [e])
  rw [aHl,hc,aUk (s:=r) (fun m=>h (by simp [m]))];rfl
theorem aUl {b:UInt8}:∀ {s:aH} (r:aH),b∉s->iZ b (s++b::r)=(s,some r)
 |[],r,_=>by rw [List.nil_append,aHl];simp
 |c::s,r,h=>by
  have hc:(c == b)=false:=by simp;intro e;exact h (by simp [e])
  rw [List.cons_append,aHl,hc,aUl (s:=s) r (fun m=>h (by simp [m]))];rfl
theorem aOI {nm:aH} {vs:List Int} (h:rN nm vs):iZ 40 (lab nm vs)=(nm,if vs.length=0 then none else some (iC vs++[41])):=by
 unfold lab
 split
 ·exact aUk (nm_no h.1).1
 ·rw [show nm++[40]++iC vs++[41]=nm++40::(iC vs++[41]) by simp,aUl _ (nm_no h.1).1]
theorem aSG {v:Int} (h0:0<=v) (h1:v<=63):gL (Lib.itoa v)=(v,true):=by
 have e1:=aKZ h0 h1
 rw [←aLb] at e1
 unfold in63 at e1
 simp only [Bool.and_eq_true,decide_eq_true_eq] at e1
 have e2:=aGq e1.2.1 h0 (aLa e1.1)
 exact Prod.ext e2 e1.1
theorem aJn {nm:aH} {vs:List Int} (h:rN nm vs):nU (lab nm vs)=some (nm,vs,true):=by
 have hl:=aRx h
 have h3:=h.2.1
 have hJ:=uX h.pos
 have hc:=aOI h
 have j2:∀ r,kU (lab nm vs) (nm,r) vs=some (nm,vs,true):=fun r=>by
  unfold kU pP
  rw [aCe h,aA]
  simp
 unfold nU l_Cut
 rw [if_pos (by omega),aA,cut_eq,hc]
 by_cases h0:vs.length=0
 ·have hv:vs=[]:=List.length_eq_zero_iff.1 h0
  rw [if_pos h0]
  simp only [Option.isSome_none,Option.getD_none]
  rw [if_neg (by simp)]
  have:=j2 ([],false)
  rw [hv] at this ⊢
  exact this
 ·have hne:vs≠[]:=fun e=>h0 (by rw [e];rfl)
  rw [if_neg h0]
  simp only [Option.isSome_some,Option.getD_some,if_true]
  rw [aKv _ (by simp;omega),aA,if_pos (by simp),List.dropLast_concat]
  have hsp:aGF (iC vs) [44]=some (spl 44 (iC vs)):=by
   unfold aGF;rw [if_pos ⟨by omega,by simp⟩,aNs 44 _ _ (Nat.le_refl _)]
  rw [hsp,aA,aDz hne (fun v hv=>(h.pos v hv).1),aJi _ (by simp;omega) (fun x hx=>by
   obtain ⟨v,hv,rfl⟩:=List.mem_map.1 hx
   have:=qI (h.pos v hv).1 (h.pos v hv).2
   omega),aA]
  have h63:∀ v∈vs,gL (Lib.itoa v)=(v,true):=fun v hv=>by
   have:=aCd.1 (List.all_eq_true.1 h.2.2.1 v hv)
   exact aSG this.1 this.2
  have ha:(vs.map Lib.itoa).all (fun s=>(gL s).2)=true:=by
   rw [List.all_map,List.all_eq_true]
   intro v hv
   show (gL (Lib.itoa v)).2=true
   rw [h63 v hv]
  have hm:(vs.map Lib.itoa).map (fun s=>(gL s).1)=vs:=by
   rw [List.map_map]
   conv=>rhs;rw [←List.map_id vs]
   exact List.map_congr_left fun v hv=>by show (gL (Lib.itoa v)).1=v;rw [h63 v hv]
  rw [if_pos ha,hm]
  simp only [Bool.not_true,Bool.false_eq_true,if_false]
  exact j2 _
theorem aMM {nm:aH} {vs:List Int} (h:rN nm vs):kV (lab nm vs)=some nm:=by
 have hl:=aRx h
 unfold kV
 rw [aPJ _ (by omega),aOI h,aA]
 have hp:nm.length<=(lab nm vs).length:=by unfold lab;split<;>simp<;>omega
 have ht:(lab nm vs).take nm.length=nm:=by unfold lab;split<;>simp
 rw [slcTk hp,aA,ht]
theorem aUm {v:Int} (h0:0<=v) (h1:v<=63):aBR (Lib.itoa v)=some (v,true):=by
 have hd:=oQ h0
 have hne:=itoa_ne h0
 have hlen:=qI h0 (by omega)
 have hv:=aJm h0
 have hl2:(Lib.itoa v).length<=2:=itoa_len ⟨by omega,h1⟩
 have hz:(Lib.itoa v).head?=some 48->(Lib.itoa v).length=1:=by
  intro e
  by_cases hv0:v.toNat=0
  ·rw [aML h0,hv0,Lib.decDigits_one (by omega)];rfl
  ·rw [aML h0] at e;exact absurd e (dd_head _ hv0)
 generalize Lib.itoa v=s at *
 cases s with
 |nil=>exact absurd rfl hne
 |cons c r=>
  have hc:dig c=true:=by simp at hd;exact hd.1
  have h45:((c.toNat:Int) == 45)=false:=by rw [c45];simp;rintro rfl;revert hc;decide
  have h48:((c.toNat:Int) == 48)=decide (c=48):=c48 c
  have hi:ix (c::r) 0=some c:=rfl
  unfold aBR aAd tI
  rw [if_pos (by simp),hi,aA,h45,if_neg (by simp),if_neg (by simp;omega),if_neg (by rw [eG (by simp at hl2 ⊢;omega) (by simp at hl2 ⊢;omega)];simp at hl2 ⊢;omega),aA,h48]
  have fin:kW (c::r) 0 false=some (v,true):=by
   unfold kW
   have:=aTF (s:=c::r) (a:=0) (by simp) (by simp at hl2 ⊢;omega) (by simp at hl2 ⊢;omega)
   rw [List.drop_zero,if_pos hd,hv] at this
   rw [if_neg (by simp)]
   refine (congrArg (fun x=>ob x fun r=>match r with|.inl r=>aAc 0 r|.inr r=>some r) this).trans ?_
   rfl
  by_cases h8:c=48
  ·subst h8
   have:=hz rfl
   simp at this
   subst this
   rw [if_pos (by simp)]
   exact fin
  ·rw [if_neg (by simp [h8])];exact fin
theorem aUn {nm:aH} {vs:List Int} (h:rN nm vs):∃ b,yB (lab nm vs)=some (vs,b):=by
 have hl:=aRx h
 have h3:=h.2.1
 have hJ:=uX h.pos
 unfold yB
 rw [aPJ _ (by omega),aOI h,aA]
 by_cases h0:vs.length=0
 ·have hv:vs=[]:=List.length_eq_zero_iff.1 h0
  have hlab:lab nm vs=nm:=by unfold lab;rw [if_pos h0]
  rw [hlab,if_pos (by simp),aHk,aA,hv]
  exact ⟨_,rfl⟩
 ·have hne:vs≠[]:=fun e=>h0 (by rw [e];rfl)
  have hlab:lab nm vs=nm++40::(iC vs++[41]):=by unfold lab;rw [if_neg h0];simp
  have hll:(lab nm vs).length=nm.length+(iC vs).length+2:=by rw [hlab];simp;omega
  have htau:nm≠bS:=fun e=>hne (h.2.2.2 e)
  have hact:iB nm=true:=by unfold iB;rw [h.1];simpa using htau
  have ht:(lab nm vs).take nm.length=nm:=by rw [hlab];simp
  rw [if_neg (by rw [hll];simp;omega),slcTk (show nm.length<=(lab nm vs).length by omega),aA,ht,aAI,aA,hact,if_neg (by simp)]
  have hw1:wr (((lab nm vs).length:Int) - 1)=(((lab nm vs).length - 1:Nat):Int):=by rw [eG (by omega) (by omega)];omega
  have hlast:ix (lab nm vs) (((lab nm vs).length - 1:Nat):Int)=some 41:=by
   rw [gK,hll,hlab,show nm++40::(iC vs++[41])=(nm++40::iC vs)++[41] by simp,List.getElem?_append_right (by simp;omega)]
   have:nm.length+(iC vs).length+2 - 1 - (nm++40::iC vs).length=0:=by simp;omega
   rw [this];rfl
  rw [hw1,hlast,aA,show ((((41:UInt8).toNat:Int) != 41))=false from rfl]
  unfold tK
  have hs:slc (lab nm vs) (wr (((nm.length:Nat):Int)+1)) (((lab nm vs).length - 1:Nat):Int)=some (iC vs):=by
   have hn10:=(aGr h.1).1
   rw [eG (by omega) (by omega)]
   unfold slc
   rw [if_pos ⟨by omega,by omega,by simp⟩]
   congr 1
   have e1:((nm.length:Int)+1).toNat=nm.length+1:=by omega
   rw [e1,Int.toNat_natCast,hll,hlab]
   have e2:(nm++40::(iC vs++[41])).drop (nm.length+1)=iC vs++[41]:=by
    rw [List.drop_append,List.drop_of_length_le (by omega),show nm.length+1 - nm.length=1 by omega];rfl
   rw [e2,show nm.length+(iC vs).length+2 - 1 - (nm.length+1)=(iC vs).length by omega]
   simp
  rw [if_neg (by simp),hw1,hs,aA,aTE _ _ (by omega),aA,aDz hne (fun v hv=>(h.pos v hv).1)]
  have h63:∀ v∈vs,0<=v/\v<=63:=fun v hv=>aCd.1 (List.all_eq_true.1 h.2.2.1 v hv)
  have hL:=lH (step:=fun s:List Int × Int=>tJ (vs.map Lib.itoa) s.1 s.2) (vs.map Lib.itoa) (fun s=>val 0 s) .inl (fun k out x hk ho hx=>?_) (fun out=>by simp only [tJ,bE];rfl)
  ·rw [hL,aA]
   have hm:(vs.map Lib.itoa).map (fun s=>val 0 s)=vs:=by
    rw [List.map_map]
    conv=>rhs;rw [←List.map_id vs]
    exact List.map_congr_left fun v hv=>aJm (h63 v hv).1
   simp only [hm]
   exact ⟨_,rfl⟩
  ·have hm:x∈vs.map Lib.itoa:=by rw [aU hk] at hx;cases hx;exact List.getElem_mem hk
   obtain ⟨v,hv,rfl⟩:=List.mem_map.1 hm
   obtain ⟨g0,g1⟩:=h63 v hv
   have hk2:k < 2:=by simp at hk;omega
   unfold tJ aAe
   rw [if_pos (aY hk),hx,aA,aUm g0 g1,aA,if_neg (by simp),aEt,aA,aJm g0]
   have:(decide (0<=v)&&decide (v<=63))=true:=by simp [g0,g1]
   simp only [this,Bool.not_true,Bool.false_eq_true,if_false]
   rw [dM (by unfold fG;simp;omega),aA,aV hk (by simp;omega)]
theorem lab_inj {n m:aH} {vs us:List Int} (h1:rN n vs) (h2:rN m us) (h:lab n vs=lab m us):n=m/\vs=us:=by
 have e1:=aJn h1
 have e2:=aJn h2
 rw [h,e2] at e1
 simp only [Option.some.injEq,Prod.mk.injEq,and_true] at e1
 exact ⟨e1.1.symm,e1.2.symm⟩
structure aNG (p:GPoint):Prop where
 d:0<=p.Definition/\p.Definition < 1000000000
 pt:0<=p.Part/\p.Part < 1000000000
 n:p.Values.length<=60
 v:p.Values.all oP=true
theorem aNG.pos {p:GPoint} (h:aNG p):∀ v∈p.Values,0<=v/\v < 4611686018427387904:=fun v hv=>by
 have:=aCd.1 (List.all_eq_true.1 h.v v hv);omega
def ptT (p:GPoint):aH:=Lib.itoa p.Definition++58::(Lib.itoa p.Part++58::aNF p.Values)
theorem aUo {vs:List Int} (h:∀ v∈vs,0<=v/\v < 4611686018427387904):(aNF vs).length<=22 * vs.length+1:=by
 unfold aNF
 have:=uX h
 split
 ·simp
 ·omega
theorem lstT_inj {vs us:List Int} (p1:∀ v∈vs,0<=v) (p2:∀ v∈us,0<=v) (h:aNF vs=aNF us):vs=us:=by
 unfold aNF at h
 by_cases h1:vs.length=0
 ·rw [if_pos h1] at h
  by_cases h2:us.length=0
  ·rw [List.length_eq_zero_iff.1 h1,List.length_eq_zero_iff.1 h2]
  ·rw [if_neg h2] at h
   have:(45:UInt8)∈iC us:=by rw [←h];simp
   rcases aJO p2 _ this with g|g
   ·exact absurd g (by decide)
   ·exact absurd g (by decide)
 ·rw [if_neg h1] at h
  by_cases h2:us.length=0
  ·rw [if_pos h2] at h
   have:(45:UInt8)∈iC vs:=by rw [h];simp
   rcases aJO p1 _ this with g|g
   ·exact absurd g (by decide)
   ·exact absurd g (by decide)
  ·rw [if_neg h2] at h
   exact joinC_inj (fun e=>h1 (by rw [e];rfl)) (fun e=>h2 (by rw [e];rfl)) p1 p2 h
theorem aSH {p q:GPoint} (hp:aNG p) (hq:aNG q) (h:ptT p=ptT q):p=q:=by
 unfold ptT at h
 obtain ⟨e1,h⟩:=aFn (sG (oQ hp.d.1) rfl) (sG (oQ hq.d.1) rfl) h
 obtain ⟨e2,h⟩:=aFn (sG (oQ hp.pt.1) rfl) (sG (oQ hq.pt.1) rfl) h
 have e3:=lstT_inj (fun v hv=>(hp.pos v hv).1) (fun v hv=>(hq.pos v hv).1) h
 have g1:=aGq hp.d.1 hq.d.1 e1
 have g2:=aGq hp.pt.1 hq.pt.1 e2
 cases p;cases q
 simp only at g1 g2 e3
 subst g1;subst g2;subst e3;rfl
theorem ptT_sp {p:GPoint} (hp:aNG p):(32:UInt8)∉ptT p:=by
 have h1:=sG (c:=32) (oQ hp.d.1) rfl
 have h2:=sG (c:=32) (oQ hp.pt.1) rfl
 have h3:=(aUj (fun v hv=>(hp.pos v hv).1)).2.1
 unfold ptT aNF
 split<;>simp [h1,h2,h3]
theorem aSI {p:GPoint} (hp:aNG p):(ptT p).length<=1400:=by
 have h1:=qI hp.d.1 (by have:=hp.d.2;omega)
 have h2:=qI hp.pt.1 (by have:=hp.pt.2;omega)
 have h3:=aUo hp.pos
 have h4:=hp.n
 unfold ptT
 simp only [List.length_append,List.length_cons]
 omega
theorem listOk_eq {vs:List Int} (hl:vs.length<=64) (h:vs.all oP=true):aIF vs=some true:=by
 unfold aIF
 rw [if_pos (by simp;omega)]
 have:eQ vs=some (vs.any fun v=>!(decide (-1000000000000<=v)&&decide (v<=1000000000000))):=by
  unfold eQ fP
  have:=aMJ (step:=fun s=>dO vs s) vs (fun v=>!(decide (-1000000000000<=v)&&decide (v<=1000000000000))) (by omega) (fun k x hk hix hm=>?_) ?_
  ·exact this
  ·simp only [dO,aY hk,if_true,hix,aA,aID,gV]
  ·simp only [dO,bE];rfl
 rw [this,aA]
 have hf:(vs.any fun v=>!(decide (-1000000000000<=v)&&decide (v<=1000000000000)))=false:=by
  rw [List.any_eq_false]
  intro v hv
  have:=aCd.1 (List.all_eq_true.1 h v hv)
  have e1:decide (-1000000000000<=v)=true:=by simp;omega
  have e2:decide (v<=1000000000000)=true:=by simp;omega
  rw [e1,e2];simp
 rw [hf];rfl
theorem aUp {vs:List Int} (hl:vs.length<=64) (h:vs.all oP=true):aGY vs=some (aNF vs):=by
 have hp:∀ v∈vs,0<=v/\v < 4611686018427387904:=fun v hv=>by have:=aCd.1 (List.all_eq_true.1 h v hv);omega
 unfold aGY aNF
 rw [listOk_eq hl h,aA,if_neg (by simp)]
 by_cases h0:vs.length=0
 ·rw [if_pos (by simp [h0]),if_pos h0]
 ·rw [if_neg (by simpa using h0),if_neg h0,joined_C (by omega) hp,aA]
theorem aHu {n:Int} (h0:-9223372036854775808<=n) (h1:n<=9223372036854775807):pN n=some (Lib.itoa n):=by unfold pN;rw [if_pos ⟨h0,h1⟩]
theorem aOd {p:GPoint} (hp:aNG p):aEa p=some (ptT p):=by
 have h1:=qI hp.d.1 (by have:=hp.d.2;omega)
 have h2:=qI hp.pt.1 (by have:=hp.pt.2;omega)
 have h3:=aUo hp.pos
 have h4:=hp.n
 have a:=hp.d;have b:=hp.pt
 unfold aEa aIG ptT
 rw [aHu (by omega) (by omega),aA,pC (by unfold fG;simp;omega),aA,aHu (by omega) (by omega),aA,pC (by unfold fG;simp;omega),aA,aUp (by omega) hp.v,aA,pC (by unfold fG;simp;omega),aA,aA,pC (by unfold fG;simp;omega),aA]
 simp
def aEA (s:List GPoint):aH:=Lib.join (s.map ptT) [32]
theorem aLm (x y:aH) (l:List aH):Lib.join (x::y::l) [32]=x++32::Lib.join (y::l) [32]:=by
 simp only [Lib.join_cons,Lib.joinTail,List.map_cons,List.flatten_cons]
 simp
theorem aSJ:∀ {s t:List GPoint},s.length=t.length->(∀ p∈s,aNG p)->(∀ p∈t,aNG p)->aEA s=aEA t->s=t
 |[],[],_,_,_,_=>rfl
 |[p],[q],_,hp,hq,h=>by
  unfold aEA at h
  simp only [List.map_cons,List.map_nil,Lib.join_one] at h
  rw [aSH (hp p (by simp)) (hq q (by simp)) h]
 |p::p2::s,q::q2::t,hl,hp,hq,h=>by
  unfold aEA at h
  simp only [List.map_cons] at h
  rw [aLm,aLm] at h
  obtain ⟨e1,h⟩:=aFn (ptT_sp (hp p (by simp))) (ptT_sp (hq q (by simp))) h
  have:=aSJ (s:=p2::s) (t:=q2::t) (by simpa using hl) (fun x hx=>hp x (List.mem_cons_of_mem _ hx)) (fun x hx=>hq x (List.mem_cons_of_mem _ hx)) h
  rw [aSH (hp p (by simp)) (hq q (by simp)) e1,this]
 |[p],q::q2::t,hl,_,_,_=>by simp at hl
 |p::p2::s,[q],hl,_,_,_=>by simp at hl
 |[],q::t,hl,_,_,_=>by simp at hl
 |p::s,[],hl,_,_,_=>by simp at hl
theorem aSK:∀ {s:List GPoint},(∀ p∈s,aNG p)->(aEA s).length<=1401 * s.length
 |[],_=>by simp [aEA,Lib.join_nil]
 |[p],h=>by unfold aEA;simp only [List.map_cons,List.map_nil,Lib.join_one];have:=aSI (h p (by simp));simp;omega
 |p::q::s,h=>by
  have h1:=aSI (h p (by simp))
  have h2:=aSK (s:=q::s) (fun x hx=>h x (List.mem_cons_of_mem _ hx))
  unfold aEA at h2 ⊢
  simp only [List.map_cons] at h2 ⊢
  rw [aLm]
  simp only [List.length_append,List.length_cons] at h2 ⊢
  omega
theorem aOe {s:List GPoint} (hl:s.length<=1000) (h:∀ p∈s,aNG p):aBd s=some (aEA s):=by
 unfold aBd
 rw [lH (step:=fun t:List aH × Int=>aBB s t.1 t.2) s ptT (fun x=>x) (fun k out x hk ho hx=>?_) (fun out=>by simp only [aBB,bE];rfl),aA]
 ·unfold aFC aNb
  have:=aSK h
  rw [if_pos ⟨by unfold fG;simp;omega,by unfold aEA at this;unfold fG;omega⟩];rfl
 ·have hm:x∈s:=by rw [aU hk] at hx;cases hx;exact List.getElem_mem hk
  unfold aBB
  rw [if_pos (aY hk),hx,aA,aOd (h x hm),aA,dM (by unfold fG;simp;omega),aA,aV hk (by omega)]
end Gv
namespace Gv
open Go
section
variable {β:Type} [DecidableEq β]
def dF (l:List β) (x:β):List β:=if x∈l then l else l++[x]
theorem wQ (l:List β) (x:β):l.length<=(dF l x).length/\(dF l x).length<=l.length+1:=by
 unfold dF;split
 ·omega
 ·simp
theorem aLn {l:List β} {x:β} (h:l.Nodup):(dF l x).Nodup:=by
 unfold dF;split
 ·exact h
 ·next hx=>exact List.nodup_append.2 ⟨h,by simp,fun a ha b hb e=>hx (by rw [List.mem_singleton.1 hb] at e;exact e ▸ ha)⟩
theorem aEB {p:β->Prop} {l:List β} {x:β} (h:∀ y∈l,p y) (hx:p x):∀ y∈dF l x,p y:=by
 unfold dF;split
 ·exact h
 ·intro y hy
  rcases List.mem_append.1 hy with hy|hy
  ·exact h y hy
  ·rw [List.mem_singleton.1 hy];exact hx
def aNH (P R:List β):Prop:=P=R\/(200 < P.length/\200 < R.length)
theorem aNH.stop {P R P':List β} (h:aNH P R) (h2:200 < R.length) (h3:P.length<=P'.length):aNH P' R:=by
 right
 rcases h with h|h
 ·subst h;omega
 ·omega
theorem aNH.eq {P R:List β} (h:aNH P R) (h2:¬ 200 < R.length):P=R:=by
 rcases h with h|h
 ·exact h
 ·exact absurd h.2 h2
theorem aNH.add {P R:List β} (h:aNH P R) (x:β):aNH (dF P x) (dF R x):=by
 rcases h with h|h
 ·subst h;exact .inl rfl
 ·have h1:=(wQ P x).1
  have h2:=(wQ R x).1
  right;omega
def aHU (K:β->aH) (l:List β) (M:List (aH × Bool)):Prop:=∀ k,(qL M k).getD false=decide (k∈l.map K)
theorem aQg {k q:aH} {v:Bool}:∀ {m:List (aH × Bool)},qL (vA m k v) q=if q=k then some v else qL m q
 |[]=>by simp [vA,qL]
 |(x,u)::m=>by
  have ih:=aQg (k:=k) (q:=q) (v:=v) (m:=m)
  unfold vA
  by_cases e:k=x
  ·subst e
   rw [if_pos rfl,qL,qL]
   by_cases h:q=k
   ·rw [if_pos h,if_pos h]
   ·rw [if_neg h,if_neg h,if_neg h]
  ·rw [if_neg e,qL,qL,ih]
   by_cases h:q=x
   ·subst h
    rw [if_pos rfl,if_neg (fun h=>e h.symm),if_pos rfl]
   ·rw [if_neg h,if_neg h]
theorem aUq (K:β->aH):aHU K [] []:=fun k=>by simp [qL]
theorem aUr {K:β->aH} {l:List β} {M:List (aH × Bool)} {x:β} (h:aHU K l M):aHU K (l++[x]) (vA M (K x) true):=by
 intro k
 rw [aQg]
 by_cases e:k=K x
 ·rw [if_pos e,e];simp
 ·rw [if_neg e,h k]
  simp [e]
theorem aUs {K:β->aH} {l:List β} {M:List (aH × Bool)} {x:β} (h:aHU K l M) (inj:∀ y∈l,K y=K x->y=x):(qL M (K x)).getD false=decide (x∈l):=by
 rw [h]
 by_cases e:x∈l
 ·rw [decide_eq_true e,decide_eq_true_iff];exact List.mem_map_of_mem e
 ·rw [decide_eq_false e,decide_eq_false_iff_not]
  intro hm
  obtain ⟨y,hy,hk⟩:=List.mem_map.1 hm
  exact e (inj y hy hk ▸ hy)
theorem aUt {l:List β} {x:β}:l.all (fun y=>!decide (y=x))=!decide (x∈l):=by
 by_cases e:x∈l
 ·rw [decide_eq_true e]
  cases h:l.all (fun y=>!decide (y=x))
  ·rfl
  ·have:=List.all_eq_true.1 h x e;simp at this
 ·rw [decide_eq_false e]
  apply List.all_eq_true.2
  intro y hy
  have:y≠x:=fun h=>e (h ▸ hy)
  simp [this]
end
theorem aMN (a b:GPoint) (h:a.Values.length < 4611686018427387904):pU a b=some (decide (a=b)):=by
 unfold pU nY
 rw [aPW _ _ h,aA]
 cases a with|mk a1 a2 a3=>cases b with|mk b1 b2 b3=>
 simp only [GPoint.mk.injEq]
 by_cases h1:a1=b1
 ·by_cases h2:a2=b2
  ·by_cases h3:a3=b3<;>simp [h1,h2,h3]
  ·simp [h1,h2]
 ·simp [h1]
theorem l07Add_eq (l:List bF) (x:bF) (hl:l.length < 100000000) (hv:∀ y∈l,y.Next.Values.length < 4611686018427387904):yA l x=some (dF l x):=by
 unfold yA
 rw [aAH (step:=fun s=>tH l x s) l (fun y=>!decide (y=x)) (.inr l) (.inl ()) (fun k y hk hy=>?_) (by simp only [tH,bE];rfl),aA,aUt]
 ·unfold dF
  by_cases hm:x∈l
  ·rw [decide_eq_true hm,if_pos hm];rfl
  ·rw [decide_eq_false hm,if_neg hm]
   show tG l x=_
   unfold tG
   rw [dM (by unfold fG;simp;omega),aA]
 ·have hm:y∈l:=by rw [aU hk] at hy;cases hy;exact List.getElem_mem hk
  unfold tH aAb
  rw [if_pos (aY hk),hy,aA,aMN _ _ (hv y hm),aA,aV hk (by omega)]
  cases y with|mk y1 y2=>cases x with|mk x1 x2=>
  simp only [bF.mk.injEq]
  by_cases h1:y1=x1
  ·by_cases h2:y2=x2<;>simp [h1,h2]
  ·simp [h1]
def aOf (l:List Definition) (s:Int) (b:Bool):GTr Part->Prop
 |.nul p=>sM l ⟨s,b⟩ p=true
 |.one p a=>sM l ⟨s,b⟩ p=true/\aOf l (bel s p) (p.Kind == 1) a
 |.two p a c=>sM l ⟨s,b⟩ p=true/\aOf l (bel s p) (p.Kind == 1) a/\aOf l (bel s p) (p.Kind == 1) c
theorem aOJ {l:List Definition}:∀ (t:GTr Part) (s:Int) (b:Bool),(∀ (i:Nat) p pl,t.flat[i]?=some p->(plT s b t)[i]?=some pl->sM l pl p=true)->aOf l s b t
 |.nul p,s,b,h=>h 0 p ⟨s,b⟩ rfl rfl
 |.one p a,s,b,h=>⟨h 0 p ⟨s,b⟩ rfl rfl,aOJ a _ _ fun i q pl h1 h2=>h (i+1) q pl (by simpa [GTr.flat] using h1) (by simpa [plT] using h2)⟩
 |.two p a c,s,b,h=>by
  refine ⟨h 0 p ⟨s,b⟩ rfl rfl,aOJ a _ _ fun i q pl h1 h2=>h (i+1) q pl ?_ ?_,aOJ c _ _ fun i q pl h1 h2=>h (a.flat.length+i+1) q pl ?_ ?_⟩
  ·have:=(List.getElem?_eq_some_iff.1 h1).1
   simp only [GTr.flat,List.getElem?_cons_succ]
   rw [List.getElem?_append_left this];exact h1
  ·have:=(List.getElem?_eq_some_iff.1 h2).1
   simp only [plT,List.getElem?_cons_succ]
   rw [List.getElem?_append_left this];exact h2
  ·simp only [GTr.flat,List.getElem?_cons_succ]
   rw [List.getElem?_append_right (by omega),Nat.add_sub_cancel_left];exact h1
  ·simp only [plT,List.getElem?_cons_succ]
   rw [List.getElem?_append_right (by rw [pK];omega),pK,Nat.add_sub_cancel_left];exact h2
def GTr.root:GTr Part->Part
 |.nul p=>p
 |.one p _=>p
 |.two p _ _=>p
theorem flat_root (t:GTr Part):∃ r,t.flat=t.root::r:=by
 cases t
 ·exact ⟨[],rfl⟩
 ·exact ⟨_,rfl⟩
 ·exact ⟨_,rfl⟩
theorem good_root {l:List Definition} {t:GTr Part} {s:Int} {b:Bool} (h:aOf l s b t):sM l ⟨s,b⟩ t.root=true:=by
 cases t
 ·exact h
 ·exact h.1
 ·exact h.1
structure OkP (l:List Definition) (s:Int) (p:Part):Prop where
 k1:p.Kind=1->qM p.Name=true/\p.Arguments.length<=2/\(p.Name=bS->p.Arguments=[])
 k3:p.Kind=3->p.Arguments.length=1
 k4:p.Kind=4->1<=p.Number/\p.Number<=7/\s < 6
 k5:p.Kind=5->0<=p.Number/\p.Number < (l.length:Int)/\(p.Arguments.length:Int)=(l.getD p.Number.toNat ⟨[],0,[]⟩).Parameters
 ar:∀ e∈p.Arguments,okE s e=true
theorem okP {l:List Definition} {s:Int} {b:Bool} {p:Part} (h:sM l ⟨s,b⟩ p=true):OkP l s p:=by
 unfold sM at h
 simp only [Bool.and_eq_true] at h
 obtain ⟨⟨⟨⟨⟨⟨_,h2⟩,h3⟩,h4⟩,_⟩,h6⟩,h7⟩:=h
 unfold aBn at h3
 unfold aLl at h4
 refine ⟨fun e=>?_,fun e=>?_,fun e=>?_,fun e=>?_,List.all_eq_true.1 h7⟩
 ·rw [e] at h2 h4
  simp at h2 h4
  refine ⟨h2,h4.1,fun ht=>?_⟩
  rcases h4.2 with h|h
  ·exact h
  ·exact absurd ht h
 ·rw [e] at h4;simpa using h4
 ·rw [e] at h3 h6;simp at h3 h6;exact ⟨h3.1,h3.2,h6⟩
 ·rw [e] at h3 h4;simp at h3 h4;exact ⟨h3.1,h3.2,h4⟩
def PtG (l:List Definition) (p:GPoint):Prop:=(∃ (k:Nat) (d:Definition) (t:GTr Part) (pre post:List Part) (b:Bool),l[k]?=some d/\p.Definition=(k:Int)/\d.Body=pre++t.flat++post/\t.WF iJ/\p.Part=(pre.length:Int)/\aOf l (p.Values.length:Int) b t)/\p.Values.length<=6/\p.Values.all oP=true
theorem aMO {l:List Definition} (hD:lK l) {k:Nat} {d:Definition} (h:l[k]?=some d):d.Body.length<=20/\∃ t:GTr Part,d.Body=t.flat/\t.WF iJ/\aOf l d.Parameters false t:=by
 have:=hD.2.2.2.1 d (List.mem_of_getElem? h)
 simp only [aCb,decide_eq_true_eq] at this
 obtain ⟨h1,t,h2,h3,h4⟩:=this
 exact ⟨h1,t,h2,h3,aOJ t _ _ fun i p pl g1 g2=>h4 i p pl (by rw [h2];exact g1) g2⟩
theorem PtG.ok {l:List Definition} (hD:lK l) {p:GPoint} (h:PtG l p):aNG p:=by
 obtain ⟨⟨k,d,t,pre,post,b,h1,h2,h3,_,h5,_⟩,h6,h7⟩:=h
 have hk:k < l.length:=(List.getElem?_eq_some_iff.1 h1).1
 have h4:=hD.2.1
 have h8:=(aMO hD h1).1
 have h9:d.Body.length=pre.length+t.flat.length+post.length:=by rw [h3];simp;omega
 exact ⟨by omega,by omega,by omega,h7⟩
theorem PtG.start {l:List Definition} (hD:lK l) {k:Int} {vs:List Int} (h0:0<=k) (h1:k < (l.length:Int)) (h2:(vs.length:Int)=(l.getD k.toNat ⟨[],0,[]⟩).Parameters) (h3:vs.all oP=true):PtG l ⟨k,0,vs⟩:=by
 have hk:k.toNat < l.length:=by omega
 have hg:l.getD k.toNat ⟨[],0,[]⟩=l[k.toNat]:=by simp [List.getD,hk]
 rw [hg] at h2
 have hd:l[k.toNat]?=some l[k.toNat]:=List.getElem?_eq_getElem hk
 obtain ⟨_,t,g2,g3,g4⟩:=aMO hD hd
 have hp:=hD.2.2.1 _ (List.getElem_mem hk)
 simp only [aJY,Bool.and_eq_true,decide_eq_true_eq] at hp
 refine ⟨⟨k.toNat,l[k.toNat],t,[],[],false,hd,by simp;omega,by simp [g2],g3,rfl,?_⟩,by simp;omega,h3⟩
 simp only
 rw [h2];exact g4
def aCf (l:List Definition) (s:bF):Prop:=(∃ nm vs,rN nm vs/\s.B=lab nm vs)/\PtG l s.Next
def stK (s:bF):aH:=s.B++[32]++ptT s.Next
theorem stK_inj {l:List Definition} (hD:lK l) {s u:bF} (hs:aCf l s) (hu:aCf l u) (h:stK s=stK u):s=u:=by
 obtain ⟨⟨n1,v1,o1,e1⟩,p1⟩:=hs
 obtain ⟨⟨n2,v2,o2,e2⟩,p2⟩:=hu
 unfold stK at h
 simp only [List.append_assoc,List.singleton_append] at h
 obtain ⟨g1,g2⟩:=aFn (by rw [e1];exact aSF o1) (by rw [e2];exact aSF o2) h
 have g3:=aSH (p1.ok hD) (p2.ok hD) g2
 cases s;cases u
 simp only at g1 g3
 rw [g1,g3]
theorem take_eq {l:List Definition} (hD:lK l) {s:bF} {P:List bF} {M:List (aH × Bool)} (hs:aCf l s) (hP:∀ y∈P,aCf l y) (hM:aHU stK P M) (hl:P.length < 100000000):∃ M',iK l P M s=some (dF P s,M')/\aHU stK (dF P s) M':=by
 have h1:s.B.length<=56:=by obtain ⟨⟨nm,vs,o,e⟩,_⟩:=hs;rw [e];exact aRx o
 have hp:=hs.2.ok hD
 have h2:=aSI hp
 have hm:=aUs (x:=s) hM (fun y hy he=>stK_inj hD (hP y hy) hs he)
 unfold iK
 rw [pC (by unfold fG;simp;omega),aA,aOd hp,aA,pC (by unfold fG;simp;omega),aA]
 show ∃ M',(if (!((qL M (stK s)).getD false)) then (ob (some (vA M (stK s) true)) fun m27=>ob (wR P ([s]:List bF)) fun xs48=>some (xs48,m27)) else (some (P,M)))=some (dF P s,M')/\_
 rw [hm]
 unfold dF
 by_cases e:s∈P
 ·rw [decide_eq_true e,if_pos e];exact ⟨M,rfl,hM⟩
 ·rw [decide_eq_false e,if_neg e,if_pos (show (!false)=true from rfl),aA,dM (by unfold fG;simp;omega),aA]
  exact ⟨_,rfl,aUr hM⟩
end Gv
namespace Gv
open Go
theorem folP_one {p:Part} (h:iJ p=1):p.Kind=1\/p.Kind=3\/p.Kind=4:=by
 unfold iJ at h
 by_cases h1:p.Kind=1
 ·exact .inl h1
 by_cases h3:p.Kind=3
 ·exact .inr (.inl h3)
 by_cases h4:p.Kind=4
 ·exact .inr (.inr h4)
 ·by_cases h2:p.Kind=2<;>simp [h1,h3,h4,h2] at h
theorem folP_zero {p:Part} (h:iJ p=0):p.Kind≠1/\p.Kind≠2/\p.Kind≠3/\p.Kind≠4:=by
 unfold iJ at h
 refine ⟨?_,?_,?_,?_⟩<;>(intro e;rw [e] at h;simp at h)
structure InvP (l:List Definition) (P:List bF) (M:List (aH × Bool)):Prop where
 g:∀ y∈P,aCf l y
 m:aHU stK P M
 nd:P.Nodup
def aEC (l:List Definition) (P:List bF) (c:Nat) (fI:Option (List bF × List (aH × Bool))) (fS:List bF->Option (List bF)):Prop:=
 ∃ P' M',fI=some (P',M')/\InvP l P' M'/\P.length<=P'.length/\P'.length<=P.length+c/\
  ∀ R,aNH P R->(∀ y∈R,aCf l y)->R.length+c<=6000000->∃ R',fS R=some R'/\aNH P' R'/\(∀ y∈R',aCf l y)/\R.length<=R'.length/\R'.length<=R.length+c
theorem aEC.stop {l:List Definition} {P:List bF} {c:Nat} {fI:Option (List bF × List (aH × Bool))} {fS fS':List bF->Option (List bF)} (h:aEC l P c fI fS)
  (h1:∀ R,200 < R.length->fS' R=some R) (h2:∀ R,¬ 200 < R.length->fS' R=fS R):aEC l P c fI fS':=by
 obtain ⟨P',M',e,i,a,b,k⟩:=h
 refine ⟨P',M',e,i,a,b,fun R hR hg hl=>?_⟩
 by_cases h:200 < R.length
 ·exact ⟨R,h1 R h,hR.stop h a,hg,Nat.le_refl _,by omega⟩
 ·rw [h2 R h];exact k R hR hg hl
theorem aEC.none {l:List Definition} {P:List bF} {M:List (aH × Bool)} (c:Nat) (h:InvP l P M):aEC l P c (some (P,M)) some:=
 ⟨P,M,rfl,h,Nat.le_refl _,by omega,fun R hR hg _=>⟨R,rfl,hR,hg,Nat.le_refl _,by omega⟩⟩
section
variable {l:List Definition} (hD:lK l) {k:Nat} {d:Definition} (hd:l[k]?=some d)
include hD hd
theorem aQh {N:Nat} (hN:N<=7) {p:Part} (hp:p.Number=(N:Int)) {m n:Nat} {vs:List Int} (hvl:vs.length<=6) (c:Nat) (pr:Int)
  (ih:∀ (v:Nat) (P:List bF) (M:List (aH × Bool)),v<=N->InvP l P M->P.length+c<=6000000->aEC l P c (aX m l P M (k:Int) (wr (pr+1)) (vs++[(v:Int)])) (bT n l (k:Int) (wr (pr+1)) (vs++[(v:Int)]))):
  ∀ (j v:Nat) (P:List bF) (M:List (aH × Bool)),v+j=N+1->InvP l P M->P.length+j * c<=6000000->
  aEC l P (j * c) (loop (fun (s:(List bF × (List (aH × Bool)) × Int))=>eV (aX m) l (k:Int) pr vs p s.1 s.2.1 s.2.2) (P,M,(v:Int)))
   (fun R=>loop (fun (s:(List bF × Int))=>jS (bT n) l (k:Int) pr vs p s.1 s.2) (R,(v:Int)))
 |0,v,P,M,hv,hI,hl=>by
  have e1:loop (fun (s:(List bF × (List (aH × Bool)) × Int))=>eV (aX m) l (k:Int) pr vs p s.1 s.2.1 s.2.2) (P,M,(v:Int))=some (P,M):=by
   apply bA
   unfold eV
   rw [hp,eG (by omega) (by omega),if_neg (by simp;omega)]
  have e2:(fun R=>loop (fun (s:(List bF × Int))=>jS (bT n) l (k:Int) pr vs p s.1 s.2) (R,(v:Int)))=some:=by
   funext R
   apply bA
   unfold jS
   rw [hp,if_neg (by simp;omega)]
  rw [e1,e2]
  exact aEC.none _ hI
 |j+1,v,P,M,hv,hI,hl=>by
  have hmul:(j+1) * c=j * c+c:=Nat.succ_mul j c
  obtain ⟨P1,M1,a1,a2,a3,a4,a5⟩:=ih v P M (by omega) hI (by omega)
  obtain ⟨P2,M2,b1,b2,b3,b4,b5⟩:=aQh hN hp hvl c pr ih j (v+1) P1 M1 (by omega) a2 (by omega)
  have e1:loop (fun (s:(List bF × (List (aH × Bool)) × Int))=>eV (aX m) l (k:Int) pr vs p s.1 s.2.1 s.2.2) (P,M,(v:Int))=some (P2,M2):=by
   rw [fD (s':=(P1,M1,((v+1:Nat):Int))),b1]
   show eV (aX m) l (k:Int) pr vs p P M (v:Int)=_
   unfold eV bG
   rw [hp,eG (show -9223372036854775808<=(N:Int)+1 by omega) (by omega),if_pos (by simp;omega),dM (by unfold fG;simp;omega),aA,aA,List.nil_append,dM (by unfold fG;simp;omega),aA,a1,aA,eG (by omega) (by omega)]
   rfl
  refine ⟨P2,M2,e1,b2,by omega,by omega,fun R hR hg hRl=>?_⟩
  obtain ⟨R1,c1,c2,c3,c4,c5⟩:=a5 R hR hg (by omega)
  obtain ⟨R2,d1,d2,d3,d4,d5⟩:=b5 R1 c2 c3 (by omega)
  refine ⟨R2,?_,d2,d3,by omega,by omega⟩
  show loop (fun (s:(List bF × Int))=>jS (bT n) l (k:Int) pr vs p s.1 s.2) (R,(v:Int))=_
  rw [fD (s':=(R1,((v+1:Nat):Int)))]
  ·exact d1
  ·show jS (bT n) l (k:Int) pr vs p R (v:Int)=_
   unfold jS rR
   rw [hp,if_pos (by simp;omega),dM (by unfold fG;simp;omega),aA,aA,List.nil_append,dM (by unfold fG;simp;omega),aA,c1,aA,eG (by omega) (by omega)]
   rfl
omit hD hd
theorem aEC.mono {P:List bF} {c c':Nat} {fI:Option (List bF × List (aH × Bool))} {fS:List bF->Option (List bF)} (h:aEC l P c fI fS) (hc:c<=c'):aEC l P c' fI fS:=by
 obtain ⟨P',M',e,i,a,b,k⟩:=h
 refine ⟨P',M',e,i,a,by omega,fun R hR hg hl=>?_⟩
 obtain ⟨R',c1,c2,c3,c4,c5⟩:=k R hR hg (by omega)
 exact ⟨R',c1,c2,c3,c4,by omega⟩
theorem aEC.seq {P:List bF} {c1 c2:Nat} {f1:Option (List bF × List (aH × Bool))} {f2:List bF->List (aH × Bool)->Option (List bF × List (aH × Bool))} {g1 g2:List bF->Option (List bF)} (h1:aEC l P c1 f1 g1)
  (h2:∀ P1 M1,InvP l P1 M1->P1.length<=P.length+c1->aEC l P1 c2 (f2 P1 M1) g2):aEC l P (c1+c2) (ob f1 fun r=>f2 r.1 r.2) (fun R=>ob (g1 R) g2):=by
 obtain ⟨P1,M1,a1,a2,a3,a4,a5⟩:=h1
 obtain ⟨P2,M2,b1,b2,b3,b4,b5⟩:=h2 P1 M1 a2 a4
 refine ⟨P2,M2,by rw [a1,aA];exact b1,b2,by omega,by omega,fun R hR hg hl=>?_⟩
 obtain ⟨R1,c1',d2,d3,d4,d5⟩:=a5 R hR hg (by omega)
 obtain ⟨R2,e1,e2,e3,e4,e5⟩:=b5 R1 d2 d3 (by omega)
 exact ⟨R2,by show ob (g1 R) g2=_;rw [c1',aA,e1],e2,e3,by omega,by omega⟩
theorem aQi {α β:Type} (o:Option (α × β)):(ob o fun r=>some (r.1,r.2))=o:=by cases o<;>rfl
theorem aQj {α:Type} (o:Option α):(ob o fun r=>some r)=o:=by cases o<;>rfl
include hD
theorem aEC.take {P:List bF} {M:List (aH × Bool)} {c:Nat} {s:bF} (hc:1<=c) (hI:InvP l P M) (hs:aCf l s) (hl:P.length+c<=6000000):aEC l P c (iK l P M s) (fun R=>yA R s):=by
 obtain ⟨M',t1,t2⟩:=take_eq hD hs hI.g hI.m (by omega)
 have g:=wQ P s
 refine ⟨dF P s,M',t1,⟨aEB hI.g hs,t2,aLn hI.nd⟩,g.1,by omega,fun R hR hg hRl=>?_⟩
 have g2:=wQ R s
 exact ⟨dF R s,l07Add_eq R s (by omega) (fun y hy=>by have:=(hg y hy).2.2.1;omega),hR.add s,aEB hg hs,g2.1,by omega⟩
include hd
theorem aGs:∀ (t:GTr Part) (m n:Nat) (pre post:List Part) (b:Bool) (vs:List Int) (P:List bF) (M:List (aH × Bool)),d.Body=pre++t.flat++post->t.WF iJ->aOf l (vs.length:Int) b t->vs.length<=6->vs.all oP=true->t.flat.length<=m->t.flat.length<=n->InvP l P M->P.length+8 ^ (6 - vs.length) * t.flat.length<=6000000->
  aEC l P (8 ^ (6 - vs.length) * t.flat.length) (aX m l P M (k:Int) (pre.length:Int) vs) (bT n l (k:Int) (pre.length:Int) vs)
 |t,0,n,pre,post,b,vs,P,M,he,hw,hg,hv,hvs,hm,hn,hI,hl=>by have:=t.flat_pos;omega
 |t,m+1,0,pre,post,b,vs,P,M,he,hw,hg,hv,hvs,hm,hn,hI,hl=>by have:=t.flat_pos;omega
 |.nul p,m+1,n+1,pre,post,b,vs,P,M,he,hw,hg,hv,hvs,hm,hn,hI,hl=>by
  have hx:ix l (k:Int)=some d:=by rw [gK];exact hd
  have hx2:ix d.Body (pre.length:Int)=some p:=by rw [gK,he];simp [GTr.flat]
  obtain ⟨k1,k2,k3,k4⟩:=folP_zero (show iJ p=0 from hw)
  have eI:aX (m+1) l P M (k:Int) (pre.length:Int) vs=some (P,M):=by
   show bW (aX m) l P M (k:Int) (pre.length:Int) vs=_
   unfold bW
   rw [hx,aA,hx2,aA,if_neg (by simpa using k1),if_neg (by simpa using k2),if_neg (by simpa using k3),if_neg (by simpa using k4)];rfl
  rw [eI]
  refine (aEC.none _ hI).stop (fun R h=>?_) (fun R h=>?_)
  ·show bK (bT n) l (k:Int) (pre.length:Int) vs R=_
   unfold bK
   rw [hx,aA,hx2,aA,if_pos (by simp;omega)]
  ·show bK (bT n) l (k:Int) (pre.length:Int) vs R=_
   unfold bK
   rw [hx,aA,hx2,aA,if_neg (by simp;omega),if_neg (by simpa using k1),if_neg (by simpa using k2),if_neg (by simpa using k3),if_neg (by simpa using k4)];rfl
 |.one p a,m+1,n+1,pre,post,b,vs,P,M,he,hw,hg,hv,hvs,hm,hn,hI,hl=>by
  have h20:=(aMO hD hd).1
  have hx:ix l (k:Int)=some d:=by rw [gK];exact hd
  have hx2:ix d.Body (pre.length:Int)=some p:=by rw [gK,he];simp [GTr.flat]
  have ok:=okP hg.1
  have hal:d.Body.length=pre.length+(1+a.flat.length)+post.length:=by rw [he];simp [GTr.flat];omega
  have hwr:wr ((pre.length:Int)+1)=((pre++[p]).length:Int):=by rw [eG (by omega) (by omega)];simp
  have hfl:(GTr.one p a).flat.length=a.flat.length+1:=by simp [GTr.flat]
  have hea:d.Body=(pre++[p])++a.flat++post:=by rw [he];simp [GTr.flat]
  have hpow:1<=8 ^ (6 - vs.length):=Nat.one_le_pow _ _ (by omega)
  have hca:8 ^ (6 - vs.length) * (GTr.one p a).flat.length=8 ^ (6 - vs.length) * a.flat.length+8 ^ (6 - vs.length):=by rw [hfl,Nat.mul_succ]
  rcases folP_one hw.1 with hk|hk|hk
  ·
   obtain ⟨q1,q2,q3⟩:=ok.k1 hk
   obtain ⟨s1,s2⟩:=aRr hvs ok.ar (by omega)
   have hlb:rN p.Name (p.Arguments.map (aHs vs)):=by
    refine ⟨q1,by simpa using q2,?_,fun h=>by rw [q3 h];rfl⟩
    rw [List.all_map,List.all_eq_true]
    exact fun e he=>(aGp hvs (ok.ar e he)).2.2
   obtain ⟨rr,hrr⟩:=flat_root a
   have hx3:ix d.Body ((pre++[p]).length:Int)=some a.root:=by rw [gK,hea,hrr];simp
   have hclone:wR ([]:List Int) vs=some vs:=by rw [dM (by unfold fG;simp;omega),List.nil_append]
   have okr:=okP (good_root hg.2)
   have hbel:bel (vs.length:Int) p=vs.length:=by unfold bel;rw [hk];rfl
   rw [hbel] at okr
   have hg2:=hg.2
   rw [hbel] at hg2
   by_cases h5:a.root.Kind=5
   ·obtain ⟨u1,u2,u3⟩:=okr.k5 h5
    have hdn:a.root.Number.toNat < l.length:=by omega
    have hpar:=hD.2.2.1 (l[a.root.Number.toNat]) (List.getElem_mem hdn)
    have hgd:l.getD a.root.Number.toNat ⟨[],0,[]⟩=l[a.root.Number.toNat]:=by simp [List.getD,hdn]
    simp only [aJY,Bool.and_eq_true,decide_eq_true_eq] at hpar
    rw [hgd] at u3
    obtain ⟨v1,v2⟩:=aRr hvs okr.ar (by omega)
    have hs:aCf l ⟨lab p.Name (p.Arguments.map (aHs vs)),⟨a.root.Number,0,a.root.Arguments.map (aHs vs)⟩⟩:=by
     refine ⟨⟨_,_,hlb,rfl⟩,PtG.start hD u1 u2 (by rw [hgd];simpa using u3) ?_⟩
     rw [List.all_map,List.all_eq_true]
     exact fun e he=>(aGp hvs (okr.ar e he)).2.2
    have eI:aX (m+1) l P M (k:Int) (pre.length:Int) vs=iK l P M ⟨lab p.Name (p.Arguments.map (aHs vs)),⟨a.root.Number,0,a.root.Arguments.map (aHs vs)⟩⟩:=by
     show bW (aX m) l P M (k:Int) (pre.length:Int) vs=_
     unfold bW bG
     rw [hx,aA,hx2,aA,if_pos (by simpa using hk),s2,aA,aCe hlb,aA,hclone,aA,aA,hwr,hx3,aA,if_pos (by simpa using h5),v2,aA]
     exact aQi _
    rw [eI]
    refine (aEC.take hD (by omega) hI hs hl).stop (fun R h=>?_) (fun R h=>?_)
    ·show bK (bT n) l (k:Int) (pre.length:Int) vs R=_
     unfold bK
     rw [hx,aA,hx2,aA,if_pos (by simp;omega)]
    ·show bK (bT n) l (k:Int) (pre.length:Int) vs R=_
     unfold bK rR nG
     rw [hx,aA,hx2,aA,if_neg (by simp;omega),if_pos (by simpa using hk),hclone,aA,aA,hwr,hx3,aA,if_pos (by simpa using h5),v1,aA,s1,aA,aQf hlb,aA]
     exact aQj _
   ·have hs:aCf l ⟨lab p.Name (p.Arguments.map (aHs vs)),⟨(k:Int),((pre++[p]).length:Int),vs⟩⟩:=
     ⟨⟨_,_,hlb,rfl⟩,⟨⟨k,d,a,pre++[p],post,_,hd,rfl,hea,hw.2,rfl,hg2⟩,hv,hvs⟩⟩
    have eI:aX (m+1) l P M (k:Int) (pre.length:Int) vs=iK l P M ⟨lab p.Name (p.Arguments.map (aHs vs)),⟨(k:Int),((pre++[p]).length:Int),vs⟩⟩:=by
     show bW (aX m) l P M (k:Int) (pre.length:Int) vs=_
     unfold bW bG
     rw [hx,aA,hx2,aA,if_pos (by simpa using hk),s2,aA,aCe hlb,aA,hclone,aA,aA,hwr,hx3,aA,if_neg (by simpa using h5)]
     exact aQi _
    rw [eI]
    refine (aEC.take hD (by omega) hI hs hl).stop (fun R h=>?_) (fun R h=>?_)
    ·show bK (bT n) l (k:Int) (pre.length:Int) vs R=_
     unfold bK
     rw [hx,aA,hx2,aA,if_pos (by simp;omega)]
    ·show bK (bT n) l (k:Int) (pre.length:Int) vs R=_
     unfold bK rR nG
     rw [hx,aA,hx2,aA,if_neg (by simp;omega),if_pos (by simpa using hk),hclone,aA,aA,hwr,hx3,aA,if_neg (by simpa using h5),s1,aA,aQf hlb,aA]
     exact aQj _
  ·
   have hbel:bel (vs.length:Int) p=vs.length:=by unfold bel;rw [hk];rfl
   have hg2:=hg.2
   rw [hbel] at hg2
   obtain ⟨e,hae⟩:=List.length_eq_one_iff.1 (ok.k3 hk)
   have hix:ix p.Arguments 0=some e:=by rw [hae];rfl
   obtain ⟨w1,w2,_⟩:=aGp hvs (ok.ar e (by rw [hae];simp))
   have k1:¬ (p.Kind == 1)=true:=by rw [hk];decide
   have k2:¬ (p.Kind == 2)=true:=by rw [hk];decide
   by_cases hz:aHs vs e=0
   ·have eI:aX (m+1) l P M (k:Int) (pre.length:Int) vs=some (P,M):=by
     show bW (aX m) l P M (k:Int) (pre.length:Int) vs=_
     unfold bW
     rw [hx,aA,hx2,aA,if_neg k1,if_neg k2,if_pos (by simpa using hk),hix,aA,w2,aA,if_neg (by simpa using hz)];rfl
    rw [eI]
    refine (aEC.none _ hI).stop (fun R h=>?_) (fun R h=>?_)
    ·show bK (bT n) l (k:Int) (pre.length:Int) vs R=_
     unfold bK
     rw [hx,aA,hx2,aA,if_pos (by simp;omega)]
    ·show bK (bT n) l (k:Int) (pre.length:Int) vs R=_
     unfold bK
     rw [hx,aA,hx2,aA,if_neg (by simp;omega),if_neg k1,if_neg k2,if_pos (by simpa using hk),hix,aA,w1,aA,if_neg (by simpa using hz)];rfl
   ·have eI:aX (m+1) l P M (k:Int) (pre.length:Int) vs=aX m l P M (k:Int) ((pre++[p]).length:Int) vs:=by
     show bW (aX m) l P M (k:Int) (pre.length:Int) vs=_
     unfold bW
     rw [hx,aA,hx2,aA,if_neg k1,if_neg k2,if_pos (by simpa using hk),hix,aA,w2,aA,if_pos (by simpa using hz),hwr]
     exact aQi _
    rw [eI]
    refine ((aGs a m n (pre++[p]) post _ vs P M hea hw.2 hg2 hv hvs (by omega) (by omega) hI (by omega)).mono (by omega)).stop (fun R h=>?_) (fun R h=>?_)
    ·show bK (bT n) l (k:Int) (pre.length:Int) vs R=_
     unfold bK
     rw [hx,aA,hx2,aA,if_pos (by simp;omega)]
    ·show bK (bT n) l (k:Int) (pre.length:Int) vs R=_
     unfold bK
     rw [hx,aA,hx2,aA,if_neg (by simp;omega),if_neg k1,if_neg k2,if_pos (by simpa using hk),hix,aA,w1,aA,if_pos (by simpa using hz),hwr]
     exact aQj _
  ·
   obtain ⟨n1,n7,hs6⟩:=ok.k4 hk
   have hbel:bel (vs.length:Int) p=((vs.length+1:Nat):Int):=by unfold bel;rw [hk];rfl
   have hg2:=hg.2
   rw [hbel] at hg2
   have k1:¬ (p.Kind == 1)=true:=by rw [hk];decide
   have k2:¬ (p.Kind == 2)=true:=by rw [hk];decide
   have k3:¬ (p.Kind == 3)=true:=by rw [hk];decide
   have hN:p.Number=((p.Number.toNat:Nat):Int):=by omega
   have hp8:8 ^ (6 - vs.length)=8 * 8 ^ (6 - (vs.length+1)):=by rw [show 6 - vs.length=(6 - (vs.length+1))+1 by omega,Nat.pow_succ,Nat.mul_comm]
   have hcc:8 ^ (6 - vs.length) * a.flat.length=8 * (8 ^ (6 - (vs.length+1)) * a.flat.length):=by rw [hp8,Nat.mul_assoc]
   have hj:(p.Number.toNat+1) * (8 ^ (6 - (vs.length+1)) * a.flat.length)<=8 ^ (6 - vs.length) * a.flat.length:=by rw [hcc];exact Nat.mul_le_mul_right _ (by omega)
   have hw2:=aQh hD hd (N:=p.Number.toNat) (by omega) hN (m:=m) (n:=n) hv (8 ^ (6 - (vs.length+1)) * a.flat.length) (pre.length:Int) (fun v P M hvN hIP hlP=>by
    have:=aGs a m n (pre++[p]) post _ (vs++[(v:Int)]) P M hea hw.2 (by simpa using hg2) (by simp;omega) (by simp only [List.all_append,hvs,Bool.true_and,List.all_cons,List.all_nil,Bool.and_true];exact aCd.2 (by omega)) (by omega) (by omega) hIP (by simpa using hlP)
    rw [hwr]
    simpa using this) (p.Number.toNat+1) 0 P M (by omega) hI (by omega)
   have eI:aX (m+1) l P M (k:Int) (pre.length:Int) vs=loop (fun (s:(List bF × (List (aH × Bool)) × Int))=>eV (aX m) l (k:Int) (pre.length:Int) vs p s.1 s.2.1 s.2.2) (P,M,((0:Nat):Int)):=by
    show bW (aX m) l P M (k:Int) (pre.length:Int) vs=_
    unfold bW
    rw [hx,aA,hx2,aA,if_neg k1,if_neg k2,if_neg k3,if_pos (by simpa using hk)]
    exact aQi _
   rw [eI]
   refine (hw2.mono (by omega)).stop (fun R h=>?_) (fun R h=>?_)
   ·show bK (bT n) l (k:Int) (pre.length:Int) vs R=_
    unfold bK
    rw [hx,aA,hx2,aA,if_pos (by simp;omega)]
   ·show bK (bT n) l (k:Int) (pre.length:Int) vs R=_
    unfold bK
    rw [hx,aA,hx2,aA,if_neg (by simp;omega),if_neg k1,if_neg k2,if_neg k3,if_pos (by simpa using hk)]
    exact aQj _
 |.two p a c,m+1,n+1,pre,post,b,vs,P,M,he,hw,hg,hv,hvs,hm,hn,hI,hl=>by
  have h20:=(aMO hD hd).1
  have hx:ix l (k:Int)=some d:=by rw [gK];exact hd
  have hx2:ix d.Body (pre.length:Int)=some p:=by rw [gK,he];simp [GTr.flat]
  have hal:d.Body.length=pre.length+(1+a.flat.length+c.flat.length)+post.length:=by rw [he];simp [GTr.flat];omega
  have hwr:wr ((pre.length:Int)+1)=((pre++[p]).length:Int):=by rw [eG (by omega) (by omega)];simp
  have hfl:(GTr.two p a c).flat.length=a.flat.length+c.flat.length+1:=by simp [GTr.flat]
  have hea:d.Body=(pre++[p])++a.flat++(c.flat++post):=by rw [he];simp [GTr.flat]
  have hec:d.Body=(pre++[p]++a.flat)++c.flat++post:=by rw [he];simp [GTr.flat]
  have hca:8 ^ (6 - vs.length) * (GTr.two p a c).flat.length=8 ^ (6 - vs.length) * a.flat.length+8 ^ (6 - vs.length) * c.flat.length+8 ^ (6 - vs.length):=by rw [hfl,Nat.mul_succ,Nat.mul_add]
  have hk:p.Kind=2:=aNB.2 hw.1
  have hbel:bel (vs.length:Int) p=vs.length:=by unfold bel;rw [hk];rfl
  have hga:=hg.2.1
  have hgc:=hg.2.2
  rw [hbel] at hga hgc
  have k1:¬ (p.Kind == 1)=true:=by rw [hk];decide
  obtain ⟨e1,e2⟩:=end_at (by omega) a (pre++[p]) (c.flat++post) hea hw.2.1
  have hlen:((pre++[p]).length+a.flat.length:Nat)=(pre++[p]++a.flat).length:=by simp;omega
  have hpow:1<=8 ^ (6 - vs.length):=Nat.one_le_pow _ _ (by omega)
  rw [hlen] at e1 e2
  have w:=aEC.seq (c2:=8 ^ (6 - vs.length) * c.flat.length) (f2:=fun P1 M1=>aX m l P1 M1 (k:Int) ((pre++[p]++a.flat).length:Int) vs) (g2:=bT n l (k:Int) ((pre++[p]++a.flat).length:Int) vs)
   (aGs a m n (pre++[p]) (c.flat++post) _ vs P M hea hw.2.1 hga hv hvs (by omega) (by omega) hI (by omega))
   (fun P1 M1 hI1 hl1=>aGs c m n (pre++[p]++a.flat) post _ vs P1 M1 hec hw.2.2 hgc hv hvs (by omega) (by omega) hI1 (by omega))
  have eI:aX (m+1) l P M (k:Int) (pre.length:Int) vs=ob (aX m l P M (k:Int) ((pre++[p]).length:Int) vs) fun r=>aX m l r.1 r.2 (k:Int) ((pre++[p]++a.flat).length:Int) vs:=by
   show bW (aX m) l P M (k:Int) (pre.length:Int) vs=_
   unfold bW
   rw [hx,aA,hx2,aA,if_neg k1,if_pos (by simpa using hk),hwr,e1]
   refine congrArg (ob _) (funext fun r=>?_)
   exact aQi _
  rw [eI]
  refine (w.mono (by omega)).stop (fun R h=>?_) (fun R h=>?_)
  ·show bK (bT n) l (k:Int) (pre.length:Int) vs R=_
   unfold bK
   rw [hx,aA,hx2,aA,if_pos (by simp;omega)]
  ·show bK (bT n) l (k:Int) (pre.length:Int) vs R=_
   unfold bK
   rw [hx,aA,hx2,aA,if_neg (by simp;omega),if_neg k1,if_pos (by simpa using hk),hwr,e2]
   refine congrArg (ob _) (funext fun r=>?_)
   exact aQj _
end
theorem aVR {l:List Definition} (hD:lK l) {p:GPoint} (h:PtG l p):(∃ X,aHc l p=some (X,true)/\rC l p=some (X,true)/\X.length<=200/\(∀ y∈X,aCf l y)/\X.Nodup)\/(∃ X Y,aHc l p=some (X,false)/\rC l p=some (Y,false)/\X.length<=6000000/\(∀ y∈X,aCf l y)/\X.Nodup):=by
 obtain ⟨⟨k,d,t,pre,post,b,h1,h2,h3,h4,h5,h6⟩,h7,h8⟩:=h
 have h20:=(aMO hD h1).1
 have h9:d.Body.length=pre.length+t.flat.length+post.length:=by rw [h3];simp;omega
 have hb:8 ^ (6 - p.Values.length) * t.flat.length<=8 ^ 6 * 20:=Nat.mul_le_mul (Nat.pow_le_pow_right (by omega) (by omega)) (by omega)
 have w:=aGs hD h1 t 100000 100000 pre post b p.Values [] [] h3 h4 h6 h7 h8 (by omega) (by omega) ⟨fun y hy=>(by cases hy),aUq _,List.nodup_nil⟩ (by simp only [List.length_nil];omega)
 obtain ⟨P,M,a1,a2,_,a4,a5⟩:=w
 have h6m:P.length<=6000000:=by simp only [List.length_nil] at a4;omega
 obtain ⟨R,b1,b2,b3,_,_⟩:=a5 [] (.inl rfl) (fun y hy=>(by cases hy)) (by simp only [List.length_nil];omega)
 have eI:aHc l p=some (P,decide ((P.length:Int)<=200)):=by
  unfold aHc aAv
  rw [h2,h5,a1,aA]
 have eS:rC l p=some (R,decide ((R.length:Int)<=200)):=by
  unfold rC aGN
  rw [h2,h5,b1,aA]
 rw [eI,eS]
 rcases b2 with rfl|b2
 ·by_cases hl:P.length<=200
  ·left;exact ⟨P,by rw [decide_eq_true (by omega)],by rw [decide_eq_true (by omega)],hl,b3,a2.nd⟩
  ·right;exact ⟨P,P,by rw [decide_eq_false (by omega)],by rw [decide_eq_false (by omega)],h6m,a2.g,a2.nd⟩
 ·right;exact ⟨P,R,by rw [decide_eq_false (by omega)],by rw [decide_eq_false (by omega)],h6m,a2.g,a2.nd⟩
end Gv
namespace Gv
open Go
def stT0 (s:aR):List GPoint:=s.Components.map fun c=>⟨c.Definition,0,c.Values⟩
theorem aUu {s:aR} (hs:SysOk s):∀ p∈stT0 s,PtG s.Definitions p:=fun p hp=>by
 obtain ⟨c,hc,rfl⟩:=List.mem_map.1 hp
 have:=hs.comp c hc
 unfold aCc at this
 simp only [Bool.and_eq_true,decide_eq_true_eq,beq_iff_eq] at this
 exact PtG.start hs.defs this.1.1.1 this.1.1.2 this.1.2 this.2
theorem aQk {s:aR} (hs:SysOk s):tV s=some (stT0 s)/\aDU s=some (stT0 s):=by
 have hn:=hs.n3
 have hv:∀ c∈s.Components,c.Values.length < 1000000:=fun c hc=>by
  have:=(aUu hs ⟨c.Definition,0,c.Values⟩ (List.mem_map.2 ⟨c,hc,rfl⟩)).2.1
  simp only at this;omega
 constructor
 ·unfold tV
  rw [lH (step:=fun t:List GPoint × Int=>oE s t.1 t.2) s.Components (fun c=>⟨c.Definition,0,c.Values⟩) (fun x=>x) (fun k out x hk ho hx=>?_) (fun out=>by simp only [oE,bE];rfl),aA]
  ·rfl
  ·have hm:x∈s.Components:=by rw [aU hk] at hx;cases hx;exact List.getElem_mem hk
   have:=hv x hm
   simp only [oE,bG,aY hk,if_true,hx,aA,dM (show ([]:List Int).length+x.Values.length<=fG by unfold fG;simp;omega),List.nil_append]
   rw [dM (by unfold fG;simp;omega),aA,aV hk (by omega)]
 ·unfold aDU
  rw [lH (step:=fun t:List GPoint × Int=>vR s t.1 t.2) s.Components (fun c=>⟨c.Definition,0,c.Values⟩) (fun x=>x) (fun k out x hk ho hx=>?_) (fun out=>by simp only [vR,bE];rfl),aA]
  ·rfl
  ·have hm:x∈s.Components:=by rw [aU hk] at hx;cases hx;exact List.getElem_mem hk
   have:=hv x hm
   simp only [vR,rR,aY hk,if_true,hx,aA,dM (show ([]:List Int).length+x.Values.length<=fG by unfold fG;simp;omega),List.nil_append]
   rw [dM (by unfold fG;simp;omega),aA,aV hk (by omega)]
end Gv
namespace Gv
open Go
theorem EqualI_eq (a b:List Int) (h:a.length < 4611686018427387904):eL a b=some (decide (a=b)):=by
 unfold eL
 by_cases e:a.length=b.length
 ·rw [if_neg (by simp [e])]
  refine Eq.trans ?_ (aJf e (step:=fun s=>gN a b s) ?_ ?_)
  ·rfl
  ·intro k x y hk hx hy
   simp only [gN,aY hk,if_pos,hx,hy,aA,aV hk h]
   by_cases e:x=y<;>simp [e]
  ·simp only [gN,bE];rfl
 ·rw [if_pos (by simp only [bne_iff_ne,ne_eq];omega)]
  have:¬ a=b:=fun h=>e (by rw [h])
  simp [this]
theorem aSM (xs:List aH) (v:aH):decide (pos xs v < 0)=!decide (v∈xs):=by
 have h:=aJh xs (fun x=>v == x)
 have h2:xs.any (fun x=>v == x)=decide (v∈xs):=by
  by_cases e:v∈xs
  ·rw [decide_eq_true e,List.any_eq_true];exact ⟨v,e,by simp⟩
  ·rw [decide_eq_false e,List.any_eq_false];intro x hx hv;exact e (by rw [show v=x by simpa using hv];exact hx)
 rw [h2] at h
 unfold pos
 cases hf:xs.findIdx? (fun x=>v == x) with
 |none=>rw [hf] at h;rw [←h];rfl
 |some i=>rw [hf] at h;rw [←h];simp
theorem posS_ge (xs:List aH) (v:aH):decide (0<=pos xs v)=decide (v∈xs):=by
 have:=aSM xs v
 by_cases e:v∈xs
 ·rw [decide_eq_true e] at this ⊢;simp at this ⊢;omega
 ·rw [decide_eq_false e] at this ⊢;simp at this ⊢;omega
theorem aFo (xs:List aH) (v:aH) (h:xs.length < 4611686018427387904):cE xs v=some (decide (v∈xs)):=by
 rw [aSr xs v h]
 congr 1
 by_cases e:v∈xs
 ·rw [decide_eq_true e,List.any_eq_true];exact ⟨v,e,by simp⟩
 ·rw [decide_eq_false e,List.any_eq_false];intro x hx hv;exact e (by rw [show v=x by simpa using hv];exact hx)
theorem aGt (st:List GPoint) (hl:st.length < 1000000) (h:∀ p∈st,p.Values.length < 1000000):zZ st=some st:=by
 unfold zZ
 rw [lH (step:=fun s:List GPoint × Int=>aBO st s.1 s.2) st (fun p=>p) (fun x=>x) (fun k out x hk ho hx=>?_) (fun out=>by simp only [aBO,bE];rfl),aA]
 ·show some (st.map fun p=>p)=_;simp
 ·have hm:x∈st:=by rw [aU hk] at hx;cases hx;exact List.getElem_mem hk
  have:=h x hm
  simp only [aBO,rR,aY hk,if_true,hx,aA,dM (show ([]:List Int).length+x.Values.length<=fG by unfold fG;simp;omega),List.nil_append]
  rw [dM (by unfold fG;simp;omega),aA,aV hk (by omega)]
theorem aBF (p:GPoint) (h:p.Values.length < 1000000):lU p=some p:=by
 unfold lU bG
 rw [dM (by unfold fG;simp;omega),aA,aA,List.nil_append]
theorem aKy (st:List GPoint) (hl:st.length < 1000000) (h:∀ p∈st,p.Values.length < 1000000):oD st=some st:=by
 unfold oD
 rw [lH (step:=fun s:List GPoint × Int=>jX st s.1 s.2) st (fun p=>p) (fun x=>x) (fun k out x hk ho hx=>?_) (fun out=>by simp only [jX,bE];rfl),aA]
 ·show some (st.map fun p=>p)=_;simp
 ·have hm:x∈st:=by rw [aU hk] at hx;cases hx;exact List.getElem_mem hk
  simp only [jX,aY hk,if_true,hx,aA,aBF x (h x hm)]
  rw [dM (by unfold fG;simp;omega),aA,aV hk (by omega)]
theorem aLo (a b:List GPoint) (hl:a.length < 1000000) (h:∀ p∈a,p.Values.length < 1000000):aAW a b=some (decide (a=b)):=by
 unfold aAW
 by_cases e:a.length=b.length
 ·rw [if_neg (by simp [e])]
  have:=aAH (step:=fun s=>aCV a b s) (a.zip b) (fun p=>decide (p.1=p.2)) (.inr false) (.inl ()) (fun k x hk hx=>?_) ?_
  ·rw [this,aA]
   have:(a.zip b).all (fun p=>decide (p.1=p.2))=decide (a=b):=by
    clear this hl h
    induction a generalizing b with
    |nil=>cases b with
     |nil=>rfl
     |cons y b=>simp at e
    |cons x a ih=>cases b with
     |nil=>simp at e
     |cons y b=>
      rw [List.zip_cons_cons,List.all_cons,ih b (by simpa using e)]
      by_cases h1:x=y
      ·by_cases h2:a=b<;>simp [h1,h2]
      ·simp [h1]
   rw [this]
   cases decide (a=b)<;>rfl
  ·have hk1:k < a.length:=by rw [List.length_zip] at hk;omega
   have hk2:k < b.length:=by omega
   have hx':x=(a[k],b[k]):=by rw [aU hk] at hx;cases hx;rw [List.getElem_zip]
   unfold aCV
   rw [if_pos (aY hk1),aU hk1,aA,aU hk2,aA,aMN _ _ (by have:=h _ (List.getElem_mem hk1);omega),aA,aV hk1 (by omega),hx']
   by_cases h1:a[k]=b[k]<;>simp [h1]
  ·have:(a.zip b).length=a.length:=by rw [List.length_zip];omega
   rw [this]
   simp only [aCV,bE];rfl
 ·rw [if_pos (by simp only [bne_iff_ne,ne_eq];omega)]
  have:¬ a=b:=fun h=>e (by rw [h])
  simp [this]
def lI (l:List Definition) (n:Nat) (st:List GPoint):Prop:=st.length=n/\∀ p∈st,PtG l p
structure MvG (l:List Definition) (n:Nat) (m:aN):Prop where
 lbl:∃ nm vs,rN nm vs/\m.B=lab nm vs
 f:0<=m.First/\m.First<=2
 s:-1<=m.Second/\m.Second<=2
 st:lI l n m.State
def mvK (m:aN):aH:=m.B++[32]++Lib.itoa m.First++[32]++Lib.itoa m.Second++[32]++aEA m.State
theorem aJP:Lib.itoa (-1)=45::Lib.decDigits 1:=rfl
theorem aJQ {n:Int} (h:-1<=n):(32:UInt8)∉Lib.itoa n:=by
 by_cases h0:0<=n
 ·exact sG (oQ h0) rfl
 ·have:n=-1:=by omega
  subst this
  rw [aJP]
  have:=sG (c:=32) (dd_all 1) rfl
  simp [this]
theorem aRy {a b:Int} (ha:-1<=a) (hb:-1<=b) (h:Lib.itoa a=Lib.itoa b):a=b:=by
 by_cases h0:0<=a
 ·by_cases h1:0<=b
  ·exact aGq h0 h1 h
  ·have:b=-1:=by omega
   subst this
   have h2:=oQ h0
   rw [h,aJP] at h2
   simp at h2
   exact absurd h2.1 (by decide)
 ·have:a=-1:=by omega
  subst this
  by_cases h1:0<=b
  ·have h2:=oQ h1
   rw [←h,aJP] at h2
   simp at h2
   exact absurd h2.1 (by decide)
  ·omega
theorem aRz {n:Int} (h:-1<=n) (h2:n<=2):(Lib.itoa n).length<=22:=by
 by_cases h0:0<=n
 ·have:=qI h0 (by omega);omega
 ·have:n=-1:=by omega
  subst this
  have:=qI (n:=1) (by omega) (by omega)
  rw [aML (by omega)] at this
  rw [aJP]
  simp only [List.length_cons]
  have e:(1:Int).toNat=1:=rfl
  rw [e] at this
  omega
section
variable {l:List Definition} (hD:lK l) {n:Nat}
include hD
theorem lI.ok {st:List GPoint} (h:lI l n st):∀ p∈st,aNG p:=fun p hp=>(h.2 p hp).ok hD
omit hD in
theorem lI.val {st:List GPoint} (h:lI l n st):∀ p∈st,p.Values.length < 1000000:=fun p hp=>by have:=(h.2 p hp).2.1;omega
theorem mvK_inj {m u:aN} (hm:MvG l n m) (hu:MvG l n u) (h:mvK m=mvK u):m=u:=by
 obtain ⟨n1,v1,o1,e1⟩:=hm.lbl
 obtain ⟨n2,v2,o2,e2⟩:=hu.lbl
 unfold mvK at h
 simp only [List.append_assoc,List.singleton_append] at h
 obtain ⟨g1,h⟩:=aFn (by rw [e1];exact aSF o1) (by rw [e2];exact aSF o2) h
 obtain ⟨g2,h⟩:=aFn (aJQ (by have:=hm.f;omega)) (aJQ (by have:=hu.f;omega)) h
 obtain ⟨g3,h⟩:=aFn (aJQ hm.s.1) (aJQ hu.s.1) h
 have g4:=aSJ (by rw [hm.st.1,hu.st.1]) (hm.st.ok hD) (hu.st.ok hD) h
 have g2:=aRy (by have:=hm.f;omega) (by have:=hu.f;omega) g2
 have g3:=aRy hm.s.1 hu.s.1 g3
 cases m;cases u
 simp only at g1 g2 g3 g4
 rw [g1,g2,g3,g4]
omit hD in
theorem aRA {P:List aN} {m:aN} (hP:∀ y∈P,MvG l n y) (hn:n < 1000000) (hl:P.length < 100000000):yC P m=some (dF P m):=by
 unfold yC
 rw [aAH (step:=fun s=>tO P m s) P (fun y=>!decide (y=m)) (.inr P) (.inl ()) (fun k y hk hy=>?_) (by simp only [tO,bE];rfl),aA,aUt]
 ·unfold dF
  by_cases hm:m∈P
  ·rw [decide_eq_true hm,if_pos hm];rfl
  ·rw [decide_eq_false hm,if_neg hm]
   show tN P m=_
   unfold tN
   rw [dM (by unfold fG;simp;omega),aA]
 ·have hm:y∈P:=by rw [aU hk] at hy;cases hy;exact List.getElem_mem hk
  have hg:=hP y hm
  unfold tO pW
  rw [if_pos (aY hk),hy,aA,aLo _ _ (by rw [hg.st.1];exact hn) hg.st.val,aA,aV hk (by omega)]
  cases y with|mk y1 y2 y3 y4=>cases m with|mk m1 m2 m3 m4=>
  simp only [aN.mk.injEq]
  by_cases h1:y1=m1
  ·by_cases h2:y2=m2
   ·by_cases h3:y3=m3
    ·by_cases h4:y4=m4<;>simp [h1,h2,h3,h4]
    ·simp [h1,h2,h3]
   ·simp [h1,h2]
  ·simp [h1]
theorem mtake1 {P:List aN} {M:List (aH × Bool)} {nm:aH} {vs:List Int} {a b:Int} {st:List GPoint} (hn:n<=3) (hg:MvG l n ⟨lab nm vs,a,b,st⟩) (hlb:rN nm vs) (hP:∀ y∈P,MvG l n y) (hM:aHU mvK P M) (hl:P.length < 100000000):
  ∃ M',kL P M a b (lab nm vs,true) st=some (dF P ⟨lab nm vs,a,b,st⟩,M')/\aHU mvK (dF P ⟨lab nm vs,a,b,st⟩) M':=by
 have h1:=aRx hlb
 have h2:=aRz (n:=a) (by have:=hg.f.1;simp only at this;omega) hg.f.2
 have h3:=aRz (n:=b) hg.s.1 hg.s.2
 have h4:=aSK (hg.st.ok hD)
 have h5:st.length=n:=hg.st.1
 simp only at h4
 have fa:=hg.f
 have fb:=hg.s
 simp only at fa fb
 have hm:=aUs (x:=(⟨lab nm vs,a,b,st⟩:aN)) hM (fun y hy he=>mvK_inj hD (hP y hy) hg he)
 unfold kL
 rw [pC (by unfold fG;simp;omega),aA,aHu (by omega) (by omega),aA,pC (by unfold fG;simp;omega),aA,pC (by unfold fG;simp;omega),aA,aHu (by omega) (by omega),aA,pC (by unfold fG;simp;omega),aA,pC (by unfold fG;simp;omega),aA,aOe (show st.length<=1000 by omega) (hg.st.ok hD),aA,pC (by unfold fG;simp;omega),aA]
 show ∃ M',(if (!((qL M (mvK ⟨lab nm vs,a,b,st⟩)).getD false)) then (ob (some (vA M (mvK ⟨lab nm vs,a,b,st⟩) true)) fun m=>ob (wR P ([⟨lab nm vs,a,b,st⟩]:List aN)) fun xs=>some (xs,m)) else (some (P,M)))=some (dF P ⟨lab nm vs,a,b,st⟩,M')/\_
 rw [hm]
 unfold dF
 by_cases e:(⟨lab nm vs,a,b,st⟩:aN)∈P
 ·rw [decide_eq_true e,if_pos e];exact ⟨M,rfl,hM⟩
 ·rw [decide_eq_false e,if_neg e,if_pos (show (!false)=true from rfl),aA,dM (by unfold fG;simp;omega),aA]
  exact ⟨_,rfl,aUr hM⟩
end
end Gv
namespace Gv
open Go
def aJo (ms:List aT) (a b:aH):Option aT:=ms.find? fun m=>m.Left == mnS a b&&m.Right == mxS a b
theorem findIx {β:Type} (p:β->Bool):∀ (l:List β),l.find? p=(l.findIdx? p).bind fun i=>l[i]?
 |[]=>rfl
 |x::l=>by
  rw [List.find?_cons,List.findIdx?_cons]
  by_cases h:p x=true
  ·rw [h];simp
  ·have:p x=false:=by simpa using h
   rw [this,findIx p l]
   cases l.findIdx? p<;>simp
theorem meeting_I {s:aR} (hl:s.Meetings.length < 1000000000) (a b:aH):mK s a b=some (match aJo s.Meetings a b with|none=>([],false)|some m=>(m.Result,true)):=by
 unfold mK dD
 rw [yO (step:=fun x=>bX s.Meetings a b x) s.Meetings (fun m=>m.Left == mnS a b&&m.Right == mxS a b) (fun k x hk hx=>by
  simp only [bX,aY hk,if_true,hx,aA,pF,lX,aV hk (show s.Meetings.length < 4611686018427387904 by omega)]
  cases (x.Left == mnS a b)<;>rfl) (by simp only [bX,bE];rfl),aA]
 unfold aJo
 rw [findIx]
 cases hf:s.Meetings.findIdx? (fun m=>m.Left == mnS a b&&m.Right == mxS a b) with
 |none=>rfl
 |some i=>
  have hi:i < s.Meetings.length:=(List.findIdx?_eq_some_iff_findIdx_eq.1 hf).1
  show (ob (some (i:Int)) fun r35=>if decide (r35 < 0)=true then some ([],false) else ob (ix s.Meetings r35) fun e43=>some (e43.Result,true))=_
  rw [aA,if_neg (by simp),aU hi,aA]
  simp [hi]
theorem meet_S1 (ms:List aT) (hl:ms.length < 1000000000) (a b:aH):(ob (loop (fun (s:Int)=>uM ms a b s) 0) fun r=>match r with|.inl r=>aGO|.inr r=>some r)=some (match ms.find? (fun m=>m.Left == a&&m.Right == b) with|none=>[]|some m=>m.Result):=by
 have:=aAG (step:=fun s=>uM ms a b s) ms.length (fun k (_:Unit)=>(k:Int)) (fun k _=>match (ms.drop k).find? (fun m=>m.Left == a&&m.Right == b) with|none=>(.inl ():Unit ⊕ aH)|some m=>.inr m.Result) (fun _ _=>True) (fun k _ hk _=>?_) (fun _ _=>?_) ms.length 0 () (by omega) trivial
 ·rw [show (0:Int)=((0:Nat):Int) from rfl,this,aA,List.drop_zero]
  cases ms.find? (fun m=>m.Left == a&&m.Right == b)<;>rfl
 ·rw [List.drop_eq_getElem_cons hk,List.find?_cons]
  unfold uM aCW
  rw [if_pos (aY hk),aU hk,aA,aA,aV hk (by omega)]
  cases h1:(ms[k].Left == a) with
  |false=>left;exact ⟨(),rfl,trivial,by simp⟩
  |true=>
   cases h2:(ms[k].Right == b) with
   |false=>left;exact ⟨(),rfl,trivial,by simp⟩
   |true=>right;rfl
 ·unfold uM
  rw [if_neg (by simp),List.drop_length];rfl
theorem meeting_S (ms:List aT) (hl:ms.length < 1000000000) (a b:aH):aJC ms a b=some (match aJo ms a b with|none=>[]|some m=>m.Result):=by
 unfold aJC aJo
 show tL (tM 99999) ms a b=_
 unfold tL
 by_cases hab:(mW a b||a == b)=true
 ·rw [if_neg (by simp [hab])]
  refine (meet_S1 ms hl a b).trans ?_
  have e1:mnS a b=a:=by unfold mnS;rw [if_pos hab]
  have e2:mxS a b=b:=by
   unfold mxS
   rcases (Bool.or_eq_true _ _).mp hab with h|h
   ·rw [h];rfl
   ·have:a=b:=by simpa using h
    subst this
    split<;>rfl
  rw [e1,e2]
 ·have hab':(mW a b||a == b)=false:=by simpa using hab
  rw [if_pos (by rw [hab'];rfl)]
  show (ob (tL (tM 99998) ms b a) fun r5=>some r5)=_
  have hba:mW b a=true:=by
   rw [Bool.or_eq_false_iff] at hab'
   rcases aMu a b with h|h|h
   ·rw [h] at hab';cases hab'.1
   ·rw [h] at hab';simp at hab'
   ·exact h
  unfold tL
  rw [if_neg (by rw [hba];simp)]
  refine (congrArg (fun x=>ob x fun r5=>some r5) (meet_S1 ms hl b a)).trans ?_
  rw [aA]
  have e1:mnS a b=b:=by unfold mnS;rw [if_neg hab]
  have e2:mxS a b=a:=by
   rw [Bool.or_eq_false_iff] at hab'
   unfold mxS;rw [hab'.1];rfl
  rw [e1,e2]
end Gv
namespace Gv
open Go
structure aFG (s:aR):Prop where
 ok:SysOk s
 la:s.Allowed.length < 1000000000
 lh:s.Hidden.length < 1000000000
 lm:s.Meetings.length < 1000000000
def aOD (s:aR) (nm:aH) (vs:List Int):aH:=if nm∈s.Hidden then bS else lab nm vs
def aNI (s:aR) (P:List aN) (nm:aH) (vs:List Int) (a b:Int) (st:List GPoint):List aN:=if nm=bS\/nm∈s.Allowed then dF P ⟨aOD s nm vs,a,b,st⟩ else P
theorem aSO:rN bS []:=⟨tau_nm,by simp,rfl,fun _=>rfl⟩
theorem aOK:lab bS []=bS:=rfl
theorem lab_tau {nm:aH} {vs:List Int} (h:rN nm vs):(lab nm vs == bS)=(nm == bS):=by
 by_cases e:nm=bS
 ·rw [e,h.2.2.2 e,aOK]
 ·have:(nm == bS)=false:=by simpa using e
  rw [this]
  apply beq_false_of_ne
  intro hl
  have h2:=lab_inj h aSO (by rw [hl,aOK])
  exact e h2.1
structure aEG (l:List Definition) (n:Nat) (P:List aN) (M:List (aH × Bool)):Prop where
 g:∀ y∈P,MvG l n y
 m:aHU mvK P M
def qJ (l:List Definition) (n:Nat) (P:List aN) (c:Nat) (fI:Option (List aN × List (aH × Bool))) (fS:List aN->Option (List aN)):Prop:=
 ∃ P' M',fI=some (P',M')/\aEG l n P' M'/\P.length<=P'.length/\P'.length<=P.length+c/\
  ∀ R,aNH P R->(∀ y∈R,MvG l n y)->R.length+c<=6000000->∃ R',fS R=some R'/\aNH P' R'/\(∀ y∈R',MvG l n y)/\R.length<=R'.length/\R'.length<=R.length+c
section
variable {l:List Definition} {n:Nat}
theorem qJ.stop {P:List aN} {c:Nat} {fI:Option (List aN × List (aH × Bool))} {fS fS':List aN->Option (List aN)} (h:qJ l n P c fI fS)
  (h1:∀ R,200 < R.length->fS' R=some R) (h2:∀ R,¬ 200 < R.length->aNH P R->(∀ y∈R,MvG l n y)->fS' R=fS R):qJ l n P c fI fS':=by
 obtain ⟨P',M',e,i,a,b,k⟩:=h
 refine ⟨P',M',e,i,a,b,fun R hR hg hl=>?_⟩
 by_cases h:200 < R.length
 ·exact ⟨R,h1 R h,hR.stop h a,hg,Nat.le_refl _,by omega⟩
 ·rw [h2 R h hR hg];exact k R hR hg hl
theorem qJ.none {P:List aN} {M:List (aH × Bool)} (c:Nat) (h:aEG l n P M):qJ l n P c (some (P,M)) some:=
 ⟨P,M,rfl,h,Nat.le_refl _,by omega,fun R hR hg _=>⟨R,rfl,hR,hg,Nat.le_refl _,by omega⟩⟩
theorem qJ.mono {P:List aN} {c c':Nat} {fI:Option (List aN × List (aH × Bool))} {fS:List aN->Option (List aN)} (h:qJ l n P c fI fS) (hc:c<=c'):qJ l n P c' fI fS:=by
 obtain ⟨P',M',e,i,a,b,k⟩:=h
 refine ⟨P',M',e,i,a,by omega,fun R hR hg hl=>?_⟩
 obtain ⟨R',c1,c2,c3,c4,c5⟩:=k R hR hg (by omega)
 exact ⟨R',c1,c2,c3,c4,by omega⟩
theorem qJ.seq {P:List aN} {c1 c2:Nat} {f1:Option (List aN × List (aH × Bool))} {f2:List aN->List (aH × Bool)->Option (List aN × List (aH × Bool))} {g1 g2:List aN->Option (List aN)} (h1:qJ l n P c1 f1 g1)
  (h2:∀ P1 M1,aEG l n P1 M1->P1.length<=P.length+c1->qJ l n P1 c2 (f2 P1 M1) g2):qJ l n P (c1+c2) (ob f1 fun r=>f2 r.1 r.2) (fun R=>ob (g1 R) g2):=by
 obtain ⟨P1,M1,a1,a2,a3,a4,a5⟩:=h1
 obtain ⟨P2,M2,b1,b2,b3,b4,b5⟩:=h2 P1 M1 a2 a4
 refine ⟨P2,M2,by rw [a1,aA];exact b1,b2,by omega,by omega,fun R hR hg hl=>?_⟩
 obtain ⟨R1,c1',d2,d3,d4,d5⟩:=a5 R hR hg (by omega)
 obtain ⟨R2,e1,e2,e3,e4,e5⟩:=b5 R1 d2 d3 (by omega)
 exact ⟨R2,by show ob (g1 R) g2=_;rw [c1',aA,e1],e2,e3,by omega,by omega⟩
end
section
variable {s:aR} (hs:aFG s) {n:Nat} (hn:n<=3) {st:List GPoint} (hst:lI s.Definitions n st)
include hs hn hst
omit hs hn in
theorem aNJ {i:Nat} {q:GPoint} (hq:PtG s.Definitions q):lI s.Definitions n (st.set i q):=by
 refine ⟨by rw [List.length_set];exact hst.1,fun p hp=>?_⟩
 rcases List.mem_or_eq_of_mem_set hp with h|h
 ·exact hst.2 p h
 ·rw [h];exact hq
omit hst in
theorem shN_g {nm:aH} {vs:List Int} (hlb:rN nm vs) {a b:Int} {st':List GPoint} (ha:0<=a/\a<=2) (hb:-1<=b/\b<=2) (hst':lI s.Definitions n st'):MvG s.Definitions n ⟨aOD s nm vs,a,b,st'⟩:=by
 refine ⟨?_,ha,hb,hst'⟩
 unfold aOD
 split
 ·exact ⟨bS,[],aSO,rfl⟩
 ·exact ⟨nm,vs,hlb,rfl⟩
omit hst in
omit hs hn hst in
theorem aUv (P:List aN) (nm:aH) (vs:List Int) (a b:Int) (st':List GPoint):P.length<=(aNI s P nm vs a b st').length/\(aNI s P nm vs a b st').length<=P.length+1:=by
 unfold aNI
 split
 ·exact wQ _ _
 ·omega
theorem mtake_one {P:List aN} {M:List (aH × Bool)} {nm:aH} {vs:List Int} (hlb:rN nm vs) {i:Nat} (hi:i < n) {q:GPoint} (hq:PtG s.Definitions q) (hI:aEG s.Definitions n P M) (hl:P.length < 100000000):
  ∃ M',jZ s.Definitions s.Components s.Meetings s.Allowed s.Hidden st P M nm vs (i:Int) (-1) [q]=some (aNI s P nm vs (i:Int) (-1) (st.set i q),M')/\aEG s.Definitions n (aNI s P nm vs (i:Int) (-1) (st.set i q)) M':=by
 have hst':=aNJ hst (i:=i) hq
 have hv:=hst.val
 have hqv:q.Values.length < 1000000:=by have:=hq.2.1;omega
 have hlen:=hst.1
 have j2:∀ nm vs,rN nm vs->∃ M',dW st P M (i:Int) (-1) [q] nm vs=some (dF P ⟨lab nm vs,(i:Int),-1,st.set i q⟩,M')/\aHU mvK (dF P ⟨lab nm vs,(i:Int),-1,st.set i q⟩) M':=fun nm vs h=>by
  unfold dW
  rw [aCe h,aA,aKy st (by omega) hv,aA,show ix [q] 0=some q from rfl,aA,aBF q hqv,aA,aU (show i < st.length by omega),aA,oO q (show i < st.length by omega),aA,if_neg (by decide)]
  exact mtake1 hs.ok.defs hn ⟨⟨_,_,h,rfl⟩,by simp only;omega,by simp only;omega,hst'⟩ h hI.g hI.m hl
 have j3:∃ M',(ob (cE s.Hidden nm) fun r169=>if r169 then (dW st P M (i:Int) (-1) [q] ([116,97,117]:aH) []) else (dW st P M (i:Int) (-1) [q] nm vs))=some (dF P ⟨aOD s nm vs,(i:Int),-1,st.set i q⟩,M')/\aEG s.Definitions n (dF P ⟨aOD s nm vs,(i:Int),-1,st.set i q⟩) M':=by
  rw [aFo _ _ (by have:=hs.lh;omega),aA]
  have hg:=shN_g hs hn hlb (a:=(i:Int)) (b:=-1) (by omega) (by omega) hst'
  unfold aOD at hg ⊢
  by_cases e:nm∈s.Hidden
  ·rw [decide_eq_true e,if_pos rfl]
   rw [if_pos e] at hg ⊢
   obtain ⟨M',m1,m2⟩:=j2 bS [] aSO
   rw [aOK] at m1 m2
   exact ⟨M',m1,aEB hI.g hg,m2⟩
  ·rw [decide_eq_false e,if_neg (by simp)]
   rw [if_neg e] at hg ⊢
   obtain ⟨M',m1,m2⟩:=j2 nm vs hlb
   exact ⟨M',m1,aEB hI.g hg,m2⟩
 unfold jZ kM aNI
 by_cases ht:nm=bS
 ·have:(nm == ([116,97,117]:aH))=true:=by rw [ht];rfl
  rw [this,if_neg (show ¬ (!true)=true by decide),if_neg (show ¬ false=true by decide),if_pos (show nm=bS\/nm∈s.Allowed from .inl ht)]
  exact j3
 ·have:(nm == ([116,97,117]:aH))=false:=beq_false_of_ne ht
  rw [this,if_pos (show (!false)=true from rfl),aFo _ _ (by have:=hs.la;omega),aA]
  by_cases e:nm∈s.Allowed
  ·rw [decide_eq_true e,if_neg (show ¬ (!true)=true by decide),if_pos (show nm=bS\/nm∈s.Allowed from .inr e)]
   exact j3
  ·rw [decide_eq_false e,if_pos (show (!false)=true from rfl),if_neg (show ¬ (nm=bS\/nm∈s.Allowed) from fun h=>h.elim ht e)]
   exact ⟨M,rfl,hI⟩
theorem mtake_two {P:List aN} {M:List (aH × Bool)} {nm:aH} {vs:List Int} (hlb:rN nm vs) {i k:Nat} (hi:i < n) (hk:k < n) {q r:GPoint} (hq:PtG s.Definitions q) (hr:PtG s.Definitions r) (hI:aEG s.Definitions n P M) (hl:P.length < 100000000):
  ∃ M',jZ s.Definitions s.Components s.Meetings s.Allowed s.Hidden st P M nm vs (i:Int) (k:Int) [q,r]=some (aNI s P nm vs (i:Int) (k:Int) ((st.set i q).set k r),M')/\aEG s.Definitions n (aNI s P nm vs (i:Int) (k:Int) ((st.set i q).set k r)) M':=by
 have hst':=aNJ (aNJ hst (i:=i) hq) (i:=k) hr
 have hv:=hst.val
 have hqv:q.Values.length < 1000000:=by have:=hq.2.1;omega
 have hrv:r.Values.length < 1000000:=by have:=hr.2.1;omega
 have hlen:=hst.1
 have j2:∀ nm vs,rN nm vs->∃ M',dW st P M (i:Int) (k:Int) [q,r] nm vs=some (dF P ⟨lab nm vs,(i:Int),(k:Int),(st.set i q).set k r⟩,M')/\aHU mvK (dF P ⟨lab nm vs,(i:Int),(k:Int),(st.set i q).set k r⟩) M':=fun nm vs h=>by
  unfold dW
  rw [aCe h,aA,aKy st (by omega) hv,aA,show ix [q,r] 0=some q from rfl,aA,aBF q hqv,aA,aU (show i < st.length by omega),aA,oO q (show i < st.length by omega),aA,if_pos (by simp),show ix [q,r] 1=some r from rfl,aA,aBF r hrv,aA,aU (show k < (st.set i q).length by simp;omega),aA,oO r (show k < (st.set i q).length by simp;omega),aA]
  exact mtake1 hs.ok.defs hn ⟨⟨_,_,h,rfl⟩,by simp only;omega,by simp only;omega,hst'⟩ h hI.g hI.m hl
 have j3:∃ M',(ob (cE s.Hidden nm) fun r169=>if r169 then (dW st P M (i:Int) (k:Int) [q,r] ([116,97,117]:aH) []) else (dW st P M (i:Int) (k:Int) [q,r] nm vs))=some (dF P ⟨aOD s nm vs,(i:Int),(k:Int),(st.set i q).set k r⟩,M')/\aEG s.Definitions n (dF P ⟨aOD s nm vs,(i:Int),(k:Int),(st.set i q).set k r⟩) M':=by
  rw [aFo _ _ (by have:=hs.lh;omega),aA]
  have hg:=shN_g hs hn hlb (a:=(i:Int)) (b:=(k:Int)) (by omega) (by omega) hst'
  unfold aOD at hg ⊢
  by_cases e:nm∈s.Hidden
  ·rw [decide_eq_true e,if_pos rfl]
   rw [if_pos e] at hg ⊢
   obtain ⟨M',m1,m2⟩:=j2 bS [] aSO
   rw [aOK] at m1 m2
   exact ⟨M',m1,aEB hI.g hg,m2⟩
  ·rw [decide_eq_false e,if_neg (by simp)]
   rw [if_neg e] at hg ⊢
   obtain ⟨M',m1,m2⟩:=j2 nm vs hlb
   exact ⟨M',m1,aEB hI.g hg,m2⟩
 unfold jZ kM aNI
 by_cases ht:nm=bS
 ·have:(nm == ([116,97,117]:aH))=true:=by rw [ht];rfl
  rw [this,if_neg (show ¬ (!true)=true by decide),if_neg (show ¬ false=true by decide),if_pos (show nm=bS\/nm∈s.Allowed from .inl ht)]
  exact j3
 ·have:(nm == ([116,97,117]:aH))=false:=beq_false_of_ne ht
  rw [this,if_pos (show (!false)=true from rfl),aFo _ _ (by have:=hs.la;omega),aA]
  by_cases e:nm∈s.Allowed
  ·rw [decide_eq_true e,if_neg (show ¬ (!true)=true by decide),if_pos (show nm=bS\/nm∈s.Allowed from .inr e)]
   exact j3
  ·rw [decide_eq_false e,if_pos (show (!false)=true from rfl),if_neg (show ¬ (nm=bS\/nm∈s.Allowed) from fun h=>h.elim ht e)]
   exact ⟨M,rfl,hI⟩
omit hn hst in
theorem show_S {nm:aH} {vs:List Int} (hlb:rN nm vs):aFY s (lab nm vs)=some (aOD s nm vs):=by
 unfold aFY aOD
 rw [aMM hlb,aA,aBm _ _ (by have:=hs.lh;omega),aA,posS_ge]
 by_cases e:nm∈s.Hidden
 ·rw [decide_eq_true e,if_pos rfl,if_pos e];rfl
 ·rw [decide_eq_false e,if_neg (by simp),if_neg e]
theorem single_S {A:List (List bF)} {X:List bF} {i a:Nat} (hX:ix A (i:Int)=some X) (hi:i < n) (ha:a < X.length) (hXl:X.length<=200) {nm:aH} {vs:List Int} (hlb:rN nm vs) {q:GPoint} (hy:X[a]=⟨lab nm vs,q⟩) (hq:PtG s.Definitions q)
  {P:List aN} (hP:∀ y∈P,MvG s.Definitions n y) (hl:P.length < 100000000):
  pZ s st A (i:Int) P (a:Int)=some (.inl (aNI s P nm vs (i:Int) (-1) (st.set i q),((a+1:Nat):Int))):=by
 have hst':=aNJ hst (i:=i) hq
 have hlen:=hst.1
 have hput:jH s st (i:Int) P (a:Int) ⟨lab nm vs,q⟩ false=some (.inl (dF P ⟨aOD s nm vs,(i:Int),-1,st.set i q⟩,((a+1:Nat):Int))):=by
  unfold jH pY
  rw [if_neg (by simp),aGt st (by omega) hst.val,aA,aU (show i < st.length by omega),aA,oO q (show i < st.length by omega),aA,show_S hs hlb,aA,aGt _ (by rw [List.length_set];omega) hst'.val,aA,aRA hP (by omega) hl,aA,aV ha (by omega)]
 unfold pZ
 rw [hX,aA,if_pos (aY ha),aU ha,aA,hy]
 show (if (!(lab nm vs == bS)) then (ob (kV (lab nm vs)) fun r580=>ob (pT s.Allowed r580) fun r584=>jH s st (i:Int) P (a:Int) ⟨lab nm vs,q⟩ (decide (r584 < 0))) else jH s st (i:Int) P (a:Int) ⟨lab nm vs,q⟩ false)=_
 rw [lab_tau hlb]
 unfold aNI
 by_cases ht:nm=bS
 ·have:(nm == bS)=true:=by simpa using ht
  rw [this,if_neg (show ¬ (!true)=true by decide),if_pos (show nm=bS\/nm∈s.Allowed from .inl ht)];exact hput
 ·have:(nm == bS)=false:=beq_false_of_ne ht
  rw [this,if_pos (show (!false)=true from rfl),aMM hlb,aA,aBm _ _ (by have:=hs.la;omega),aA,aSM]
  by_cases e:nm∈s.Allowed
  ·rw [decide_eq_true e,if_pos (show nm=bS\/nm∈s.Allowed from .inr e)];exact hput
  ·rw [decide_eq_false e,if_neg (show ¬ (nm=bS\/nm∈s.Allowed) from fun h=>h.elim ht e)]
   unfold jH pY
   rw [if_pos (by simp),aV ha (by omega)]
def aOg (s:aR) (P:List aN) (n1:aH) (v1:List Int) (n2:aH) (v2:List Int) (a b:Int) (st:List GPoint):List aN:=
 match aJo s.Meetings n1 n2 with
 |none=>P
 |some m=>if v1=v2 then aNI s P m.Result v1 a b st else P
omit hs hn hst in
theorem pairM_len (P:List aN) (n1:aH) (v1:List Int) (n2:aH) (v2:List Int) (a b:Int) (st:List GPoint):P.length<=(aOg s P n1 v1 n2 v2 a b st).length/\(aOg s P n1 v1 n2 v2 a b st).length<=P.length+1:=by
 unfold aOg
 split
 ·omega
 ·split
  ·exact aUv _ _ _ _ _ _
  ·omega
omit hn hst in
theorem aSP {n1 n2:aH} {v1:List Int} (h1:rN n1 v1) {m:aT} (hm:aJo s.Meetings n1 n2=some m):rN m.Result v1/\m.Result≠bS:=by
 have:=(hs.ok.meet m (List.mem_of_find?_eq_some hm)).2.2
 unfold iB at this
 simp only [Bool.and_eq_true,bne_iff_ne,ne_eq,Bool.not_eq_true',beq_eq_false_iff_ne] at this
 exact ⟨⟨this.1,h1.2.1,h1.2.2.1,fun h=>absurd h this.2⟩,this.2⟩
omit hn hst in
theorem meet_S {n1 n2:aH} {v1 v2:List Int} (h1:rN n1 v1) (h2:rN n2 v2):aFZ s (lab n1 v1) (lab n2 v2)=some (match aJo s.Meetings n1 n2 with|none=>[]|some m=>if v1=v2 then (if m.Result∈s.Allowed then lab m.Result v1 else []) else []):=by
 obtain ⟨b1,e1⟩:=aUn h1
 obtain ⟨b2,e2⟩:=aUn h2
 unfold aFZ
 rw [e1,aA,e2,aA,aPW _ _ (show v1.length < 4611686018427387904 by have:=h1.2.1;omega),aA]
 by_cases hv:v1=v2
 ·rw [decide_eq_true hv,if_neg (by simp),aMM h1,aA,aMM h2,aA,meeting_S _ hs.lm,aA]
  cases hm:aJo s.Meetings n1 n2 with
  |none=>rfl
  |some m=>
   obtain ⟨g1,g2⟩:=aSP hs h1 hm
   have hne:=(aGr g1.1).2
   have:(m.Result == ([]:aH))=false:=by simpa using hne
   simp only [this,Bool.false_eq_true,if_false]
   rw [aBm _ _ (by have:=hs.la;omega),aA,aSM,if_pos hv]
   unfold aCX
   by_cases e:m.Result∈s.Allowed
   ·rw [decide_eq_true e,if_neg (by simp),if_pos e,aQf g1,aA]
   ·rw [decide_eq_false e,if_pos (by simp),if_neg e]
 ·rw [decide_eq_false hv,if_pos (by simp)]
  cases aJo s.Meetings n1 n2 with
  |none=>rfl
  |some m=>simp [hv]
end
end Gv
namespace Gv
open Go
theorem lab_nn {nm:aH} {vs:List Int} (h:rN nm vs):(lab nm vs == ([]:aH))=false:=by
 have hne:=(aGr h.1).2
 apply beq_false_of_ne
 unfold lab
 split
 ·exact hne
 ·simp
section
variable {s:aR} (hs:aFG s) {n:Nat} (hn:n<=3) {st:List GPoint} (hst:lI s.Definitions n st)
include hs hn hst
theorem aSQ {A:List (List bF)} {X:List bF} {i:Nat} (hX:ix A (i:Int)=some X) (hi:i < n) (hXl:X.length<=200) (hXg:∀ y∈X,aCf s.Definitions y):∀ (j a:Nat) (P:List aN) (M:List (aH × Bool)),a+j=X.length->aEG s.Definitions n P M->P.length+j<=6000000->
  ∃ P' M',loop (fun (t:(List aN × (List (aH × Bool)) × Int))=>lF s st (i:Int) (X,true) t.1 t.2.1 t.2.2) (P,M,(a:Int))=some (P',M')/\aEG s.Definitions n P' M'/\P'.length<=P.length+j/\
   loop (fun (t:(List aN × Int))=>pZ s st A (i:Int) t.1 t.2) (P,(a:Int))=some P'
 |0,a,P,M,ha,hI,hl=>by
  obtain rfl:a=X.length:=by omega
  refine ⟨P,M,?_,hI,by omega,?_⟩
  ·apply bA
   unfold lF
   rw [if_neg (by simp)]
  ·apply bA
   unfold pZ
   rw [hX,aA,if_neg (by simp)]
 |j+1,a,P,M,ha,hI,hl=>by
  have haX:a < X.length:=by omega
  obtain ⟨⟨nm,vs,hlb,hlab⟩,hq⟩:=hXg X[a] (List.getElem_mem haX)
  have hy:X[a]=⟨lab nm vs,X[a].Next⟩:=by rw [←hlab]
  obtain ⟨M1,m1,m2⟩:=mtake_one hs hn hst hlb hi hq hI (by omega)
  have hP1:=aUv (s:=s) P nm vs (i:Int) (-1) (st.set i X[a].Next)
  obtain ⟨P',M',e1,e2,e3,e4⟩:=aSQ hX hi hXl hXg j (a+1) _ M1 (by omega) m2 (by omega)
  refine ⟨P',M',?_,e2,by omega,?_⟩
  ·rw [fD]
   ·exact e1
   ·show lF s st (i:Int) (X,true) P M (a:Int)=_
    unfold lF
    rw [if_pos (aY haX),aU haX,aA,hlab,aJn hlb,aA,m1,aA,aV haX (by omega)]
  ·rw [fD]
   ·exact e4
   ·exact single_S hs hn hst hX hi haX hXl hlb hy hq hI.g (show P.length < 100000000 by omega)
theorem pair_I {sa:bF} {n1:aH} {v1:List Int} (h1:rN n1 v1) {i k b:Nat} (hi:i < n) (hk:k < n) (hq:PtG s.Definitions sa.Next) {Y:List bF} (hb:b < Y.length) (hYl:Y.length<=200) {n2:aH} {v2:List Int} (h2:rN n2 v2) (hlab:Y[b].B=lab n2 v2) (hr:PtG s.Definitions Y[b].Next)
  {P:List aN} {M:List (aH × Bool)} (hI:aEG s.Definitions n P M) (hl:P.length < 100000000):
  ∃ M',eX s.Definitions s.Components s.Meetings s.Allowed s.Hidden st (i:Int) (k:Int) Y sa (n1,v1,true) P M (b:Int)=some (.inl (aOg s P n1 v1 n2 v2 (i:Int) (k:Int) ((st.set i sa.Next).set k Y[b].Next),M',((b+1:Nat):Int)))/\aEG s.Definitions n (aOg s P n1 v1 n2 v2 (i:Int) (k:Int) ((st.set i sa.Next).set k Y[b].Next)) M':=by
 have hm:=meeting_I (s:=s) hs.lm n1 n2
 unfold eX
 rw [if_pos (aY hb),aU hb,aA,hlab,aJn h2,aA]
 show ∃ M',(ob (mK s n1 n2) fun r172=>if r172.2 then (ob (eL v1 v2) fun r216=>eW s.Definitions s.Components s.Meetings s.Allowed s.Hidden st (i:Int) (k:Int) sa (n1,v1,true) P M (b:Int) Y[b] r172 r216) else (eW s.Definitions s.Components s.Meetings s.Allowed s.Hidden st (i:Int) (k:Int) sa (n1,v1,true) P M (b:Int) Y[b] r172 false))=_/\_
 rw [hm,aA]
 unfold aOg
 cases hf:aJo s.Meetings n1 n2 with
 |none=>
  simp only [Bool.false_eq_true,if_false]
  unfold eW iF
  rw [if_neg (by simp),aV hb (by omega)]
  exact ⟨M,rfl,hI⟩
 |some m=>
  obtain ⟨g1,g2⟩:=aSP hs h1 hf
  simp only [if_true]
  rw [EqualI_eq _ _ (by have:=h1.2.1;omega),aA]
  unfold eW iF
  by_cases hv:v1=v2
  ·rw [decide_eq_true hv,if_pos rfl,if_pos hv]
   obtain ⟨M1,m1,m2⟩:=mtake_two hs hn hst g1 hi hk hq hr hI hl
   rw [m1,aA,aV hb (by omega)]
   exact ⟨M1,rfl,m2⟩
  ·rw [decide_eq_false hv,if_neg (by simp),if_neg hv,aV hb (by omega)]
   exact ⟨M,rfl,hI⟩
theorem pair_S {A:List (List bF)} {X Y:List bF} {i k a b:Nat} (hY:ix A (k:Int)=some Y) (hi:i < n) (hk:k < n) (ha:a < X.length) (hb:b < Y.length) (hYl:Y.length<=200) {n1 n2:aH} {v1 v2:List Int} (h1:rN n1 v1) (h2:rN n2 v2)
  (hl1:X[a].B=lab n1 v1) (hl2:Y[b].B=lab n2 v2) (hq:PtG s.Definitions X[a].Next) (hr:PtG s.Definitions Y[b].Next) {P:List aN} (hP:∀ y∈P,MvG s.Definitions n y) (hl:P.length<=200):
  iP s st A (i:Int) (k:Int) (a:Int) X P (b:Int)=some (.inl (aOg s P n1 v1 n2 v2 (i:Int) (k:Int) ((st.set i X[a].Next).set k Y[b].Next),((b+1:Nat):Int))):=by
 have hs1:=aNJ hst (i:=i) hq
 have hst':=aNJ hs1 (i:=k) hr
 have hlen:=hst.1
 unfold iP
 rw [hY,aA,if_pos (aY hb),decide_eq_true (by omega)]
 unfold oV
 rw [if_pos rfl,aU ha,aA,hY,aA,aU hb,aA,hl1,hl2,meet_S hs h1 h2,aA]
 unfold aOg vW
 cases hf:aJo s.Meetings n1 n2 with
 |none=>
  dsimp only
  rw [if_pos (show (([]:aH) == ([]:aH))=true from rfl),aV hb (by omega)]
 |some m=>
  obtain ⟨g1,g2⟩:=aSP hs h1 hf
  simp only
  by_cases hv:v1=v2
  ·rw [if_pos hv,if_pos hv]
   unfold aNI
   by_cases e:m.Result∈s.Allowed
   ·rw [if_pos e,if_pos (show m.Result=bS\/m.Result∈s.Allowed from .inr e),lab_nn g1,if_neg (by simp),aGt st (by omega) hst.val,aA,aU (show i < st.length by omega),aA,oO _ (show i < st.length by omega),aA,
     aU (show k < (st.set i X[a].Next).length by rw [List.length_set];omega),aA,oO _ (show k < (st.set i X[a].Next).length by rw [List.length_set];omega),aA,show_S hs g1,aA,aGt _ (by rw [List.length_set,List.length_set];omega) hst'.val,aA,aRA hP (by omega) (by omega),aA,aV hb (by omega)]
   ·rw [if_neg e,if_neg (show ¬ (m.Result=bS\/m.Result∈s.Allowed) from fun h=>h.elim g2 e),if_pos (show (([]:aH) == ([]:aH))=true from rfl),aV hb (by omega)]
  ·rw [if_neg hv,if_neg hv,if_pos (show (([]:aH) == ([]:aH))=true from rfl),aV hb (by omega)]
theorem pairs_b {A:List (List bF)} {X Y:List bF} {i k a:Nat} (hY:ix A (k:Int)=some Y) (hi:i < n) (hk:k < n) (ha:a < X.length) (hYl:Y.length<=200) (hYg:∀ y∈Y,aCf s.Definitions y) {n1:aH} {v1:List Int} (h1:rN n1 v1)
  (hl1:X[a].B=lab n1 v1) (hq:PtG s.Definitions X[a].Next):∀ (j b:Nat) (P:List aN) (M:List (aH × Bool)),b+j=Y.length->aEG s.Definitions n P M->P.length+j<=6000000->
  qJ s.Definitions n P j (loop (fun (t:(List aN × (List (aH × Bool)) × Int))=>eX s.Definitions s.Components s.Meetings s.Allowed s.Hidden st (i:Int) (k:Int) Y X[a] (n1,v1,true) t.1 t.2.1 t.2.2) (P,M,(b:Int)))
   (fun R=>loop (fun (t:(List aN × Int))=>iP s st A (i:Int) (k:Int) (a:Int) X t.1 t.2) (R,(b:Int)))
 |0,b,P,M,hb,hI,hl=>by
  obtain rfl:b=Y.length:=by omega
  have e1:loop (fun (t:(List aN × (List (aH × Bool)) × Int))=>eX s.Definitions s.Components s.Meetings s.Allowed s.Hidden st (i:Int) (k:Int) Y X[a] (n1,v1,true) t.1 t.2.1 t.2.2) (P,M,(Y.length:Int))=some (P,M):=by
   apply bA
   unfold eX
   rw [if_neg (by simp)]
  have e2:(fun R=>loop (fun (t:(List aN × Int))=>iP s st A (i:Int) (k:Int) (a:Int) X t.1 t.2) (R,(Y.length:Int)))=some:=by
   funext R
   apply bA
   unfold iP oV
   rw [hY,aA,if_neg (by simp),if_neg (by simp)]
  rw [e1,e2]
  exact qJ.none _ hI
 |j+1,b,P,M,hb,hI,hl=>by
  have hbY:b < Y.length:=by omega
  obtain ⟨⟨n2,v2,h2,hl2⟩,hr⟩:=hYg Y[b] (List.getElem_mem hbY)
  obtain ⟨M1,m1,m2⟩:=pair_I hs hn hst h1 hi hk hq hbY hYl h2 hl2 hr hI (by omega)
  have hP1:=pairM_len (s:=s) P n1 v1 n2 v2 (i:Int) (k:Int) ((st.set i X[a].Next).set k Y[b].Next)
  obtain ⟨P',M',e1,e2,e3,e4,e5⟩:=pairs_b hY hi hk ha hYl hYg h1 hl1 hq j (b+1) _ M1 (by omega) m2 (by omega)
  refine ⟨P',M',?_,e2,by omega,by omega,fun R hR hg hRl=>?_⟩
  ·rw [fD]
   ·exact e1
   ·exact m1
  ·by_cases h200:200 < R.length
   ·refine ⟨R,?_,hR.stop h200 (by omega),hg,Nat.le_refl _,by omega⟩
    apply bA
    unfold iP oV
    rw [hY,aA,if_pos (aY hbY),decide_eq_false (show ¬ (R.length:Int)<=200 by omega),if_neg (by simp)]
   ·obtain rfl:=hR.eq h200
    obtain ⟨R',c1,c2,c3,c4,c5⟩:=e5 _ (.inl rfl) m2.g (by omega)
    refine ⟨R',?_,c2,c3,by omega,by omega⟩
    show loop (fun (t:(List aN × Int))=>iP s st A (i:Int) (k:Int) (a:Int) X t.1 t.2) (P,(b:Int))=_
    rw [fD]
    ·exact c1
    ·exact pair_S hs hn hst hY hi hk ha hbY hYl h1 h2 hl1 hl2 hq hr hI.g (show P.length<=200 by omega)
theorem pairs_a {A:List (List bF)} {X Y:List bF} {i k:Nat} (hX:ix A (i:Int)=some X) (hY:ix A (k:Int)=some Y) (hi:i < n) (hk:k < n) (hXl:X.length<=200) (hXg:∀ y∈X,aCf s.Definitions y) (hYl:Y.length<=200) (hYg:∀ y∈Y,aCf s.Definitions y):
  ∀ (j a:Nat) (P:List aN) (M:List (aH × Bool)),a+j=X.length->aEG s.Definitions n P M->P.length+j * 200<=6000000->
  qJ s.Definitions n P (j * 200) (loop (fun (t:(List aN × (List (aH × Bool)) × Int))=>eY s.Definitions s.Components s.Meetings s.Allowed s.Hidden st (i:Int) (k:Int) X Y t.1 t.2.1 t.2.2) (P,M,(a:Int)))
   (fun R=>loop (fun (t:(List aN × Int))=>jG s st A (i:Int) (k:Int) t.1 t.2) (R,(a:Int)))
 |0,a,P,M,ha,hI,hl=>by
  obtain rfl:a=X.length:=by omega
  have e1:loop (fun (t:(List aN × (List (aH × Bool)) × Int))=>eY s.Definitions s.Components s.Meetings s.Allowed s.Hidden st (i:Int) (k:Int) X Y t.1 t.2.1 t.2.2) (P,M,(X.length:Int))=some (P,M):=by
   apply bA
   unfold eY
   rw [if_neg (by simp)]
  have e2:(fun R=>loop (fun (t:(List aN × Int))=>jG s st A (i:Int) (k:Int) t.1 t.2) (R,(X.length:Int)))=some:=by
   funext R
   apply bA
   unfold jG
   rw [hX,aA,if_neg (by simp)]
  rw [e1,e2]
  exact qJ.none _ hI
 |j+1,a,P,M,ha,hI,hl=>by
  have haX:a < X.length:=by omega
  obtain ⟨⟨n1,v1,h1,hl1⟩,hq⟩:=hXg X[a] (List.getElem_mem haX)
  have w:=qJ.seq (c2:=j * 200) ((pairs_b hs hn hst (a:=a) hY hi hk haX hYl hYg h1 hl1 hq Y.length 0 P M (by omega) hI (by omega)).mono hYl) (fun P1 M1 hI1 hl1=>pairs_a hX hY hi hk hXl hXg hYl hYg j (a+1) P1 M1 (by omega) hI1 (by omega))
  have hc:200+j * 200=(j+1) * 200:=by omega
  rw [hc] at w
  obtain ⟨P',M',e1,e2,e3,e4,e5⟩:=w
  refine ⟨P',M',?_,e2,e3,e4,fun R hR hg hRl=>?_⟩
  ·rw [←e1]
   cases hlp:loop (fun (t:(List aN × (List (aH × Bool)) × Int))=>eX s.Definitions s.Components s.Meetings s.Allowed s.Hidden st (i:Int) (k:Int) Y X[a] (n1,v1,true) t.1 t.2.1 t.2.2) (P,M,((0:Nat):Int)) with
   |none=>rw [hlp] at e1;cases e1
   |some r=>
    rw [aA]
    rw [fD]
    show eY s.Definitions s.Components s.Meetings s.Allowed s.Hidden st (i:Int) (k:Int) X Y P M (a:Int)=_
    unfold eY
    rw [if_pos (aY haX),aU haX,aA,hl1,aJn h1,aA]
    refine (congrArg (fun o=>ob o fun r=>mA (a:Int) r.1 r.2) hlp).trans ?_
    rw [aA]
    unfold mA lZ
    rw [aV haX (by omega)]
  ·obtain ⟨R',c1,c2⟩:=e5 R hR hg hRl
   refine ⟨R',?_,c2⟩
   cases hlp:loop (fun (t:(List aN × Int))=>iP s st A (i:Int) (k:Int) (a:Int) X t.1 t.2) (R,((0:Nat):Int)) with
   |none=>simp only [hlp] at c1;cases c1
   |some r=>
    simp only [hlp] at c1
    rw [←c1,aA]
    show loop (fun (t:(List aN × Int))=>jG s st A (i:Int) (k:Int) t.1 t.2) (R,(a:Int))=_
    rw [fD]
    show jG s st A (i:Int) (k:Int) R (a:Int)=_
    unfold jG
    rw [hX,aA,if_pos (aY haX)]
    refine (congrArg (fun o=>ob o fun r=>vV (a:Int) r) hlp).trans ?_
    rw [aA]
    unfold vV aBw
    rw [aV haX (by omega)]
end
end Gv
namespace Gv
open Go
section
variable {l:List Definition} {n:Nat}
theorem qJ.loop {N c k0:Nat} {stepI:(List aN × (List (aH × Bool)) × Int)->Option ((List aN × (List (aH × Bool)) × Int) ⊕ (List aN × (List (aH × Bool))))} {stepS:(List aN × Int)->Option ((List aN × Int) ⊕ List aN)}
  {fI:Nat->List aN->List (aH × Bool)->Option (List aN × List (aH × Bool))} {fS:Nat->List aN->Option (List aN)}
  (hI:∀ k P M P' M',k < N->fI k P M=some (P',M')->stepI (P,M,(k:Int))=some (.inl (P',M',((k+1:Nat):Int))))
  (hI0:∀ P M,stepI (P,M,(N:Int))=some (.inr (P,M)))
  (hS:∀ k R R',k < N->fS k R=some R'->stepS (R,(k:Int))=some (.inl (R',((k+1:Nat):Int))))
  (hS0:∀ R,stepS (R,(N:Int))=some (.inr R))
  (hW:∀ k P M,k0<=k->k < N->aEG l n P M->P.length+c<=6000000->qJ l n P c (fI k P M) (fS k)):
  ∀ (j k:Nat) (P:List aN) (M:List (aH × Bool)),k0<=k->k+j=N->aEG l n P M->P.length+j * c<=6000000->qJ l n P (j * c) (Gv.loop stepI (P,M,(k:Int))) (fun R=>Gv.loop stepS (R,(k:Int)))
 |0,k,P,M,hk0,hk,hIn,hl=>by
  obtain rfl:k=N:=by omega
  have e1:Gv.loop stepI (P,M,(k:Int))=some (P,M):=bA (hI0 P M)
  have e2:(fun R=>Gv.loop stepS (R,(k:Int)))=some:=by funext R;exact bA (hS0 R)
  rw [e1,e2]
  exact qJ.none _ hIn
 |j+1,k,P,M,hk0,hk,hIn,hl=>by
  have hmul:(j+1) * c=c+j * c:=by rw [Nat.succ_mul,Nat.add_comm]
  have w:=qJ.seq (f2:=fun P1 M1=>Gv.loop stepI (P1,M1,((k+1:Nat):Int))) (g2:=fun R=>Gv.loop stepS (R,((k+1:Nat):Int))) (hW k P M hk0 (by omega) hIn (by omega)) (fun P1 M1 h1 h2=>qJ.loop hI hI0 hS hS0 hW j (k+1) P1 M1 (by omega) (by omega) h1 (by omega))
  rw [hmul]
  obtain ⟨P',M',e1,e2,e3,e4,e5⟩:=w
  refine ⟨P',M',?_,e2,e3,e4,fun R hR hg hRl=>?_⟩
  ·cases hf:fI k P M with
   |none=>rw [hf] at e1;cases e1
   |some r=>rw [hf,aA] at e1;rw [←e1,fD (hI k P M r.1 r.2 (by omega) hf)]
  ·obtain ⟨R',c1,c2⟩:=e5 R hR hg hRl
   refine ⟨R',?_,c2⟩
   cases hf:fS k R with
   |none=>simp only [hf] at c1;cases c1
   |some r=>simp only [hf,aA] at c1;rw [←c1];exact fD (hS k R r (by omega) hf)
end
def AllS (l:List Definition) (A:List (List bF)):Prop:=∀ X∈A,X.length<=200/\∀ y∈X,aCf l y
section
variable {s:aR} (hs:aFG s) {n:Nat} (hn:n<=3) {st:List GPoint} (hst:lI s.Definitions n st)
include hs hn hst
theorem pairs_k {A:List (List bF)} (hA:A.length=n) (hG:AllS s.Definitions A) {i:Nat} (hi:i < n):∀ (j k:Nat) (P:List aN) (M:List (aH × Bool)),0<=k->k+j=n->aEG s.Definitions n P M->P.length+j * 40000<=6000000->
  qJ s.Definitions n P (j * 40000) (loop (fun (t:(List aN × (List (aH × Bool)) × Int))=>iL s st A (i:Int) t.1 t.2.1 t.2.2) (P,M,(k:Int))) (fun R=>loop (fun (t:(List aN × Int))=>kX s st A (i:Int) t.1 t.2) (R,(k:Int))):=by
 have hlen:=hst.1
 have hiA:i < A.length:=by omega
 refine qJ.loop (N:=n) (c:=40000) (k0:=0)
  (fI:=fun k P M=>loop (fun (t:(List aN × (List (aH × Bool)) × Int))=>eY s.Definitions s.Components s.Meetings s.Allowed s.Hidden st (i:Int) (k:Int) A[i] (A.getD k []) t.1 t.2.1 t.2.2) (P,M,((0:Nat):Int)))
  (fS:=fun k R=>loop (fun (t:(List aN × Int))=>jG s st A (i:Int) (k:Int) t.1 t.2) (R,((0:Nat):Int)))
  (fun k P M P' M' hk hf=>?_) (fun P M=>?_) (fun k R R' hk hf=>?_) (fun R=>?_) (fun k P M _ hk hI hl=>?_)
 ·have hkA:k < A.length:=by omega
  have hg:A.getD k []=A[k]:=by simp [List.getD,hkA]
  rw [hg] at hf
  show iL s st A (i:Int) P M (k:Int)=_
  unfold iL pG
  rw [if_pos (by rw [hlen];exact aY hk),aU hiA,aA,aU hkA,aA]
  refine (congrArg (fun o=>ob (ob o fun r=>lY r.1 r.2) fun r168=>some (Sum.inl (r168.1,r168.2,wr ((k:Int)+1)))) hf).trans ?_
  rw [aA]
  unfold lY
  rw [aA,aV hk (by omega)]
 ·show iL s st A (i:Int) P M (n:Int)=_
  unfold iL
  rw [if_neg (by rw [hlen];simp)]
 ·show kX s st A (i:Int) R (k:Int)=_
  unfold kX
  rw [if_pos (by rw [hlen];exact aY hk)]
  refine (congrArg (fun o=>ob o fun r=>vU (k:Int) r) hf).trans ?_
  rw [aA]
  unfold vU aBv
  rw [aV hk (by omega)]
 ·show kX s st A (i:Int) R (n:Int)=_
  unfold kX
  rw [if_neg (by rw [hlen];simp)]
 ·have hkA:k < A.length:=by omega
  have hg:A.getD k []=A[k]:=by simp [List.getD,hkA]
  obtain ⟨x1,x2⟩:=hG A[i] (List.getElem_mem hiA)
  obtain ⟨y1,y2⟩:=hG A[k] (List.getElem_mem hkA)
  rw [hg]
  exact (pairs_a hs hn hst (aU hiA) (aU hkA) hi hk x1 x2 y1 y2 A[i].length 0 P M (by omega) hI (by omega)).mono (by omega)
theorem pairs_i {A:List (List bF)} (hA:A.length=n) (hG:AllS s.Definitions A):∀ (j i:Nat) (P:List aN) (M:List (aH × Bool)),0<=i->i+j=n->aEG s.Definitions n P M->P.length+j * 120000<=6000000->
  qJ s.Definitions n P (j * 120000) (loop (fun (t:(List aN × (List (aH × Bool)) × Int))=>jL s st A t.1 t.2.1 t.2.2) (P,M,(i:Int))) (fun R=>loop (fun (t:(List aN × Int))=>mQ s st A t.1 t.2) (R,(i:Int))):=by
 have hlen:=hst.1
 refine qJ.loop (N:=n) (c:=120000) (k0:=0)
  (fI:=fun i P M=>loop (fun (t:(List aN × (List (aH × Bool)) × Int))=>iL s st A (i:Int) t.1 t.2.1 t.2.2) (P,M,((i+1:Nat):Int)))
  (fS:=fun i R=>loop (fun (t:(List aN × Int))=>kX s st A (i:Int) t.1 t.2) (R,((i+1:Nat):Int)))
  (fun k P M P' M' hk hf=>?_) (fun P M=>?_) (fun k R R' hk hf=>?_) (fun R=>?_) (fun k P M _ hk hI hl=>?_)
 ·show jL s st A P M (k:Int)=_
  unfold jL
  rw [if_pos (by rw [hlen];exact aY hk),aV hk (by omega)]
  refine (congrArg (fun o=>ob o fun r=>sV (k:Int) r.1 r.2) hf).trans ?_
  rw [aA]
  unfold sV sU
  rw [aV hk (by omega)]
 ·show jL s st A P M (n:Int)=_
  unfold jL
  rw [if_neg (by rw [hlen];simp)]
 ·show mQ s st A R (k:Int)=_
  unfold mQ
  rw [if_pos (by rw [hlen];exact aY hk),aV hk (by omega)]
  refine (congrArg (fun o=>ob o fun r=>vT (k:Int) r) hf).trans ?_
  rw [aA]
  unfold vT aBu
  rw [aV hk (by omega)]
 ·show mQ s st A R (n:Int)=_
  unfold mQ
  rw [if_neg (by rw [hlen];simp)]
 ·exact (pairs_k hs hn hst hA hG hk (n - (k+1)) (k+1) P M (by omega) (by omega) hI (by omega)).mono (by omega)
theorem aUw:∀ (j i:Nat) (P:List aN) (M:List (aH × Bool)) (acc:List (List bF)),i+j=n->acc.length=i->aEG s.Definitions n P M->P.length+j * 200<=6000000->
  (∃ rest P' M',rest.length=j/\AllS s.Definitions rest/\loop (fun (t:(List aN × (List (aH × Bool)) × List (List bF) × Int))=>hQ s st t.1 t.2.1 t.2.2.1 t.2.2.2) (P,M,acc,(i:Int))=some (.inl (P',M',acc++rest))/\aEG s.Definitions n P' M'/\P'.length<=P.length+j * 200/\
   loop (fun (t:(List (List bF) × Int))=>kZ s st t.1 t.2) (acc,(i:Int))=some (.inl (acc++rest))/\loop (fun (t:(List aN × Int))=>qA s st (acc++rest) t.1 t.2) (P,(i:Int))=some P')\/
  (loop (fun (t:(List aN × (List (aH × Bool)) × List (List bF) × Int))=>hQ s st t.1 t.2.1 t.2.2.1 t.2.2.2) (P,M,acc,(i:Int))=some (.inr ([],false))/\loop (fun (t:(List (List bF) × Int))=>kZ s st t.1 t.2) (acc,(i:Int))=some (.inr ([],false)))
 |0,i,P,M,acc,hi,ha,hI,hl=>by
  have hlen:=hst.1
  obtain rfl:i=st.length:=by omega
  left
  refine ⟨[],P,M,rfl,fun X hX=>(by cases hX),?_,hI,by omega,?_,?_⟩
  ·apply bA
   unfold hQ
   rw [if_neg (by simp),List.append_nil]
  ·apply bA
   unfold kZ
   rw [if_neg (by simp),List.append_nil]
  ·apply bA
   unfold qA
   rw [if_neg (by simp)]
 |j+1,i,P,M,acc,hi,ha,hI,hl=>by
  have hlen:=hst.1
  have hist:i < st.length:=by omega
  rcases aVR hs.ok.defs (hst.2 st[i] (List.getElem_mem hist)) with ⟨X,x1,x2,x3,x4,_⟩|⟨X,Y,x1,x2,_⟩
  ·have hX0:ix (acc++[X]) (i:Int)=some X:=by rw [gK,←ha];simp
   obtain ⟨P1,M1,a1,a2,a3,a4⟩:=aSQ hs hn hst hX0 (by omega) x3 x4 X.length 0 P M (by omega) hI (by omega)
   have sI:hQ s st P M acc (i:Int)=some (.inl (P1,M1,acc++[X],((i+1:Nat):Int))):=by
    unfold hQ
    rw [if_pos (aY hist),aU hist,aA,x1,aA,if_neg (by simp),dM (by unfold fG;simp;omega),aA]
    refine (congrArg (fun o=>ob o fun r=>oI (i:Int) (acc++[X]) r.1 r.2) a1).trans ?_
    rw [aA]
    unfold oI sW
    rw [aV hist (by omega)]
   have sS:kZ s st acc (i:Int)=some (.inl (acc++[X],((i+1:Nat):Int))):=by
    unfold kZ
    rw [if_pos (aY hist),aU hist,aA,x2,aA,if_neg (by simp),dM (by unfold fG;simp;omega),aA,aV hist (by omega)]
   rcases aUw j (i+1) P1 M1 (acc++[X]) (by omega) (by simp;omega) a2 (by omega) with ⟨rest,P',M',b1,b2,b3,b4,b5,b6,b7⟩|⟨b1,b2⟩
   ·left
    have happ:acc++[X]++rest=acc++X::rest:=by simp
    rw [happ] at b3 b6 b7
    refine ⟨X::rest,P',M',by simp;omega,fun Z hZ=>?_,?_,b4,by omega,?_,?_⟩
    ·rcases List.mem_cons.1 hZ with rfl|hZ
     ·exact ⟨x3,x4⟩
     ·exact b2 Z hZ
    ·rw [fD]
     ·exact b3
     ·exact sI
    ·rw [fD]
     ·exact b6
     ·exact sS
    ·have hX1:ix (acc++X::rest) (i:Int)=some X:=by rw [gK,←ha];simp
     obtain ⟨P2,M2,c1,c2,c3,c4⟩:=aSQ hs hn hst hX1 (by omega) x3 x4 X.length 0 P M (by omega) hI (by omega)
     have:P2=P1:=by
      have e:=a1.symm.trans c1
      simp only [Option.some.injEq,Prod.mk.injEq] at e
      exact e.1.symm
     subst this
     rw [fD]
     ·exact b7
     ·show qA s st (acc++X::rest) P (i:Int)=_
      unfold qA
      rw [if_pos (aY hist)]
      refine (congrArg (fun o=>ob o fun r=>pX (i:Int) r) c4).trans ?_
      rw [aA]
      unfold pX aAf
      rw [aV hist (by omega)]
   ·right
    refine ⟨?_,?_⟩
    ·rw [fD]
     ·exact b1
     ·exact sI
    ·rw [fD]
     ·exact b2
     ·exact sS
  ·right
   refine ⟨?_,?_⟩
   ·apply bA
    unfold hQ
    rw [if_pos (aY hist),aU hist,aA,x1,aA,if_pos (by simp)]
   ·apply bA
    unfold kZ
    rw [if_pos (aY hist),aU hist,aA,x2,aA,if_pos (by simp)]
theorem aVS:(∃ X,fR s st=some (X,true)/\rD s st=some (X,true)/\X.length<=200/\∀ y∈X,MvG s.Definitions n y)\/(∃ X Y,fR s st=some (X,false)/\rD s st=some (Y,false)/\Y.length<=6000000/\X.length<=6000000/\∀ y∈X,MvG s.Definitions n y):=by
 have hlen:=hst.1
 have hI0:aEG s.Definitions n [] []:=⟨fun y hy=>(by cases hy),aUq _⟩
 rcases aUw hs hn hst n 0 [] [] [] (by omega) rfl hI0 (by simp only [List.length_nil];omega) with ⟨A,P1,M1,b1,b2,b3,b4,b5,b6,b7⟩|⟨b1,b2⟩
 ·rw [List.nil_append] at b3 b6 b7
  obtain ⟨P2,M2,e1,e2,e3,e4,e5⟩:=pairs_i hs hn hst b1 b2 n 0 P1 M1 (by omega) (by omega) b4 (by simp only [List.length_nil] at b5;omega)
  obtain ⟨R,c1,c2,c3,c4,c5⟩:=e5 P1 (.inl rfl) b4.g (by simp only [List.length_nil] at b5;omega)
  have gI:fR s st=some (P2,decide ((P2.length:Int)<=200)):=by
   unfold fR
   refine (congrArg (fun o=>ob o fun r=>match r with|.inl r=>jM s st r.1 r.2.1 r.2.2|.inr r=>some r) b3).trans ?_
   show jM s st P1 M1 A=_
   unfold jM
   refine (congrArg (fun o=>ob o fun r=>aAw r.1 r.2) e1).trans ?_
   rfl
  have gS:rD s st=some (R,decide ((R.length:Int)<=200)):=by
   unfold rD
   refine (congrArg (fun o=>ob o fun r=>match r with|.inl r=>kY s st r|.inr r=>some r) b6).trans ?_
   show kY s st A=_
   unfold kY
   refine (congrArg (fun o=>ob o fun r=>mR s st A r) b7).trans ?_
   show mR s st A P1=_
   unfold mR
   refine (congrArg (fun o=>ob o fun r=>vS r) c1).trans ?_
   rfl
  have hPl:P2.length<=6000000:=by simp only [List.length_nil] at b5;omega
  have hRl:R.length<=6000000:=by simp only [List.length_nil] at b5;omega
  rw [gI,gS]
  rcases c2 with rfl|c2
  ·by_cases hl:P2.length<=200
   ·left;exact ⟨P2,by rw [decide_eq_true (by omega)],by rw [decide_eq_true (by omega)],hl,c3⟩
   ·right;exact ⟨P2,P2,by rw [decide_eq_false (by omega)],by rw [decide_eq_false (by omega)],hRl,hPl,e2.g⟩
  ·right;exact ⟨P2,R,by rw [decide_eq_false (by omega)],by rw [decide_eq_false (by omega)],hRl,hPl,e2.g⟩
 ·right
  refine ⟨[],[],?_,?_,by simp,by simp,fun y hy=>by cases hy⟩
  ·unfold fR
   refine (congrArg (fun o=>ob o fun r=>match r with|.inl r=>jM s st r.1 r.2.1 r.2.2|.inr r=>some r) b1).trans ?_
   rfl
  ·unfold rD
   refine (congrArg (fun o=>ob o fun r=>match r with|.inl r=>kY s st r|.inr r=>some r) b2).trans ?_
   rfl
end
end Gv
namespace Gv
open Go
theorem aUx {s:aR} (hs:aFG s):lI s.Definitions s.Components.length (stT0 s):=⟨by unfold stT0;simp,aUu hs.ok⟩
end Gv
