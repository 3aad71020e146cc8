/- Numbers and lists of numbers as texts; labels that are made and read again, on both sides. -/
import Derived.Test.YtfhgggimcgajdaaGreatDoorJP320
set_option linter.all false
namespace Gv
open Go
theorem ofn48 {n:Nat} (h:n < 10):(UInt8.ofNat (48+n)).toNat=48+n:=by simp;omega
theorem dig48 {n:Nat} (h:n < 10):dig (UInt8.ofNat (48+n))=true:=by rw [vI,ofn48 h];omega
theorem dd_all (u:Nat):(Lib.decDigits u).all dig=true:=by
 induction u using Nat.strongRecOn with
 |_ u ih=>
  by_cases h:u < 10
  ·rw [Lib.decDigits_one h];simp only [List.all_cons,List.all_nil,Bool.and_true];exact dig48 h
  ·rw [Lib.decDigits,dif_neg h,List.all_append,ih (u / 10) (by omega)]
   simp only [List.all_cons,List.all_nil,Bool.and_true,Bool.true_and];exact dig48 (by omega)
theorem dd_ne (u:Nat):Lib.decDigits u≠[]:=by
 rw [Lib.decDigits]
 split<;>simp
theorem val_app (n:Int) (l:bJ) (c:UInt8):val n (l++[c])=10 * val n l+((c.toNat:Int) - 48):=by unfold val;rw [List.foldl_append];rfl
theorem dd_val (u:Nat):val 0 (Lib.decDigits u)=u:=by
 induction u using Nat.strongRecOn with
 |_ u ih=>
  by_cases h:u < 10
  ·rw [Lib.decDigits_one h];simp only [val,List.foldl_cons,List.foldl_nil,ofn48 h];omega
  ·rw [Lib.decDigits,dif_neg h,val_app,ih (u / 10) (by omega),ofn48 (n:=u % 10) (by omega)];omega
theorem dd_head (u:Nat) (h:u≠0):(Lib.decDigits u).head?≠some 48:=by
 induction u using Nat.strongRecOn with
 |_ u ih=>
  by_cases h10:u < 10
  ·rw [Lib.decDigits_one h10]
   intro e
   simp only [List.head?_cons,Option.some.injEq] at e
   have:=ofn48 h10
   rw [e] at this
   have h48:(48:UInt8).toNat=48:=rfl
   omega
  ·rw [Lib.decDigits,dif_neg h10]
   have:=ih (u / 10) (by omega) (by omega)
   cases hd:Lib.decDigits (u / 10) with
   |nil=>exact absurd hd (dd_ne _)
   |cons c r=>rw [hd] at this;simpa using this
theorem aJK {n:Int} (h:0<=n):Lib.itoa n=Lib.decDigits n.toNat:=by unfold Lib.itoa;rw [if_neg (by omega)]
theorem oK {n:Int} (h:0<=n):(Lib.itoa n).all dig=true:=by rw [aJK h];exact dd_all _
theorem itoa_ne {n:Int} (h:0<=n):Lib.itoa n≠[]:=by rw [aJK h];exact dd_ne _
theorem aHu {n:Int} (h:0<=n):val 0 (Lib.itoa n)=n:=by rw [aJK h,dd_val];omega
theorem aFF {a b:Int} (ha:0<=a) (hb:0<=b) (h:Lib.itoa a=Lib.itoa b):a=b:=by rw [←aHu ha,←aHu hb,h]
theorem sM {s:bJ} {c:UInt8} (h:s.all dig=true) (hc:dig c=false):c∉s:=fun hm=>by have:=List.all_eq_true.1 h c hm;rw [hc] at this;cases this
theorem aEK {c:UInt8}:∀ {a b x y:bJ},c∉a->c∉b->a++c::x=b++c::y->a=b/\x=y
 |[],[],x,y,_,_,h=>by simpa using h
 |[],d::b,x,y,_,hb,h=>by simp at h;exact absurd (by rw [h.1];simp) hb
 |d::a,[],x,y,ha,_,h=>by simp at h;exact absurd (by rw [h.1];simp) ha
 |d::a,e::b,x,y,ha,hb,h=>by
  simp only [List.cons_append,List.cons.injEq] at h
  obtain ⟨h1,h2⟩:=aEK (a:=a) (b:=b) (fun m=>ha (by simp [m])) (fun m=>hb (by simp [m])) h.2
  exact ⟨by rw [h.1,h1],h2⟩
def dgs (m:Nat):List UInt8:=if h:m=0 then [] else UInt8.ofNat (48+m % 10)::dgs (m / 10)
termination_by m
decreasing_by omega
theorem dgs_rev (m:Nat) (h:m≠0):(dgs m).reverse=Lib.decDigits m:=by
 induction m using Nat.strongRecOn with
 |_ m ih=>
  rw [dgs,dif_neg h,List.reverse_cons]
  by_cases h10:m < 10
  ·rw [Lib.decDigits_one h10,show m / 10=0 by omega,dgs,dif_pos rfl,show m % 10=m by omega];rfl
  ·rw [ih (m / 10) (by omega) (by omega)]
   conv=>rhs;rw [Lib.decDigits,dif_neg h10]
theorem dgs_len (m:Nat) (k:Nat) (h:m < 10 ^ k):(dgs m).length<=k:=by
 induction k generalizing m with
 |zero=>simp at h;subst h;rw [dgs,dif_pos rfl];simp
 |succ k ih=>
  rw [dgs]
  split
  ·simp
  ·have:=ih (m / 10) (by rw [Nat.pow_succ] at h;omega)
   rw [List.length_cons];omega
theorem mW {n:Int} (h:0<=n) (h2:n < 4611686018427387904):(Lib.itoa n).length<=21:=by
 rw [aJK h]
 by_cases h0:n.toNat=0
 ·rw [h0,Lib.decDigits_one (by omega)];simp
 ·rw [←dgs_rev _ h0,List.length_reverse]
  have:=dgs_len n.toNat 19 (by
    have:(10:Nat) ^ 19=10000000000000000000:=by decide
    omega)
  omega
theorem u8_48 {d:Nat} (h:d < 10):UInt8.ofInt (wr (48+(d:Int)))=UInt8.ofNat (48+d):=by
 rw [iC (by omega) (by omega)]
 have:d=0\/d=1\/d=2\/d=3\/d=4\/d=5\/d=6\/d=7\/d=8\/d=9:=by omega
 rcases this with rfl|rfl|rfl|rfl|rfl|rfl|rfl|rfl|rfl|rfl<;>rfl
theorem dgs_loop:∀ (k m:Nat) (out:List UInt8),m < 10 ^ k->out.length+k<=1000->m < 4611686018427387904->loop (fun s=>aCh s.1 s.2) (out,(m:Int))=some (out++dgs m):=by
 intro k
 induction k with
 |zero=>
  intro m out h _ _
  simp at h;subst h
  rw [dgs,dif_pos rfl,List.append_nil]
  exact fP rfl
 |succ k ih=>
  intro m out h ho hm
  by_cases h0:m=0
  ·subst h0
   rw [dgs,dif_pos rfl,List.append_nil]
   exact fP rfl
  ·have hst:aCh out (m:Int)=some (.inl (out++[UInt8.ofNat (48+m % 10)],((m / 10:Nat):Int))):=by
    unfold aCh
    have hrm:rm (m:Int) 10=some ((m % 10:Nat):Int):=by unfold rm;rw [if_neg (by omega)];congr 1
    have hqu:qu (m:Int) 10=some ((m / 10:Nat):Int):=by
     unfold qu
     rw [if_neg (by omega)]
     have e:(m:Int).tdiv 10=((m / 10:Nat):Int):=by rw [Int.tdiv_eq_ediv_of_nonneg (by omega)];omega
     rw [e,iC (by omega) (by omega)]
    rw [if_pos (by simp;exact h0),hrm,aE,if_neg (by simp;omega)]
    unfold aCg
    rw [u8_48 (by omega),iR (by unfold jN;simp;omega),aE,hqu,aE]
   rw [fF hst]
   rw [ih (m / 10) _ (by rw [Nat.pow_succ] at h;omega) (by simp;omega) (by omega)]
   conv=>rhs;rw [dgs,dif_neg h0]
   simp
theorem rev_loop (ds:List UInt8) (hl:ds.length < 1000):∀ (k:Nat) (out:List UInt8),k<=ds.length->out.length+k<=1000->loop (fun s=>aCd ds s.1 s.2) (out,(k:Int) - 1)=some (out++(ds.take k).reverse):=by
 intro k
 induction k with
 |zero=>
  intro out _ _
  rw [List.take_zero,List.reverse_nil,List.append_nil]
  exact fP rfl
 |succ k ih=>
  intro out hk ho
  have hkl:k < ds.length:=by omega
  have hst:aCd ds out (((k+1:Nat):Int) - 1)=some (.inl (out++[ds[k]],(k:Int) - 1)):=by
   rw [show (((k+1:Nat):Int) - 1)=(k:Int) by omega]
   unfold aCd
   rw [if_pos (by simp),cZ hkl,aE,iR (by unfold jN;simp;omega),aE,iC (by omega) (by omega)]
  have ht:ds.take (k+1)=ds.take k++[ds[k]]:=by rw [List.take_add_one];simp [hkl]
  rw [fF hst,ih _ (by omega) (by simp;omega),ht,List.reverse_append,List.append_assoc]
  rfl
theorem aKw {n:Int} (h:0<=n) (h2:n < 4611686018427387904):aDP n=some (Lib.itoa n):=by
 unfold aDP
 by_cases h0:n=0
 ·subst h0;rw [if_pos (by rfl),aJK (by omega),show ((0:Int)).toNat=0 from rfl,Lib.decDigits_one (by omega)];rfl
 ·rw [if_neg (by simp;exact h0)]
  obtain ⟨m,rfl⟩:∃ m:Nat,n=(m:Int):=⟨n.toNat,by omega⟩
  have hp:m < 10 ^ 19:=by
    have:(10:Nat) ^ 19=10000000000000000000:=by decide
    omega
  rw [dgs_loop 19 m [] hp (by simp) (by omega),aE,List.nil_append]
  unfold aCf aCe
  have hdl:=dgs_len m 19 hp
  rw [if_neg (by simp),iC (by omega) (by omega),rev_loop (dgs m) (by omega) (dgs m).length [] (by omega) (by simp;omega),aE,List.nil_append,List.take_length,dgs_rev m (by omega),aJK (by omega)]
  rfl
def iJ (vs:List Int):bJ:=Lib.join (vs.map Lib.itoa) [44]
theorem aDA (v:Int):iJ [v]=Lib.itoa v:=by unfold iJ;rw [List.map_cons,List.map_nil,Lib.join_one]
theorem aBt (v w:Int) (vs:List Int):iJ (v::w::vs)=Lib.itoa v++44::iJ (w::vs):=by
 unfold iJ
 simp only [List.map_cons,Lib.join_cons,Lib.joinTail,List.flatten_cons]
 simp
theorem aMM:∀ (vs:List Int) (v:Int),vs≠[]->iJ (vs++[v])=iJ vs++[44]++Lib.itoa v
 |[],_,h=>absurd rfl h
 |[a],v,_=>by rw [List.singleton_append,aBt,aDA,aDA];simp
 |a::b::vs,v,_=>by
  rw [List.cons_append,List.cons_append,aBt,aBt,←List.cons_append,aMM (b::vs) v (by simp)]
  simp
theorem spl_no {b:UInt8}:∀ {s:bJ},b∉s->spl b s=[s]
 |[],_=>rfl
 |c::r,h=>by
  have hc:(c == b)=false:=by simp;intro e;exact h (by simp [e])
  rw [aHp,spl_no (s:=r) (fun m=>h (by simp [m])),hc];rfl
theorem spl_app {b:UInt8}:∀ {s:bJ} (r:bJ),b∉s->spl b (s++b::r)=s::spl b r
 |[],r,_=>by rw [List.nil_append,aHp];simp
 |c::s,r,h=>by
  have hc:(c == b)=false:=by simp;intro e;exact h (by simp [e])
  rw [List.cons_append,aHp,spl_app (s:=s) r (fun m=>h (by simp [m])),hc];rfl
theorem aFG:∀ {vs:List Int},vs≠[]->(∀ v∈vs,0<=v)->spl 44 (iJ vs)=vs.map Lib.itoa
 |[],h,_=>absurd rfl h
 |[v],_,h=>by rw [aDA,spl_no (sM (oK (h v (by simp))) rfl)];rfl
 |v::w::vs,_,h=>by
  rw [aBt,spl_app _ (sM (oK (h v (by simp))) rfl),aFG (vs:=w::vs) (by simp) (fun x hx=>h x (List.mem_cons_of_mem _ hx))]
  rfl
theorem joinC_inj {vs us:List Int} (h1:vs≠[]) (h2:us≠[]) (p1:∀ v∈vs,0<=v) (p2:∀ v∈us,0<=v) (h:iJ vs=iJ us):vs=us:=by
 have:=congrArg (spl 44) h
 rw [aFG h1 p1,aFG h2 p2] at this
 clear h h1 h2
 induction vs generalizing us with
 |nil=>simp at this;exact this.symm
 |cons v vs ih=>
  cases us with
  |nil=>simp at this
  |cons u us=>
   simp only [List.map_cons,List.cons.injEq] at this
   rw [aFF (p1 v (by simp)) (p2 u (by simp)) this.1,ih (fun x hx=>p1 x (List.mem_cons_of_mem _ hx)) (us:=us) (fun x hx=>p2 x (List.mem_cons_of_mem _ hx)) this.2]
theorem aHN:∀ {vs:List Int},(∀ v∈vs,0<=v)->∀ c∈iJ vs,dig c=true\/c=44
 |[],_,c,h=>by simp [iJ,Lib.join_nil] at h
 |[v],p,c,h=>by rw [aDA] at h;exact .inl (List.all_eq_true.1 (oK (p v (by simp))) c h)
 |v::w::vs,p,c,h=>by
  rw [aBt] at h
  rcases List.mem_append.1 h with h|h
  ·exact .inl (List.all_eq_true.1 (oK (p v (by simp))) c h)
  ·rcases List.mem_cons.1 h with h|h
   ·exact .inr h
   ·exact aHN (vs:=w::vs) (fun x hx=>p x (List.mem_cons_of_mem _ hx)) c h
theorem vK:∀ {vs:List Int},(∀ v∈vs,0<=v/\v < 4611686018427387904)->(iJ vs).length<=22 * vs.length
 |[],_=>by simp [iJ,Lib.join_nil]
 |[v],p=>by rw [aDA];have:=mW (p v (by simp)).1 (p v (by simp)).2;simp;omega
 |v::w::vs,p=>by
  rw [aBt,List.length_append,List.length_cons]
  have h1:=mW (p v (by simp)).1 (p v (by simp)).2
  have h2:=vK (vs:=w::vs) (fun x hx=>p x (List.mem_cons_of_mem _ hx))
  simp only [List.length_cons] at h2 ⊢
  omega
theorem joined_C {vs:List Int} (hl:vs.length < 1000000) (p:∀ v∈vs,0<=v/\v < 4611686018427387904):aDS vs [44]=some (iJ vs):=by
 have:=vK p
 exact aNS vs [44] (by omega) (fun x hx=>by have:=p x hx;omega) (by unfold iJ at this;unfold jN;omega)
def aKx (vs:List Int):bJ:=if vs.length=0 then [45] else iJ vs
theorem aRo {vs:List Int} (hl:vs.length < 1000000) (p:∀ v∈vs,0<=v/\v < 4611686018427387904):aFl vs=some (aKx vs):=by
 unfold aFl aKx
 by_cases h0:vs.length=0
 ·rw [if_pos (by simp [h0]),if_pos h0]
 rw [if_neg (by simpa using h0),if_neg h0]
 have key:=aBa (step:=fun s:bJ × Int=>qS vs s.1 s.2) vs.length (fun k (out:bJ)=>(out,(k:Int))) (fun _ _=>iJ vs) (fun k out=>out=iJ (vs.take k)) (fun k out hk hI=>?_) (fun out hI=>?_) vs.length 0 [] (by omega) (by simp [iJ,Lib.join_nil])
 ·rw [show (([]:bJ),(0:Int))=(([]:bJ),((0:Nat):Int)) from rfl,key];rfl
 ·left
  have hm:vs[k]∈vs:=List.getElem_mem hk
  obtain ⟨q1,q2⟩:=p _ hm
  have hil:=mW q1 q2
  have hjl:=vK (vs:=vs.take k) (fun v hv=>p v (List.mem_of_mem_take hv))
  rw [List.length_take] at hjl
  rw [←hI] at hjl
  refine ⟨iJ (vs.take (k+1)),?_,rfl,rfl⟩
  have hst:vs.take (k+1)=vs.take k++[vs[k]]:=by rw [List.take_add_one];simp [hk]
  show qS vs out (k:Int)=_
  unfold qS aAn
  rw [if_pos (cR hk)]
  simp only [cZ hk,aE,aKw q1 q2,cO hk (show vs.length < 4611686018427387904 by omega)]
  by_cases hk0:k=0
  ·subst hk0
   rw [List.take_zero] at hI
   have:out=[]:=by rw [hI];simp [iJ,Lib.join_nil]
   subst this
   rw [if_neg (by simp),lA (by unfold jN;simp;omega),aE,hst,List.take_zero,List.nil_append,List.nil_append,aDA]
  ·rw [if_pos (by simp;omega),lA (by unfold jN;simp;omega),aE,lA (by unfold jN;simp;omega),aE,hst,aMM _ _ (by intro h;have:=congrArg List.length h;rw [List.length_take,List.length_nil] at this;omega),←hI]
 ·show qS vs out (vs.length:Int)=_
  unfold qS
  rw [if_neg (by simp),hI,List.take_of_length_le (Nat.le_refl _)]
def lab (nm:bJ) (vs:List Int):bJ:=if vs.length=0 then nm else nm++[40]++iJ vs++[41]
def uK (nm:bJ) (vs:List Int):Prop:=rD nm=true/\vs.length<=2/\vs.all oQ=true/\(nm=iT->vs=[])
theorem aEj {v:Int}:oQ v=true<->0<=v/\v<=63:=by unfold oQ;simp
theorem uK.pos {nm:bJ} {vs:List Int} (h:uK nm vs):∀ v∈vs,0<=v/\v < 4611686018427387904:=fun v hv=>by
 have:=aEj.1 (List.all_eq_true.1 h.2.2.1 v hv);omega
theorem aFH {s:bJ} (h:rD s=true):s.length<=10/\s≠[]:=by
 cases s with
 |nil=>simp [rD] at h
 |cons c r=>simp only [rD,Bool.and_eq_true,decide_eq_true_eq] at h;exact ⟨by simp only [List.length_cons];omega,by simp⟩
theorem aQd {s:bJ} (h:rD s=true):∀ c∈s,low c=true\/dig c=true:=by
 cases s with
 |nil=>simp [rD] at h
 |cons c r=>
  simp only [rD,Bool.and_eq_true] at h
  intro d hd
  rcases List.mem_cons.1 hd with rfl|hd
  ·exact .inl (by simp_all)
  ·have:=List.all_eq_true.1 (show (r.all fun c=>low c||dig c)=true by simp_all) d hd
   simpa using this
end Gv
namespace Gv
open Go
theorem low_ne {c:UInt8} (h:low c=true\/dig c=true):c≠40/\c≠32/\c≠41/\c≠44:=by
 rcases h with h|h
 ·refine ⟨?_,?_,?_,?_⟩<;>(rintro rfl;revert h;decide)
 ·refine ⟨?_,?_,?_,?_⟩<;>(rintro rfl;revert h;decide)
theorem nm_no {nm:bJ} (h:rD nm=true):(40:UInt8)∉nm/\(32:UInt8)∉nm:=⟨fun m=>(low_ne (aQd h _ m)).1 rfl,fun m=>(low_ne (aQd h _ m)).2.1 rfl⟩
theorem aQe {vs:List Int} (p:∀ v∈vs,0<=v):(40:UInt8)∉iJ vs/\(32:UInt8)∉iJ vs/\(41:UInt8)∉iJ vs/\(58:UInt8)∉iJ vs:=by
 refine ⟨fun m=>?_,fun m=>?_,fun m=>?_,fun m=>?_⟩<;>(rcases aHN p _ m with h|h<;>(revert h;decide))
theorem aJL {nm:bJ} {vs:List Int} (h:uK nm vs):(lab nm vs).length<=56:=by
 have h1:=(aFH h.1).1
 have h2:=vK h.pos
 have h3:=h.2.1
 unfold lab
 split
 ·omega
 ·simp;omega
theorem aOY {nm:bJ} {vs:List Int} (h:uK nm vs):(32:UInt8)∉lab nm vs:=by
 unfold lab
 split
 ·exact (nm_no h.1).2
 ·have:=(aQe (fun v hv=>(h.pos v hv).1)).2.1
  simp [(nm_no h.1).2,this]
theorem aCG {nm:bJ} {vs:List Int} (h:uK nm vs):zD nm vs=some (lab nm vs,true):=by
 have h1:=(aFH h.1).1
 have h2:=vK h.pos
 have h3:=h.2.1
 have e:Lib.join (vs.map Lib.itoa) [44]=iJ vs:=rfl
 rw [aQU nm vs (by omega) (by omega) (by rw [e];omega),e]
 by_cases ht:nm=iT
 ·rw [if_pos ht,h.2.2.2 ht,ht];rfl
 ·have ha:kI nm=true:=by unfold kI;rw [h.1];simpa using ht
  rw [if_neg ht,if_pos ⟨ha,h3,h.2.2.1⟩];rfl
theorem aMN {nm:bJ} {vs:List Int} (h:uK nm vs):aDs nm vs=some (lab nm vs):=by
 have h1:=(aFH h.1).1
 have h2:=vK h.pos
 have h3:=h.2.1
 unfold aDs lab
 by_cases h0:vs.length=0
 ·rw [if_pos (by simp [h0]),if_pos h0]
 ·have e:aKx vs=iJ vs:=by unfold aKx;rw [if_neg h0]
  rw [if_neg (by simpa using h0),if_neg h0,lA (by unfold jN;simp;omega),aE,aRo (by omega) h.pos,aE,e,lA (by unfold jN;simp;omega),aE,lA (by unfold jN;simp;omega),aE]
theorem aQf {b:UInt8}:∀ {s:bJ},b∉s->lW b s=(s,none)
 |[],_=>rfl
 |c::r,h=>by
  have hc:(c == b)=false:=by simp;intro e;exact h (by simp [e])
  rw [aGo,hc,aQf (s:=r) (fun m=>h (by simp [m]))];rfl
theorem aQg {b:UInt8}:∀ {s:bJ} (r:bJ),b∉s->lW b (s++b::r)=(s,some r)
 |[],r,_=>by rw [List.nil_append,aGo];simp
 |c::s,r,h=>by
  have hc:(c == b)=false:=by simp;intro e;exact h (by simp [e])
  rw [List.cons_append,aGo,hc,aQg (s:=s) r (fun m=>h (by simp [m]))];rfl
theorem aOZ {nm:bJ} {vs:List Int} (h:uK nm vs):lW 40 (lab nm vs)=(nm,if vs.length=0 then none else some (iJ vs++[41])):=by
 unfold lab
 split
 ·exact aQf (nm_no h.1).1
 ·rw [show nm++[40]++iJ vs++[41]=nm++40::(iJ vs++[41]) by simp,aQg _ (nm_no h.1).1]
theorem aPa {v:Int} (h0:0<=v) (h1:v<=63):jM (Lib.itoa v)=(v,true):=by
 have e1:=aMz h0 h1
 rw [←aQT] at e1
 unfold in63 at e1
 simp only [Bool.and_eq_true,decide_eq_true_eq] at e1
 have e2:=aFF e1.2.1 h0 (aMA e1.1)
 exact Prod.ext e2 e1.1
theorem aHv {nm:bJ} {vs:List Int} (h:uK nm vs):tZ (lab nm vs)=some (nm,vs,true):=by
 have hl:=aJL h
 have h3:=h.2.1
 have hJ:=vK h.pos
 have hc:=aOZ h
 have j2:∀ r,pY (lab nm vs) (nm,r) vs=some (nm,vs,true):=fun r=>by
  unfold pY tY
  rw [aCG h,aE]
  simp
 unfold tZ l_Cut
 rw [if_pos (by omega),aE,cut_eq,hc]
 by_cases h0:vs.length=0
 ·have hv:vs=[]:=List.length_eq_zero_iff.1 h0
  rw [if_pos h0]
  simp only [Option.isSome_none,Option.getD_none]
  rw [if_neg (by simp)]
  have:=j2 ([],false)
  rw [hv] at this ⊢
  exact this
 ·have hne:vs≠[]:=fun e=>h0 (by rw [e];rfl)
  rw [if_neg h0]
  simp only [Option.isSome_some,Option.getD_some,if_true]
  rw [aNh _ (by simp;omega),aE,if_pos (by simp),List.dropLast_concat]
  have hsp:aIS (iJ vs) [44]=some (spl 44 (iJ vs)):=by
   unfold aIS;rw [if_pos ⟨by omega,by simp⟩,aNQ 44 _ _ (Nat.le_refl _)]
  rw [hsp,aE,aFG hne (fun v hv=>(h.pos v hv).1),aMC _ (by simp;omega) (fun x hx=>by
   obtain ⟨v,hv,rfl⟩:=List.mem_map.1 hx
   have:=mW (h.pos v hv).1 (h.pos v hv).2
   omega),aE]
  have h63:∀ v∈vs,jM (Lib.itoa v)=(v,true):=fun v hv=>by
   have:=aEj.1 (List.all_eq_true.1 h.2.2.1 v hv)
   exact aPa this.1 this.2
  have ha:(vs.map Lib.itoa).all (fun s=>(jM s).2)=true:=by
   rw [List.all_map,List.all_eq_true]
   intro v hv
   show (jM (Lib.itoa v)).2=true
   rw [h63 v hv]
  have hm:(vs.map Lib.itoa).map (fun s=>(jM s).1)=vs:=by
   rw [List.map_map]
   conv=>rhs;rw [←List.map_id vs]
   exact List.map_congr_left fun v hv=>by show (jM (Lib.itoa v)).1=v;rw [h63 v hv]
  rw [if_pos ha,hm]
  simp only [Bool.not_true,Bool.false_eq_true,if_false]
  exact j2 _
theorem aJM {nm:bJ} {vs:List Int} (h:uK nm vs):jT (lab nm vs)=some nm:=by
 have hl:=aJL h
 unfold jT
 rw [aMy _ (by omega),aOZ h,aE]
 have hp:nm.length<=(lab nm vs).length:=by unfold lab;split<;>simp<;>omega
 have ht:(lab nm vs).take nm.length=nm:=by unfold lab;split<;>simp
 rw [aMJ hp,aE,ht]
theorem aQh {v:Int} (h0:0<=v) (h1:v<=63):aCj (Lib.itoa v)=some (v,true):=by
 have hd:=oK h0
 have hne:=itoa_ne h0
 have hlen:=mW h0 (by omega)
 have hv:=aHu h0
 have hl2:(Lib.itoa v).length<=2:=itoa_len ⟨by omega,h1⟩
 have hz:(Lib.itoa v).head?=some 48->(Lib.itoa v).length=1:=by
  intro e
  by_cases hv0:v.toNat=0
  ·rw [aJK h0,hv0,Lib.decDigits_one (by omega)];rfl
  ·rw [aJK h0] at e;exact absurd e (dd_head _ hv0)
 generalize Lib.itoa v=s at *
 cases s with
 |nil=>exact absurd rfl hne
 |cons c r=>
  have hc:dig c=true:=by simp at hd;exact hd.1
  have h45:((c.toNat:Int) == 45)=false:=by rw [c45];simp;rintro rfl;revert hc;decide
  have h48:((c.toNat:Int) == 48)=decide (c=48):=c48 c
  have hi:ix (c::r) 0=some c:=rfl
  unfold aCj tL tK
  rw [if_pos (by simp),hi,aE,h45,if_neg (by simp),if_neg (by simp;omega),if_neg (by rw [iC (by simp at hl2 ⊢;omega) (by simp at hl2 ⊢;omega)];simp at hl2 ⊢;omega),aE,h48]
  have fin:lF (c::r) 0 false=some (v,true):=by
   unfold lF
   have:=aPM (s:=c::r) (a:=0) (by simp) (by simp at hl2 ⊢;omega) (by simp at hl2 ⊢;omega)
   rw [List.drop_zero,if_pos hd,hv] at this
   rw [if_neg (by simp)]
   refine (congrArg (fun x=>ob x fun r=>match r with|.inl r=>tJ 0 r|.inr r=>some r) this).trans ?_
   rfl
  by_cases h8:c=48
  ·subst h8
   have:=hz rfl
   simp at this
   subst this
   rw [if_pos (by simp)]
   exact fin
  ·rw [if_neg (by simp [h8])];exact fin
theorem aQi {nm:bJ} {vs:List Int} (h:uK nm vs):∃ b,yT (lab nm vs)=some (vs,b):=by
 have hl:=aJL h
 have h3:=h.2.1
 have hJ:=vK h.pos
 unfold yT
 rw [aMy _ (by omega),aOZ h,aE]
 by_cases h0:vs.length=0
 ·have hv:vs=[]:=List.length_eq_zero_iff.1 h0
  have hlab:lab nm vs=nm:=by unfold lab;rw [if_pos h0]
  rw [hlab,if_pos (by simp),aGn,aE,hv]
  exact ⟨_,rfl⟩
 ·have hne:vs≠[]:=fun e=>h0 (by rw [e];rfl)
  have hlab:lab nm vs=nm++40::(iJ vs++[41]):=by unfold lab;rw [if_neg h0];simp
  have hll:(lab nm vs).length=nm.length+(iJ vs).length+2:=by rw [hlab];simp;omega
  have htau:nm≠iT:=fun e=>hne (h.2.2.2 e)
  have hact:kI nm=true:=by unfold kI;rw [h.1];simpa using htau
  have ht:(lab nm vs).take nm.length=nm:=by rw [hlab];simp
  rw [if_neg (by rw [hll];simp;omega),aMJ (show nm.length<=(lab nm vs).length by omega),aE,ht,aBc,aE,hact,if_neg (by simp)]
  have hw1:wr (((lab nm vs).length:Int) - 1)=(((lab nm vs).length - 1:Nat):Int):=by rw [iC (by omega) (by omega)];omega
  have hlast:ix (lab nm vs) (((lab nm vs).length - 1:Nat):Int)=some 41:=by
   rw [iL,hll,hlab,show nm++40::(iJ vs++[41])=(nm++40::iJ vs)++[41] by simp,List.getElem?_append_right (by simp;omega)]
   have:nm.length+(iJ vs).length+2 - 1 - (nm++40::iJ vs).length=0:=by simp;omega
   rw [this];rfl
  rw [hw1,hlast,aE,show ((((41:UInt8).toNat:Int) != 41))=false from rfl]
  unfold tO
  have hs:slc (lab nm vs) (wr (((nm.length:Nat):Int)+1)) (((lab nm vs).length - 1:Nat):Int)=some (iJ vs):=by
   have hn10:=(aFH h.1).1
   rw [iC (by omega) (by omega)]
   unfold slc
   rw [if_pos ⟨by omega,by omega,by simp⟩]
   congr 1
   have e1:((nm.length:Int)+1).toNat=nm.length+1:=by omega
   rw [e1,Int.toNat_natCast,hll,hlab]
   have e2:(nm++40::(iJ vs++[41])).drop (nm.length+1)=iJ vs++[41]:=by
    rw [List.drop_append,List.drop_of_length_le (by omega),show nm.length+1 - nm.length=1 by omega];rfl
   rw [e2,show nm.length+(iJ vs).length+2 - 1 - (nm.length+1)=(iJ vs).length by omega]
   simp
  rw [if_neg (by simp),hw1,hs,aE,aPL _ _ (by omega),aE,aFG hne (fun v hv=>(h.pos v hv).1)]
  have h63:∀ v∈vs,0<=v/\v<=63:=fun v hv=>aEj.1 (List.all_eq_true.1 h.2.2.1 v hv)
  have hL:=zJ (step:=fun s:List Int × Int=>tN (vs.map Lib.itoa) s.1 s.2) (vs.map Lib.itoa) (fun s=>val 0 s) .inl (fun k out x hk ho hx=>?_) (fun out=>by simp only [tN,cN];rfl)
  ·rw [hL,aE]
   have hm:(vs.map Lib.itoa).map (fun s=>val 0 s)=vs:=by
    rw [List.map_map]
    conv=>rhs;rw [←List.map_id vs]
    exact List.map_congr_left fun v hv=>aHu (h63 v hv).1
   simp only [hm]
   exact ⟨_,rfl⟩
  ·have hm:x∈vs.map Lib.itoa:=by rw [cZ hk] at hx;cases hx;exact List.getElem_mem hk
   obtain ⟨v,hv,rfl⟩:=List.mem_map.1 hm
   obtain ⟨g0,g1⟩:=h63 v hv
   have hk2:k < 2:=by simp at hk;omega
   unfold tN tM
   rw [if_pos (cR hk),hx,aE,aQh g0 g1,aE,if_neg (by simp),aCA,aE,aHu g0]
   have:(decide (0<=v)&&decide (v<=63))=true:=by simp [g0,g1]
   simp only [this,Bool.not_true,Bool.false_eq_true,if_false]
   rw [iR (by unfold jN;simp;omega),aE,cO hk (by simp;omega)]
theorem lab_inj {n m:bJ} {vs us:List Int} (h1:uK n vs) (h2:uK m us) (h:lab n vs=lab m us):n=m/\vs=us:=by
 have e1:=aHv h1
 have e2:=aHv h2
 rw [h,e2] at e1
 simp only [Option.some.injEq,Prod.mk.injEq,and_true] at e1
 exact ⟨e1.1.symm,e1.2.symm⟩
structure aKy (p:aZ):Prop where
 d:0<=p.Definition/\p.Definition < 1000000000
 pt:0<=p.Part/\p.Part < 1000000000
 n:p.Values.length<=60
 v:p.Values.all oQ=true
theorem aKy.pos {p:aZ} (h:aKy p):∀ v∈p.Values,0<=v/\v < 4611686018427387904:=fun v hv=>by
 have:=aEj.1 (List.all_eq_true.1 h.v v hv);omega
def ptT (p:aZ):bJ:=Lib.itoa p.Definition++58::(Lib.itoa p.Part++58::aKx p.Values)
theorem aQj {vs:List Int} (h:∀ v∈vs,0<=v/\v < 4611686018427387904):(aKx vs).length<=22 * vs.length+1:=by
 unfold aKx
 have:=vK h
 split
 ·simp
 ·omega
theorem lstT_inj {vs us:List Int} (p1:∀ v∈vs,0<=v) (p2:∀ v∈us,0<=v) (h:aKx vs=aKx us):vs=us:=by
 unfold aKx at h
 by_cases h1:vs.length=0
 ·rw [if_pos h1] at h
  by_cases h2:us.length=0
  ·rw [List.length_eq_zero_iff.1 h1,List.length_eq_zero_iff.1 h2]
  ·rw [if_neg h2] at h
   have:(45:UInt8)∈iJ us:=by rw [←h];simp
   rcases aHN p2 _ this with g|g
   ·exact absurd g (by decide)
   ·exact absurd g (by decide)
 ·rw [if_neg h1] at h
  by_cases h2:us.length=0
  ·rw [if_pos h2] at h
   have:(45:UInt8)∈iJ vs:=by rw [h];simp
   rcases aHN p1 _ this with g|g
   ·exact absurd g (by decide)
   ·exact absurd g (by decide)
  ·rw [if_neg h2] at h
   exact joinC_inj (fun e=>h1 (by rw [e];rfl)) (fun e=>h2 (by rw [e];rfl)) p1 p2 h
theorem aPb {p q:aZ} (hp:aKy p) (hq:aKy q) (h:ptT p=ptT q):p=q:=by
 unfold ptT at h
 obtain ⟨e1,h⟩:=aEK (sM (oK hp.d.1) rfl) (sM (oK hq.d.1) rfl) h
 obtain ⟨e2,h⟩:=aEK (sM (oK hp.pt.1) rfl) (sM (oK hq.pt.1) rfl) h
 have e3:=lstT_inj (fun v hv=>(hp.pos v hv).1) (fun v hv=>(hq.pos v hv).1) h
 have g1:=aFF hp.d.1 hq.d.1 e1
 have g2:=aFF hp.pt.1 hq.pt.1 e2
 cases p;cases q
 simp only at g1 g2 e3
 subst g1;subst g2;subst e3;rfl
theorem ptT_sp {p:aZ} (hp:aKy p):(32:UInt8)∉ptT p:=by
 have h1:=sM (c:=32) (oK hp.d.1) rfl
 have h2:=sM (c:=32) (oK hp.pt.1) rfl
 have h3:=(aQe (fun v hv=>(hp.pos v hv).1)).2.1
 unfold ptT aKx
 split<;>simp [h1,h2,h3]
theorem aPc {p:aZ} (hp:aKy p):(ptT p).length<=1400:=by
 have h1:=mW hp.d.1 (by have:=hp.d.2;omega)
 have h2:=mW hp.pt.1 (by have:=hp.pt.2;omega)
 have h3:=aQj hp.pos
 have h4:=hp.n
 unfold ptT
 simp only [List.length_append,List.length_cons]
 omega
theorem listOk_eq {vs:List Int} (hl:vs.length<=64) (h:vs.all oQ=true):aGW vs=some true:=by
 unfold aGW
 rw [if_pos (by simp;omega)]
 have:fD vs=some (vs.any fun v=>!(decide (-1000000000000<=v)&&decide (v<=1000000000000))):=by
  unfold fD gO
  have:=aJH (step:=fun s=>fC vs s) vs (fun v=>!(decide (-1000000000000<=v)&&decide (v<=1000000000000))) (by omega) (fun k x hk hix hm=>?_) ?_
  ·exact this
  ·simp only [fC,cR hk,if_true,hix,aE,aEE,iS]
  ·simp only [fC,cN];rfl
 rw [this,aE]
 have hf:(vs.any fun v=>!(decide (-1000000000000<=v)&&decide (v<=1000000000000)))=false:=by
  rw [List.any_eq_false]
  intro v hv
  have:=aEj.1 (List.all_eq_true.1 h v hv)
  have e1:decide (-1000000000000<=v)=true:=by simp;omega
  have e2:decide (v<=1000000000000)=true:=by simp;omega
  rw [e1,e2];simp
 rw [hf];rfl
theorem aQk {vs:List Int} (hl:vs.length<=64) (h:vs.all oQ=true):aDT vs=some (aKx vs):=by
 have hp:∀ v∈vs,0<=v/\v < 4611686018427387904:=fun v hv=>by have:=aEj.1 (List.all_eq_true.1 h v hv);omega
 unfold aDT aKx
 rw [listOk_eq hl h,aE,if_neg (by simp)]
 by_cases h0:vs.length=0
 ·rw [if_pos (by simp [h0]),if_pos h0]
 ·rw [if_neg (by simpa using h0),if_neg h0,joined_C (by omega) hp,aE]
theorem aBu {n:Int} (h0:-9223372036854775808<=n) (h1:n<=9223372036854775807):mO n=some (Lib.itoa n):=by unfold mO;rw [if_pos ⟨h0,h1⟩]
theorem aKP {p:aZ} (hp:aKy p):aBm p=some (ptT p):=by
 have h1:=mW hp.d.1 (by have:=hp.d.2;omega)
 have h2:=mW hp.pt.1 (by have:=hp.pt.2;omega)
 have h3:=aQj hp.pos
 have h4:=hp.n
 have a:=hp.d;have b:=hp.pt
 unfold aBm aEG ptT
 rw [aBu (by omega) (by omega),aE,lA (by unfold jN;simp;omega),aE,aBu (by omega) (by omega),aE,lA (by unfold jN;simp;omega),aE,aQk (by omega) hp.v,aE,lA (by unfold jN;simp;omega),aE,aE,lA (by unfold jN;simp;omega),aE]
 simp
def stT (s:List aZ):bJ:=Lib.join (s.map ptT) [32]
theorem aIP (x y:bJ) (l:List bJ):Lib.join (x::y::l) [32]=x++32::Lib.join (y::l) [32]:=by
 simp only [Lib.join_cons,Lib.joinTail,List.map_cons,List.flatten_cons]
 simp
theorem stT_inj:∀ {s t:List aZ},s.length=t.length->(∀ p∈s,aKy p)->(∀ p∈t,aKy p)->stT s=stT t->s=t
 |[],[],_,_,_,_=>rfl
 |[p],[q],_,hp,hq,h=>by
  unfold stT at h
  simp only [List.map_cons,List.map_nil,Lib.join_one] at h
  rw [aPb (hp p (by simp)) (hq q (by simp)) h]
 |p::p2::s,q::q2::t,hl,hp,hq,h=>by
  unfold stT at h
  simp only [List.map_cons] at h
  rw [aIP,aIP] at h
  obtain ⟨e1,h⟩:=aEK (ptT_sp (hp p (by simp))) (ptT_sp (hq q (by simp))) h
  have:=stT_inj (s:=p2::s) (t:=q2::t) (by simpa using hl) (fun x hx=>hp x (List.mem_cons_of_mem _ hx)) (fun x hx=>hq x (List.mem_cons_of_mem _ hx)) h
  rw [aPb (hp p (by simp)) (hq q (by simp)) e1,this]
 |[p],q::q2::t,hl,_,_,_=>by simp at hl
 |p::p2::s,[q],hl,_,_,_=>by simp at hl
 |[],q::t,hl,_,_,_=>by simp at hl
 |p::s,[],hl,_,_,_=>by simp at hl
theorem aPd:∀ {s:List aZ},(∀ p∈s,aKy p)->(stT s).length<=1401 * s.length
 |[],_=>by simp [stT,Lib.join_nil]
 |[p],h=>by unfold stT;simp only [List.map_cons,List.map_nil,Lib.join_one];have:=aPc (h p (by simp));simp;omega
 |p::q::s,h=>by
  have h1:=aPc (h p (by simp))
  have h2:=aPd (s:=q::s) (fun x hx=>h x (List.mem_cons_of_mem _ hx))
  unfold stT at h2 ⊢
  simp only [List.map_cons] at h2 ⊢
  rw [aIP]
  simp only [List.length_append,List.length_cons] at h2 ⊢
  omega
theorem aQl {s:List aZ} (hl:s.length<=1000) (h:∀ p∈s,aKy p):aDU s=some (stT s):=by
 unfold aDU
 rw [zJ (step:=fun t:List bJ × Int=>wU s t.1 t.2) s ptT (fun x=>x) (fun k out x hk ho hx=>?_) (fun out=>by simp only [wU,cN];rfl),aE]
 ·unfold wT aJS
  have:=aPd h
  rw [if_pos ⟨by unfold jN;simp;omega,by unfold stT at this;unfold jN;omega⟩];rfl
 ·have hm:x∈s:=by rw [cZ hk] at hx;cases hx;exact List.getElem_mem hk
  unfold wU
  rw [if_pos (cR hk),hx,aE,aKP (h x hm),aE,iR (by unfold jN;simp;omega),aE,cO hk (by omega)]
def aHw (ms:List bU) (a b:bJ):Option bU:=ms.find? fun m=>m.Left == mnS a b&&m.Right == mxS a b
theorem aQm {β:Type} (p:β->Bool):∀ (l:List β),l.find? p=(l.findIdx? p).bind fun i=>l[i]?
 |[]=>rfl
 |x::l=>by
  rw [List.find?_cons,List.findIdx?_cons]
  by_cases h:p x=true
  ·rw [h];simp
  ·have:p x=false:=by simpa using h
   rw [this,aQm p l]
   cases l.findIdx? p<;>simp
theorem meeting_I {s:bZ} (hl:s.Meetings.length < 1000000000) (a b:bJ):mV s a b=some (match aHw s.Meetings a b with|none=>([],false)|some m=>(m.Result,true)):=by
 unfold mV eO
 rw [vJ (step:=fun x=>dO s.Meetings a b x) s.Meetings (fun m=>m.Left == mnS a b&&m.Right == mxS a b) (fun k x hk hx=>by
  simp only [dO,cR hk,if_true,hx,aE,oU,jY,cO hk (show s.Meetings.length < 4611686018427387904 by omega)]
  cases (x.Left == mnS a b)<;>rfl) (by simp only [dO,cN];rfl),aE]
 unfold aHw
 rw [aQm]
 cases hf:s.Meetings.findIdx? (fun m=>m.Left == mnS a b&&m.Right == mxS a b) with
 |none=>rfl
 |some i=>
  have hi:i < s.Meetings.length:=(List.findIdx?_eq_some_iff_findIdx_eq.1 hf).1
  show (ob (some (i:Int)) fun r35=>if decide (r35 < 0)=true then some ([],false) else ob (ix s.Meetings r35) fun e43=>some (e43.Result,true))=_
  rw [aE,if_neg (by simp),cZ hi,aE]
  simp [hi]
theorem meet_S1 (ms:List bU) (hl:ms.length < 1000000000) (a b:bJ):(ob (loop (fun (s:Int)=>uW ms a b s) 0) fun r=>match r with|.inl r=>aAv|.inr r=>some r)=some (match ms.find? (fun m=>m.Left == a&&m.Right == b) with|none=>[]|some m=>m.Result):=by
 have:=aBa (step:=fun s=>uW ms a b s) ms.length (fun k (_:Unit)=>(k:Int)) (fun k _=>match (ms.drop k).find? (fun m=>m.Left == a&&m.Right == b) with|none=>(.inl ():Unit ⊕ bJ)|some m=>.inr m.Result) (fun _ _=>True) (fun k _ hk _=>?_) (fun _ _=>?_) ms.length 0 () (by omega) trivial
 ·rw [show (0:Int)=((0:Nat):Int) from rfl,this,aE,List.drop_zero]
  cases ms.find? (fun m=>m.Left == a&&m.Right == b)<;>rfl
 ·rw [List.drop_eq_getElem_cons hk,List.find?_cons]
  unfold uW aAw
  rw [if_pos (cR hk),cZ hk,aE,aE,cO hk (by omega)]
  cases h1:(ms[k].Left == a) with
  |false=>left;exact ⟨(),rfl,trivial,by simp⟩
  |true=>
   cases h2:(ms[k].Right == b) with
   |false=>left;exact ⟨(),rfl,trivial,by simp⟩
   |true=>right;rfl
 ·unfold uW
  rw [if_neg (by simp),List.drop_length];rfl
theorem meeting_S (ms:List bU) (hl:ms.length < 1000000000) (a b:bJ):aHC ms a b=some (match aHw ms a b with|none=>[]|some m=>m.Result):=by
 unfold aHC aHw
 show tP (tQ 99999) ms a b=_
 unfold tP
 by_cases hab:(qF a b||a == b)=true
 ·rw [if_neg (by simp [hab])]
  refine (meet_S1 ms hl a b).trans ?_
  have e1:mnS a b=a:=by unfold mnS;rw [if_pos hab]
  have e2:mxS a b=b:=by
   unfold mxS
   rcases (Bool.or_eq_true _ _).mp hab with h|h
   ·rw [h];rfl
   ·have:a=b:=by simpa using h
    subst this
    split<;>rfl
  rw [e1,e2]
 ·have hab':(qF a b||a == b)=false:=by simpa using hab
  rw [if_pos (by rw [hab'];rfl)]
  show (ob (tP (tQ 99998) ms b a) fun r5=>some r5)=_
  have hba:qF b a=true:=by
   rw [Bool.or_eq_false_iff] at hab'
   rcases aOO a b with h|h|h
   ·rw [h] at hab';cases hab'.1
   ·rw [h] at hab';simp at hab'
   ·exact h
  unfold tP
  rw [if_neg (by rw [hba];simp)]
  refine (congrArg (fun x=>ob x fun r5=>some r5) (meet_S1 ms hl b a)).trans ?_
  rw [aE]
  have e1:mnS a b=b:=by unfold mnS;rw [if_neg hab]
  have e2:mxS a b=a:=by
   rw [Bool.or_eq_false_iff] at hab'
   unfold mxS;rw [hab'.1];rfl
  rw [e1,e2]
end Gv
namespace Gv
open Go
section
variable {β:Type} [DecidableEq β]
def yK (l:List β) (x:β):List β:=if x∈l then l else l++[x]
theorem aHx (l:List β) (x:β):l.length<=(yK l x).length/\(yK l x).length<=l.length+1:=by
 unfold yK;split
 ·omega
 ·simp
theorem aFI {p:β->Prop} {l:List β} {x:β} (h:∀ y∈l,p y) (hx:p x):∀ y∈yK l x,p y:=by
 unfold yK;split
 ·exact h
 ·intro y hy
  rcases List.mem_append.1 hy with hy|hy
  ·exact h y hy
  ·rw [List.mem_singleton.1 hy];exact hx
def aKz (P R:List β):Prop:=P=R\/(200 < P.length/\200 < R.length)
theorem aKz.stop {P R P':List β} (h:aKz P R) (h2:200 < R.length) (h3:P.length<=P'.length):aKz P' R:=by
 right
 rcases h with h|h
 ·subst h;omega
 ·omega
theorem aKz.eq {P R:List β} (h:aKz P R) (h2:¬ 200 < R.length):P=R:=by
 rcases h with h|h
 ·exact h
 ·exact absurd h.2 h2
theorem aKz.add {P R:List β} (h:aKz P R) (x:β):aKz (yK P x) (yK R x):=by
 rcases h with h|h
 ·subst h;exact .inl rfl
 ·have h1:=(aHx P x).1
  have h2:=(aHx R x).1
  right;omega
def aGB (K:β->bJ) (l:List β) (M:List (bJ × Bool)):Prop:=∀ k,(aBe M k).getD false=decide (k∈l.map K)
theorem aMO {k q:bJ} {v:Bool}:∀ {m:List (bJ × Bool)},aBe (aBW m k v) q=if q=k then some v else aBe m q
 |[]=>by simp [aBW,aBe]
 |(x,u)::m=>by
  have ih:=aMO (k:=k) (q:=q) (v:=v) (m:=m)
  unfold aBW
  by_cases e:k=x
  ·subst e
   rw [if_pos rfl,aBe,aBe]
   by_cases h:q=k
   ·rw [if_pos h,if_pos h]
   ·rw [if_neg h,if_neg h,if_neg h]
  ·rw [if_neg e,aBe,aBe,ih]
   by_cases h:q=x
   ·subst h
    rw [if_pos rfl,if_neg (fun h=>e h.symm),if_pos rfl]
   ·rw [if_neg h,if_neg h]
theorem aQn (K:β->bJ):aGB K [] []:=fun k=>by simp [aBe]
theorem aQo {K:β->bJ} {l:List β} {M:List (bJ × Bool)} {x:β} (h:aGB K l M):aGB K (l++[x]) (aBW M (K x) true):=by
 intro k
 rw [aMO]
 by_cases e:k=K x
 ·rw [if_pos e,e];simp
 ·rw [if_neg e,h k]
  simp [e]
theorem aQp {K:β->bJ} {l:List β} {M:List (bJ × Bool)} {x:β} (h:aGB K l M) (inj:∀ y∈l,K y=K x->y=x):(aBe M (K x)).getD false=decide (x∈l):=by
 rw [h]
 by_cases e:x∈l
 ·rw [decide_eq_true e,decide_eq_true_iff];exact List.mem_map_of_mem e
 ·rw [decide_eq_false e,decide_eq_false_iff_not]
  intro hm
  obtain ⟨y,hy,hk⟩:=List.mem_map.1 hm
  exact e (inj y hy hk ▸ hy)
theorem aQq {l:List β} {x:β}:l.all (fun y=>!decide (y=x))=!decide (x∈l):=by
 by_cases e:x∈l
 ·rw [decide_eq_true e]
  cases h:l.all (fun y=>!decide (y=x))
  ·rfl
  ·have:=List.all_eq_true.1 h x e;simp at this
 ·rw [decide_eq_false e]
  apply List.all_eq_true.2
  intro y hy
  have:y≠x:=fun h=>e (h ▸ hy)
  simp [this]
end
theorem aJN (a b:aZ) (h:a.Values.length < 4611686018427387904):pJ a b=some (decide (a=b)):=by
 unfold pJ lR
 rw [aMF _ _ h,aE]
 cases a with|mk a1 a2 a3=>cases b with|mk b1 b2 b3=>
 simp only [aZ.mk.injEq]
 by_cases h1:a1=b1
 ·by_cases h2:a2=b2
  ·by_cases h3:a3=b3<;>simp [h1,h2,h3]
  ·simp [h1,h2]
 ·simp [h1]
theorem l07Add_eq (l:List cM) (x:cM) (hl:l.length < 100000000) (hv:∀ y∈l,y.Next.Values.length < 4611686018427387904):yR l x=some (yK l x):=by
 unfold yR
 rw [aBb (step:=fun s=>tI l x s) l (fun y=>!decide (y=x)) (.inr l) (.inl ()) (fun k y hk hy=>?_) (by simp only [tI,cN];rfl),aE,aQq]
 ·unfold yK
  by_cases hm:x∈l
  ·rw [decide_eq_true hm,if_pos hm];rfl
  ·rw [decide_eq_false hm,if_neg hm]
   show pK l x=_
   unfold pK
   rw [iR (by unfold jN;simp;omega),aE]
 ·have hm:y∈l:=by rw [cZ hk] at hy;cases hy;exact List.getElem_mem hk
  unfold tI tH
  rw [if_pos (cR hk),hy,aE,aJN _ _ (hv y hm),aE,cO hk (by omega)]
  cases y with|mk y1 y2=>cases x with|mk x1 x2=>
  simp only [cM.mk.injEq]
  by_cases h1:y1=x1
  ·by_cases h2:y2=x2<;>simp [h1,h2]
  ·simp [h1]
def aKQ (l:List Definition) (s:Int) (b:Bool):GT Part->Prop
 |.nul p=>sN l ⟨s,b⟩ p=true
 |.one p a=>sN l ⟨s,b⟩ p=true/\aKQ l (bel s p) (p.Kind == 1) a
 |.two p a c=>sN l ⟨s,b⟩ p=true/\aKQ l (bel s p) (p.Kind == 1) a/\aKQ l (bel s p) (p.Kind == 1) c
theorem aLD {l:List Definition}:∀ (t:GT Part) (s:Int) (b:Bool),(∀ (i:Nat) p pl,t.flat[i]?=some p->(plT s b t)[i]?=some pl->sN l pl p=true)->aKQ l s b t
 |.nul p,s,b,h=>h 0 p ⟨s,b⟩ rfl rfl
 |.one p a,s,b,h=>⟨h 0 p ⟨s,b⟩ rfl rfl,aLD a _ _ fun i q pl h1 h2=>h (i+1) q pl (by simpa [GT.flat] using h1) (by simpa [plT] using h2)⟩
 |.two p a c,s,b,h=>by
  refine ⟨h 0 p ⟨s,b⟩ rfl rfl,aLD a _ _ fun i q pl h1 h2=>h (i+1) q pl ?_ ?_,aLD c _ _ fun i q pl h1 h2=>h (a.flat.length+i+1) q pl ?_ ?_⟩
  ·have:=(List.getElem?_eq_some_iff.1 h1).1
   simp only [GT.flat,List.getElem?_cons_succ]
   rw [List.getElem?_append_left this];exact h1
  ·have:=(List.getElem?_eq_some_iff.1 h2).1
   simp only [plT,List.getElem?_cons_succ]
   rw [List.getElem?_append_left this];exact h2
  ·simp only [GT.flat,List.getElem?_cons_succ]
   rw [List.getElem?_append_right (by omega),Nat.add_sub_cancel_left];exact h1
  ·simp only [plT,List.getElem?_cons_succ]
   rw [List.getElem?_append_right (by rw [oY];omega),oY,Nat.add_sub_cancel_left];exact h2
def GT.root:GT Part->Part
 |.nul p=>p
 |.one p _=>p
 |.two p _ _=>p
theorem flat_root (t:GT Part):∃ r,t.flat=t.root::r:=by
 cases t
 ·exact ⟨[],rfl⟩
 ·exact ⟨_,rfl⟩
 ·exact ⟨_,rfl⟩
theorem good_root {l:List Definition} {t:GT Part} {s:Int} {b:Bool} (h:aKQ l s b t):sN l ⟨s,b⟩ t.root=true:=by
 cases t
 ·exact h
 ·exact h.1
 ·exact h.1
structure OkP (l:List Definition) (s:Int) (p:Part):Prop where
 k1:p.Kind=1->rD p.Name=true/\p.Arguments.length<=2/\(p.Name=iT->p.Arguments=[])
 k3:p.Kind=3->p.Arguments.length=1
 k4:p.Kind=4->1<=p.Number/\p.Number<=7/\s < 6
 k5:p.Kind=5->0<=p.Number/\p.Number < (l.length:Int)/\(p.Arguments.length:Int)=(l.getD p.Number.toNat ⟨[],0,[]⟩).Parameters
 ar:∀ e∈p.Arguments,okE s e=true
theorem okP {l:List Definition} {s:Int} {b:Bool} {p:Part} (h:sN l ⟨s,b⟩ p=true):OkP l s p:=by
 unfold sN at h
 simp only [Bool.and_eq_true] at h
 obtain ⟨⟨⟨⟨⟨⟨_,h2⟩,h3⟩,h4⟩,_⟩,h6⟩,h7⟩:=h
 unfold aBs at h3
 unfold aIN at h4
 refine ⟨fun e=>?_,fun e=>?_,fun e=>?_,fun e=>?_,List.all_eq_true.1 h7⟩
 ·rw [e] at h2 h4
  simp at h2 h4
  refine ⟨h2,h4.1,fun ht=>?_⟩
  rcases h4.2 with h|h
  ·exact h
  ·exact absurd ht h
 ·rw [e] at h4;simpa using h4
 ·rw [e] at h3 h6;simp at h3 h6;exact ⟨h3.1,h3.2,h6⟩
 ·rw [e] at h3 h4;simp at h3 h4;exact ⟨h3.1,h3.2,h4⟩
def PtG (l:List Definition) (p:aZ):Prop:=(∃ (k:Nat) (d:Definition) (t:GT Part) (pre post:List Part) (b:Bool),l[k]?=some d/\p.Definition=(k:Int)/\d.Body=pre++t.flat++post/\t.WF iV/\p.Part=(pre.length:Int)/\aKQ l (p.Values.length:Int) b t)/\p.Values.length<=6/\p.Values.all oQ=true
theorem aJO {l:List Definition} (hD:oR l) {k:Nat} {d:Definition} (h:l[k]?=some d):d.Body.length<=20/\∃ t:GT Part,d.Body=t.flat/\t.WF iV/\aKQ l d.Parameters false t:=by
 have:=hD.2.2.2.1 d (List.mem_of_getElem? h)
 simp only [aCE,decide_eq_true_eq] at this
 obtain ⟨h1,t,h2,h3,h4⟩:=this
 exact ⟨h1,t,h2,h3,aLD t _ _ fun i p pl g1 g2=>h4 i p pl (by rw [h2];exact g1) g2⟩
theorem PtG.ok {l:List Definition} (hD:oR l) {p:aZ} (h:PtG l p):aKy p:=by
 obtain ⟨⟨k,d,t,pre,post,b,h1,h2,h3,_,h5,_⟩,h6,h7⟩:=h
 have hk:k < l.length:=(List.getElem?_eq_some_iff.1 h1).1
 have h4:=hD.2.1
 have h8:=(aJO hD h1).1
 have h9:d.Body.length=pre.length+t.flat.length+post.length:=by rw [h3];simp;omega
 exact ⟨by omega,by omega,by omega,h7⟩
theorem PtG.start {l:List Definition} (hD:oR l) {k:Int} {vs:List Int} (h0:0<=k) (h1:k < (l.length:Int)) (h2:(vs.length:Int)=(l.getD k.toNat ⟨[],0,[]⟩).Parameters) (h3:vs.all oQ=true):PtG l ⟨k,0,vs⟩:=by
 have hk:k.toNat < l.length:=by omega
 have hg:l.getD k.toNat ⟨[],0,[]⟩=l[k.toNat]:=by simp [List.getD,hk]
 rw [hg] at h2
 have hd:l[k.toNat]?=some l[k.toNat]:=List.getElem?_eq_getElem hk
 obtain ⟨_,t,g2,g3,g4⟩:=aJO hD hd
 have hp:=hD.2.2.1 _ (List.getElem_mem hk)
 simp only [aIi,Bool.and_eq_true,decide_eq_true_eq] at hp
 refine ⟨⟨k.toNat,l[k.toNat],t,[],[],false,hd,by simp;omega,by simp [g2],g3,rfl,?_⟩,by simp;omega,h3⟩
 simp only
 rw [h2];exact g4
def aCO (l:List Definition) (s:cM):Prop:=(∃ nm vs,uK nm vs/\s.B=lab nm vs)/\PtG l s.Next
def stK (s:cM):bJ:=s.B++[32]++ptT s.Next
theorem stK_inj {l:List Definition} (hD:oR l) {s u:cM} (hs:aCO l s) (hu:aCO l u) (h:stK s=stK u):s=u:=by
 obtain ⟨⟨n1,v1,o1,e1⟩,p1⟩:=hs
 obtain ⟨⟨n2,v2,o2,e2⟩,p2⟩:=hu
 unfold stK at h
 simp only [List.append_assoc,List.singleton_append] at h
 obtain ⟨g1,g2⟩:=aEK (by rw [e1];exact aOY o1) (by rw [e2];exact aOY o2) h
 have g3:=aPb (p1.ok hD) (p2.ok hD) g2
 cases s;cases u
 simp only at g1 g3
 rw [g1,g3]
theorem take_eq {l:List Definition} (hD:oR l) {s:cM} {P:List cM} {M:List (bJ × Bool)} (hs:aCO l s) (hP:∀ y∈P,aCO l y) (hM:aGB stK P M) (hl:P.length < 100000000):∃ M',iX l P M s=some (yK P s,M')/\aGB stK (yK P s) M':=by
 have h1:s.B.length<=56:=by obtain ⟨⟨nm,vs,o,e⟩,_⟩:=hs;rw [e];exact aJL o
 have hp:=hs.2.ok hD
 have h2:=aPc hp
 have hm:=aQp (x:=s) hM (fun y hy he=>stK_inj hD (hP y hy) hs he)
 unfold iX
 rw [lA (by unfold jN;simp;omega),aE,aKP hp,aE,lA (by unfold jN;simp;omega),aE]
 show ∃ M',(if (!((aBe M (stK s)).getD false)) then (ob (some (aBW M (stK s) true)) fun m27=>ob (apd P ([s]:List cM)) fun xs48=>some (xs48,m27)) else (some (P,M)))=some (yK P s,M')/\_
 rw [hm]
 unfold yK
 by_cases e:s∈P
 ·rw [decide_eq_true e,if_pos e];exact ⟨M,rfl,hM⟩
 ·rw [decide_eq_false e,if_neg e,if_pos (show (!false)=true from rfl),aE,iR (by unfold jN;simp;omega),aE]
  exact ⟨_,rfl,aQo hM⟩
end Gv
namespace Gv
open Go
theorem folP_one {p:Part} (h:iV p=1):p.Kind=1\/p.Kind=3\/p.Kind=4:=by
 unfold iV at h
 by_cases h1:p.Kind=1
 ·exact .inl h1
 by_cases h3:p.Kind=3
 ·exact .inr (.inl h3)
 by_cases h4:p.Kind=4
 ·exact .inr (.inr h4)
 ·by_cases h2:p.Kind=2<;>simp [h1,h3,h4,h2] at h
theorem folP_zero {p:Part} (h:iV p=0):p.Kind≠1/\p.Kind≠2/\p.Kind≠3/\p.Kind≠4:=by
 unfold iV at h
 refine ⟨?_,?_,?_,?_⟩<;>(intro e;rw [e] at h;simp at h)
structure InvP (l:List Definition) (P:List cM) (M:List (bJ × Bool)):Prop where
 g:∀ y∈P,aCO l y
 m:aGB stK P M
def aEk (l:List Definition) (P:List cM) (c:Nat) (fI:Option (List cM × List (bJ × Bool))) (fS:List cM->Option (List cM)):Prop:=
 ∃ P' M',fI=some (P',M')/\InvP l P' M'/\P.length<=P'.length/\P'.length<=P.length+c/\
  ∀ R,aKz P R->(∀ y∈R,aCO l y)->R.length+c<=6000000->∃ R',fS R=some R'/\aKz P' R'/\(∀ y∈R',aCO l y)/\R.length<=R'.length/\R'.length<=R.length+c
theorem aEk.stop {l:List Definition} {P:List cM} {c:Nat} {fI:Option (List cM × List (bJ × Bool))} {fS fS':List cM->Option (List cM)} (h:aEk l P c fI fS)
  (h1:∀ R,200 < R.length->fS' R=some R) (h2:∀ R,¬ 200 < R.length->fS' R=fS R):aEk l P c fI fS':=by
 obtain ⟨P',M',e,i,a,b,k⟩:=h
 refine ⟨P',M',e,i,a,b,fun R hR hg hl=>?_⟩
 by_cases h:200 < R.length
 ·exact ⟨R,h1 R h,hR.stop h a,hg,Nat.le_refl _,by omega⟩
 ·rw [h2 R h];exact k R hR hg hl
theorem aEk.none {l:List Definition} {P:List cM} {M:List (bJ × Bool)} (c:Nat) (h:InvP l P M):aEk l P c (some (P,M)) some:=
 ⟨P,M,rfl,h,Nat.le_refl _,by omega,fun R hR hg _=>⟨R,rfl,hR,hg,Nat.le_refl _,by omega⟩⟩
section
variable {l:List Definition} (hD:oR l) {k:Nat} {d:Definition} (hd:l[k]?=some d)
include hD hd
theorem aMP {N:Nat} (hN:N<=7) {p:Part} (hp:p.Number=(N:Int)) {m n:Nat} {vs:List Int} (hvl:vs.length<=6) (c:Nat) (pr:Int)
  (ih:∀ (v:Nat) (P:List cM) (M:List (bJ × Bool)),v<=N->InvP l P M->P.length+c<=6000000->aEk l P c (cB m l P M (k:Int) (wr (pr+1)) (vs++[(v:Int)])) (dE n l (k:Int) (wr (pr+1)) (vs++[(v:Int)]))):
  ∀ (j v:Nat) (P:List cM) (M:List (bJ × Bool)),v+j=N+1->InvP l P M->P.length+j * c<=6000000->
  aEk l P (j * c) (loop (fun (s:(List cM × (List (bJ × Bool)) × Int))=>gD (cB m) l (k:Int) pr vs p s.1 s.2.1 s.2.2) (P,M,(v:Int)))
   (fun R=>loop (fun (s:(List cM × Int))=>kE (dE n) l (k:Int) pr vs p s.1 s.2) (R,(v:Int)))
 |0,v,P,M,hv,hI,hl=>by
  have e1:loop (fun (s:(List cM × (List (bJ × Bool)) × Int))=>gD (cB m) l (k:Int) pr vs p s.1 s.2.1 s.2.2) (P,M,(v:Int))=some (P,M):=by
   apply fP
   unfold gD
   rw [hp,iC (by omega) (by omega),if_neg (by simp;omega)]
  have e2:(fun R=>loop (fun (s:(List cM × Int))=>kE (dE n) l (k:Int) pr vs p s.1 s.2) (R,(v:Int)))=some:=by
   funext R
   apply fP
   unfold kE
   rw [hp,if_neg (by simp;omega)]
  rw [e1,e2]
  exact aEk.none _ hI
 |j+1,v,P,M,hv,hI,hl=>by
  have hmul:(j+1) * c=j * c+c:=Nat.succ_mul j c
  obtain ⟨P1,M1,a1,a2,a3,a4,a5⟩:=ih v P M (by omega) hI (by omega)
  obtain ⟨P2,M2,b1,b2,b3,b4,b5⟩:=aMP hN hp hvl c pr ih j (v+1) P1 M1 (by omega) a2 (by omega)
  have e1:loop (fun (s:(List cM × (List (bJ × Bool)) × Int))=>gD (cB m) l (k:Int) pr vs p s.1 s.2.1 s.2.2) (P,M,(v:Int))=some (P2,M2):=by
   rw [fF (s':=(P1,M1,((v+1:Nat):Int))),b1]
   show gD (cB m) l (k:Int) pr vs p P M (v:Int)=_
   unfold gD dH
   rw [hp,iC (show -9223372036854775808<=(N:Int)+1 by omega) (by omega),if_pos (by simp;omega),iR (by unfold jN;simp;omega),aE,aE,List.nil_append,iR (by unfold jN;simp;omega),aE,a1,aE,iC (by omega) (by omega)]
   rfl
  refine ⟨P2,M2,e1,b2,by omega,by omega,fun R hR hg hRl=>?_⟩
  obtain ⟨R1,c1,c2,c3,c4,c5⟩:=a5 R hR hg (by omega)
  obtain ⟨R2,d1,d2,d3,d4,d5⟩:=b5 R1 c2 c3 (by omega)
  refine ⟨R2,?_,d2,d3,by omega,by omega⟩
  show loop (fun (s:(List cM × Int))=>kE (dE n) l (k:Int) pr vs p s.1 s.2) (R,(v:Int))=_
  rw [fF (s':=(R1,((v+1:Nat):Int)))]
  ·exact d1
  ·show kE (dE n) l (k:Int) pr vs p R (v:Int)=_
   unfold kE tG
   rw [hp,if_pos (by simp;omega),iR (by unfold jN;simp;omega),aE,aE,List.nil_append,iR (by unfold jN;simp;omega),aE,c1,aE,iC (by omega) (by omega)]
   rfl
omit hD hd
theorem aEk.mono {P:List cM} {c c':Nat} {fI:Option (List cM × List (bJ × Bool))} {fS:List cM->Option (List cM)} (h:aEk l P c fI fS) (hc:c<=c'):aEk l P c' fI fS:=by
 obtain ⟨P',M',e,i,a,b,k⟩:=h
 refine ⟨P',M',e,i,a,by omega,fun R hR hg hl=>?_⟩
 obtain ⟨R',c1,c2,c3,c4,c5⟩:=k R hR hg (by omega)
 exact ⟨R',c1,c2,c3,c4,by omega⟩
theorem aEk.seq {P:List cM} {c1 c2:Nat} {f1:Option (List cM × List (bJ × Bool))} {f2:List cM->List (bJ × Bool)->Option (List cM × List (bJ × Bool))} {g1 g2:List cM->Option (List cM)} (h1:aEk l P c1 f1 g1)
  (h2:∀ P1 M1,InvP l P1 M1->P1.length<=P.length+c1->aEk l P1 c2 (f2 P1 M1) g2):aEk l P (c1+c2) (ob f1 fun r=>f2 r.1 r.2) (fun R=>ob (g1 R) g2):=by
 obtain ⟨P1,M1,a1,a2,a3,a4,a5⟩:=h1
 obtain ⟨P2,M2,b1,b2,b3,b4,b5⟩:=h2 P1 M1 a2 a4
 refine ⟨P2,M2,by rw [a1,aE];exact b1,b2,by omega,by omega,fun R hR hg hl=>?_⟩
 obtain ⟨R1,c1',d2,d3,d4,d5⟩:=a5 R hR hg (by omega)
 obtain ⟨R2,e1,e2,e3,e4,e5⟩:=b5 R1 d2 d3 (by omega)
 exact ⟨R2,by show ob (g1 R) g2=_;rw [c1',aE,e1],e2,e3,by omega,by omega⟩
theorem aMQ {α β:Type} (o:Option (α × β)):(ob o fun r=>some (r.1,r.2))=o:=by cases o<;>rfl
theorem aMR {α:Type} (o:Option α):(ob o fun r=>some r)=o:=by cases o<;>rfl
include hD
theorem aEk.take {P:List cM} {M:List (bJ × Bool)} {c:Nat} {s:cM} (hc:1<=c) (hI:InvP l P M) (hs:aCO l s) (hl:P.length+c<=6000000):aEk l P c (iX l P M s) (fun R=>yR R s):=by
 obtain ⟨M',t1,t2⟩:=take_eq hD hs hI.g hI.m (by omega)
 have g:=aHx P s
 refine ⟨yK P s,M',t1,⟨aFI hI.g hs,t2⟩,g.1,by omega,fun R hR hg hRl=>?_⟩
 have g2:=aHx R s
 exact ⟨yK R s,l07Add_eq R s (by omega) (fun y hy=>by have:=(hg y hy).2.2.1;omega),hR.add s,aFI hg hs,g2.1,by omega⟩
include hd
theorem aFJ:∀ (t:GT Part) (m n:Nat) (pre post:List Part) (b:Bool) (vs:List Int) (P:List cM) (M:List (bJ × Bool)),d.Body=pre++t.flat++post->t.WF iV->aKQ l (vs.length:Int) b t->vs.length<=6->vs.all oQ=true->t.flat.length<=m->t.flat.length<=n->InvP l P M->P.length+8 ^ (6 - vs.length) * t.flat.length<=6000000->
  aEk l P (8 ^ (6 - vs.length) * t.flat.length) (cB m l P M (k:Int) (pre.length:Int) vs) (dE n l (k:Int) (pre.length:Int) vs)
 |t,0,n,pre,post,b,vs,P,M,he,hw,hg,hv,hvs,hm,hn,hI,hl=>by have:=t.flat_pos;omega
 |t,m+1,0,pre,post,b,vs,P,M,he,hw,hg,hv,hvs,hm,hn,hI,hl=>by have:=t.flat_pos;omega
 |.nul p,m+1,n+1,pre,post,b,vs,P,M,he,hw,hg,hv,hvs,hm,hn,hI,hl=>by
  have hx:ix l (k:Int)=some d:=by rw [iL];exact hd
  have hx2:ix d.Body (pre.length:Int)=some p:=by rw [iL,he];simp [GT.flat]
  obtain ⟨k1,k2,k3,k4⟩:=folP_zero (show iV p=0 from hw)
  have eI:cB (m+1) l P M (k:Int) (pre.length:Int) vs=some (P,M):=by
   show dN (cB m) l P M (k:Int) (pre.length:Int) vs=_
   unfold dN
   rw [hx,aE,hx2,aE,if_neg (by simpa using k1),if_neg (by simpa using k2),if_neg (by simpa using k3),if_neg (by simpa using k4)];rfl
  rw [eI]
  refine (aEk.none _ hI).stop (fun R h=>?_) (fun R h=>?_)
  ·show cT (dE n) l (k:Int) (pre.length:Int) vs R=_
   unfold cT
   rw [hx,aE,hx2,aE,if_pos (by simp;omega)]
  ·show cT (dE n) l (k:Int) (pre.length:Int) vs R=_
   unfold cT
   rw [hx,aE,hx2,aE,if_neg (by simp;omega),if_neg (by simpa using k1),if_neg (by simpa using k2),if_neg (by simpa using k3),if_neg (by simpa using k4)];rfl
 |.one p a,m+1,n+1,pre,post,b,vs,P,M,he,hw,hg,hv,hvs,hm,hn,hI,hl=>by
  have h20:=(aJO hD hd).1
  have hx:ix l (k:Int)=some d:=by rw [iL];exact hd
  have hx2:ix d.Body (pre.length:Int)=some p:=by rw [iL,he];simp [GT.flat]
  have ok:=okP hg.1
  have hal:d.Body.length=pre.length+(1+a.flat.length)+post.length:=by rw [he];simp [GT.flat];omega
  have hwr:wr ((pre.length:Int)+1)=((pre++[p]).length:Int):=by rw [iC (by omega) (by omega)];simp
  have hfl:(GT.one p a).flat.length=a.flat.length+1:=by simp [GT.flat]
  have hea:d.Body=(pre++[p])++a.flat++post:=by rw [he];simp [GT.flat]
  have hpow:1<=8 ^ (6 - vs.length):=Nat.one_le_pow _ _ (by omega)
  have hca:8 ^ (6 - vs.length) * (GT.one p a).flat.length=8 ^ (6 - vs.length) * a.flat.length+8 ^ (6 - vs.length):=by rw [hfl,Nat.mul_succ]
  rcases folP_one hw.1 with hk|hk|hk
  ·
   obtain ⟨q1,q2,q3⟩:=ok.k1 hk
   obtain ⟨s1,s2⟩:=aNW hvs ok.ar (by omega)
   have hlb:uK p.Name (p.Arguments.map (aGq vs)):=by
    refine ⟨q1,by simpa using q2,?_,fun h=>by rw [q3 h];rfl⟩
    rw [List.all_map,List.all_eq_true]
    exact fun e he=>(aFE hvs (ok.ar e he)).2.2
   obtain ⟨rr,hrr⟩:=flat_root a
   have hx3:ix d.Body ((pre++[p]).length:Int)=some a.root:=by rw [iL,hea,hrr];simp
   have hclone:apd ([]:List Int) vs=some vs:=by rw [iR (by unfold jN;simp;omega),List.nil_append]
   have okr:=okP (good_root hg.2)
   have hbel:bel (vs.length:Int) p=vs.length:=by unfold bel;rw [hk];rfl
   rw [hbel] at okr
   have hg2:=hg.2
   rw [hbel] at hg2
   by_cases h5:a.root.Kind=5
   ·obtain ⟨u1,u2,u3⟩:=okr.k5 h5
    have hdn:a.root.Number.toNat < l.length:=by omega
    have hpar:=hD.2.2.1 (l[a.root.Number.toNat]) (List.getElem_mem hdn)
    have hgd:l.getD a.root.Number.toNat ⟨[],0,[]⟩=l[a.root.Number.toNat]:=by simp [List.getD,hdn]
    simp only [aIi,Bool.and_eq_true,decide_eq_true_eq] at hpar
    rw [hgd] at u3
    obtain ⟨v1,v2⟩:=aNW hvs okr.ar (by omega)
    have hs:aCO l ⟨lab p.Name (p.Arguments.map (aGq vs)),⟨a.root.Number,0,a.root.Arguments.map (aGq vs)⟩⟩:=by
     refine ⟨⟨_,_,hlb,rfl⟩,PtG.start hD u1 u2 (by rw [hgd];simpa using u3) ?_⟩
     rw [List.all_map,List.all_eq_true]
     exact fun e he=>(aFE hvs (okr.ar e he)).2.2
    have eI:cB (m+1) l P M (k:Int) (pre.length:Int) vs=iX l P M ⟨lab p.Name (p.Arguments.map (aGq vs)),⟨a.root.Number,0,a.root.Arguments.map (aGq vs)⟩⟩:=by
     show dN (cB m) l P M (k:Int) (pre.length:Int) vs=_
     unfold dN dH
     rw [hx,aE,hx2,aE,if_pos (by simpa using hk),s2,aE,aCG hlb,aE,hclone,aE,aE,hwr,hx3,aE,if_pos (by simpa using h5),v2,aE]
     exact aMQ _
    rw [eI]
    refine (aEk.take hD (by omega) hI hs hl).stop (fun R h=>?_) (fun R h=>?_)
    ·show cT (dE n) l (k:Int) (pre.length:Int) vs R=_
     unfold cT
     rw [hx,aE,hx2,aE,if_pos (by simp;omega)]
    ·show cT (dE n) l (k:Int) (pre.length:Int) vs R=_
     unfold cT tG nP
     rw [hx,aE,hx2,aE,if_neg (by simp;omega),if_pos (by simpa using hk),hclone,aE,aE,hwr,hx3,aE,if_pos (by simpa using h5),v1,aE,s1,aE,aMN hlb,aE]
     exact aMR _
   ·have hs:aCO l ⟨lab p.Name (p.Arguments.map (aGq vs)),⟨(k:Int),((pre++[p]).length:Int),vs⟩⟩:=
     ⟨⟨_,_,hlb,rfl⟩,⟨⟨k,d,a,pre++[p],post,_,hd,rfl,hea,hw.2,rfl,hg2⟩,hv,hvs⟩⟩
    have eI:cB (m+1) l P M (k:Int) (pre.length:Int) vs=iX l P M ⟨lab p.Name (p.Arguments.map (aGq vs)),⟨(k:Int),((pre++[p]).length:Int),vs⟩⟩:=by
     show dN (cB m) l P M (k:Int) (pre.length:Int) vs=_
     unfold dN dH
     rw [hx,aE,hx2,aE,if_pos (by simpa using hk),s2,aE,aCG hlb,aE,hclone,aE,aE,hwr,hx3,aE,if_neg (by simpa using h5)]
     exact aMQ _
    rw [eI]
    refine (aEk.take hD (by omega) hI hs hl).stop (fun R h=>?_) (fun R h=>?_)
    ·show cT (dE n) l (k:Int) (pre.length:Int) vs R=_
     unfold cT
     rw [hx,aE,hx2,aE,if_pos (by simp;omega)]
    ·show cT (dE n) l (k:Int) (pre.length:Int) vs R=_
     unfold cT tG nP
     rw [hx,aE,hx2,aE,if_neg (by simp;omega),if_pos (by simpa using hk),hclone,aE,aE,hwr,hx3,aE,if_neg (by simpa using h5),s1,aE,aMN hlb,aE]
     exact aMR _
  ·
   have hbel:bel (vs.length:Int) p=vs.length:=by unfold bel;rw [hk];rfl
   have hg2:=hg.2
   rw [hbel] at hg2
   obtain ⟨e,hae⟩:=List.length_eq_one_iff.1 (ok.k3 hk)
   have hix:ix p.Arguments 0=some e:=by rw [hae];rfl
   obtain ⟨w1,w2,_⟩:=aFE hvs (ok.ar e (by rw [hae];simp))
   have k1:¬ (p.Kind == 1)=true:=by rw [hk];decide
   have k2:¬ (p.Kind == 2)=true:=by rw [hk];decide
   by_cases hz:aGq vs e=0
   ·have eI:cB (m+1) l P M (k:Int) (pre.length:Int) vs=some (P,M):=by
     show dN (cB m) l P M (k:Int) (pre.length:Int) vs=_
     unfold dN
     rw [hx,aE,hx2,aE,if_neg k1,if_neg k2,if_pos (by simpa using hk),hix,aE,w2,aE,if_neg (by simpa using hz)];rfl
    rw [eI]
    refine (aEk.none _ hI).stop (fun R h=>?_) (fun R h=>?_)
    ·show cT (dE n) l (k:Int) (pre.length:Int) vs R=_
     unfold cT
     rw [hx,aE,hx2,aE,if_pos (by simp;omega)]
    ·show cT (dE n) l (k:Int) (pre.length:Int) vs R=_
     unfold cT
     rw [hx,aE,hx2,aE,if_neg (by simp;omega),if_neg k1,if_neg k2,if_pos (by simpa using hk),hix,aE,w1,aE,if_neg (by simpa using hz)];rfl
   ·have eI:cB (m+1) l P M (k:Int) (pre.length:Int) vs=cB m l P M (k:Int) ((pre++[p]).length:Int) vs:=by
     show dN (cB m) l P M (k:Int) (pre.length:Int) vs=_
     unfold dN
     rw [hx,aE,hx2,aE,if_neg k1,if_neg k2,if_pos (by simpa using hk),hix,aE,w2,aE,if_pos (by simpa using hz),hwr]
     exact aMQ _
    rw [eI]
    refine ((aFJ a m n (pre++[p]) post _ vs P M hea hw.2 hg2 hv hvs (by omega) (by omega) hI (by omega)).mono (by omega)).stop (fun R h=>?_) (fun R h=>?_)
    ·show cT (dE n) l (k:Int) (pre.length:Int) vs R=_
     unfold cT
     rw [hx,aE,hx2,aE,if_pos (by simp;omega)]
    ·show cT (dE n) l (k:Int) (pre.length:Int) vs R=_
     unfold cT
     rw [hx,aE,hx2,aE,if_neg (by simp;omega),if_neg k1,if_neg k2,if_pos (by simpa using hk),hix,aE,w1,aE,if_pos (by simpa using hz),hwr]
     exact aMR _
  ·
   obtain ⟨n1,n7,hs6⟩:=ok.k4 hk
   have hbel:bel (vs.length:Int) p=((vs.length+1:Nat):Int):=by unfold bel;rw [hk];rfl
   have hg2:=hg.2
   rw [hbel] at hg2
   have k1:¬ (p.Kind == 1)=true:=by rw [hk];decide
   have k2:¬ (p.Kind == 2)=true:=by rw [hk];decide
   have k3:¬ (p.Kind == 3)=true:=by rw [hk];decide
   have hN:p.Number=((p.Number.toNat:Nat):Int):=by omega
   have hp8:8 ^ (6 - vs.length)=8 * 8 ^ (6 - (vs.length+1)):=by rw [show 6 - vs.length=(6 - (vs.length+1))+1 by omega,Nat.pow_succ,Nat.mul_comm]
   have hcc:8 ^ (6 - vs.length) * a.flat.length=8 * (8 ^ (6 - (vs.length+1)) * a.flat.length):=by rw [hp8,Nat.mul_assoc]
   have hj:(p.Number.toNat+1) * (8 ^ (6 - (vs.length+1)) * a.flat.length)<=8 ^ (6 - vs.length) * a.flat.length:=by rw [hcc];exact Nat.mul_le_mul_right _ (by omega)
   have hw2:=aMP hD hd (N:=p.Number.toNat) (by omega) hN (m:=m) (n:=n) hv (8 ^ (6 - (vs.length+1)) * a.flat.length) (pre.length:Int) (fun v P M hvN hIP hlP=>by
    have:=aFJ a m n (pre++[p]) post _ (vs++[(v:Int)]) P M hea hw.2 (by simpa using hg2) (by simp;omega) (by simp only [List.all_append,hvs,Bool.true_and,List.all_cons,List.all_nil,Bool.and_true];exact aEj.2 (by omega)) (by omega) (by omega) hIP (by simpa using hlP)
    rw [hwr]
    simpa using this) (p.Number.toNat+1) 0 P M (by omega) hI (by omega)
   have eI:cB (m+1) l P M (k:Int) (pre.length:Int) vs=loop (fun (s:(List cM × (List (bJ × Bool)) × Int))=>gD (cB m) l (k:Int) (pre.length:Int) vs p s.1 s.2.1 s.2.2) (P,M,((0:Nat):Int)):=by
    show dN (cB m) l P M (k:Int) (pre.length:Int) vs=_
    unfold dN
    rw [hx,aE,hx2,aE,if_neg k1,if_neg k2,if_neg k3,if_pos (by simpa using hk)]
    exact aMQ _
   rw [eI]
   refine (hw2.mono (by omega)).stop (fun R h=>?_) (fun R h=>?_)
   ·show cT (dE n) l (k:Int) (pre.length:Int) vs R=_
    unfold cT
    rw [hx,aE,hx2,aE,if_pos (by simp;omega)]
   ·show cT (dE n) l (k:Int) (pre.length:Int) vs R=_
    unfold cT
    rw [hx,aE,hx2,aE,if_neg (by simp;omega),if_neg k1,if_neg k2,if_neg k3,if_pos (by simpa using hk)]
    exact aMR _
 |.two p a c,m+1,n+1,pre,post,b,vs,P,M,he,hw,hg,hv,hvs,hm,hn,hI,hl=>by
  have h20:=(aJO hD hd).1
  have hx:ix l (k:Int)=some d:=by rw [iL];exact hd
  have hx2:ix d.Body (pre.length:Int)=some p:=by rw [iL,he];simp [GT.flat]
  have hal:d.Body.length=pre.length+(1+a.flat.length+c.flat.length)+post.length:=by rw [he];simp [GT.flat];omega
  have hwr:wr ((pre.length:Int)+1)=((pre++[p]).length:Int):=by rw [iC (by omega) (by omega)];simp
  have hfl:(GT.two p a c).flat.length=a.flat.length+c.flat.length+1:=by simp [GT.flat]
  have hea:d.Body=(pre++[p])++a.flat++(c.flat++post):=by rw [he];simp [GT.flat]
  have hec:d.Body=(pre++[p]++a.flat)++c.flat++post:=by rw [he];simp [GT.flat]
  have hca:8 ^ (6 - vs.length) * (GT.two p a c).flat.length=8 ^ (6 - vs.length) * a.flat.length+8 ^ (6 - vs.length) * c.flat.length+8 ^ (6 - vs.length):=by rw [hfl,Nat.mul_succ,Nat.mul_add]
  have hk:p.Kind=2:=aKs.2 hw.1
  have hbel:bel (vs.length:Int) p=vs.length:=by unfold bel;rw [hk];rfl
  have hga:=hg.2.1
  have hgc:=hg.2.2
  rw [hbel] at hga hgc
  have k1:¬ (p.Kind == 1)=true:=by rw [hk];decide
  obtain ⟨e1,e2⟩:=end_at (by omega) a (pre++[p]) (c.flat++post) hea hw.2.1
  have hlen:((pre++[p]).length+a.flat.length:Nat)=(pre++[p]++a.flat).length:=by simp;omega
  have hpow:1<=8 ^ (6 - vs.length):=Nat.one_le_pow _ _ (by omega)
  rw [hlen] at e1 e2
  have w:=aEk.seq (c2:=8 ^ (6 - vs.length) * c.flat.length) (f2:=fun P1 M1=>cB m l P1 M1 (k:Int) ((pre++[p]++a.flat).length:Int) vs) (g2:=dE n l (k:Int) ((pre++[p]++a.flat).length:Int) vs)
   (aFJ a m n (pre++[p]) (c.flat++post) _ vs P M hea hw.2.1 hga hv hvs (by omega) (by omega) hI (by omega))
   (fun P1 M1 hI1 hl1=>aFJ c m n (pre++[p]++a.flat) post _ vs P1 M1 hec hw.2.2 hgc hv hvs (by omega) (by omega) hI1 (by omega))
  have eI:cB (m+1) l P M (k:Int) (pre.length:Int) vs=ob (cB m l P M (k:Int) ((pre++[p]).length:Int) vs) fun r=>cB m l r.1 r.2 (k:Int) ((pre++[p]++a.flat).length:Int) vs:=by
   show dN (cB m) l P M (k:Int) (pre.length:Int) vs=_
   unfold dN
   rw [hx,aE,hx2,aE,if_neg k1,if_pos (by simpa using hk),hwr,e1]
   refine congrArg (ob _) (funext fun r=>?_)
   exact aMQ _
  rw [eI]
  refine (w.mono (by omega)).stop (fun R h=>?_) (fun R h=>?_)
  ·show cT (dE n) l (k:Int) (pre.length:Int) vs R=_
   unfold cT
   rw [hx,aE,hx2,aE,if_pos (by simp;omega)]
  ·show cT (dE n) l (k:Int) (pre.length:Int) vs R=_
   unfold cT
   rw [hx,aE,hx2,aE,if_neg (by simp;omega),if_neg k1,if_pos (by simpa using hk),hwr,e2]
   refine congrArg (ob _) (funext fun r=>?_)
   exact aMR _
end
theorem aRq {l:List Definition} (hD:oR l) {p:aZ} (h:PtG l p):(∃ X,aGd l p=some (X,true)/\qT l p=some (X,true)/\X.length<=200/\∀ y∈X,aCO l y)\/(∃ X Y,aGd l p=some (X,false)/\qT l p=some (Y,false)):=by
 obtain ⟨⟨k,d,t,pre,post,b,h1,h2,h3,h4,h5,h6⟩,h7,h8⟩:=h
 have h20:=(aJO hD h1).1
 have h9:d.Body.length=pre.length+t.flat.length+post.length:=by rw [h3];simp;omega
 have hb:8 ^ (6 - p.Values.length) * t.flat.length<=8 ^ 6 * 20:=Nat.mul_le_mul (Nat.pow_le_pow_right (by omega) (by omega)) (by omega)
 have w:=aFJ hD h1 t 100000 100000 pre post b p.Values [] [] h3 h4 h6 h7 h8 (by omega) (by omega) ⟨fun y hy=>(by cases hy),aQn _⟩ (by simp only [List.length_nil];omega)
 obtain ⟨P,M,a1,a2,_,_,a5⟩:=w
 obtain ⟨R,b1,b2,b3,_,_⟩:=a5 [] (.inl rfl) (fun y hy=>(by cases hy)) (by simp only [List.length_nil];omega)
 have eI:aGd l p=some (P,decide ((P.length:Int)<=200)):=by
  unfold aGd aAL
  rw [h2,h5,a1,aE]
 have eS:qT l p=some (R,decide ((R.length:Int)<=200)):=by
  unfold qT aFY
  rw [h2,h5,b1,aE]
 rw [eI,eS]
 rcases b2 with rfl|b2
 ·by_cases hl:P.length<=200
  ·left;exact ⟨P,by rw [decide_eq_true (by omega)],by rw [decide_eq_true (by omega)],hl,b3⟩
  ·right;exact ⟨P,P,by rw [decide_eq_false (by omega)],by rw [decide_eq_false (by omega)]⟩
 ·right;exact ⟨P,R,by rw [decide_eq_false (by omega)],by rw [decide_eq_false (by omega)]⟩
end Gv
namespace Gv
open Go
theorem EqualI_eq (a b:List Int) (h:a.length < 4611686018427387904):fW a b=some (decide (a=b)):=by
 unfold fW
 by_cases e:a.length=b.length
 ·rw [if_neg (by simp [e])]
  refine Eq.trans ?_ (aHn e (step:=fun s=>gE a b s) ?_ ?_)
  ·rfl
  ·intro k x y hk hx hy
   simp only [gE,cR hk,if_pos,hx,hy,aE,cO hk h]
   by_cases e:x=y<;>simp [e]
  ·simp only [gE,cN];rfl
 ·rw [if_pos (by simp only [bne_iff_ne,ne_eq];omega)]
  have:¬ a=b:=fun h=>e (by rw [h])
  simp [this]
theorem aPf (xs:List bJ) (v:bJ):decide (pos xs v < 0)=!decide (v∈xs):=by
 have h:=aHq xs (fun x=>v == x)
 have h2:xs.any (fun x=>v == x)=decide (v∈xs):=by
  by_cases e:v∈xs
  ·rw [decide_eq_true e,List.any_eq_true];exact ⟨v,e,by simp⟩
  ·rw [decide_eq_false e,List.any_eq_false];intro x hx hv;exact e (by rw [show v=x by simpa using hv];exact hx)
 rw [h2] at h
 unfold pos
 cases hf:xs.findIdx? (fun x=>v == x) with
 |none=>rw [hf] at h;rw [←h];rfl
 |some i=>rw [hf] at h;rw [←h];simp
theorem posS_ge (xs:List bJ) (v:bJ):decide (0<=pos xs v)=decide (v∈xs):=by
 have:=aPf xs v
 by_cases e:v∈xs
 ·rw [decide_eq_true e] at this ⊢;simp at this ⊢;omega
 ·rw [decide_eq_false e] at this ⊢;simp at this ⊢;omega
theorem aEL (xs:List bJ) (v:bJ) (h:xs.length < 4611686018427387904):dJ xs v=some (decide (v∈xs)):=by
 rw [aON xs v h]
 congr 1
 by_cases e:v∈xs
 ·rw [decide_eq_true e,List.any_eq_true];exact ⟨v,e,by simp⟩
 ·rw [decide_eq_false e,List.any_eq_false];intro x hx hv;exact e (by rw [show v=x by simpa using hv];exact hx)
theorem aDB (st:List aZ) (hl:st.length < 1000000) (h:∀ p∈st,p.Values.length < 1000000):wF st=some st:=by
 unfold wF
 rw [zJ (step:=fun s:List aZ × Int=>aCc st s.1 s.2) st (fun p=>p) (fun x=>x) (fun k out x hk ho hx=>?_) (fun out=>by simp only [aCc,cN];rfl),aE]
 ·show some (st.map fun p=>p)=_;simp
 ·have hm:x∈st:=by rw [cZ hk] at hx;cases hx;exact List.getElem_mem hk
  have:=h x hm
  simp only [aCc,tG,cR hk,if_true,hx,aE,iR (show ([]:List Int).length+x.Values.length<=jN by unfold jN;simp;omega),List.nil_append]
  rw [iR (by unfold jN;simp;omega),aE,cO hk (by omega)]
theorem aBV (p:aZ) (h:p.Values.length < 1000000):qZ p=some p:=by
 unfold qZ dH
 rw [iR (by unfold jN;simp;omega),aE,aE,List.nil_append]
theorem aIt (st:List aZ) (hl:st.length < 1000000) (h:∀ p∈st,p.Values.length < 1000000):aAM st=some st:=by
 unfold aAM
 rw [zJ (step:=fun s:List aZ × Int=>rO st s.1 s.2) st (fun p=>p) (fun x=>x) (fun k out x hk ho hx=>?_) (fun out=>by simp only [rO,cN];rfl),aE]
 ·show some (st.map fun p=>p)=_;simp
 ·have hm:x∈st:=by rw [cZ hk] at hx;cases hx;exact List.getElem_mem hk
  simp only [rO,cR hk,if_true,hx,aE,aBV x (h x hm)]
  rw [iR (by unfold jN;simp;omega),aE,cO hk (by omega)]
theorem aRr (a b:List aZ) (hl:a.length < 1000000) (h:∀ p∈a,p.Values.length < 1000000):aFm a b=some (decide (a=b)):=by
 unfold aFm
 by_cases e:a.length=b.length
 ·rw [if_neg (by simp [e])]
  have:=aBb (step:=fun s=>aAs a b s) (a.zip b) (fun p=>decide (p.1=p.2)) (.inr false) (.inl ()) (fun k x hk hx=>?_) ?_
  ·rw [this,aE]
   have:(a.zip b).all (fun p=>decide (p.1=p.2))=decide (a=b):=by
    clear this hl h
    induction a generalizing b with
    |nil=>cases b with
     |nil=>rfl
     |cons y b=>simp at e
    |cons x a ih=>cases b with
     |nil=>simp at e
     |cons y b=>
      rw [List.zip_cons_cons,List.all_cons,ih b (by simpa using e)]
      by_cases h1:x=y
      ·by_cases h2:a=b<;>simp [h1,h2]
      ·simp [h1]
   rw [this]
   cases decide (a=b)<;>rfl
  ·have hk1:k < a.length:=by rw [List.length_zip] at hk;omega
   have hk2:k < b.length:=by omega
   have hx':x=(a[k],b[k]):=by rw [cZ hk] at hx;cases hx;rw [List.getElem_zip]
   unfold aAs
   rw [if_pos (cR hk1),cZ hk1,aE,cZ hk2,aE,aJN _ _ (by have:=h _ (List.getElem_mem hk1);omega),aE,cO hk1 (by omega),hx']
   by_cases h1:a[k]=b[k]<;>simp [h1]
  ·have:(a.zip b).length=a.length:=by rw [List.length_zip];omega
   rw [this]
   simp only [aAs,cN];rfl
 ·rw [if_pos (by simp only [bne_iff_ne,ne_eq];omega)]
  have:¬ a=b:=fun h=>e (by rw [h])
  simp [this]
def aFK (l:List Definition) (n:Nat) (st:List aZ):Prop:=st.length=n/\∀ p∈st,PtG l p
structure MvG (l:List Definition) (n:Nat) (m:bV):Prop where
 lbl:∃ nm vs,uK nm vs/\m.B=lab nm vs
 f:0<=m.First/\m.First<=2
 s:-1<=m.Second/\m.Second<=2
 st:aFK l n m.State
def mvK (m:bV):bJ:=m.B++[32]++Lib.itoa m.First++[32]++Lib.itoa m.Second++[32]++stT m.State
theorem aHO:Lib.itoa (-1)=45::Lib.decDigits 1:=rfl
theorem aHP {n:Int} (h:-1<=n):(32:UInt8)∉Lib.itoa n:=by
 by_cases h0:0<=n
 ·exact sM (oK h0) rfl
 ·have:n=-1:=by omega
  subst this
  rw [aHO]
  have:=sM (c:=32) (dd_all 1) rfl
  simp [this]
theorem aOc {a b:Int} (ha:-1<=a) (hb:-1<=b) (h:Lib.itoa a=Lib.itoa b):a=b:=by
 by_cases h0:0<=a
 ·by_cases h1:0<=b
  ·exact aFF h0 h1 h
  ·have:b=-1:=by omega
   subst this
   have h2:=oK h0
   rw [h,aHO] at h2
   simp at h2
   exact absurd h2.1 (by decide)
 ·have:a=-1:=by omega
  subst this
  by_cases h1:0<=b
  ·have h2:=oK h1
   rw [←h,aHO] at h2
   simp at h2
   exact absurd h2.1 (by decide)
  ·omega
theorem aOd {n:Int} (h:-1<=n) (h2:n<=2):(Lib.itoa n).length<=22:=by
 by_cases h0:0<=n
 ·have:=mW h0 (by omega);omega
 ·have:n=-1:=by omega
  subst this
  have:=mW (n:=1) (by omega) (by omega)
  rw [aJK (by omega)] at this
  rw [aHO]
  simp only [List.length_cons]
  have e:(1:Int).toNat=1:=rfl
  rw [e] at this
  omega
section
variable {l:List Definition} (hD:oR l) {n:Nat}
include hD
theorem aFK.ok {st:List aZ} (h:aFK l n st):∀ p∈st,aKy p:=fun p hp=>(h.2 p hp).ok hD
omit hD in
theorem aFK.val {st:List aZ} (h:aFK l n st):∀ p∈st,p.Values.length < 1000000:=fun p hp=>by have:=(h.2 p hp).2.1;omega
theorem mvK_inj {m u:bV} (hm:MvG l n m) (hu:MvG l n u) (h:mvK m=mvK u):m=u:=by
 obtain ⟨n1,v1,o1,e1⟩:=hm.lbl
 obtain ⟨n2,v2,o2,e2⟩:=hu.lbl
 unfold mvK at h
 simp only [List.append_assoc,List.singleton_append] at h
 obtain ⟨g1,h⟩:=aEK (by rw [e1];exact aOY o1) (by rw [e2];exact aOY o2) h
 obtain ⟨g2,h⟩:=aEK (aHP (by have:=hm.f;omega)) (aHP (by have:=hu.f;omega)) h
 obtain ⟨g3,h⟩:=aEK (aHP hm.s.1) (aHP hu.s.1) h
 have g4:=stT_inj (by rw [hm.st.1,hu.st.1]) (hm.st.ok hD) (hu.st.ok hD) h
 have g2:=aOc (by have:=hm.f;omega) (by have:=hu.f;omega) g2
 have g3:=aOc hm.s.1 hu.s.1 g3
 cases m;cases u
 simp only at g1 g2 g3 g4
 rw [g1,g2,g3,g4]
omit hD in
theorem aOe {P:List bV} {m:bV} (hP:∀ y∈P,MvG l n y) (hn:n < 1000000) (hl:P.length < 100000000):yU P m=some (yK P m):=by
 unfold yU
 rw [aBb (step:=fun s=>tR P m s) P (fun y=>!decide (y=m)) (.inr P) (.inl ()) (fun k y hk hy=>?_) (by simp only [tR,cN];rfl),aE,aQq]
 ·unfold yK
  by_cases hm:m∈P
  ·rw [decide_eq_true hm,if_pos hm];rfl
  ·rw [decide_eq_false hm,if_neg hm]
   show pM P m=_
   unfold pM
   rw [iR (by unfold jN;simp;omega),aE]
 ·have hm:y∈P:=by rw [cZ hk] at hy;cases hy;exact List.getElem_mem hk
  have hg:=hP y hm
  unfold tR nD
  rw [if_pos (cR hk),hy,aE,aRr _ _ (by rw [hg.st.1];exact hn) hg.st.val,aE,cO hk (by omega)]
  cases y with|mk y1 y2 y3 y4=>cases m with|mk m1 m2 m3 m4=>
  simp only [bV.mk.injEq]
  by_cases h1:y1=m1
  ·by_cases h2:y2=m2
   ·by_cases h3:y3=m3
    ·by_cases h4:y4=m4<;>simp [h1,h2,h3,h4]
    ·simp [h1,h2,h3]
   ·simp [h1,h2]
  ·simp [h1]
theorem mtake1 {P:List bV} {M:List (bJ × Bool)} {nm:bJ} {vs:List Int} {a b:Int} {st:List aZ} (hn:n<=3) (hg:MvG l n ⟨lab nm vs,a,b,st⟩) (hlb:uK nm vs) (hP:∀ y∈P,MvG l n y) (hM:aGB mvK P M) (hl:P.length < 100000000):
  ∃ M',kX P M a b (lab nm vs,true) st=some (yK P ⟨lab nm vs,a,b,st⟩,M')/\aGB mvK (yK P ⟨lab nm vs,a,b,st⟩) M':=by
 have h1:=aJL hlb
 have h2:=aOd (n:=a) (by have:=hg.f.1;simp only at this;omega) hg.f.2
 have h3:=aOd (n:=b) hg.s.1 hg.s.2
 have h4:=aPd (hg.st.ok hD)
 have h5:st.length=n:=hg.st.1
 simp only at h4
 have fa:=hg.f
 have fb:=hg.s
 simp only at fa fb
 have hm:=aQp (x:=(⟨lab nm vs,a,b,st⟩:bV)) hM (fun y hy he=>mvK_inj hD (hP y hy) hg he)
 unfold kX
 rw [lA (by unfold jN;simp;omega),aE,aBu (by omega) (by omega),aE,lA (by unfold jN;simp;omega),aE,lA (by unfold jN;simp;omega),aE,aBu (by omega) (by omega),aE,lA (by unfold jN;simp;omega),aE,lA (by unfold jN;simp;omega),aE,aQl (show st.length<=1000 by omega) (hg.st.ok hD),aE,lA (by unfold jN;simp;omega),aE]
 show ∃ M',(if (!((aBe M (mvK ⟨lab nm vs,a,b,st⟩)).getD false)) then (ob (some (aBW M (mvK ⟨lab nm vs,a,b,st⟩) true)) fun m=>ob (apd P ([⟨lab nm vs,a,b,st⟩]:List bV)) fun xs=>some (xs,m)) else (some (P,M)))=some (yK P ⟨lab nm vs,a,b,st⟩,M')/\_
 rw [hm]
 unfold yK
 by_cases e:(⟨lab nm vs,a,b,st⟩:bV)∈P
 ·rw [decide_eq_true e,if_pos e];exact ⟨M,rfl,hM⟩
 ·rw [decide_eq_false e,if_neg e,if_pos (show (!false)=true from rfl),aE,iR (by unfold jN;simp;omega),aE]
  exact ⟨_,rfl,aQo hM⟩
end
end Gv
namespace Gv
open Go
structure aMS (s:bZ):Prop where
 ok:SysOk s
 la:s.Allowed.length < 1000000000
 lh:s.Hidden.length < 1000000000
 lm:s.Meetings.length < 1000000000
def shN (s:bZ) (nm:bJ) (vs:List Int):bJ:=if nm∈s.Hidden then iT else lab nm vs
def aKA (s:bZ) (P:List bV) (nm:bJ) (vs:List Int) (a b:Int) (st:List aZ):List bV:=if nm=iT\/nm∈s.Allowed then yK P ⟨shN s nm vs,a,b,st⟩ else P
theorem aPg:uK iT []:=⟨tau_nm,by simp,rfl,fun _=>rfl⟩
theorem aLE:lab iT []=iT:=rfl
theorem lab_tau {nm:bJ} {vs:List Int} (h:uK nm vs):(lab nm vs == iT)=(nm == iT):=by
 by_cases e:nm=iT
 ·rw [e,h.2.2.2 e,aLE]
 ·have:(nm == iT)=false:=by simpa using e
  rw [this]
  apply beq_false_of_ne
  intro hl
  have h2:=lab_inj h aPg (by rw [hl,aLE])
  exact e h2.1
structure aEo (l:List Definition) (n:Nat) (P:List bV) (M:List (bJ × Bool)):Prop where
 g:∀ y∈P,MvG l n y
 m:aGB mvK P M
def qE (l:List Definition) (n:Nat) (P:List bV) (c:Nat) (fI:Option (List bV × List (bJ × Bool))) (fS:List bV->Option (List bV)):Prop:=
 ∃ P' M',fI=some (P',M')/\aEo l n P' M'/\P.length<=P'.length/\P'.length<=P.length+c/\
  ∀ R,aKz P R->(∀ y∈R,MvG l n y)->R.length+c<=6000000->∃ R',fS R=some R'/\aKz P' R'/\(∀ y∈R',MvG l n y)/\R.length<=R'.length/\R'.length<=R.length+c
section
variable {l:List Definition} {n:Nat}
theorem qE.stop {P:List bV} {c:Nat} {fI:Option (List bV × List (bJ × Bool))} {fS fS':List bV->Option (List bV)} (h:qE l n P c fI fS)
  (h1:∀ R,200 < R.length->fS' R=some R) (h2:∀ R,¬ 200 < R.length->aKz P R->(∀ y∈R,MvG l n y)->fS' R=fS R):qE l n P c fI fS':=by
 obtain ⟨P',M',e,i,a,b,k⟩:=h
 refine ⟨P',M',e,i,a,b,fun R hR hg hl=>?_⟩
 by_cases h:200 < R.length
 ·exact ⟨R,h1 R h,hR.stop h a,hg,Nat.le_refl _,by omega⟩
 ·rw [h2 R h hR hg];exact k R hR hg hl
theorem qE.none {P:List bV} {M:List (bJ × Bool)} (c:Nat) (h:aEo l n P M):qE l n P c (some (P,M)) some:=
 ⟨P,M,rfl,h,Nat.le_refl _,by omega,fun R hR hg _=>⟨R,rfl,hR,hg,Nat.le_refl _,by omega⟩⟩
theorem qE.mono {P:List bV} {c c':Nat} {fI:Option (List bV × List (bJ × Bool))} {fS:List bV->Option (List bV)} (h:qE l n P c fI fS) (hc:c<=c'):qE l n P c' fI fS:=by
 obtain ⟨P',M',e,i,a,b,k⟩:=h
 refine ⟨P',M',e,i,a,by omega,fun R hR hg hl=>?_⟩
 obtain ⟨R',c1,c2,c3,c4,c5⟩:=k R hR hg (by omega)
 exact ⟨R',c1,c2,c3,c4,by omega⟩
theorem qE.seq {P:List bV} {c1 c2:Nat} {f1:Option (List bV × List (bJ × Bool))} {f2:List bV->List (bJ × Bool)->Option (List bV × List (bJ × Bool))} {g1 g2:List bV->Option (List bV)} (h1:qE l n P c1 f1 g1)
  (h2:∀ P1 M1,aEo l n P1 M1->P1.length<=P.length+c1->qE l n P1 c2 (f2 P1 M1) g2):qE l n P (c1+c2) (ob f1 fun r=>f2 r.1 r.2) (fun R=>ob (g1 R) g2):=by
 obtain ⟨P1,M1,a1,a2,a3,a4,a5⟩:=h1
 obtain ⟨P2,M2,b1,b2,b3,b4,b5⟩:=h2 P1 M1 a2 a4
 refine ⟨P2,M2,by rw [a1,aE];exact b1,b2,by omega,by omega,fun R hR hg hl=>?_⟩
 obtain ⟨R1,c1',d2,d3,d4,d5⟩:=a5 R hR hg (by omega)
 obtain ⟨R2,e1,e2,e3,e4,e5⟩:=b5 R1 d2 d3 (by omega)
 exact ⟨R2,by show ob (g1 R) g2=_;rw [c1',aE,e1],e2,e3,by omega,by omega⟩
end
section
variable {s:bZ} (hs:aMS s) {n:Nat} (hn:n<=3) {st:List aZ} (hst:aFK s.Definitions n st)
include hs hn hst
omit hs hn in
theorem aKB {i:Nat} {q:aZ} (hq:PtG s.Definitions q):aFK s.Definitions n (st.set i q):=by
 refine ⟨by rw [List.length_set];exact hst.1,fun p hp=>?_⟩
 rcases List.mem_or_eq_of_mem_set hp with h|h
 ·exact hst.2 p h
 ·rw [h];exact hq
omit hst in
theorem shN_g {nm:bJ} {vs:List Int} (hlb:uK nm vs) {a b:Int} {st':List aZ} (ha:0<=a/\a<=2) (hb:-1<=b/\b<=2) (hst':aFK s.Definitions n st'):MvG s.Definitions n ⟨shN s nm vs,a,b,st'⟩:=by
 refine ⟨?_,ha,hb,hst'⟩
 unfold shN
 split
 ·exact ⟨iT,[],aPg,rfl⟩
 ·exact ⟨nm,vs,hlb,rfl⟩
omit hst in
omit hs hn hst in
theorem aQr (P:List bV) (nm:bJ) (vs:List Int) (a b:Int) (st':List aZ):P.length<=(aKA s P nm vs a b st').length/\(aKA s P nm vs a b st').length<=P.length+1:=by
 unfold aKA
 split
 ·exact aHx _ _
 ·omega
theorem mtake_one {P:List bV} {M:List (bJ × Bool)} {nm:bJ} {vs:List Int} (hlb:uK nm vs) {i:Nat} (hi:i < n) {q:aZ} (hq:PtG s.Definitions q) (hI:aEo s.Definitions n P M) (hl:P.length < 100000000):
  ∃ M',kG s.Definitions s.Components s.Meetings s.Allowed s.Hidden st P M nm vs (i:Int) (-1) [q]=some (aKA s P nm vs (i:Int) (-1) (st.set i q),M')/\aEo s.Definitions n (aKA s P nm vs (i:Int) (-1) (st.set i q)) M':=by
 have hst':=aKB hst (i:=i) hq
 have hv:=hst.val
 have hqv:q.Values.length < 1000000:=by have:=hq.2.1;omega
 have hlen:=hst.1
 have j2:∀ nm vs,uK nm vs->∃ M',fL st P M (i:Int) (-1) [q] nm vs=some (yK P ⟨lab nm vs,(i:Int),-1,st.set i q⟩,M')/\aGB mvK (yK P ⟨lab nm vs,(i:Int),-1,st.set i q⟩) M':=fun nm vs h=>by
  unfold fL
  rw [aCG h,aE,aIt st (by omega) hv,aE,show ix [q] 0=some q from rfl,aE,aBV q hqv,aE,cZ (show i < st.length by omega),aE,xC q (show i < st.length by omega),aE,if_neg (by decide)]
  exact mtake1 hs.ok.defs hn ⟨⟨_,_,h,rfl⟩,by simp only;omega,by simp only;omega,hst'⟩ h hI.g hI.m hl
 have j3:∃ M',(ob (dJ s.Hidden nm) fun r169=>if r169 then (fL st P M (i:Int) (-1) [q] ([116,97,117]:bJ) []) else (fL st P M (i:Int) (-1) [q] nm vs))=some (yK P ⟨shN s nm vs,(i:Int),-1,st.set i q⟩,M')/\aEo s.Definitions n (yK P ⟨shN s nm vs,(i:Int),-1,st.set i q⟩) M':=by
  rw [aEL _ _ (by have:=hs.lh;omega),aE]
  have hg:=shN_g hs hn hlb (a:=(i:Int)) (b:=-1) (by omega) (by omega) hst'
  unfold shN at hg ⊢
  by_cases e:nm∈s.Hidden
  ·rw [decide_eq_true e,if_pos rfl]
   rw [if_pos e] at hg ⊢
   obtain ⟨M',m1,m2⟩:=j2 iT [] aPg
   rw [aLE] at m1 m2
   exact ⟨M',m1,aFI hI.g hg,m2⟩
  ·rw [decide_eq_false e,if_neg (by simp)]
   rw [if_neg e] at hg ⊢
   obtain ⟨M',m1,m2⟩:=j2 nm vs hlb
   exact ⟨M',m1,aFI hI.g hg,m2⟩
 unfold kG kY aKA
 by_cases ht:nm=iT
 ·have:(nm == ([116,97,117]:bJ))=true:=by rw [ht];rfl
  rw [this,if_neg (show ¬ (!true)=true by decide),if_neg (show ¬ false=true by decide),if_pos (show nm=iT\/nm∈s.Allowed from .inl ht)]
  exact j3
 ·have:(nm == ([116,97,117]:bJ))=false:=beq_false_of_ne ht
  rw [this,if_pos (show (!false)=true from rfl),aEL _ _ (by have:=hs.la;omega),aE]
  by_cases e:nm∈s.Allowed
  ·rw [decide_eq_true e,if_neg (show ¬ (!true)=true by decide),if_pos (show nm=iT\/nm∈s.Allowed from .inr e)]
   exact j3
  ·rw [decide_eq_false e,if_pos (show (!false)=true from rfl),if_neg (show ¬ (nm=iT\/nm∈s.Allowed) from fun h=>h.elim ht e)]
   exact ⟨M,rfl,hI⟩
theorem mtake_two {P:List bV} {M:List (bJ × Bool)} {nm:bJ} {vs:List Int} (hlb:uK nm vs) {i k:Nat} (hi:i < n) (hk:k < n) {q r:aZ} (hq:PtG s.Definitions q) (hr:PtG s.Definitions r) (hI:aEo s.Definitions n P M) (hl:P.length < 100000000):
  ∃ M',kG s.Definitions s.Components s.Meetings s.Allowed s.Hidden st P M nm vs (i:Int) (k:Int) [q,r]=some (aKA s P nm vs (i:Int) (k:Int) ((st.set i q).set k r),M')/\aEo s.Definitions n (aKA s P nm vs (i:Int) (k:Int) ((st.set i q).set k r)) M':=by
 have hst':=aKB (aKB hst (i:=i) hq) (i:=k) hr
 have hv:=hst.val
 have hqv:q.Values.length < 1000000:=by have:=hq.2.1;omega
 have hrv:r.Values.length < 1000000:=by have:=hr.2.1;omega
 have hlen:=hst.1
 have j2:∀ nm vs,uK nm vs->∃ M',fL st P M (i:Int) (k:Int) [q,r] nm vs=some (yK P ⟨lab nm vs,(i:Int),(k:Int),(st.set i q).set k r⟩,M')/\aGB mvK (yK P ⟨lab nm vs,(i:Int),(k:Int),(st.set i q).set k r⟩) M':=fun nm vs h=>by
  unfold fL
  rw [aCG h,aE,aIt st (by omega) hv,aE,show ix [q,r] 0=some q from rfl,aE,aBV q hqv,aE,cZ (show i < st.length by omega),aE,xC q (show i < st.length by omega),aE,if_pos (by simp),show ix [q,r] 1=some r from rfl,aE,aBV r hrv,aE,cZ (show k < (st.set i q).length by simp;omega),aE,xC r (show k < (st.set i q).length by simp;omega),aE]
  exact mtake1 hs.ok.defs hn ⟨⟨_,_,h,rfl⟩,by simp only;omega,by simp only;omega,hst'⟩ h hI.g hI.m hl
 have j3:∃ M',(ob (dJ s.Hidden nm) fun r169=>if r169 then (fL st P M (i:Int) (k:Int) [q,r] ([116,97,117]:bJ) []) else (fL st P M (i:Int) (k:Int) [q,r] nm vs))=some (yK P ⟨shN s nm vs,(i:Int),(k:Int),(st.set i q).set k r⟩,M')/\aEo s.Definitions n (yK P ⟨shN s nm vs,(i:Int),(k:Int),(st.set i q).set k r⟩) M':=by
  rw [aEL _ _ (by have:=hs.lh;omega),aE]
  have hg:=shN_g hs hn hlb (a:=(i:Int)) (b:=(k:Int)) (by omega) (by omega) hst'
  unfold shN at hg ⊢
  by_cases e:nm∈s.Hidden
  ·rw [decide_eq_true e,if_pos rfl]
   rw [if_pos e] at hg ⊢
   obtain ⟨M',m1,m2⟩:=j2 iT [] aPg
   rw [aLE] at m1 m2
   exact ⟨M',m1,aFI hI.g hg,m2⟩
  ·rw [decide_eq_false e,if_neg (by simp)]
   rw [if_neg e] at hg ⊢
   obtain ⟨M',m1,m2⟩:=j2 nm vs hlb
   exact ⟨M',m1,aFI hI.g hg,m2⟩
 unfold kG kY aKA
 by_cases ht:nm=iT
 ·have:(nm == ([116,97,117]:bJ))=true:=by rw [ht];rfl
  rw [this,if_neg (show ¬ (!true)=true by decide),if_neg (show ¬ false=true by decide),if_pos (show nm=iT\/nm∈s.Allowed from .inl ht)]
  exact j3
 ·have:(nm == ([116,97,117]:bJ))=false:=beq_false_of_ne ht
  rw [this,if_pos (show (!false)=true from rfl),aEL _ _ (by have:=hs.la;omega),aE]
  by_cases e:nm∈s.Allowed
  ·rw [decide_eq_true e,if_neg (show ¬ (!true)=true by decide),if_pos (show nm=iT\/nm∈s.Allowed from .inr e)]
   exact j3
  ·rw [decide_eq_false e,if_pos (show (!false)=true from rfl),if_neg (show ¬ (nm=iT\/nm∈s.Allowed) from fun h=>h.elim ht e)]
   exact ⟨M,rfl,hI⟩
omit hn hst in
theorem show_S {nm:bJ} {vs:List Int} (hlb:uK nm vs):aDw s (lab nm vs)=some (shN s nm vs):=by
 unfold aDw shN
 rw [aJM hlb,aE,aIJ _ _ (by have:=hs.lh;omega),aE,posS_ge]
 by_cases e:nm∈s.Hidden
 ·rw [decide_eq_true e,if_pos rfl,if_pos e];rfl
 ·rw [decide_eq_false e,if_neg (by simp),if_neg e]
theorem single_S {A:List (List cM)} {X:List cM} {i a:Nat} (hX:ix A (i:Int)=some X) (hi:i < n) (ha:a < X.length) (hXl:X.length<=200) {nm:bJ} {vs:List Int} (hlb:uK nm vs) {q:aZ} (hy:X[a]=⟨lab nm vs,q⟩) (hq:PtG s.Definitions q)
  {P:List bV} (hP:∀ y∈P,MvG s.Definitions n y) (hl:P.length < 100000000):
  pP s st A (i:Int) P (a:Int)=some (.inl (aKA s P nm vs (i:Int) (-1) (st.set i q),((a+1:Nat):Int))):=by
 have hst':=aKB hst (i:=i) hq
 have hlen:=hst.1
 have hput:jV s st (i:Int) P (a:Int) ⟨lab nm vs,q⟩ false=some (.inl (yK P ⟨shN s nm vs,(i:Int),-1,st.set i q⟩,((a+1:Nat):Int))):=by
  unfold jV pO
  rw [if_neg (by simp),aDB st (by omega) hst.val,aE,cZ (show i < st.length by omega),aE,xC q (show i < st.length by omega),aE,show_S hs hlb,aE,aDB _ (by rw [List.length_set];omega) hst'.val,aE,aOe hP (by omega) hl,aE,cO ha (by omega)]
 unfold pP
 rw [hX,aE,if_pos (cR ha),cZ ha,aE,hy]
 show (if (!(lab nm vs == iT)) then (ob (jT (lab nm vs)) fun r580=>ob (yS s.Allowed r580) fun r584=>jV s st (i:Int) P (a:Int) ⟨lab nm vs,q⟩ (decide (r584 < 0))) else jV s st (i:Int) P (a:Int) ⟨lab nm vs,q⟩ false)=_
 rw [lab_tau hlb]
 unfold aKA
 by_cases ht:nm=iT
 ·have:(nm == iT)=true:=by simpa using ht
  rw [this,if_neg (show ¬ (!true)=true by decide),if_pos (show nm=iT\/nm∈s.Allowed from .inl ht)];exact hput
 ·have:(nm == iT)=false:=beq_false_of_ne ht
  rw [this,if_pos (show (!false)=true from rfl),aJM hlb,aE,aIJ _ _ (by have:=hs.la;omega),aE,aPf]
  by_cases e:nm∈s.Allowed
  ·rw [decide_eq_true e,if_pos (show nm=iT\/nm∈s.Allowed from .inr e)];exact hput
  ·rw [decide_eq_false e,if_neg (show ¬ (nm=iT\/nm∈s.Allowed) from fun h=>h.elim ht e)]
   unfold jV pO
   rw [if_pos (by simp),cO ha (by omega)]
def aKR (s:bZ) (P:List bV) (n1:bJ) (v1:List Int) (n2:bJ) (v2:List Int) (a b:Int) (st:List aZ):List bV:=
 match aHw s.Meetings n1 n2 with
 |none=>P
 |some m=>if v1=v2 then aKA s P m.Result v1 a b st else P
omit hs hn hst in
theorem pairM_len (P:List bV) (n1:bJ) (v1:List Int) (n2:bJ) (v2:List Int) (a b:Int) (st:List aZ):P.length<=(aKR s P n1 v1 n2 v2 a b st).length/\(aKR s P n1 v1 n2 v2 a b st).length<=P.length+1:=by
 unfold aKR
 split
 ·omega
 ·split
  ·exact aQr _ _ _ _ _ _
  ·omega
omit hn hst in
theorem aPh {n1 n2:bJ} {v1:List Int} (h1:uK n1 v1) {m:bU} (hm:aHw s.Meetings n1 n2=some m):uK m.Result v1/\m.Result≠iT:=by
 have:=(hs.ok.meet m (List.mem_of_find?_eq_some hm)).2.2
 unfold kI at this
 simp only [Bool.and_eq_true,bne_iff_ne,ne_eq,Bool.not_eq_true',beq_eq_false_iff_ne] at this
 exact ⟨⟨this.1,h1.2.1,h1.2.2.1,fun h=>absurd h this.2⟩,this.2⟩
omit hn hst in
theorem meet_S {n1 n2:bJ} {v1 v2:List Int} (h1:uK n1 v1) (h2:uK n2 v2):aFn s (lab n1 v1) (lab n2 v2)=some (match aHw s.Meetings n1 n2 with|none=>[]|some m=>if v1=v2 then (if m.Result∈s.Allowed then lab m.Result v1 else []) else []):=by
 obtain ⟨b1,e1⟩:=aQi h1
 obtain ⟨b2,e2⟩:=aQi h2
 unfold aFn
 rw [e1,aE,e2,aE,aMF _ _ (show v1.length < 4611686018427387904 by have:=h1.2.1;omega),aE]
 by_cases hv:v1=v2
 ·rw [decide_eq_true hv,if_neg (by simp),aJM h1,aE,aJM h2,aE,meeting_S _ hs.lm,aE]
  cases hm:aHw s.Meetings n1 n2 with
  |none=>rfl
  |some m=>
   obtain ⟨g1,g2⟩:=aPh hs h1 hm
   have hne:=(aFH g1.1).2
   have:(m.Result == ([]:bJ))=false:=by simpa using hne
   simp only [this,Bool.false_eq_true,if_false]
   rw [aIJ _ _ (by have:=hs.la;omega),aE,aPf,if_pos hv]
   unfold aAx
   by_cases e:m.Result∈s.Allowed
   ·rw [decide_eq_true e,if_neg (by simp),if_pos e,aMN g1,aE]
   ·rw [decide_eq_false e,if_pos (by simp),if_neg e]
 ·rw [decide_eq_false hv,if_pos (by simp)]
  cases aHw s.Meetings n1 n2 with
  |none=>rfl
  |some m=>simp [hv]
end
end Gv
namespace Gv
open Go
theorem lab_nn {nm:bJ} {vs:List Int} (h:uK nm vs):(lab nm vs == ([]:bJ))=false:=by
 have hne:=(aFH h.1).2
 apply beq_false_of_ne
 unfold lab
 split
 ·exact hne
 ·simp
section
variable {s:bZ} (hs:aMS s) {n:Nat} (hn:n<=3) {st:List aZ} (hst:aFK s.Definitions n st)
include hs hn hst
theorem aPi {A:List (List cM)} {X:List cM} {i:Nat} (hX:ix A (i:Int)=some X) (hi:i < n) (hXl:X.length<=200) (hXg:∀ y∈X,aCO s.Definitions y):∀ (j a:Nat) (P:List bV) (M:List (bJ × Bool)),a+j=X.length->aEo s.Definitions n P M->P.length+j<=6000000->
  ∃ P' M',loop (fun (t:(List bV × (List (bJ × Bool)) × Int))=>lV s st (i:Int) (X,true) t.1 t.2.1 t.2.2) (P,M,(a:Int))=some (P',M')/\aEo s.Definitions n P' M'/\P'.length<=P.length+j/\
   loop (fun (t:(List bV × Int))=>pP s st A (i:Int) t.1 t.2) (P,(a:Int))=some P'
 |0,a,P,M,ha,hI,hl=>by
  obtain rfl:a=X.length:=by omega
  refine ⟨P,M,?_,hI,by omega,?_⟩
  ·apply fP
   unfold lV
   rw [if_neg (by simp)]
  ·apply fP
   unfold pP
   rw [hX,aE,if_neg (by simp)]
 |j+1,a,P,M,ha,hI,hl=>by
  have haX:a < X.length:=by omega
  obtain ⟨⟨nm,vs,hlb,hlab⟩,hq⟩:=hXg X[a] (List.getElem_mem haX)
  have hy:X[a]=⟨lab nm vs,X[a].Next⟩:=by rw [←hlab]
  obtain ⟨M1,m1,m2⟩:=mtake_one hs hn hst hlb hi hq hI (by omega)
  have hP1:=aQr (s:=s) P nm vs (i:Int) (-1) (st.set i X[a].Next)
  obtain ⟨P',M',e1,e2,e3,e4⟩:=aPi hX hi hXl hXg j (a+1) _ M1 (by omega) m2 (by omega)
  refine ⟨P',M',?_,e2,by omega,?_⟩
  ·rw [fF]
   ·exact e1
   ·show lV s st (i:Int) (X,true) P M (a:Int)=_
    unfold lV
    rw [if_pos (cR haX),cZ haX,aE,hlab,aHv hlb,aE,m1,aE,cO haX (by omega)]
  ·rw [fF]
   ·exact e4
   ·exact single_S hs hn hst hX hi haX hXl hlb hy hq hI.g (show P.length < 100000000 by omega)
theorem pair_I {sa:cM} {n1:bJ} {v1:List Int} (h1:uK n1 v1) {i k b:Nat} (hi:i < n) (hk:k < n) (hq:PtG s.Definitions sa.Next) {Y:List cM} (hb:b < Y.length) (hYl:Y.length<=200) {n2:bJ} {v2:List Int} (h2:uK n2 v2) (hlab:Y[b].B=lab n2 v2) (hr:PtG s.Definitions Y[b].Next)
  {P:List bV} {M:List (bJ × Bool)} (hI:aEo s.Definitions n P M) (hl:P.length < 100000000):
  ∃ M',gG s.Definitions s.Components s.Meetings s.Allowed s.Hidden st (i:Int) (k:Int) Y sa (n1,v1,true) P M (b:Int)=some (.inl (aKR s P n1 v1 n2 v2 (i:Int) (k:Int) ((st.set i sa.Next).set k Y[b].Next),M',((b+1:Nat):Int)))/\aEo s.Definitions n (aKR s P n1 v1 n2 v2 (i:Int) (k:Int) ((st.set i sa.Next).set k Y[b].Next)) M':=by
 have hm:=meeting_I (s:=s) hs.lm n1 n2
 unfold gG
 rw [if_pos (cR hb),cZ hb,aE,hlab,aHv h2,aE]
 show ∃ M',(ob (mV s n1 n2) fun r172=>if r172.2 then (ob (fW v1 v2) fun r216=>gF s.Definitions s.Components s.Meetings s.Allowed s.Hidden st (i:Int) (k:Int) sa (n1,v1,true) P M (b:Int) Y[b] r172 r216) else (gF s.Definitions s.Components s.Meetings s.Allowed s.Hidden st (i:Int) (k:Int) sa (n1,v1,true) P M (b:Int) Y[b] r172 false))=_/\_
 rw [hm,aE]
 unfold aKR
 cases hf:aHw s.Meetings n1 n2 with
 |none=>
  simp only [Bool.false_eq_true,if_false]
  unfold gF iP
  rw [if_neg (by simp),cO hb (by omega)]
  exact ⟨M,rfl,hI⟩
 |some m=>
  obtain ⟨g1,g2⟩:=aPh hs h1 hf
  simp only [if_true]
  rw [EqualI_eq _ _ (by have:=h1.2.1;omega),aE]
  unfold gF iP
  by_cases hv:v1=v2
  ·rw [decide_eq_true hv,if_pos rfl,if_pos hv]
   obtain ⟨M1,m1,m2⟩:=mtake_two hs hn hst g1 hi hk hq hr hI hl
   rw [m1,aE,cO hb (by omega)]
   exact ⟨M1,rfl,m2⟩
  ·rw [decide_eq_false hv,if_neg (by simp),if_neg hv,cO hb (by omega)]
   exact ⟨M,rfl,hI⟩
theorem pair_S {A:List (List cM)} {X Y:List cM} {i k a b:Nat} (hY:ix A (k:Int)=some Y) (hi:i < n) (hk:k < n) (ha:a < X.length) (hb:b < Y.length) (hYl:Y.length<=200) {n1 n2:bJ} {v1 v2:List Int} (h1:uK n1 v1) (h2:uK n2 v2)
  (hl1:X[a].B=lab n1 v1) (hl2:Y[b].B=lab n2 v2) (hq:PtG s.Definitions X[a].Next) (hr:PtG s.Definitions Y[b].Next) {P:List bV} (hP:∀ y∈P,MvG s.Definitions n y) (hl:P.length<=200):
  jC s st A (i:Int) (k:Int) (a:Int) X P (b:Int)=some (.inl (aKR s P n1 v1 n2 v2 (i:Int) (k:Int) ((st.set i X[a].Next).set k Y[b].Next),((b+1:Nat):Int))):=by
 have hs1:=aKB hst (i:=i) hq
 have hst':=aKB hs1 (i:=k) hr
 have hlen:=hst.1
 unfold jC
 rw [hY,aE,if_pos (cR hb),decide_eq_true (by omega)]
 unfold oM
 rw [if_pos rfl,cZ ha,aE,hY,aE,cZ hb,aE,hl1,hl2,meet_S hs h1 h2,aE]
 unfold aKR wI
 cases hf:aHw s.Meetings n1 n2 with
 |none=>
  dsimp only
  rw [if_pos (show (([]:bJ) == ([]:bJ))=true from rfl),cO hb (by omega)]
 |some m=>
  obtain ⟨g1,g2⟩:=aPh hs h1 hf
  simp only
  by_cases hv:v1=v2
  ·rw [if_pos hv,if_pos hv]
   unfold aKA
   by_cases e:m.Result∈s.Allowed
   ·rw [if_pos e,if_pos (show m.Result=iT\/m.Result∈s.Allowed from .inr e),lab_nn g1,if_neg (by simp),aDB st (by omega) hst.val,aE,cZ (show i < st.length by omega),aE,xC _ (show i < st.length by omega),aE,
     cZ (show k < (st.set i X[a].Next).length by rw [List.length_set];omega),aE,xC _ (show k < (st.set i X[a].Next).length by rw [List.length_set];omega),aE,show_S hs g1,aE,aDB _ (by rw [List.length_set,List.length_set];omega) hst'.val,aE,aOe hP (by omega) (by omega),aE,cO hb (by omega)]
   ·rw [if_neg e,if_neg (show ¬ (m.Result=iT\/m.Result∈s.Allowed) from fun h=>h.elim g2 e),if_pos (show (([]:bJ) == ([]:bJ))=true from rfl),cO hb (by omega)]
  ·rw [if_neg hv,if_neg hv,if_pos (show (([]:bJ) == ([]:bJ))=true from rfl),cO hb (by omega)]
theorem pairs_b {A:List (List cM)} {X Y:List cM} {i k a:Nat} (hY:ix A (k:Int)=some Y) (hi:i < n) (hk:k < n) (ha:a < X.length) (hYl:Y.length<=200) (hYg:∀ y∈Y,aCO s.Definitions y) {n1:bJ} {v1:List Int} (h1:uK n1 v1)
  (hl1:X[a].B=lab n1 v1) (hq:PtG s.Definitions X[a].Next):∀ (j b:Nat) (P:List bV) (M:List (bJ × Bool)),b+j=Y.length->aEo s.Definitions n P M->P.length+j<=6000000->
  qE s.Definitions n P j (loop (fun (t:(List bV × (List (bJ × Bool)) × Int))=>gG s.Definitions s.Components s.Meetings s.Allowed s.Hidden st (i:Int) (k:Int) Y X[a] (n1,v1,true) t.1 t.2.1 t.2.2) (P,M,(b:Int)))
   (fun R=>loop (fun (t:(List bV × Int))=>jC s st A (i:Int) (k:Int) (a:Int) X t.1 t.2) (R,(b:Int)))
 |0,b,P,M,hb,hI,hl=>by
  obtain rfl:b=Y.length:=by omega
  have e1:loop (fun (t:(List bV × (List (bJ × Bool)) × Int))=>gG s.Definitions s.Components s.Meetings s.Allowed s.Hidden st (i:Int) (k:Int) Y X[a] (n1,v1,true) t.1 t.2.1 t.2.2) (P,M,(Y.length:Int))=some (P,M):=by
   apply fP
   unfold gG
   rw [if_neg (by simp)]
  have e2:(fun R=>loop (fun (t:(List bV × Int))=>jC s st A (i:Int) (k:Int) (a:Int) X t.1 t.2) (R,(Y.length:Int)))=some:=by
   funext R
   apply fP
   unfold jC oM
   rw [hY,aE,if_neg (by simp),if_neg (by simp)]
  rw [e1,e2]
  exact qE.none _ hI
 |j+1,b,P,M,hb,hI,hl=>by
  have hbY:b < Y.length:=by omega
  obtain ⟨⟨n2,v2,h2,hl2⟩,hr⟩:=hYg Y[b] (List.getElem_mem hbY)
  obtain ⟨M1,m1,m2⟩:=pair_I hs hn hst h1 hi hk hq hbY hYl h2 hl2 hr hI (by omega)
  have hP1:=pairM_len (s:=s) P n1 v1 n2 v2 (i:Int) (k:Int) ((st.set i X[a].Next).set k Y[b].Next)
  obtain ⟨P',M',e1,e2,e3,e4,e5⟩:=pairs_b hY hi hk ha hYl hYg h1 hl1 hq j (b+1) _ M1 (by omega) m2 (by omega)
  refine ⟨P',M',?_,e2,by omega,by omega,fun R hR hg hRl=>?_⟩
  ·rw [fF]
   ·exact e1
   ·exact m1
  ·by_cases h200:200 < R.length
   ·refine ⟨R,?_,hR.stop h200 (by omega),hg,Nat.le_refl _,by omega⟩
    apply fP
    unfold jC oM
    rw [hY,aE,if_pos (cR hbY),decide_eq_false (show ¬ (R.length:Int)<=200 by omega),if_neg (by simp)]
   ·obtain rfl:=hR.eq h200
    obtain ⟨R',c1,c2,c3,c4,c5⟩:=e5 _ (.inl rfl) m2.g (by omega)
    refine ⟨R',?_,c2,c3,by omega,by omega⟩
    show loop (fun (t:(List bV × Int))=>jC s st A (i:Int) (k:Int) (a:Int) X t.1 t.2) (P,(b:Int))=_
    rw [fF]
    ·exact c1
    ·exact pair_S hs hn hst hY hi hk ha hbY hYl h1 h2 hl1 hl2 hq hr hI.g (show P.length<=200 by omega)
theorem pairs_a {A:List (List cM)} {X Y:List cM} {i k:Nat} (hX:ix A (i:Int)=some X) (hY:ix A (k:Int)=some Y) (hi:i < n) (hk:k < n) (hXl:X.length<=200) (hXg:∀ y∈X,aCO s.Definitions y) (hYl:Y.length<=200) (hYg:∀ y∈Y,aCO s.Definitions y):
  ∀ (j a:Nat) (P:List bV) (M:List (bJ × Bool)),a+j=X.length->aEo s.Definitions n P M->P.length+j * 200<=6000000->
  qE s.Definitions n P (j * 200) (loop (fun (t:(List bV × (List (bJ × Bool)) × Int))=>gH s.Definitions s.Components s.Meetings s.Allowed s.Hidden st (i:Int) (k:Int) X Y t.1 t.2.1 t.2.2) (P,M,(a:Int)))
   (fun R=>loop (fun (t:(List bV × Int))=>jU s st A (i:Int) (k:Int) t.1 t.2) (R,(a:Int)))
 |0,a,P,M,ha,hI,hl=>by
  obtain rfl:a=X.length:=by omega
  have e1:loop (fun (t:(List bV × (List (bJ × Bool)) × Int))=>gH s.Definitions s.Components s.Meetings s.Allowed s.Hidden st (i:Int) (k:Int) X Y t.1 t.2.1 t.2.2) (P,M,(X.length:Int))=some (P,M):=by
   apply fP
   unfold gH
   rw [if_neg (by simp)]
  have e2:(fun R=>loop (fun (t:(List bV × Int))=>jU s st A (i:Int) (k:Int) t.1 t.2) (R,(X.length:Int)))=some:=by
   funext R
   apply fP
   unfold jU
   rw [hX,aE,if_neg (by simp)]
  rw [e1,e2]
  exact qE.none _ hI
 |j+1,a,P,M,ha,hI,hl=>by
  have haX:a < X.length:=by omega
  obtain ⟨⟨n1,v1,h1,hl1⟩,hq⟩:=hXg X[a] (List.getElem_mem haX)
  have w:=qE.seq (c2:=j * 200) ((pairs_b hs hn hst (a:=a) hY hi hk haX hYl hYg h1 hl1 hq Y.length 0 P M (by omega) hI (by omega)).mono hYl) (fun P1 M1 hI1 hl1=>pairs_a hX hY hi hk hXl hXg hYl hYg j (a+1) P1 M1 (by omega) hI1 (by omega))
  have hc:200+j * 200=(j+1) * 200:=by omega
  rw [hc] at w
  obtain ⟨P',M',e1,e2,e3,e4,e5⟩:=w
  refine ⟨P',M',?_,e2,e3,e4,fun R hR hg hRl=>?_⟩
  ·rw [←e1]
   cases hlp:loop (fun (t:(List bV × (List (bJ × Bool)) × Int))=>gG s.Definitions s.Components s.Meetings s.Allowed s.Hidden st (i:Int) (k:Int) Y X[a] (n1,v1,true) t.1 t.2.1 t.2.2) (P,M,((0:Nat):Int)) with
   |none=>rw [hlp] at e1;cases e1
   |some r=>
    rw [aE]
    rw [fF]
    show gH s.Definitions s.Components s.Meetings s.Allowed s.Hidden st (i:Int) (k:Int) X Y P M (a:Int)=_
    unfold gH
    rw [if_pos (cR haX),cZ haX,aE,hl1,aHv h1,aE]
    refine (congrArg (fun o=>ob o fun r=>iO (a:Int) r.1 r.2) hlp).trans ?_
    rw [aE]
    unfold iO mK
    rw [cO haX (by omega)]
  ·obtain ⟨R',c1,c2⟩:=e5 R hR hg hRl
   refine ⟨R',?_,c2⟩
   cases hlp:loop (fun (t:(List bV × Int))=>jC s st A (i:Int) (k:Int) (a:Int) X t.1 t.2) (R,((0:Nat):Int)) with
   |none=>simp only [hlp] at c1;cases c1
   |some r=>
    simp only [hlp] at c1
    rw [←c1,aE]
    show loop (fun (t:(List bV × Int))=>jU s st A (i:Int) (k:Int) t.1 t.2) (R,(a:Int))=_
    rw [fF]
    show jU s st A (i:Int) (k:Int) R (a:Int)=_
    unfold jU
    rw [hX,aE,if_pos (cR haX)]
    refine (congrArg (fun o=>ob o fun r=>sF (a:Int) r) hlp).trans ?_
    rw [aE]
    unfold sF aBI
    rw [cO haX (by omega)]
end
end Gv
namespace Gv
open Go
section
variable {l:List Definition} {n:Nat}
theorem qE.loop {N c k0:Nat} {stepI:(List bV × (List (bJ × Bool)) × Int)->Option ((List bV × (List (bJ × Bool)) × Int) ⊕ (List bV × (List (bJ × Bool))))} {stepS:(List bV × Int)->Option ((List bV × Int) ⊕ List bV)}
  {fI:Nat->List bV->List (bJ × Bool)->Option (List bV × List (bJ × Bool))} {fS:Nat->List bV->Option (List bV)}
  (hI:∀ k P M P' M',k < N->fI k P M=some (P',M')->stepI (P,M,(k:Int))=some (.inl (P',M',((k+1:Nat):Int))))
  (hI0:∀ P M,stepI (P,M,(N:Int))=some (.inr (P,M)))
  (hS:∀ k R R',k < N->fS k R=some R'->stepS (R,(k:Int))=some (.inl (R',((k+1:Nat):Int))))
  (hS0:∀ R,stepS (R,(N:Int))=some (.inr R))
  (hW:∀ k P M,k0<=k->k < N->aEo l n P M->P.length+c<=6000000->qE l n P c (fI k P M) (fS k)):
  ∀ (j k:Nat) (P:List bV) (M:List (bJ × Bool)),k0<=k->k+j=N->aEo l n P M->P.length+j * c<=6000000->qE l n P (j * c) (Gv.loop stepI (P,M,(k:Int))) (fun R=>Gv.loop stepS (R,(k:Int)))
 |0,k,P,M,hk0,hk,hIn,hl=>by
  obtain rfl:k=N:=by omega
  have e1:Gv.loop stepI (P,M,(k:Int))=some (P,M):=fP (hI0 P M)
  have e2:(fun R=>Gv.loop stepS (R,(k:Int)))=some:=by funext R;exact fP (hS0 R)
  rw [e1,e2]
  exact qE.none _ hIn
 |j+1,k,P,M,hk0,hk,hIn,hl=>by
  have hmul:(j+1) * c=c+j * c:=by rw [Nat.succ_mul,Nat.add_comm]
  have w:=qE.seq (f2:=fun P1 M1=>Gv.loop stepI (P1,M1,((k+1:Nat):Int))) (g2:=fun R=>Gv.loop stepS (R,((k+1:Nat):Int))) (hW k P M hk0 (by omega) hIn (by omega)) (fun P1 M1 h1 h2=>qE.loop hI hI0 hS hS0 hW j (k+1) P1 M1 (by omega) (by omega) h1 (by omega))
  rw [hmul]
  obtain ⟨P',M',e1,e2,e3,e4,e5⟩:=w
  refine ⟨P',M',?_,e2,e3,e4,fun R hR hg hRl=>?_⟩
  ·cases hf:fI k P M with
   |none=>rw [hf] at e1;cases e1
   |some r=>rw [hf,aE] at e1;rw [←e1,fF (hI k P M r.1 r.2 (by omega) hf)]
  ·obtain ⟨R',c1,c2⟩:=e5 R hR hg hRl
   refine ⟨R',?_,c2⟩
   cases hf:fS k R with
   |none=>simp only [hf] at c1;cases c1
   |some r=>simp only [hf,aE] at c1;rw [←c1];exact fF (hS k R r (by omega) hf)
end
def AllS (l:List Definition) (A:List (List cM)):Prop:=∀ X∈A,X.length<=200/\∀ y∈X,aCO l y
section
variable {s:bZ} (hs:aMS s) {n:Nat} (hn:n<=3) {st:List aZ} (hst:aFK s.Definitions n st)
include hs hn hst
theorem pairs_k {A:List (List cM)} (hA:A.length=n) (hG:AllS s.Definitions A) {i:Nat} (hi:i < n):∀ (j k:Nat) (P:List bV) (M:List (bJ × Bool)),0<=k->k+j=n->aEo s.Definitions n P M->P.length+j * 40000<=6000000->
  qE s.Definitions n P (j * 40000) (loop (fun (t:(List bV × (List (bJ × Bool)) × Int))=>iY s st A (i:Int) t.1 t.2.1 t.2.2) (P,M,(k:Int))) (fun R=>loop (fun (t:(List bV × Int))=>lG s st A (i:Int) t.1 t.2) (R,(k:Int))):=by
 have hlen:=hst.1
 have hiA:i < A.length:=by omega
 refine qE.loop (N:=n) (c:=40000) (k0:=0)
  (fI:=fun k P M=>loop (fun (t:(List bV × (List (bJ × Bool)) × Int))=>gH s.Definitions s.Components s.Meetings s.Allowed s.Hidden st (i:Int) (k:Int) A[i] (A.getD k []) t.1 t.2.1 t.2.2) (P,M,((0:Nat):Int)))
  (fS:=fun k R=>loop (fun (t:(List bV × Int))=>jU s st A (i:Int) (k:Int) t.1 t.2) (R,((0:Nat):Int)))
  (fun k P M P' M' hk hf=>?_) (fun P M=>?_) (fun k R R' hk hf=>?_) (fun R=>?_) (fun k P M _ hk hI hl=>?_)
 ·have hkA:k < A.length:=by omega
  have hg:A.getD k []=A[k]:=by simp [List.getD,hkA]
  rw [hg] at hf
  show iY s st A (i:Int) P M (k:Int)=_
  unfold iY oV
  rw [if_pos (by rw [hlen];exact cR hk),cZ hiA,aE,cZ hkA,aE]
  refine (congrArg (fun o=>ob (ob o fun r=>iN r.1 r.2) fun r168=>some (Sum.inl (r168.1,r168.2,wr ((k:Int)+1)))) hf).trans ?_
  rw [aE]
  unfold iN
  rw [aE,cO hk (by omega)]
 ·show iY s st A (i:Int) P M (n:Int)=_
  unfold iY
  rw [if_neg (by rw [hlen];simp)]
 ·show lG s st A (i:Int) R (k:Int)=_
  unfold lG
  rw [if_pos (by rw [hlen];exact cR hk)]
  refine (congrArg (fun o=>ob o fun r=>sE (k:Int) r) hf).trans ?_
  rw [aE]
  unfold sE aBH
  rw [cO hk (by omega)]
 ·show lG s st A (i:Int) R (n:Int)=_
  unfold lG
  rw [if_neg (by rw [hlen];simp)]
 ·have hkA:k < A.length:=by omega
  have hg:A.getD k []=A[k]:=by simp [List.getD,hkA]
  obtain ⟨x1,x2⟩:=hG A[i] (List.getElem_mem hiA)
  obtain ⟨y1,y2⟩:=hG A[k] (List.getElem_mem hkA)
  rw [hg]
  exact (pairs_a hs hn hst (cZ hiA) (cZ hkA) hi hk x1 x2 y1 y2 A[i].length 0 P M (by omega) hI (by omega)).mono (by omega)
theorem pairs_i {A:List (List cM)} (hA:A.length=n) (hG:AllS s.Definitions A):∀ (j i:Nat) (P:List bV) (M:List (bJ × Bool)),0<=i->i+j=n->aEo s.Definitions n P M->P.length+j * 120000<=6000000->
  qE s.Definitions n P (j * 120000) (loop (fun (t:(List bV × (List (bJ × Bool)) × Int))=>jZ s st A t.1 t.2.1 t.2.2) (P,M,(i:Int))) (fun R=>loop (fun (t:(List bV × Int))=>nE s st A t.1 t.2) (R,(i:Int))):=by
 have hlen:=hst.1
 refine qE.loop (N:=n) (c:=120000) (k0:=0)
  (fI:=fun i P M=>loop (fun (t:(List bV × (List (bJ × Bool)) × Int))=>iY s st A (i:Int) t.1 t.2.1 t.2.2) (P,M,((i+1:Nat):Int)))
  (fS:=fun i R=>loop (fun (t:(List bV × Int))=>lG s st A (i:Int) t.1 t.2) (R,((i+1:Nat):Int)))
  (fun k P M P' M' hk hf=>?_) (fun P M=>?_) (fun k R R' hk hf=>?_) (fun R=>?_) (fun k P M _ hk hI hl=>?_)
 ·show jZ s st A P M (k:Int)=_
  unfold jZ
  rw [if_pos (by rw [hlen];exact cR hk),cO hk (by omega)]
  refine (congrArg (fun o=>ob o fun r=>lT (k:Int) r.1 r.2) hf).trans ?_
  rw [aE]
  unfold lT sT
  rw [cO hk (by omega)]
 ·show jZ s st A P M (n:Int)=_
  unfold jZ
  rw [if_neg (by rw [hlen];simp)]
 ·show nE s st A R (k:Int)=_
  unfold nE
  rw [if_pos (by rw [hlen];exact cR hk),cO hk (by omega)]
  refine (congrArg (fun o=>ob o fun r=>sD (k:Int) r) hf).trans ?_
  rw [aE]
  unfold sD aBG
  rw [cO hk (by omega)]
 ·show nE s st A R (n:Int)=_
  unfold nE
  rw [if_neg (by rw [hlen];simp)]
 ·exact (pairs_k hs hn hst hA hG hk (n - (k+1)) (k+1) P M (by omega) (by omega) hI (by omega)).mono (by omega)
theorem collect:∀ (j i:Nat) (P:List bV) (M:List (bJ × Bool)) (acc:List (List cM)),i+j=n->acc.length=i->aEo s.Definitions n P M->P.length+j * 200<=6000000->
  (∃ rest P' M',rest.length=j/\AllS s.Definitions rest/\loop (fun (t:(List bV × (List (bJ × Bool)) × List (List cM) × Int))=>iI s st t.1 t.2.1 t.2.2.1 t.2.2.2) (P,M,acc,(i:Int))=some (.inl (P',M',acc++rest))/\aEo s.Definitions n P' M'/\P'.length<=P.length+j * 200/\
   loop (fun (t:(List (List cM) × Int))=>lI s st t.1 t.2) (acc,(i:Int))=some (.inl (acc++rest))/\loop (fun (t:(List bV × Int))=>pQ s st (acc++rest) t.1 t.2) (P,(i:Int))=some P')\/
  (loop (fun (t:(List bV × (List (bJ × Bool)) × List (List cM) × Int))=>iI s st t.1 t.2.1 t.2.2.1 t.2.2.2) (P,M,acc,(i:Int))=some (.inr ([],false))/\loop (fun (t:(List (List cM) × Int))=>lI s st t.1 t.2) (acc,(i:Int))=some (.inr ([],false)))
 |0,i,P,M,acc,hi,ha,hI,hl=>by
  have hlen:=hst.1
  obtain rfl:i=st.length:=by omega
  left
  refine ⟨[],P,M,rfl,fun X hX=>(by cases hX),?_,hI,by omega,?_,?_⟩
  ·apply fP
   unfold iI
   rw [if_neg (by simp),List.append_nil]
  ·apply fP
   unfold lI
   rw [if_neg (by simp),List.append_nil]
  ·apply fP
   unfold pQ
   rw [if_neg (by simp)]
 |j+1,i,P,M,acc,hi,ha,hI,hl=>by
  have hlen:=hst.1
  have hist:i < st.length:=by omega
  rcases aRq hs.ok.defs (hst.2 st[i] (List.getElem_mem hist)) with ⟨X,x1,x2,x3,x4⟩|⟨X,Y,x1,x2⟩
  ·have hX0:ix (acc++[X]) (i:Int)=some X:=by rw [iL,←ha];simp
   obtain ⟨P1,M1,a1,a2,a3,a4⟩:=aPi hs hn hst hX0 (by omega) x3 x4 X.length 0 P M (by omega) hI (by omega)
   have sI:iI s st P M acc (i:Int)=some (.inl (P1,M1,acc++[X],((i+1:Nat):Int))):=by
    unfold iI
    rw [if_pos (cR hist),cZ hist,aE,x1,aE,if_neg (by simp),iR (by unfold jN;simp;omega),aE]
    refine (congrArg (fun o=>ob o fun r=>lU (i:Int) (acc++[X]) r.1 r.2) a1).trans ?_
    rw [aE]
    unfold lU sU
    rw [cO hist (by omega)]
   have sS:lI s st acc (i:Int)=some (.inl (acc++[X],((i+1:Nat):Int))):=by
    unfold lI
    rw [if_pos (cR hist),cZ hist,aE,x2,aE,if_neg (by simp),iR (by unfold jN;simp;omega),aE,cO hist (by omega)]
   rcases collect j (i+1) P1 M1 (acc++[X]) (by omega) (by simp;omega) a2 (by omega) with ⟨rest,P',M',b1,b2,b3,b4,b5,b6,b7⟩|⟨b1,b2⟩
   ·left
    have happ:acc++[X]++rest=acc++X::rest:=by simp
    rw [happ] at b3 b6 b7
    refine ⟨X::rest,P',M',by simp;omega,fun Z hZ=>?_,?_,b4,by omega,?_,?_⟩
    ·rcases List.mem_cons.1 hZ with rfl|hZ
     ·exact ⟨x3,x4⟩
     ·exact b2 Z hZ
    ·rw [fF]
     ·exact b3
     ·exact sI
    ·rw [fF]
     ·exact b6
     ·exact sS
    ·have hX1:ix (acc++X::rest) (i:Int)=some X:=by rw [iL,←ha];simp
     obtain ⟨P2,M2,c1,c2,c3,c4⟩:=aPi hs hn hst hX1 (by omega) x3 x4 X.length 0 P M (by omega) hI (by omega)
     have:P2=P1:=by
      have e:=a1.symm.trans c1
      simp only [Option.some.injEq,Prod.mk.injEq] at e
      exact e.1.symm
     subst this
     rw [fF]
     ·exact b7
     ·show pQ s st (acc++X::rest) P (i:Int)=_
      unfold pQ
      rw [if_pos (cR hist)]
      refine (congrArg (fun o=>ob o fun r=>pN (i:Int) r) c4).trans ?_
      rw [aE]
      unfold pN aAy
      rw [cO hist (by omega)]
   ·right
    refine ⟨?_,?_⟩
    ·rw [fF]
     ·exact b1
     ·exact sI
    ·rw [fF]
     ·exact b2
     ·exact sS
  ·right
   refine ⟨?_,?_⟩
   ·apply fP
    unfold iI
    rw [if_pos (cR hist),cZ hist,aE,x1,aE,if_pos (by simp)]
   ·apply fP
    unfold lI
    rw [if_pos (cR hist),cZ hist,aE,x2,aE,if_pos (by simp)]
theorem aRs:(∃ X,lL s st=some (X,true)/\tS s st=some (X,true)/\X.length<=200/\∀ y∈X,MvG s.Definitions n y)\/(∃ X Y,lL s st=some (X,false)/\tS s st=some (Y,false)):=by
 have hlen:=hst.1
 have hI0:aEo s.Definitions n [] []:=⟨fun y hy=>(by cases hy),aQn _⟩
 rcases collect hs hn hst n 0 [] [] [] (by omega) rfl hI0 (by simp only [List.length_nil];omega) with ⟨A,P1,M1,b1,b2,b3,b4,b5,b6,b7⟩|⟨b1,b2⟩
 ·rw [List.nil_append] at b3 b6 b7
  obtain ⟨P2,M2,e1,e2,e3,e4,e5⟩:=pairs_i hs hn hst b1 b2 n 0 P1 M1 (by omega) (by omega) b4 (by simp only [List.length_nil] at b5;omega)
  obtain ⟨R,c1,c2,c3,c4,c5⟩:=e5 P1 (.inl rfl) b4.g (by simp only [List.length_nil] at b5;omega)
  have gI:lL s st=some (P2,decide ((P2.length:Int)<=200)):=by
   unfold lL
   refine (congrArg (fun o=>ob o fun r=>match r with|.inl r=>iZ s st r.1 r.2.1 r.2.2|.inr r=>some r) b3).trans ?_
   show iZ s st P1 M1 A=_
   unfold iZ
   refine (congrArg (fun o=>ob o fun r=>oE r.1 r.2) e1).trans ?_
   rfl
  have gS:tS s st=some (R,decide ((R.length:Int)<=200)):=by
   unfold tS
   refine (congrArg (fun o=>ob o fun r=>match r with|.inl r=>lH s st r|.inr r=>some r) b6).trans ?_
   show lH s st A=_
   unfold lH
   refine (congrArg (fun o=>ob o fun r=>nF s st A r) b7).trans ?_
   show nF s st A P1=_
   unfold nF
   refine (congrArg (fun o=>ob o fun r=>wH r) c1).trans ?_
   rfl
  rw [gI,gS]
  rcases c2 with rfl|c2
  ·by_cases hl:P2.length<=200
   ·left;exact ⟨P2,by rw [decide_eq_true (by omega)],by rw [decide_eq_true (by omega)],hl,c3⟩
   ·right;exact ⟨P2,P2,by rw [decide_eq_false (by omega)],by rw [decide_eq_false (by omega)]⟩
  ·right;exact ⟨P2,R,by rw [decide_eq_false (by omega)],by rw [decide_eq_false (by omega)]⟩
 ·right
  refine ⟨[],[],?_,?_⟩
  ·unfold lL
   refine (congrArg (fun o=>ob o fun r=>match r with|.inl r=>iZ s st r.1 r.2.1 r.2.2|.inr r=>some r) b1).trans ?_
   rfl
  ·unfold tS
   refine (congrArg (fun o=>ob o fun r=>match r with|.inl r=>lH s st r|.inr r=>some r) b2).trans ?_
   rfl
end
end Gv
namespace Gv
open Go
theorem aPj {x:Int} (h:0<=x) (h2:x < 4294967296):(BitVec.ofInt 64 x).toNat=x.toNat:=by
 rw [BitVec.toNat_ofInt]
 omega
theorem xo16 {x y:Int} (hx:0<=x/\x < 65536) (hy:0<=y/\y < 65536):0<=xoI x y/\xoI x y < 65536:=by
 rw [xoI_eq,BitVec.toNat_xor,aPj hx.1 (by omega),aPj hy.1 (by omega)]
 have:x.toNat ^^^ y.toNat < 2 ^ 16:=Nat.xor_lt_two_pow (by omega) (by omega)
 rw [iC (by omega) (by omega)]
 omega
theorem an16 {x:Int} (hx:0<=x/\x < 4294967296):0<=anI x 65535/\anI x 65535 < 65536:=by
 rw [anI_eq,BitVec.toNat_and,aPj hx.1 hx.2,aPj (x:=65535) (by omega) (by omega)]
 have:x.toNat&&& (65535:Int).toNat<=(65535:Int).toNat:=Nat.and_le_right
 have e:(65535:Int).toNat=65535:=rfl
 rw [e] at this ⊢
 rw [iC (by omega) (by omega)]
 omega
theorem sh1 (x:Int):shI x 1=some (wr (x * 2)):=by
 unfold shI
 rw [if_pos (by decide)];rfl
theorem sh8 (x:Int):shI x 8=some (wr (x * 256)):=by
 unfold shI
 rw [if_pos (by decide)];rfl
theorem crc5 (c k:Int):aCn c k=mA c k:=by
 unfold aCn mA aCm yI
 rw [sh1,aE]
theorem crc6 (s:bJ) (c k:Int):aCo s c k=oO s c k:=by
 unfold aCo oO aCl yH aEA aDW
 have h5:(fun (t:(Int × Int))=>aCn t.1 t.2)=(fun (t:(Int × Int))=>mA t.1 t.2):=funext fun t=>crc5 t.1 t.2
 rw [h5]
 split
 ·refine congrArg (ob _) (funext fun b=>?_)
  rw [sh8,aE]
 ·rfl
theorem crc_in:∀ (j k:Nat) (c:Int),k+j=8->0<=c/\c < 65536->∃ r,loop (fun (t:(Int × Int))=>mA t.1 t.2) (c,(k:Int))=some r/\0<=r/\r < 65536
 |0,k,c,hk,hc=>by
  obtain rfl:k=8:=by omega
  refine ⟨c,fP ?_,hc⟩
  show mA c 8=_
  unfold mA
  rw [if_neg (by decide)]
 |j+1,k,c,hk,hc=>by
  have hw:wr (c * 2)=c * 2:=iC (by omega) (by omega)
  have hk2:wr ((k:Int)+1)=((k+1:Nat):Int):=by rw [iC (by omega) (by omega)];omega
  by_cases h:65535 < c * 2
  ·obtain ⟨r,h1,h2⟩:=crc_in j (k+1) (xoI (anI (c * 2) 65535) 4129) (by omega) (xo16 (an16 (by omega)) (by omega))
   refine ⟨r,?_,h2⟩
   rw [fF]
   ·exact h1
   ·show mA c (k:Int)=_
    unfold mA yI
    rw [if_pos (by simp;omega),hw,if_pos (by simpa using h),hk2]
  ·obtain ⟨r,h1,h2⟩:=crc_in j (k+1) (c * 2) (by omega) (by omega)
   refine ⟨r,?_,h2⟩
   rw [fF]
   ·exact h1
   ·show mA c (k:Int)=_
    unfold mA yI
    rw [if_pos (by simp;omega),hw,if_neg (by simpa using h),hk2]
theorem crc_out (s:bJ) (hs:s.length < 1000000):∀ (j k:Nat) (c:Int),k+j=s.length->0<=c/\c < 65536->∃ r,loop (fun (t:(Int × Int))=>oO s t.1 t.2) (c,(k:Int))=some r/\0<=r/\r < 65536
 |0,k,c,hk,hc=>by
  obtain rfl:k=s.length:=by omega
  refine ⟨c,fP ?_,hc⟩
  show oO s c (s.length:Int)=_
  unfold oO
  rw [if_neg (by simp)]
 |j+1,k,c,hk,hc=>by
  have hks:k < s.length:=by omega
  have hb:=s[k].toNat_lt
  have hw:wr (wr ((s[k]).toNat:Int) * 256)=((s[k]).toNat:Int) * 256:=by
   have hw0:wr ((s[k]).toNat:Int)=((s[k]).toNat:Int):=iC (by omega) (by omega)
   rw [hw0,iC (by omega) (by omega)]
  obtain ⟨r,h1,h2⟩:=crc_in 8 0 (xoI c (((s[k]).toNat:Int) * 256)) (by omega) (xo16 hc (by omega))
  obtain ⟨q,g1,g2⟩:=crc_out s hs j (k+1) r (by omega) h2
  refine ⟨q,?_,g2⟩
  rw [fF]
  ·exact g1
  ·show oO s c (k:Int)=_
   unfold oO
   rw [if_pos (cR hks),cZ hks,aE,hw]
   refine (congrArg (fun o=>ob o fun r=>yH (k:Int) r) h1).trans ?_
   rw [aE]
   unfold yH aDW
   rw [cO hks (by omega)]
theorem crc_both (s:bJ) (hs:s.length < 1000000):∃ r,aJc s 65535=some r/\aGV s 65535=some r/\0<=r:=by
 obtain ⟨r,h1,h2⟩:=crc_out s hs s.length 0 65535 (by omega) (by omega)
 have h6:(fun (t:(Int × Int))=>aCo s t.1 t.2)=(fun (t:(Int × Int))=>oO s t.1 t.2):=funext fun t=>crc6 s t.1 t.2
 refine ⟨r,?_,?_,h2.1⟩
 ·unfold aJc
  rw [iS,aE,if_neg (by decide)]
  refine (congrArg (fun o=>ob o fun r=>aDV r) h1).trans ?_
  rfl
 ·unfold aGV
  rw [h6]
  refine (congrArg (fun o=>ob o fun r=>aCk r) h1).trans ?_
  rfl
theorem rm_in {x n:Int} (hx:0<=x) (hn:1<=n):∃ v,rm x n=some v/\0<=v/\v < n:=by
 refine ⟨x.tmod n,?_,?_,?_⟩
 ·unfold rm;rw [if_neg (by omega)]
 ·exact Int.tmod_nonneg _ hx
 ·exact Int.tmod_lt_of_pos _ (by omega)
theorem aQs {X:List bV} {log:List dI} {policy seed:Int} (hX:1<=X.length) (hX2:X.length<=200) (hL:log.length<=60) (hp:0<=policy/\policy<=2) (hsd:0<=seed/\seed<=65535):
  ∃ c:Nat,c < X.length/\gV ⟨policy,seed⟩ X log=some (c:Int)/\nW X log policy seed=some (c:Int):=by
 by_cases h2:policy=2
 ·have a1:=mW hsd.1 (by omega)
  have a2:=mW (n:=(log.length:Int)) (by omega) (by omega)
  obtain ⟨r,r1,r2,r3⟩:=crc_both (Lib.itoa seed++[45]++Lib.itoa (log.length:Int)) (by simp;omega)
  obtain ⟨v,v1,v2,v3⟩:=rm_in r3 (n:=(X.length:Int)) (by omega)
  refine ⟨v.toNat,by omega,?_,?_⟩
  ·unfold gV
   simp only
   rw [if_pos (by simpa using h2),aBu (by omega) (by omega),aE,lA (by unfold jN;simp;omega),aE,aBu (by omega) (by omega),aE,lA (by unfold jN;simp;omega),aE,r1,aE,v1,aE]
   congr 1;omega
  ·unfold nW
   rw [if_neg (by rw [h2];decide),if_pos (by simpa using h2),aKw hsd.1 (by omega),aE,lA (by unfold jN;simp;omega),aE,aKw (n:=(log.length:Int)) (by omega) (by omega),aE,lA (by unfold jN;simp;omega),aE,r2,aE,v1,aE]
   congr 1;omega
 ·by_cases h1:policy=1
  ·by_cases hl:log.length=0
   ·refine ⟨0,by omega,?_,?_⟩
    ·unfold gV iA
     simp only
     rw [if_neg (by simpa using h2),if_pos (by simpa using h1),if_neg (by rw [hl];simp)];rfl
    ·unfold nW
     rw [if_pos (by simpa using h1),if_pos (by simpa using hl)];rfl
   ·have hlast:ix log (wr ((log.length:Int) - 1))=some (log[log.length - 1]'(by omega)):=by
     rw [iC (by omega) (by omega),show (log.length:Int) - 1=((log.length - 1:Nat):Int) by omega,cZ (by omega)]
    have f1:=vJ (step:=fun x=>eJ X log x) X (fun m=>decide ((log[log.length - 1]'(by omega)).First < m.First)) (fun k x hk hx=>by
     simp only [eJ,cR hk,if_true,hx,aE,nM,rA,hlast,cO hk (show X.length < 4611686018427387904 by omega)]) (by simp only [eJ,cN];rfl)
    have f2:=vJ (step:=fun x=>pR X (log[log.length - 1]'(by omega)) x) X (fun m=>decide ((log[log.length - 1]'(by omega)).First < m.First)) (fun k x hk hx=>by
     simp only [pR,cR hk,if_true,hx,aE,cO hk (show X.length < 4611686018427387904 by omega)]) (by simp only [pR,cN];rfl)
    have eI:gV ⟨policy,seed⟩ X log=ob (eQ X log) fun r47=>some (mxI r47 0):=by
     unfold gV iA
     simp only
     rw [if_neg (by simpa using h2),if_pos (by simpa using h1),if_pos (by simp;omega)]
    have eS:nW X log policy seed=ob (loop (fun (t:Int)=>pR X (log[log.length - 1]'(by omega)) t) 0) fun r=>match r with|.inl r=>tU|.inr r=>some r:=by
     unfold nW
     rw [if_pos (by simpa using h1),if_neg (by simpa using hl),hlast,aE]
     rfl
    rw [eI,eS,f2]
    unfold eQ
    rw [f1,aE]
    cases hf:X.findIdx? (fun m=>decide ((log[log.length - 1]'(by omega)).First < m.First)) with
    |none=>exact ⟨0,by omega,rfl,rfl⟩
    |some i=>
     have hi:i < X.length:=(List.findIdx?_eq_some_iff_findIdx_eq.1 hf).1
     refine ⟨i,hi,?_,rfl⟩
     show some (mxI (i:Int) 0)=_
     unfold mxI
     rw [if_neg (by omega)]
  ·refine ⟨0,by omega,?_,?_⟩
   ·unfold gV iA
    simp only
    rw [if_neg (by simpa using h2),if_neg (by simpa using h1),if_neg (by simp)];rfl
   ·unfold nW tT
    rw [if_neg (by simpa using h1),if_neg (by simpa using h2)];rfl
theorem aQt {s:bZ} (hs:aMS s) {n:Nat} (hn:n<=3) {policy seed steps:Int} (hp:0<=policy/\policy<=2) (hsd:0<=seed/\seed<=65535) (hst:steps<=60):∀ (j:Nat) (st:List aZ) (log:List dI),log.length+j=60->aFK s.Definitions n st->
  (∃ E S,E.length<=60/\aFK s.Definitions n S/\loop (fun (t:(List aZ × List dI))=>fM ⟨policy,seed⟩ s steps t.1 t.2) (st,log)=some (.inl (S,E))/\loop (fun (t:(List dI × List aZ))=>lZ s policy seed steps t.1 t.2) (log,st)=some (.inl (E,S)))\/
  (loop (fun (t:(List aZ × List dI))=>fM ⟨policy,seed⟩ s steps t.1 t.2) (st,log)=some (.inr ([],[],5))/\loop (fun (t:(List dI × List aZ))=>lZ s policy seed steps t.1 t.2) (log,st)=some (.inr ([],[],false)))
 |j,st,log,hj,hA=>by
  by_cases hlt:(log.length:Int) < steps
  ·cases j with
   |zero=>omega
   |succ j=>
   rcases aRs hs hn hA with ⟨X,x1,x2,x3,x4⟩|⟨X,Y,x1,x2⟩
   ·by_cases h0:X.length=0
    ·left
     refine ⟨log,st,by omega,hA,fP ?_,fP ?_⟩
     ·show fM ⟨policy,seed⟩ s steps st log=_
      unfold fM
      rw [if_pos (by simpa using hlt),x1,aE,if_neg (by simp),if_pos (by simp [h0])]
     ·show lZ s policy seed steps log st=_
      unfold lZ
      rw [if_pos (by simpa using hlt),x2,aE,if_neg (by simp),if_pos (by simp [h0])]
    ·obtain ⟨c,c1,c2,c3⟩:=aQs (X:=X) (log:=log) (by omega) x3 (by omega) hp hsd
     have hm:=x4 X[c] (List.getElem_mem c1)
     have sI:fM ⟨policy,seed⟩ s steps st log=some (.inl (X[c].State,log++[⟨(c:Int),X[c].First,X[c].Second,X[c].B⟩])):=by
      unfold fM
      rw [if_pos (by simpa using hlt),x1,aE,if_neg (by simp),if_neg (by simp;intro h;rw [h] at h0;exact h0 rfl),c2,aE,cZ c1,aE,iR (by unfold jN;simp;omega),aE]
     have sS:lZ s policy seed steps log st=some (.inl (log++[⟨(c:Int),X[c].First,X[c].Second,X[c].B⟩],X[c].State)):=by
      unfold lZ
      rw [if_pos (by simpa using hlt),x2,aE,if_neg (by simp),if_neg (by simp;intro h;rw [h] at h0;exact h0 rfl),c3,aE,cZ c1,aE,iR (by unfold jN;simp;omega),aE,aDB _ (by rw [hm.st.1];omega) hm.st.val,aE]
     rcases aQt hs hn hp hsd hst j X[c].State (log++[⟨(c:Int),X[c].First,X[c].Second,X[c].B⟩]) (by simp;omega) hm.st with ⟨E,S,e1,e2,e3,e4⟩|⟨e1,e2⟩
     ·left
      exact ⟨E,S,e1,e2,by rw [fF sI];exact e3,by rw [fF sS];exact e4⟩
     ·right
      exact ⟨by rw [fF sI];exact e1,by rw [fF sS];exact e2⟩
   ·right
    refine ⟨fP ?_,fP ?_⟩
    ·show fM ⟨policy,seed⟩ s steps st log=_
     unfold fM
     rw [if_pos (by simpa using hlt),x1,aE,if_pos (by simp)]
    ·show lZ s policy seed steps log st=_
     unfold lZ
     rw [if_pos (by simpa using hlt),x2,aE,if_pos (by simp)]
  ·left
   refine ⟨log,st,by omega,hA,fP ?_,fP ?_⟩
   ·show fM ⟨policy,seed⟩ s steps st log=_
    unfold fM
    rw [if_neg (by simpa using hlt)]
   ·show lZ s policy seed steps log st=_
    unfold lZ
    rw [if_neg (by simpa using hlt)]
def stT0 (s:bZ):List aZ:=s.Components.map fun c=>⟨c.Definition,0,c.Values⟩
theorem aQu {s:bZ} (hs:aMS s):aFK s.Definitions s.Components.length (stT0 s):=by
 refine ⟨by unfold stT0;simp,fun p hp=>?_⟩
 obtain ⟨c,hc,rfl⟩:=List.mem_map.1 hp
 have:=hs.ok.comp c hc
 unfold aCF at this
 simp only [Bool.and_eq_true,decide_eq_true_eq,beq_iff_eq] at this
 exact PtG.start hs.ok.defs this.1.1.1 this.1.1.2 this.1.2 this.2
theorem aRu {s:bZ} (hs:aMS s):uA s=some (stT0 s)/\aDR s=some (stT0 s):=by
 have hn:=hs.ok.n3
 have hok:=aQu hs
 have hv:∀ c∈s.Components,c.Values.length < 1000000:=fun c hc=>by
  have:=(hok.2 ⟨c.Definition,0,c.Values⟩ (List.mem_map.2 ⟨c,hc,rfl⟩)).2.1
  simp only at this;omega
 constructor
 ·unfold uA
  rw [zJ (step:=fun t:List aZ × Int=>oF s t.1 t.2) s.Components (fun c=>⟨c.Definition,0,c.Values⟩) (fun x=>x) (fun k out x hk ho hx=>?_) (fun out=>by simp only [oF,cN];rfl),aE]
  ·rfl
  ·have hm:x∈s.Components:=by rw [cZ hk] at hx;cases hx;exact List.getElem_mem hk
   have:=hv x hm
   simp only [oF,dH,cR hk,if_true,hx,aE,iR (show ([]:List Int).length+x.Values.length<=jN by unfold jN;simp;omega),List.nil_append]
   rw [iR (by unfold jN;simp;omega),aE,cO hk (by omega)]
 ·unfold aDR
  rw [zJ (step:=fun t:List aZ × Int=>wJ s t.1 t.2) s.Components (fun c=>⟨c.Definition,0,c.Values⟩) (fun x=>x) (fun k out x hk ho hx=>?_) (fun out=>by simp only [wJ,cN];rfl),aE]
  ·rfl
  ·have hm:x∈s.Components:=by rw [cZ hk] at hx;cases hx;exact List.getElem_mem hk
   have:=hv x hm
   simp only [wJ,tG,cR hk,if_true,hx,aE,iR (show ([]:List Int).length+x.Values.length<=jN by unfold jN;simp;omega),List.nil_append]
   rw [iR (by unfold jN;simp;omega),aE,cO hk (by omega)]
theorem run_both {s:bZ} (hz:zSys s<=sz) (policy seed steps:Int):∃ E S c,zE s policy seed steps=some (E,S,c)/\aCp s policy seed steps=some (E,S,c)/\E.length<=60/\S.length<=3/\∀ p∈S,p.Values.length<=6:=by
 obtain ⟨B,v1,v2,v3⟩:=aRn hz
 have hw:∀ x a b:Int,iD x a b=some (decide (a<=x)&&decide (x<=b)):=fun x a b=>iS x a b
 unfold zE aCp aHG aIZ
 rw [v1,v2,aE,aE]
 cases B with
 |false=>exact ⟨[],[],1,rfl,rfl,by simp,by simp,fun p hp=>(by cases hp)⟩
 |true=>
  have hok:=v3 rfl
  have hf:=aHs hz
  have hs:aMS s:=⟨hok,by have:=hf.7;unfold sz at this;omega,by have:=hf.9;unfold sz at this;omega,by have:=hf.5;unfold sz at this;omega⟩
  rw [if_neg (by simp),if_neg (by simp)]
  have c1:(ob (oB ⟨policy,seed⟩) fun r35=>if (!r35) then (qY true) else (ob (iD steps 0 60) fun r40=>qY (!r40)))=some (if (0<=policy/\policy<=2)/\(0<=seed/\seed<=65535)/\(0<=steps/\steps<=60) then 0 else 2):=by
   unfold oB lJ qY
   simp only [iS,aE]
   by_cases a1:0<=policy<;>by_cases a2:policy<=2<;>by_cases a3:0<=seed<;>by_cases a4:seed<=65535<;>by_cases a5:0<=steps<;>by_cases a6:steps<=60<;>simp [a1,a2,a3,a4,a5,a6]
  have c2:(ob (aCb policy seed) fun r32=>if (!r32) then (tF true) else (ob (nK steps 0 60) fun r37=>tF (!r37)))=some (if (0<=policy/\policy<=2)/\(0<=seed/\seed<=65535)/\(0<=steps/\steps<=60) then 0 else 2):=by
   unfold aCb tE tF
   simp only [aCA,aE]
   by_cases a1:0<=policy<;>by_cases a2:policy<=2<;>by_cases a3:0<=seed<;>by_cases a4:seed<=65535<;>by_cases a5:0<=steps<;>by_cases a6:steps<=60<;>simp [a1,a2,a3,a4,a5,a6]
  rw [c1,c2,aE,aE]
  by_cases hc:(0<=policy/\policy<=2)/\(0<=seed/\seed<=65535)/\(0<=steps/\steps<=60)
  ·rw [if_pos hc,if_neg (by decide),if_neg (by decide)]
   obtain ⟨s1,s2⟩:=aRu hs
   have hA:=aQu hs
   have hn3:=hok.n3
   rw [s1,s2,aE,aE]
   have hown:=aDB (stT0 s) (by rw [hA.1];omega) hA.val
   unfold xP aLA
   rw [iR (by unfold jN;simp),aE,hown,aE,List.append_nil]
   rcases aQt hs hn3 hc.1 hc.2.1 hc.2.2.2 60 (stT0 s) [] rfl hA with ⟨E,S,e1,e2,e3,e4⟩|⟨e1,e2⟩
   ·refine ⟨E,S,0,?_,?_,e1,by have:=e2.1;omega,fun p hp=>(e2.2 p hp).2.1⟩
    ·refine (congrArg (fun o=>ob (ob o fun r=>match r with|.inl r=>jG r.1 r.2|.inr r=>some r) fun r56=>some (r56.1,r56.2.1,r56.2.2)) e3).trans ?_
     rfl
    ·refine (congrArg (fun o=>ob (ob o fun r=>match r with|.inl r=>yF r.1 r.2|.inr r=>some r) fun r47=>if (!r47.2.2) then (some (([]:List dI),([]:List aZ),(5:Int))) else (some (r47.1,r47.2.1,0))) e4).trans ?_
     rfl
   ·refine ⟨[],[],5,?_,?_,by simp,by simp,fun p hp=>(by cases hp)⟩
    ·refine (congrArg (fun o=>ob (ob o fun r=>match r with|.inl r=>jG r.1 r.2|.inr r=>some r) fun r56=>some (r56.1,r56.2.1,r56.2.2)) e1).trans ?_
     rfl
    ·refine (congrArg (fun o=>ob (ob o fun r=>match r with|.inl r=>yF r.1 r.2|.inr r=>some r) fun r47=>if (!r47.2.2) then (some (([]:List dI),([]:List aZ),(5:Int))) else (some (r47.1,r47.2.1,0))) e2).trans ?_
     rfl
  ·rw [if_neg hc,if_pos (by decide),if_pos (by decide)]
   exact ⟨[],[],2,rfl,rfl,by simp,by simp,fun p hp=>(by cases hp)⟩
end Gv
namespace Gv
open Go
theorem aRv (a b:dI):aFp a b=some (decide (a=b)):=by
 obtain ⟨a1,a2,a3,a4⟩:=a;obtain ⟨b1,b2,b3,b4⟩:=b
 simp only [aFp,dI.mk.injEq]
 by_cases h1:a1=b1<;>by_cases h2:a2=b2<;>by_cases h3:a3=b3<;>by_cases h4:a4=b4<;>simp [h1,h2,h3,h4]
theorem aQv (a b:List dI) (h:a.length < 4611686018427387904):aBn a b=some (decide (a=b)):=by
 refine eqL (step:=fun s=>wV a b s) h (fun k x y hk hx hy hm=>?_) ?_
 ·simp only [wV,cR hk,if_true,hx,hy,aE,aRv x y]
  by_cases e:x=y<;>simp [e]
 ·simp only [wV,cN];rfl
theorem aRw (a b:aZ) (h:a.Values.length < 4611686018427387904):aFq a b=some (decide (a=b)):=by
 obtain ⟨a1,a2,a3⟩:=a;obtain ⟨b1,b2,b3⟩:=b
 simp only [aFq,aZ.mk.injEq,aKH a3 b3 h,aE]
 by_cases h1:a1=b1<;>by_cases h2:a2=b2<;>by_cases h3:a3=b3<;>simp [h1,h2,h3]
theorem aQw (a b:List aZ) (h:a.length < 4611686018427387904) (h2:∀ p∈a,p.Values.length < 4611686018427387904):aBp a b=some (decide (a=b)):=by
 refine eqL (step:=fun s=>wX a b s) h (fun k x y hk hx hy hm=>?_) ?_
 ·simp only [wX,cR hk,if_true,hx,hy,aE,aRw x y (h2 x hm)]
  by_cases e:x=y<;>simp [e]
 ·simp only [wX,cN];rfl
theorem aQx:∀ {S:List aZ},(∀ p∈S,p.Values.length<=6)->(S.map wPo).sum<=8 * S.length
 |[],_=>by simp
 |p::S,h=>by
  have h1:=h p (by simp)
  have h2:=aQx (S:=S) (fun q hq=>h q (List.mem_cons_of_mem _ hq))
  simp only [List.map_cons,List.sum_cons,List.length_cons]
  unfold wPo
  unfold wPo at h2
  omega
theorem lawRun (aS:bZ) (aPolicy aSeed aSteps:Int) (h:aJE 9223372036854775807 aS):rC aS aPolicy aSeed aSteps=some true:=by
 obtain ⟨r,hr,h1⟩:=aNn h
 unfold rC
 rw [hr,aE]
 by_cases hn:r < 0
 ·rw [if_pos (by simpa using hn)]
 rw [if_neg (by simpa using hn)]
 have hz:=h1 (by omega)
 have hf:=aHs hz
 have ht:qV aS=some aS:=aPY (aHs (n:=jN) (by unfold sz at hz;unfold jN;omega))
 obtain ⟨E,S,c,g1,g2,g3,g4,g5⟩:=run_both hz aPolicy aSeed aSteps
 have e1:=aQv E E (by omega)
 have e2:=aQw S S (by omega) (fun p hp=>by have:=g5 p hp;omega)
 have e3:=aQa aS aS hf
 rw [decide_eq_true rfl] at e1 e2 e3
 obtain ⟨k,m1,m2⟩:=aNt hz
 have hs:=aQx g5
 have n1:=aNp (a:=E) (k:=1) (by omega) (by unfold BM;omega) (by omega)
 have n2:=aNr (a:=S) (k:=1+(4 * E.length:Nat)) (by omega) (by unfold BM;omega) (by omega) (fun p hp=>by have:=g5 p hp;omega)
 have n3:=aNq (a:=E) (k:=1) (by omega) (by unfold BM;omega) (by omega)
 have n4:=aNs (a:=S) (k:=1+(4 * E.length:Nat)) (by omega) (by unfold BM;omega) (by omega) (fun p hp=>by have:=g5 p hp;omega)
 have hbne:(c != c)=false:=by simp
 rw [ht,aE,show (⟨aS.Definitions,aS.Components,aS.Meetings,aS.Allowed,aS.Hidden⟩:bZ)=aS from rfl,g2,aE,aE,g1,aE,e1,aE,if_neg (by simp),e2,aE,if_neg (by simp),hbne]
 unfold jB
 rw [if_neg (by simp),ht,aE,e3,aE,if_neg (by simp),m1,aE,if_neg (by simp;omega),e1,aE,if_neg (by simp),e2,aE,if_neg (by simp),hbne]
 unfold iB
 rw [if_neg (by simp),n1,aE]
 simp only
 rw [n2,aE]
 simp only
 rw [n3,aE,if_neg (by simp;omega),n4,aE,if_neg (by simp;omega),if_neg (by simp),ht,aE,g1,aE,e1,aE,if_neg (by simp),e2,aE,if_neg (by simp),hbne]
 unfold jA
 simp only
 rw [if_neg (by simp),n3,aE,if_neg (by simp;omega),n4,aE,if_neg (by simp;omega),if_neg (by simp)]
end Gv
