/- Numbers and lists of numbers as texts; labels that are made and read again, on both sides. -/
import Derived.Test.YtlechllgdgniaaaGreatDoorJP320
set_option linter.all false
namespace Gv
open Go
theorem ofn48 {n:Nat} (h:n < 10):(UInt8.ofNat (48+n)).toNat=48+n:=by simp;omega
theorem dig48 {n:Nat} (h:n < 10):dig (UInt8.ofNat (48+n))=true:=by rw [kV,ofn48 h];omega
theorem dd_all (u:Nat):(Lib.decDigits u).all dig=true:=by
 induction u using Nat.strongRecOn with
 |_ u ih=>
  by_cases h:u < 10
  ·rw [Lib.decDigits_one h];simp only [List.all_cons,List.all_nil,Bool.and_true];exact dig48 h
  ·rw [Lib.decDigits,dif_neg h,List.all_append,ih (u / 10) (by omega)]
   simp only [List.all_cons,List.all_nil,Bool.and_true,Bool.true_and];exact dig48 (by omega)
theorem val_app (n:Int) (l:bK) (c:UInt8):val n (l++[c])=10 * val n l+((c.toNat:Int) - 48):=by unfold val;rw [List.foldl_append];rfl
theorem dd_val (u:Nat):val 0 (Lib.decDigits u)=u:=by
 induction u using Nat.strongRecOn with
 |_ u ih=>
  by_cases h:u < 10
  ·rw [Lib.decDigits_one h];simp only [val,List.foldl_cons,List.foldl_nil,ofn48 h];omega
  ·rw [Lib.decDigits,dif_neg h,val_app,ih (u / 10) (by omega),ofn48 (n:=u % 10) (by omega)];omega
theorem itoaP {n:Int} (h:0<=n):Lib.itoa n=Lib.decDigits n.toNat:=by unfold Lib.itoa;rw [if_neg (by omega)]
theorem aCX {n:Int} (h:0<=n):(Lib.itoa n).all dig=true:=by rw [itoaP h];exact dd_all _
theorem aRK {n:Int} (h:0<=n):val 0 (Lib.itoa n)=n:=by rw [itoaP h,dd_val];omega
theorem aLk {a b:Int} (ha:0<=a) (hb:0<=b) (h:Lib.itoa a=Lib.itoa b):a=b:=by rw [←aRK ha,←aRK hb,h]
theorem aDP {s:bK} {c:UInt8} (h:s.all dig=true) (hc:dig c=false):c∉s:=fun hm=>by have:=List.all_eq_true.1 h c hm;rw [hc] at this;cases this
theorem aMq {c:UInt8}:∀ {a b x y:bK},c∉a->c∉b->a++c::x=b++c::y->a=b/\x=y
 |[],[],x,y,_,_,h=>by simpa using h
 |[],d::b,x,y,_,hb,h=>by simp at h;exact absurd (by rw [h.1];simp) hb
 |d::a,[],x,y,ha,_,h=>by simp at h;exact absurd (by rw [h.1];simp) ha
 |d::a,e::b,x,y,ha,hb,h=>by
  simp only [List.cons_append,List.cons.injEq] at h
  obtain ⟨h1,h2⟩:=aMq (a:=a) (b:=b) (fun m=>ha (by simp [m])) (fun m=>hb (by simp [m])) h.2
  exact ⟨by rw [h.1,h1],h2⟩
def dgs (m:Nat):List UInt8:=if h:m=0 then [] else UInt8.ofNat (48+m % 10)::dgs (m / 10)
termination_by m
decreasing_by omega
theorem dgs_rev (m:Nat) (h:m≠0):(dgs m).reverse=Lib.decDigits m:=by
 induction m using Nat.strongRecOn with
 |_ m ih=>
  rw [dgs,dif_neg h,List.reverse_cons]
  by_cases h10:m < 10
  ·rw [Lib.decDigits_one h10,show m / 10=0 by omega,dgs,dif_pos rfl,show m % 10=m by omega];rfl
  ·rw [ih (m / 10) (by omega) (by omega)]
   conv=>rhs;rw [Lib.decDigits,dif_neg h10]
theorem dgs_len (m:Nat) (k:Nat) (h:m < 10 ^ k):(dgs m).length<=k:=by
 induction k generalizing m with
 |zero=>simp at h;subst h;rw [dgs,dif_pos rfl];simp
 |succ k ih=>
  rw [dgs]
  split
  ·simp
  ·have:=ih (m / 10) (by rw [Nat.pow_succ] at h;omega)
   rw [List.length_cons];omega
theorem aBG {n:Int} (h:0<=n) (h2:n < 4611686018427387904):(Lib.itoa n).length<=21:=by
 rw [itoaP h]
 by_cases h0:n.toNat=0
 ·rw [h0,Lib.decDigits_one (by omega)];simp
 ·rw [←dgs_rev _ h0,List.length_reverse]
  have:=dgs_len n.toNat 19 (by
    have:(10:Nat) ^ 19=10000000000000000000:=by decide
    omega)
  omega
theorem u8_48 {d:Nat} (h:d < 10):UInt8.ofInt (wr (48+(d:Int)))=UInt8.ofNat (48+d):=by
 rw [eT (by omega) (by omega)]
 have:d=0\/d=1\/d=2\/d=3\/d=4\/d=5\/d=6\/d=7\/d=8\/d=9:=by omega
 rcases this with rfl|rfl|rfl|rfl|rfl|rfl|rfl|rfl|rfl|rfl<;>rfl
theorem dgs_loop:∀ (k m:Nat) (out:List UInt8),m < 10 ^ k->out.length+k<=1000->m < 4611686018427387904->loop (fun s=>aCF s.1 s.2) (out,(m:Int))=some (out++dgs m):=by
 intro k
 induction k with
 |zero=>
  intro m out h _ _
  simp at h;subst h
  rw [dgs,dif_pos rfl,List.append_nil]
  exact jZ rfl
 |succ k ih=>
  intro m out h ho hm
  by_cases h0:m=0
  ·subst h0
   rw [dgs,dif_pos rfl,List.append_nil]
   exact jZ rfl
  ·have hst:aCF out (m:Int)=some (.inl (out++[UInt8.ofNat (48+m % 10)],((m / 10:Nat):Int))):=by
    unfold aCF
    have hrm:rm (m:Int) 10=some ((m % 10:Nat):Int):=by unfold rm;rw [if_neg (by omega)];congr 1
    have hqu:qu (m:Int) 10=some ((m / 10:Nat):Int):=by
     unfold qu
     rw [if_neg (by omega)]
     have e:(m:Int).tdiv 10=((m / 10:Nat):Int):=by rw [Int.tdiv_eq_ediv_of_nonneg (by omega)];omega
     rw [e,eT (by omega) (by omega)]
    rw [if_pos (by simp;exact h0),hrm,aF,if_neg (by simp;omega)]
    unfold aCE
    rw [u8_48 (by omega),gK (by unfold jU;simp;omega),aF,hqu,aF]
   rw [yO hst]
   rw [ih (m / 10) _ (by rw [Nat.pow_succ] at h;omega) (by simp;omega) (by omega)]
   conv=>rhs;rw [dgs,dif_neg h0]
   simp
theorem rev_loop (ds:List UInt8) (hl:ds.length < 1000):∀ (k:Nat) (out:List UInt8),k<=ds.length->out.length+k<=1000->loop (fun s=>aCB ds s.1 s.2) (out,(k:Int) - 1)=some (out++(ds.take k).reverse):=by
 intro k
 induction k with
 |zero=>
  intro out _ _
  rw [List.take_zero,List.reverse_nil,List.append_nil]
  exact jZ rfl
 |succ k ih=>
  intro out hk ho
  have hkl:k < ds.length:=by omega
  have hst:aCB ds out (((k+1:Nat):Int) - 1)=some (.inl (out++[ds[k]],(k:Int) - 1)):=by
   rw [show (((k+1:Nat):Int) - 1)=(k:Int) by omega]
   unfold aCB
   rw [if_pos (by simp),cV hkl,aF,gK (by unfold jU;simp;omega),aF,eT (by omega) (by omega)]
  have ht:ds.take (k+1)=ds.take k++[ds[k]]:=by rw [List.take_add_one];simp [hkl]
  rw [yO hst,ih _ (by omega) (by simp;omega),ht,List.reverse_append,List.append_assoc]
  rfl
theorem l01Dec_eq {n:Int} (h:0<=n) (h2:n < 4611686018427387904):aHz n=some (Lib.itoa n):=by
 unfold aHz
 by_cases h0:n=0
 ·subst h0;rw [if_pos (by rfl),itoaP (by omega),show ((0:Int)).toNat=0 from rfl,Lib.decDigits_one (by omega)];rfl
 ·rw [if_neg (by simp;exact h0)]
  obtain ⟨m,rfl⟩:∃ m:Nat,n=(m:Int):=⟨n.toNat,by omega⟩
  have hp:m < 10 ^ 19:=by
    have:(10:Nat) ^ 19=10000000000000000000:=by decide
    omega
  rw [dgs_loop 19 m [] hp (by simp) (by omega),aF,List.nil_append]
  unfold aCD aCC
  have hdl:=dgs_len m 19 hp
  rw [if_neg (by simp),eT (by omega) (by omega),rev_loop (dgs m) (by omega) (dgs m).length [] (by omega) (by simp;omega),aF,List.nil_append,List.take_length,dgs_rev m (by omega),itoaP (by omega)]
  rfl
def nV (vs:List Int):bK:=Lib.join (vs.map Lib.itoa) [44]
theorem aDQ (v:Int):nV [v]=Lib.itoa v:=by unfold nV;rw [List.map_cons,List.map_nil,Lib.join_one]
theorem aBH (v w:Int) (vs:List Int):nV (v::w::vs)=Lib.itoa v++44::nV (w::vs):=by
 unfold nV
 simp only [List.map_cons,Lib.join_cons,Lib.joinTail,List.flatten_cons]
 simp
theorem aNE:∀ (vs:List Int) (v:Int),vs≠[]->nV (vs++[v])=nV vs++[44]++Lib.itoa v
 |[],_,h=>absurd rfl h
 |[a],v,_=>by rw [List.singleton_append,aBH,aDQ,aDQ];simp
 |a::b::vs,v,_=>by
  rw [List.cons_append,List.cons_append,aBH,aBH,←List.cons_append,aNE (b::vs) v (by simp)]
  simp
theorem spl_no {b:UInt8}:∀ {s:bK},b∉s->spl b s=[s]
 |[],_=>rfl
 |c::r,h=>by
  have hc:(c == b)=false:=by simp;intro e;exact h (by simp [e])
  rw [aEF,spl_no (s:=r) (fun m=>h (by simp [m])),hc];rfl
theorem spl_app {b:UInt8}:∀ {s:bK} (r:bK),b∉s->spl b (s++b::r)=s::spl b r
 |[],r,_=>by rw [List.nil_append,aEF];simp
 |c::s,r,h=>by
  have hc:(c == b)=false:=by simp;intro e;exact h (by simp [e])
  rw [List.cons_append,aEF,spl_app (s:=s) r (fun m=>h (by simp [m])),hc];rfl
theorem aLl:∀ {vs:List Int},vs≠[]->(∀ v∈vs,0<=v)->spl 44 (nV vs)=vs.map Lib.itoa
 |[],h,_=>absurd rfl h
 |[v],_,h=>by rw [aDQ,spl_no (aDP (aCX (h v (by simp))) rfl)];rfl
 |v::w::vs,_,h=>by
  rw [aBH,spl_app _ (aDP (aCX (h v (by simp))) rfl),aLl (vs:=w::vs) (by simp) (fun x hx=>h x (List.mem_cons_of_mem _ hx))]
  rfl
theorem joinC_inj {vs us:List Int} (h1:vs≠[]) (h2:us≠[]) (p1:∀ v∈vs,0<=v) (p2:∀ v∈us,0<=v) (h:nV vs=nV us):vs=us:=by
 have:=congrArg (spl 44) h
 rw [aLl h1 p1,aLl h2 p2] at this
 clear h h1 h2
 induction vs generalizing us with
 |nil=>simp at this;exact this.symm
 |cons v vs ih=>
  cases us with
  |nil=>simp at this
  |cons u us=>
   simp only [List.map_cons,List.cons.injEq] at this
   rw [aLk (p1 v (by simp)) (p2 u (by simp)) this.1,ih (fun x hx=>p1 x (List.mem_cons_of_mem _ hx)) (us:=us) (fun x hx=>p2 x (List.mem_cons_of_mem _ hx)) this.2]
theorem aIt:∀ {vs:List Int},(∀ v∈vs,0<=v)->∀ c∈nV vs,dig c=true\/c=44
 |[],_,c,h=>by simp [nV,Lib.join_nil] at h
 |[v],p,c,h=>by rw [aDQ] at h;exact .inl (List.all_eq_true.1 (aCX (p v (by simp))) c h)
 |v::w::vs,p,c,h=>by
  rw [aBH] at h
  rcases List.mem_append.1 h with h|h
  ·exact .inl (List.all_eq_true.1 (aCX (p v (by simp))) c h)
  ·rcases List.mem_cons.1 h with h|h
   ·exact .inr h
   ·exact aIt (vs:=w::vs) (fun x hx=>p x (List.mem_cons_of_mem _ hx)) c h
theorem aBI:∀ {vs:List Int},(∀ v∈vs,0<=v/\v < 4611686018427387904)->(nV vs).length<=22 * vs.length
 |[],_=>by simp [nV,Lib.join_nil]
 |[v],p=>by rw [aDQ];have:=aBG (p v (by simp)).1 (p v (by simp)).2;simp;omega
 |v::w::vs,p=>by
  rw [aBH,List.length_append,List.length_cons]
  have h1:=aBG (p v (by simp)).1 (p v (by simp)).2
  have h2:=aBI (vs:=w::vs) (fun x hx=>p x (List.mem_cons_of_mem _ hx))
  simp only [List.length_cons] at h2 ⊢
  omega
theorem joined_C {vs:List Int} (hl:vs.length < 1000000) (p:∀ v∈vs,0<=v/\v < 4611686018427387904):aEc vs [44]=some (nV vs):=by
 have:=aBI p
 exact aOW vs [44] (by omega) (fun x hx=>by have:=p x hx;omega) (by unfold nV at this;unfold jU;omega)
def aMg (vs:List Int):bK:=if vs.length=0 then [45] else nV vs
theorem aSS {vs:List Int} (hl:vs.length < 1000000) (p:∀ v∈vs,0<=v/\v < 4611686018427387904):aFJ vs=some (aMg vs):=by
 unfold aFJ aMg
 by_cases h0:vs.length=0
 ·rw [if_pos (by simp [h0]),if_pos h0]
 rw [if_neg (by simpa using h0),if_neg h0]
 have key:=tC (step:=fun s:bK × Int=>rH vs s.1 s.2) vs.length (fun k (out:bK)=>(out,(k:Int))) (fun _ _=>nV vs) (fun k out=>out=nV (vs.take k)) (fun k out hk hI=>?_) (fun out hI=>?_) vs.length 0 [] (by omega) (by simp [nV,Lib.join_nil])
 ·rw [show (([]:bK),(0:Int))=(([]:bK),((0:Nat):Int)) from rfl,key];rfl
 ·left
  have hm:vs[k]∈vs:=List.getElem_mem hk
  obtain ⟨q1,q2⟩:=p _ hm
  have hil:=aBG q1 q2
  have hjl:=aBI (vs:=vs.take k) (fun v hv=>p v (List.mem_of_mem_take hv))
  rw [List.length_take] at hjl
  rw [←hI] at hjl
  refine ⟨nV (vs.take (k+1)),?_,rfl,rfl⟩
  have hst:vs.take (k+1)=vs.take k++[vs[k]]:=by rw [List.take_add_one];simp [hk]
  show rH vs out (k:Int)=_
  unfold rH aAA
  rw [if_pos (cU hk)]
  simp only [cV hk,aF,l01Dec_eq q1 q2,cT hk (show vs.length < 4611686018427387904 by omega)]
  by_cases hk0:k=0
  ·subst hk0
   rw [List.take_zero] at hI
   have:out=[]:=by rw [hI];simp [nV,Lib.join_nil]
   subst this
   rw [if_neg (by simp),uM (by unfold jU;simp;omega),aF,hst,List.take_zero,List.nil_append,List.nil_append,aDQ]
  ·rw [if_pos (by simp;omega),uM (by unfold jU;simp;omega),aF,uM (by unfold jU;simp;omega),aF,hst,aNE _ _ (by intro h;have:=congrArg List.length h;rw [List.length_take,List.length_nil] at this;omega),←hI]
 ·show rH vs out (vs.length:Int)=_
  unfold rH
  rw [if_neg (by simp),hI,List.take_of_length_le (Nat.le_refl _)]
def lab (nm:bK) (vs:List Int):bK:=if vs.length=0 then nm else nm++[40]++nV vs++[41]
def LbOk (nm:bK) (vs:List Int):Prop:=qZ nm=true/\vs.length<=2/\vs.all pC=true/\(nm=eO->vs=[])
theorem aIc {v:Int}:pC v=true<->0<=v/\v<=63:=by unfold pC;simp
theorem LbOk.pos {nm:bK} {vs:List Int} (h:LbOk nm vs):∀ v∈vs,0<=v/\v < 4611686018427387904:=fun v hv=>by
 have:=aIc.1 (List.all_eq_true.1 h.2.2.1 v hv);omega
theorem aNF {s:bK} (h:qZ s=true):s.length<=10/\s≠[]:=by
 cases s with
 |nil=>simp [qZ] at h
 |cons c r=>simp only [qZ,Bool.and_eq_true,decide_eq_true_eq] at h;exact ⟨by simp only [List.length_cons];omega,by simp⟩
theorem aRL {s:bK} (h:qZ s=true):∀ c∈s,low c=true\/dig c=true:=by
 cases s with
 |nil=>simp [qZ] at h
 |cons c r=>
  simp only [qZ,Bool.and_eq_true] at h
  intro d hd
  rcases List.mem_cons.1 hd with rfl|hd
  ·exact .inl (by simp_all)
  ·have:=List.all_eq_true.1 (show (r.all fun c=>low c||dig c)=true by simp_all) d hd
   simpa using this
end Gv
namespace Gv
open Go
theorem low_ne {c:UInt8} (h:low c=true\/dig c=true):c≠40/\c≠32/\c≠41/\c≠44:=by
 rcases h with h|h
 ·refine ⟨?_,?_,?_,?_⟩<;>(rintro rfl;revert h;decide)
 ·refine ⟨?_,?_,?_,?_⟩<;>(rintro rfl;revert h;decide)
theorem nm_no {nm:bK} (h:qZ nm=true):(40:UInt8)∉nm/\(32:UInt8)∉nm:=⟨fun m=>(low_ne (aRL h _ m)).1 rfl,fun m=>(low_ne (aRL h _ m)).2.1 rfl⟩
theorem joinC_no {vs:List Int} (p:∀ v∈vs,0<=v):(40:UInt8)∉nV vs/\(32:UInt8)∉nV vs/\(41:UInt8)∉nV vs/\(58:UInt8)∉nV vs:=by
 refine ⟨fun m=>?_,fun m=>?_,fun m=>?_,fun m=>?_⟩<;>(rcases aIt p _ m with h|h<;>(revert h;decide))
theorem labLn {nm:bK} {vs:List Int} (h:LbOk nm vs):(lab nm vs).length<=56:=by
 have h1:=(aNF h.1).1
 have h2:=aBI h.pos
 have h3:=h.2.1
 unfold lab
 split
 ·omega
 ·simp;omega
theorem lab_sp {nm:bK} {vs:List Int} (h:LbOk nm vs):(32:UInt8)∉lab nm vs:=by
 unfold lab
 split
 ·exact (nm_no h.1).2
 ·have:=(joinC_no (fun v hv=>(h.pos v hv).1)).2.1
  simp [(nm_no h.1).2,this]
theorem aLx {nm:bK} {vs:List Int} (h:LbOk nm vs):aBq nm vs=some (lab nm vs,true):=by
 have h1:=(aNF h.1).1
 have h2:=aBI h.pos
 have h3:=h.2.1
 have e:Lib.join (vs.map Lib.itoa) [44]=nV vs:=rfl
 rw [aJs nm vs (by omega) (by omega) (by rw [e];omega),e]
 by_cases ht:nm=eO
 ·rw [if_pos ht,h.2.2.2 ht,ht];rfl
 ·have ha:jI nm=true:=by unfold jI;rw [h.1];simpa using ht
  rw [if_neg ht,if_pos ⟨ha,h3,h.2.2.1⟩];rfl
theorem aRM {nm:bK} {vs:List Int} (h:LbOk nm vs):aFK nm vs=some (lab nm vs):=by
 have h1:=(aNF h.1).1
 have h2:=aBI h.pos
 have h3:=h.2.1
 unfold aFK lab
 by_cases h0:vs.length=0
 ·rw [if_pos (by simp [h0]),if_pos h0]
 ·have e:aMg vs=nV vs:=by unfold aMg;rw [if_neg h0]
  rw [if_neg (by simpa using h0),if_neg h0,uM (by unfold jU;simp;omega),aF,aSS (by omega) h.pos,aF,e,uM (by unfold jU;simp;omega),aF,uM (by unfold jU;simp;omega),aF]
structure PtOk (p:bS):Prop where
 d:0<=p.Definition/\p.Definition < 1000000000
 pt:0<=p.Part/\p.Part < 1000000000
 n:p.Values.length<=60
 v:p.Values.all pC=true
theorem PtOk.pos {p:bS} (h:PtOk p):∀ v∈p.Values,0<=v/\v < 4611686018427387904:=fun v hv=>by
 have:=aIc.1 (List.all_eq_true.1 h.v v hv);omega
def ptT (p:bS):bK:=Lib.itoa p.Definition++58::(Lib.itoa p.Part++58::aMg p.Values)
theorem aRN {vs:List Int} (h:∀ v∈vs,0<=v/\v < 4611686018427387904):(aMg vs).length<=22 * vs.length+1:=by
 unfold aMg
 have:=aBI h
 split
 ·simp
 ·omega
theorem lstT_inj {vs us:List Int} (p1:∀ v∈vs,0<=v) (p2:∀ v∈us,0<=v) (h:aMg vs=aMg us):vs=us:=by
 unfold aMg at h
 by_cases h1:vs.length=0
 ·rw [if_pos h1] at h
  by_cases h2:us.length=0
  ·rw [List.length_eq_zero_iff.1 h1,List.length_eq_zero_iff.1 h2]
  ·rw [if_neg h2] at h
   have:(45:UInt8)∈nV us:=by rw [←h];simp
   rcases aIt p2 _ this with g|g
   ·exact absurd g (by decide)
   ·exact absurd g (by decide)
 ·rw [if_neg h1] at h
  by_cases h2:us.length=0
  ·rw [if_pos h2] at h
   have:(45:UInt8)∈nV vs:=by rw [h];simp
   rcases aIt p1 _ this with g|g
   ·exact absurd g (by decide)
   ·exact absurd g (by decide)
  ·rw [if_neg h2] at h
   exact joinC_inj (fun e=>h1 (by rw [e];rfl)) (fun e=>h2 (by rw [e];rfl)) p1 p2 h
theorem ptT_inj {p q:bS} (hp:PtOk p) (hq:PtOk q) (h:ptT p=ptT q):p=q:=by
 unfold ptT at h
 obtain ⟨e1,h⟩:=aMq (aDP (aCX hp.d.1) rfl) (aDP (aCX hq.d.1) rfl) h
 obtain ⟨e2,h⟩:=aMq (aDP (aCX hp.pt.1) rfl) (aDP (aCX hq.pt.1) rfl) h
 have e3:=lstT_inj (fun v hv=>(hp.pos v hv).1) (fun v hv=>(hq.pos v hv).1) h
 have g1:=aLk hp.d.1 hq.d.1 e1
 have g2:=aLk hp.pt.1 hq.pt.1 e2
 cases p;cases q
 simp only at g1 g2 e3
 subst g1;subst g2;subst e3;rfl
theorem ptT_len {p:bS} (hp:PtOk p):(ptT p).length<=1400:=by
 have h1:=aBG hp.d.1 (by have:=hp.d.2;omega)
 have h2:=aBG hp.pt.1 (by have:=hp.pt.2;omega)
 have h3:=aRN hp.pos
 have h4:=hp.n
 unfold ptT
 simp only [List.length_append,List.length_cons]
 omega
theorem listOk_eq {vs:List Int} (hl:vs.length<=64) (h:vs.all pC=true):aHD vs=some true:=by
 unfold aHD
 rw [if_pos (by simp;omega)]
 have:fL vs=some (vs.any fun v=>!(decide (-1000000000000<=v)&&decide (v<=1000000000000))):=by
  unfold fL hJ
  have:=aKq (step:=fun s=>fK vs s) vs (fun v=>!(decide (-1000000000000<=v)&&decide (v<=1000000000000))) (by omega) (fun k x hk hix hm=>?_) ?_
  ·exact this
  ·simp only [fK,cU hk,if_true,hix,aF,aFe,iQ]
  ·simp only [fK,cK];rfl
 rw [this,aF]
 have hf:(vs.any fun v=>!(decide (-1000000000000<=v)&&decide (v<=1000000000000)))=false:=by
  rw [List.any_eq_false]
  intro v hv
  have:=aIc.1 (List.all_eq_true.1 h v hv)
  have e1:decide (-1000000000000<=v)=true:=by simp;omega
  have e2:decide (v<=1000000000000)=true:=by simp;omega
  rw [e1,e2];simp
 rw [hf];rfl
theorem aRO {vs:List Int} (hl:vs.length<=64) (h:vs.all pC=true):aEr vs=some (aMg vs):=by
 have hp:∀ v∈vs,0<=v/\v < 4611686018427387904:=fun v hv=>by have:=aIc.1 (List.all_eq_true.1 h v hv);omega
 unfold aEr aMg
 rw [listOk_eq hl h,aF,if_neg (by simp)]
 by_cases h0:vs.length=0
 ·rw [if_pos (by simp [h0]),if_pos h0]
 ·rw [if_neg (by simpa using h0),if_neg h0,joined_C (by omega) hp,aF]
theorem aNG {n:Int} (h0:-9223372036854775808<=n) (h1:n<=9223372036854775807):uS n=some (Lib.itoa n):=by unfold uS;rw [if_pos ⟨h0,h1⟩]
theorem aLy {p:bS} (hp:PtOk p):aBy p=some (ptT p):=by
 have h1:=aBG hp.d.1 (by have:=hp.d.2;omega)
 have h2:=aBG hp.pt.1 (by have:=hp.pt.2;omega)
 have h3:=aRN hp.pos
 have h4:=hp.n
 have a:=hp.d;have b:=hp.pt
 unfold aBy aFg ptT
 rw [aNG (by omega) (by omega),aF,uM (by unfold jU;simp;omega),aF,aNG (by omega) (by omega),aF,uM (by unfold jU;simp;omega),aF,aRO (by omega) hp.v,aF,uM (by unfold jU;simp;omega),aF,aF,uM (by unfold jU;simp;omega),aF]
 simp
end Gv
namespace Gv
open Go
section
variable {β:Type} [DecidableEq β]
def vP (l:List β) (x:β):List β:=if x∈l then l else l++[x]
theorem aId (l:List β) (x:β):l.length<=(vP l x).length/\(vP l x).length<=l.length+1:=by
 unfold vP;split
 ·omega
 ·simp
theorem aSU {l:List β} {x:β} (h:l.Nodup):(vP l x).Nodup:=by
 unfold vP;split
 ·exact h
 ·next hx=>exact List.nodup_append.2 ⟨h,by simp,fun a ha b hb e=>hx (by rw [List.mem_singleton.1 hb] at e;exact e ▸ ha)⟩
theorem aNH {p:β->Prop} {l:List β} {x:β} (h:∀ y∈l,p y) (hx:p x):∀ y∈vP l x,p y:=by
 unfold vP;split
 ·exact h
 ·intro y hy
  rcases List.mem_append.1 hy with hy|hy
  ·exact h y hy
  ·rw [List.mem_singleton.1 hy];exact hx
def RelU (P R:List β):Prop:=P=R\/(200 < P.length/\200 < R.length)
theorem RelU.stop {P R P':List β} (h:RelU P R) (h2:200 < R.length) (h3:P.length<=P'.length):RelU P' R:=by
 right
 rcases h with h|h
 ·subst h;omega
 ·omega
theorem RelU.eq {P R:List β} (h:RelU P R) (h2:¬ 200 < R.length):P=R:=by
 rcases h with h|h
 ·exact h
 ·exact absurd h.2 h2
theorem RelU.add {P R:List β} (h:RelU P R) (x:β):RelU (vP P x) (vP R x):=by
 rcases h with h|h
 ·subst h;exact .inl rfl
 ·have h1:=(aId P x).1
  have h2:=(aId R x).1
  right;omega
def aNI (K:β->bK) (l:List β) (M:List (bK × Bool)):Prop:=∀ k,(oG M k).getD false=decide (k∈l.map K)
theorem aNJ {k q:bK} {v:Bool}:∀ {m:List (bK × Bool)},oG (yF m k v) q=if q=k then some v else oG m q
 |[]=>by simp [yF,oG]
 |(x,u)::m=>by
  have ih:=aNJ (k:=k) (q:=q) (v:=v) (m:=m)
  unfold yF
  by_cases e:k=x
  ·subst e
   rw [if_pos rfl,oG,oG]
   by_cases h:q=k
   ·rw [if_pos h,if_pos h]
   ·rw [if_neg h,if_neg h,if_neg h]
  ·rw [if_neg e,oG,oG,ih]
   by_cases h:q=x
   ·subst h
    rw [if_pos rfl,if_neg (fun h=>e h.symm),if_pos rfl]
   ·rw [if_neg h,if_neg h]
theorem seen_nil (K:β->bK):aNI K [] []:=fun k=>by simp [oG]
theorem seen_put {K:β->bK} {l:List β} {M:List (bK × Bool)} {x:β} (h:aNI K l M):aNI K (l++[x]) (yF M (K x) true):=by
 intro k
 rw [aNJ]
 by_cases e:k=K x
 ·rw [if_pos e,e];simp
 ·rw [if_neg e,h k]
  simp [e]
theorem seen_mem {K:β->bK} {l:List β} {M:List (bK × Bool)} {x:β} (h:aNI K l M) (inj:∀ y∈l,K y=K x->y=x):(oG M (K x)).getD false=decide (x∈l):=by
 rw [h]
 by_cases e:x∈l
 ·rw [decide_eq_true e,decide_eq_true_iff];exact List.mem_map_of_mem e
 ·rw [decide_eq_false e,decide_eq_false_iff_not]
  intro hm
  obtain ⟨y,hy,hk⟩:=List.mem_map.1 hm
  exact e (inj y hy hk ▸ hy)
theorem all_addU {l:List β} {x:β}:l.all (fun y=>!decide (y=x))=!decide (x∈l):=by
 by_cases e:x∈l
 ·rw [decide_eq_true e]
  cases h:l.all (fun y=>!decide (y=x))
  ·rfl
  ·have:=List.all_eq_true.1 h x e;simp at this
 ·rw [decide_eq_false e]
  apply List.all_eq_true.2
  intro y hy
  have:y≠x:=fun h=>e (h ▸ hy)
  simp [this]
end
theorem aKt (a b:bS) (h:a.Values.length < 4611686018427387904):qD a b=some (decide (a=b)):=by
 unfold qD mF
 rw [aSz _ _ h,aF]
 cases a with|mk a1 a2 a3=>cases b with|mk b1 b2 b3=>
 simp only [bS.mk.injEq]
 by_cases h1:a1=b1
 ·by_cases h2:a2=b2
  ·by_cases h3:a3=b3<;>simp [h1,h2,h3]
  ·simp [h1,h2]
 ·simp [h1]
theorem l07Add_eq (l:List dM) (x:dM) (hl:l.length < 100000000) (hv:∀ y∈l,y.Next.Values.length < 4611686018427387904):zD l x=some (vP l x):=by
 unfold zD
 rw [aEB (step:=fun s=>tO l x s) l (fun y=>!decide (y=x)) (.inr l) (.inl ()) (fun k y hk hy=>?_) (by simp only [tO,cK];rfl),aF,all_addU]
 ·unfold vP
  by_cases hm:x∈l
  ·rw [decide_eq_true hm,if_pos hm];rfl
  ·rw [decide_eq_false hm,if_neg hm]
   show qE l x=_
   unfold qE
   rw [gK (by unfold jU;simp;omega),aF]
 ·have hm:y∈l:=by rw [cV hk] at hy;cases hy;exact List.getElem_mem hk
  unfold tO tN
  rw [if_pos (cU hk),hy,aF,aKt _ _ (hv y hm),aF,cT hk (by omega)]
  cases y with|mk y1 y2=>cases x with|mk x1 x2=>
  simp only [dM.mk.injEq]
  by_cases h1:y1=x1
  ·by_cases h2:y2=x2<;>simp [h1,h2]
  ·simp [h1]
def aLz (l:List Definition) (s:Int) (b:Bool):GTr Part->Prop
 |.nul p=>sS l ⟨s,b⟩ p=true
 |.one p a=>sS l ⟨s,b⟩ p=true/\aLz l (bel s p) (p.Kind == 1) a
 |.two p a c=>sS l ⟨s,b⟩ p=true/\aLz l (bel s p) (p.Kind == 1) a/\aLz l (bel s p) (p.Kind == 1) c
theorem aMr {l:List Definition}:∀ (t:GTr Part) (s:Int) (b:Bool),(∀ (i:Nat) p pl,t.flat[i]?=some p->(plT s b t)[i]?=some pl->sS l pl p=true)->aLz l s b t
 |.nul p,s,b,h=>h 0 p ⟨s,b⟩ rfl rfl
 |.one p a,s,b,h=>⟨h 0 p ⟨s,b⟩ rfl rfl,aMr a _ _ fun i q pl h1 h2=>h (i+1) q pl (by simpa [GTr.flat] using h1) (by simpa [plT] using h2)⟩
 |.two p a c,s,b,h=>by
  refine ⟨h 0 p ⟨s,b⟩ rfl rfl,aMr a _ _ fun i q pl h1 h2=>h (i+1) q pl ?_ ?_,aMr c _ _ fun i q pl h1 h2=>h (a.flat.length+i+1) q pl ?_ ?_⟩
  ·have:=(List.getElem?_eq_some_iff.1 h1).1
   simp only [GTr.flat,List.getElem?_cons_succ]
   rw [List.getElem?_append_left this];exact h1
  ·have:=(List.getElem?_eq_some_iff.1 h2).1
   simp only [plT,List.getElem?_cons_succ]
   rw [List.getElem?_append_left this];exact h2
  ·simp only [GTr.flat,List.getElem?_cons_succ]
   rw [List.getElem?_append_right (by omega),Nat.add_sub_cancel_left];exact h1
  ·simp only [plT,List.getElem?_cons_succ]
   rw [List.getElem?_append_right (by rw [pO];omega),pO,Nat.add_sub_cancel_left];exact h2
def GTr.root:GTr Part->Part
 |.nul p=>p
 |.one p _=>p
 |.two p _ _=>p
theorem flat_root (t:GTr Part):∃ r,t.flat=t.root::r:=by
 cases t
 ·exact ⟨[],rfl⟩
 ·exact ⟨_,rfl⟩
 ·exact ⟨_,rfl⟩
theorem good_root {l:List Definition} {t:GTr Part} {s:Int} {b:Bool} (h:aLz l s b t):sS l ⟨s,b⟩ t.root=true:=by
 cases t
 ·exact h
 ·exact h.1
 ·exact h.1
structure OkP (l:List Definition) (s:Int) (p:Part):Prop where
 k1:p.Kind=1->qZ p.Name=true/\p.Arguments.length<=2/\(p.Name=eO->p.Arguments=[])
 k3:p.Kind=3->p.Arguments.length=1
 k4:p.Kind=4->1<=p.Number/\p.Number<=7/\s < 6
 k5:p.Kind=5->0<=p.Number/\p.Number < (l.length:Int)/\(p.Arguments.length:Int)=(l.getD p.Number.toNat ⟨[],0,[]⟩).Parameters
 ar:∀ e∈p.Arguments,okE s e=true
theorem okP {l:List Definition} {s:Int} {b:Bool} {p:Part} (h:sS l ⟨s,b⟩ p=true):OkP l s p:=by
 unfold sS at h
 simp only [Bool.and_eq_true] at h
 obtain ⟨⟨⟨⟨⟨⟨_,h2⟩,h3⟩,h4⟩,_⟩,h6⟩,h7⟩:=h
 unfold aBF at h3
 unfold aJz at h4
 refine ⟨fun e=>?_,fun e=>?_,fun e=>?_,fun e=>?_,List.all_eq_true.1 h7⟩
 ·rw [e] at h2 h4
  simp at h2 h4
  refine ⟨h2,h4.1,fun ht=>?_⟩
  rcases h4.2 with h|h
  ·exact h
  ·exact absurd ht h
 ·rw [e] at h4;simpa using h4
 ·rw [e] at h3 h6;simp at h3 h6;exact ⟨h3.1,h3.2,h6⟩
 ·rw [e] at h3 h4;simp at h3 h4;exact ⟨h3.1,h3.2,h4⟩
def PtG (l:List Definition) (p:bS):Prop:=(∃ (k:Nat) (d:Definition) (t:GTr Part) (pre post:List Part) (b:Bool),l[k]?=some d/\p.Definition=(k:Int)/\d.Body=pre++t.flat++post/\t.WF jF/\p.Part=(pre.length:Int)/\aLz l (p.Values.length:Int) b t)/\p.Values.length<=6/\p.Values.all pC=true
theorem aKu {l:List Definition} (hD:nU l) {k:Nat} {d:Definition} (h:l[k]?=some d):d.Body.length<=20/\∃ t:GTr Part,d.Body=t.flat/\t.WF jF/\aLz l d.Parameters false t:=by
 have:=hD.2.2.2.1 d (List.mem_of_getElem? h)
 simp only [aCV,decide_eq_true_eq] at this
 obtain ⟨h1,t,h2,h3,h4⟩:=this
 exact ⟨h1,t,h2,h3,aMr t _ _ fun i p pl g1 g2=>h4 i p pl (by rw [h2];exact g1) g2⟩
theorem PtG.ok {l:List Definition} (hD:nU l) {p:bS} (h:PtG l p):PtOk p:=by
 obtain ⟨⟨k,d,t,pre,post,b,h1,h2,h3,_,h5,_⟩,h6,h7⟩:=h
 have hk:k < l.length:=(List.getElem?_eq_some_iff.1 h1).1
 have h4:=hD.2.1
 have h8:=(aKu hD h1).1
 have h9:d.Body.length=pre.length+t.flat.length+post.length:=by rw [h3];simp;omega
 exact ⟨by omega,by omega,by omega,h7⟩
theorem PtG.start {l:List Definition} (hD:nU l) {k:Int} {vs:List Int} (h0:0<=k) (h1:k < (l.length:Int)) (h2:(vs.length:Int)=(l.getD k.toNat ⟨[],0,[]⟩).Parameters) (h3:vs.all pC=true):PtG l ⟨k,0,vs⟩:=by
 have hk:k.toNat < l.length:=by omega
 have hg:l.getD k.toNat ⟨[],0,[]⟩=l[k.toNat]:=by simp [List.getD,hk]
 rw [hg] at h2
 have hd:l[k.toNat]?=some l[k.toNat]:=List.getElem?_eq_getElem hk
 obtain ⟨_,t,g2,g3,g4⟩:=aKu hD hd
 have hp:=hD.2.2.1 _ (List.getElem_mem hk)
 simp only [aIN,Bool.and_eq_true,decide_eq_true_eq] at hp
 refine ⟨⟨k.toNat,l[k.toNat],t,[],[],false,hd,by simp;omega,by simp [g2],g3,rfl,?_⟩,by simp;omega,h3⟩
 simp only
 rw [h2];exact g4
def aGb (l:List Definition) (s:dM):Prop:=(∃ nm vs,LbOk nm vs/\s.B=lab nm vs)/\PtG l s.Next
def stK (s:dM):bK:=s.B++[32]++ptT s.Next
theorem stK_inj {l:List Definition} (hD:nU l) {s u:dM} (hs:aGb l s) (hu:aGb l u) (h:stK s=stK u):s=u:=by
 obtain ⟨⟨n1,v1,o1,e1⟩,p1⟩:=hs
 obtain ⟨⟨n2,v2,o2,e2⟩,p2⟩:=hu
 unfold stK at h
 simp only [List.append_assoc,List.singleton_append] at h
 obtain ⟨g1,g2⟩:=aMq (by rw [e1];exact lab_sp o1) (by rw [e2];exact lab_sp o2) h
 have g3:=ptT_inj (p1.ok hD) (p2.ok hD) g2
 cases s;cases u
 simp only at g1 g3
 rw [g1,g3]
theorem take_eq {l:List Definition} (hD:nU l) {s:dM} {P:List dM} {M:List (bK × Bool)} (hs:aGb l s) (hP:∀ y∈P,aGb l y) (hM:aNI stK P M) (hl:P.length < 100000000):∃ M',jH l P M s=some (vP P s,M')/\aNI stK (vP P s) M':=by
 have h1:s.B.length<=56:=by obtain ⟨⟨nm,vs,o,e⟩,_⟩:=hs;rw [e];exact labLn o
 have hp:=hs.2.ok hD
 have h2:=ptT_len hp
 have hm:=seen_mem (x:=s) hM (fun y hy he=>stK_inj hD (hP y hy) hs he)
 unfold jH
 rw [uM (by unfold jU;simp;omega),aF,aLy hp,aF,uM (by unfold jU;simp;omega),aF]
 show ∃ M',(if (!((oG M (stK s)).getD false)) then (ob (some (yF M (stK s) true)) fun m27=>ob (apd P ([s]:List dM)) fun xs48=>some (xs48,m27)) else (some (P,M)))=some (vP P s,M')/\_
 rw [hm]
 unfold vP
 by_cases e:s∈P
 ·rw [decide_eq_true e,if_pos e];exact ⟨M,rfl,hM⟩
 ·rw [decide_eq_false e,if_neg e,if_pos (show (!false)=true from rfl),aF,gK (by unfold jU;simp;omega),aF]
  exact ⟨_,rfl,seen_put hM⟩
end Gv
namespace Gv
open Go
theorem folP_one {p:Part} (h:jF p=1):p.Kind=1\/p.Kind=3\/p.Kind=4:=by
 unfold jF at h
 by_cases h1:p.Kind=1
 ·exact .inl h1
 by_cases h3:p.Kind=3
 ·exact .inr (.inl h3)
 by_cases h4:p.Kind=4
 ·exact .inr (.inr h4)
 ·by_cases h2:p.Kind=2<;>simp [h1,h3,h4,h2] at h
theorem folP_zero {p:Part} (h:jF p=0):p.Kind≠1/\p.Kind≠2/\p.Kind≠3/\p.Kind≠4:=by
 unfold jF at h
 refine ⟨?_,?_,?_,?_⟩<;>(intro e;rw [e] at h;simp at h)
structure InvP (l:List Definition) (P:List dM) (M:List (bK × Bool)):Prop where
 g:∀ y∈P,aGb l y
 m:aNI stK P M
 nd:P.Nodup
def aEJ (l:List Definition) (P:List dM) (c:Nat) (fI:Option (List dM × List (bK × Bool))) (fS:List dM->Option (List dM)):Prop:=
 ∃ P' M',fI=some (P',M')/\InvP l P' M'/\P.length<=P'.length/\P'.length<=P.length+c/\
  ∀ R,RelU P R->(∀ y∈R,aGb l y)->R.length+c<=6000000->∃ R',fS R=some R'/\RelU P' R'/\(∀ y∈R',aGb l y)/\R.length<=R'.length/\R'.length<=R.length+c
theorem aEJ.stop {l:List Definition} {P:List dM} {c:Nat} {fI:Option (List dM × List (bK × Bool))} {fS fS':List dM->Option (List dM)} (h:aEJ l P c fI fS)
  (h1:∀ R,200 < R.length->fS' R=some R) (h2:∀ R,¬ 200 < R.length->fS' R=fS R):aEJ l P c fI fS':=by
 obtain ⟨P',M',e,i,a,b,k⟩:=h
 refine ⟨P',M',e,i,a,b,fun R hR hg hl=>?_⟩
 by_cases h:200 < R.length
 ·exact ⟨R,h1 R h,hR.stop h a,hg,Nat.le_refl _,by omega⟩
 ·rw [h2 R h];exact k R hR hg hl
theorem aEJ.none {l:List Definition} {P:List dM} {M:List (bK × Bool)} (c:Nat) (h:InvP l P M):aEJ l P c (some (P,M)) some:=
 ⟨P,M,rfl,h,Nat.le_refl _,by omega,fun R hR hg _=>⟨R,rfl,hR,hg,Nat.le_refl _,by omega⟩⟩
section
variable {l:List Definition} (hD:nU l) {k:Nat} {d:Definition} (hd:l[k]?=some d)
include hD hd
theorem aNK {N:Nat} (hN:N<=7) {p:Part} (hp:p.Number=(N:Int)) {m n:Nat} {vs:List Int} (hvl:vs.length<=6) (c:Nat) (pr:Int)
  (ih:∀ (v:Nat) (P:List dM) (M:List (bK × Bool)),v<=N->InvP l P M->P.length+c<=6000000->aEJ l P c (cG m l P M (k:Int) (wr (pr+1)) (vs++[(v:Int)])) (dI n l (k:Int) (wr (pr+1)) (vs++[(v:Int)]))):
  ∀ (j v:Nat) (P:List dM) (M:List (bK × Bool)),v+j=N+1->InvP l P M->P.length+j * c<=6000000->
  aEJ l P (j * c) (loop (fun (s:(List dM × (List (bK × Bool)) × Int))=>gN (cG m) l (k:Int) pr vs p s.1 s.2.1 s.2.2) (P,M,(v:Int)))
   (fun R=>loop (fun (s:(List dM × Int))=>kQ (dI n) l (k:Int) pr vs p s.1 s.2) (R,(v:Int)))
 |0,v,P,M,hv,hI,hl=>by
  have e1:loop (fun (s:(List dM × (List (bK × Bool)) × Int))=>gN (cG m) l (k:Int) pr vs p s.1 s.2.1 s.2.2) (P,M,(v:Int))=some (P,M):=by
   apply jZ
   unfold gN
   rw [hp,eT (by omega) (by omega),if_neg (by simp;omega)]
  have e2:(fun R=>loop (fun (s:(List dM × Int))=>kQ (dI n) l (k:Int) pr vs p s.1 s.2) (R,(v:Int)))=some:=by
   funext R
   apply jZ
   unfold kQ
   rw [hp,if_neg (by simp;omega)]
  rw [e1,e2]
  exact aEJ.none _ hI
 |j+1,v,P,M,hv,hI,hl=>by
  have hmul:(j+1) * c=j * c+c:=Nat.succ_mul j c
  obtain ⟨P1,M1,a1,a2,a3,a4,a5⟩:=ih v P M (by omega) hI (by omega)
  obtain ⟨P2,M2,b1,b2,b3,b4,b5⟩:=aNK hN hp hvl c pr ih j (v+1) P1 M1 (by omega) a2 (by omega)
  have e1:loop (fun (s:(List dM × (List (bK × Bool)) × Int))=>gN (cG m) l (k:Int) pr vs p s.1 s.2.1 s.2.2) (P,M,(v:Int))=some (P2,M2):=by
   rw [yO (s':=(P1,M1,((v+1:Nat):Int))),b1]
   show gN (cG m) l (k:Int) pr vs p P M (v:Int)=_
   unfold gN eG
   rw [hp,eT (show -9223372036854775808<=(N:Int)+1 by omega) (by omega),if_pos (by simp;omega),gK (by unfold jU;simp;omega),aF,aF,List.nil_append,gK (by unfold jU;simp;omega),aF,a1,aF,eT (by omega) (by omega)]
   rfl
  refine ⟨P2,M2,e1,b2,by omega,by omega,fun R hR hg hRl=>?_⟩
  obtain ⟨R1,c1,c2,c3,c4,c5⟩:=a5 R hR hg (by omega)
  obtain ⟨R2,d1,d2,d3,d4,d5⟩:=b5 R1 c2 c3 (by omega)
  refine ⟨R2,?_,d2,d3,by omega,by omega⟩
  show loop (fun (s:(List dM × Int))=>kQ (dI n) l (k:Int) pr vs p s.1 s.2) (R,(v:Int))=_
  rw [yO (s':=(R1,((v+1:Nat):Int)))]
  ·exact d1
  ·show kQ (dI n) l (k:Int) pr vs p R (v:Int)=_
   unfold kQ tM
   rw [hp,if_pos (by simp;omega),gK (by unfold jU;simp;omega),aF,aF,List.nil_append,gK (by unfold jU;simp;omega),aF,c1,aF,eT (by omega) (by omega)]
   rfl
omit hD hd
theorem aEJ.mono {P:List dM} {c c':Nat} {fI:Option (List dM × List (bK × Bool))} {fS:List dM->Option (List dM)} (h:aEJ l P c fI fS) (hc:c<=c'):aEJ l P c' fI fS:=by
 obtain ⟨P',M',e,i,a,b,k⟩:=h
 refine ⟨P',M',e,i,a,by omega,fun R hR hg hl=>?_⟩
 obtain ⟨R',c1,c2,c3,c4,c5⟩:=k R hR hg (by omega)
 exact ⟨R',c1,c2,c3,c4,by omega⟩
theorem aEJ.seq {P:List dM} {c1 c2:Nat} {f1:Option (List dM × List (bK × Bool))} {f2:List dM->List (bK × Bool)->Option (List dM × List (bK × Bool))} {g1 g2:List dM->Option (List dM)} (h1:aEJ l P c1 f1 g1)
  (h2:∀ P1 M1,InvP l P1 M1->P1.length<=P.length+c1->aEJ l P1 c2 (f2 P1 M1) g2):aEJ l P (c1+c2) (ob f1 fun r=>f2 r.1 r.2) (fun R=>ob (g1 R) g2):=by
 obtain ⟨P1,M1,a1,a2,a3,a4,a5⟩:=h1
 obtain ⟨P2,M2,b1,b2,b3,b4,b5⟩:=h2 P1 M1 a2 a4
 refine ⟨P2,M2,by rw [a1,aF];exact b1,b2,by omega,by omega,fun R hR hg hl=>?_⟩
 obtain ⟨R1,c1',d2,d3,d4,d5⟩:=a5 R hR hg (by omega)
 obtain ⟨R2,e1,e2,e3,e4,e5⟩:=b5 R1 d2 d3 (by omega)
 exact ⟨R2,by show ob (g1 R) g2=_;rw [c1',aF,e1],e2,e3,by omega,by omega⟩
theorem aNL {α β:Type} (o:Option (α × β)):(ob o fun r=>some (r.1,r.2))=o:=by cases o<;>rfl
theorem aNM {α:Type} (o:Option α):(ob o fun r=>some r)=o:=by cases o<;>rfl
include hD
theorem aEJ.take {P:List dM} {M:List (bK × Bool)} {c:Nat} {s:dM} (hc:1<=c) (hI:InvP l P M) (hs:aGb l s) (hl:P.length+c<=6000000):aEJ l P c (jH l P M s) (fun R=>zD R s):=by
 obtain ⟨M',t1,t2⟩:=take_eq hD hs hI.g hI.m (by omega)
 have g:=aId P s
 refine ⟨vP P s,M',t1,⟨aNH hI.g hs,t2,aSU hI.nd⟩,g.1,by omega,fun R hR hg hRl=>?_⟩
 have g2:=aId R s
 exact ⟨vP R s,l07Add_eq R s (by omega) (fun y hy=>by have:=(hg y hy).2.2.1;omega),hR.add s,aNH hg hs,g2.1,by omega⟩
include hd
theorem aGc:∀ (t:GTr Part) (m n:Nat) (pre post:List Part) (b:Bool) (vs:List Int) (P:List dM) (M:List (bK × Bool)),d.Body=pre++t.flat++post->t.WF jF->aLz l (vs.length:Int) b t->vs.length<=6->vs.all pC=true->t.flat.length<=m->t.flat.length<=n->InvP l P M->P.length+8 ^ (6 - vs.length) * t.flat.length<=6000000->
  aEJ l P (8 ^ (6 - vs.length) * t.flat.length) (cG m l P M (k:Int) (pre.length:Int) vs) (dI n l (k:Int) (pre.length:Int) vs)
 |t,0,n,pre,post,b,vs,P,M,he,hw,hg,hv,hvs,hm,hn,hI,hl=>by have:=t.flat_pos;omega
 |t,m+1,0,pre,post,b,vs,P,M,he,hw,hg,hv,hvs,hm,hn,hI,hl=>by have:=t.flat_pos;omega
 |.nul p,m+1,n+1,pre,post,b,vs,P,M,he,hw,hg,hv,hvs,hm,hn,hI,hl=>by
  have hx:ix l (k:Int)=some d:=by rw [iX];exact hd
  have hx2:ix d.Body (pre.length:Int)=some p:=by rw [iX,he];simp [GTr.flat]
  obtain ⟨k1,k2,k3,k4⟩:=folP_zero (show jF p=0 from hw)
  have eI:cG (m+1) l P M (k:Int) (pre.length:Int) vs=some (P,M):=by
   show dR (cG m) l P M (k:Int) (pre.length:Int) vs=_
   unfold dR
   rw [hx,aF,hx2,aF,if_neg (by simpa using k1),if_neg (by simpa using k2),if_neg (by simpa using k3),if_neg (by simpa using k4)];rfl
  rw [eI]
  refine (aEJ.none _ hI).stop (fun R h=>?_) (fun R h=>?_)
  ·show cY (dI n) l (k:Int) (pre.length:Int) vs R=_
   unfold cY
   rw [hx,aF,hx2,aF,if_pos (by simp;omega)]
  ·show cY (dI n) l (k:Int) (pre.length:Int) vs R=_
   unfold cY
   rw [hx,aF,hx2,aF,if_neg (by simp;omega),if_neg (by simpa using k1),if_neg (by simpa using k2),if_neg (by simpa using k3),if_neg (by simpa using k4)];rfl
 |.one p a,m+1,n+1,pre,post,b,vs,P,M,he,hw,hg,hv,hvs,hm,hn,hI,hl=>by
  have h20:=(aKu hD hd).1
  have hx:ix l (k:Int)=some d:=by rw [iX];exact hd
  have hx2:ix d.Body (pre.length:Int)=some p:=by rw [iX,he];simp [GTr.flat]
  have ok:=okP hg.1
  have hal:d.Body.length=pre.length+(1+a.flat.length)+post.length:=by rw [he];simp [GTr.flat];omega
  have hwr:wr ((pre.length:Int)+1)=((pre++[p]).length:Int):=by rw [eT (by omega) (by omega)];simp
  have hfl:(GTr.one p a).flat.length=a.flat.length+1:=by simp [GTr.flat]
  have hea:d.Body=(pre++[p])++a.flat++post:=by rw [he];simp [GTr.flat]
  have hpow:1<=8 ^ (6 - vs.length):=Nat.one_le_pow _ _ (by omega)
  have hca:8 ^ (6 - vs.length) * (GTr.one p a).flat.length=8 ^ (6 - vs.length) * a.flat.length+8 ^ (6 - vs.length):=by rw [hfl,Nat.mul_succ]
  rcases folP_one hw.1 with hk|hk|hk
  ·
   obtain ⟨q1,q2,q3⟩:=ok.k1 hk
   obtain ⟨s1,s2⟩:=aPf hvs ok.ar (by omega)
   have hlb:LbOk p.Name (p.Arguments.map (aGO vs)):=by
    refine ⟨q1,by simpa using q2,?_,fun h=>by rw [q3 h];rfl⟩
    rw [List.all_map,List.all_eq_true]
    exact fun e he=>(aGa hvs (ok.ar e he)).2.2
   obtain ⟨rr,hrr⟩:=flat_root a
   have hx3:ix d.Body ((pre++[p]).length:Int)=some a.root:=by rw [iX,hea,hrr];simp
   have hclone:apd ([]:List Int) vs=some vs:=by rw [gK (by unfold jU;simp;omega),List.nil_append]
   have okr:=okP (good_root hg.2)
   have hbel:bel (vs.length:Int) p=vs.length:=by unfold bel;rw [hk];rfl
   rw [hbel] at okr
   have hg2:=hg.2
   rw [hbel] at hg2
   by_cases h5:a.root.Kind=5
   ·obtain ⟨u1,u2,u3⟩:=okr.k5 h5
    have hdn:a.root.Number.toNat < l.length:=by omega
    have hpar:=hD.2.2.1 (l[a.root.Number.toNat]) (List.getElem_mem hdn)
    have hgd:l.getD a.root.Number.toNat ⟨[],0,[]⟩=l[a.root.Number.toNat]:=by simp [List.getD,hdn]
    simp only [aIN,Bool.and_eq_true,decide_eq_true_eq] at hpar
    rw [hgd] at u3
    obtain ⟨v1,v2⟩:=aPf hvs okr.ar (by omega)
    have hs:aGb l ⟨lab p.Name (p.Arguments.map (aGO vs)),⟨a.root.Number,0,a.root.Arguments.map (aGO vs)⟩⟩:=by
     refine ⟨⟨_,_,hlb,rfl⟩,PtG.start hD u1 u2 (by rw [hgd];simpa using u3) ?_⟩
     rw [List.all_map,List.all_eq_true]
     exact fun e he=>(aGa hvs (okr.ar e he)).2.2
    have eI:cG (m+1) l P M (k:Int) (pre.length:Int) vs=jH l P M ⟨lab p.Name (p.Arguments.map (aGO vs)),⟨a.root.Number,0,a.root.Arguments.map (aGO vs)⟩⟩:=by
     show dR (cG m) l P M (k:Int) (pre.length:Int) vs=_
     unfold dR eG
     rw [hx,aF,hx2,aF,if_pos (by simpa using hk),s2,aF,aLx hlb,aF,hclone,aF,aF,hwr,hx3,aF,if_pos (by simpa using h5),v2,aF]
     exact aNL _
    rw [eI]
    refine (aEJ.take hD (by omega) hI hs hl).stop (fun R h=>?_) (fun R h=>?_)
    ·show cY (dI n) l (k:Int) (pre.length:Int) vs R=_
     unfold cY
     rw [hx,aF,hx2,aF,if_pos (by simp;omega)]
    ·show cY (dI n) l (k:Int) (pre.length:Int) vs R=_
     unfold cY tM oD
     rw [hx,aF,hx2,aF,if_neg (by simp;omega),if_pos (by simpa using hk),hclone,aF,aF,hwr,hx3,aF,if_pos (by simpa using h5),v1,aF,s1,aF,aRM hlb,aF]
     exact aNM _
   ·have hs:aGb l ⟨lab p.Name (p.Arguments.map (aGO vs)),⟨(k:Int),((pre++[p]).length:Int),vs⟩⟩:=
     ⟨⟨_,_,hlb,rfl⟩,⟨⟨k,d,a,pre++[p],post,_,hd,rfl,hea,hw.2,rfl,hg2⟩,hv,hvs⟩⟩
    have eI:cG (m+1) l P M (k:Int) (pre.length:Int) vs=jH l P M ⟨lab p.Name (p.Arguments.map (aGO vs)),⟨(k:Int),((pre++[p]).length:Int),vs⟩⟩:=by
     show dR (cG m) l P M (k:Int) (pre.length:Int) vs=_
     unfold dR eG
     rw [hx,aF,hx2,aF,if_pos (by simpa using hk),s2,aF,aLx hlb,aF,hclone,aF,aF,hwr,hx3,aF,if_neg (by simpa using h5)]
     exact aNL _
    rw [eI]
    refine (aEJ.take hD (by omega) hI hs hl).stop (fun R h=>?_) (fun R h=>?_)
    ·show cY (dI n) l (k:Int) (pre.length:Int) vs R=_
     unfold cY
     rw [hx,aF,hx2,aF,if_pos (by simp;omega)]
    ·show cY (dI n) l (k:Int) (pre.length:Int) vs R=_
     unfold cY tM oD
     rw [hx,aF,hx2,aF,if_neg (by simp;omega),if_pos (by simpa using hk),hclone,aF,aF,hwr,hx3,aF,if_neg (by simpa using h5),s1,aF,aRM hlb,aF]
     exact aNM _
  ·
   have hbel:bel (vs.length:Int) p=vs.length:=by unfold bel;rw [hk];rfl
   have hg2:=hg.2
   rw [hbel] at hg2
   obtain ⟨e,hae⟩:=List.length_eq_one_iff.1 (ok.k3 hk)
   have hix:ix p.Arguments 0=some e:=by rw [hae];rfl
   obtain ⟨w1,w2,_⟩:=aGa hvs (ok.ar e (by rw [hae];simp))
   have k1:¬ (p.Kind == 1)=true:=by rw [hk];decide
   have k2:¬ (p.Kind == 2)=true:=by rw [hk];decide
   by_cases hz:aGO vs e=0
   ·have eI:cG (m+1) l P M (k:Int) (pre.length:Int) vs=some (P,M):=by
     show dR (cG m) l P M (k:Int) (pre.length:Int) vs=_
     unfold dR
     rw [hx,aF,hx2,aF,if_neg k1,if_neg k2,if_pos (by simpa using hk),hix,aF,w2,aF,if_neg (by simpa using hz)];rfl
    rw [eI]
    refine (aEJ.none _ hI).stop (fun R h=>?_) (fun R h=>?_)
    ·show cY (dI n) l (k:Int) (pre.length:Int) vs R=_
     unfold cY
     rw [hx,aF,hx2,aF,if_pos (by simp;omega)]
    ·show cY (dI n) l (k:Int) (pre.length:Int) vs R=_
     unfold cY
     rw [hx,aF,hx2,aF,if_neg (by simp;omega),if_neg k1,if_neg k2,if_pos (by simpa using hk),hix,aF,w1,aF,if_neg (by simpa using hz)];rfl
   ·have eI:cG (m+1) l P M (k:Int) (pre.length:Int) vs=cG m l P M (k:Int) ((pre++[p]).length:Int) vs:=by
     show dR (cG m) l P M (k:Int) (pre.length:Int) vs=_
     unfold dR
     rw [hx,aF,hx2,aF,if_neg k1,if_neg k2,if_pos (by simpa using hk),hix,aF,w2,aF,if_pos (by simpa using hz),hwr]
     exact aNL _
    rw [eI]
    refine ((aGc a m n (pre++[p]) post _ vs P M hea hw.2 hg2 hv hvs (by omega) (by omega) hI (by omega)).mono (by omega)).stop (fun R h=>?_) (fun R h=>?_)
    ·show cY (dI n) l (k:Int) (pre.length:Int) vs R=_
     unfold cY
     rw [hx,aF,hx2,aF,if_pos (by simp;omega)]
    ·show cY (dI n) l (k:Int) (pre.length:Int) vs R=_
     unfold cY
     rw [hx,aF,hx2,aF,if_neg (by simp;omega),if_neg k1,if_neg k2,if_pos (by simpa using hk),hix,aF,w1,aF,if_pos (by simpa using hz),hwr]
     exact aNM _
  ·
   obtain ⟨n1,n7,hs6⟩:=ok.k4 hk
   have hbel:bel (vs.length:Int) p=((vs.length+1:Nat):Int):=by unfold bel;rw [hk];rfl
   have hg2:=hg.2
   rw [hbel] at hg2
   have k1:¬ (p.Kind == 1)=true:=by rw [hk];decide
   have k2:¬ (p.Kind == 2)=true:=by rw [hk];decide
   have k3:¬ (p.Kind == 3)=true:=by rw [hk];decide
   have hN:p.Number=((p.Number.toNat:Nat):Int):=by omega
   have hp8:8 ^ (6 - vs.length)=8 * 8 ^ (6 - (vs.length+1)):=by rw [show 6 - vs.length=(6 - (vs.length+1))+1 by omega,Nat.pow_succ,Nat.mul_comm]
   have hcc:8 ^ (6 - vs.length) * a.flat.length=8 * (8 ^ (6 - (vs.length+1)) * a.flat.length):=by rw [hp8,Nat.mul_assoc]
   have hj:(p.Number.toNat+1) * (8 ^ (6 - (vs.length+1)) * a.flat.length)<=8 ^ (6 - vs.length) * a.flat.length:=by rw [hcc];exact Nat.mul_le_mul_right _ (by omega)
   have hw2:=aNK hD hd (N:=p.Number.toNat) (by omega) hN (m:=m) (n:=n) hv (8 ^ (6 - (vs.length+1)) * a.flat.length) (pre.length:Int) (fun v P M hvN hIP hlP=>by
    have:=aGc a m n (pre++[p]) post _ (vs++[(v:Int)]) P M hea hw.2 (by simpa using hg2) (by simp;omega) (by simp only [List.all_append,hvs,Bool.true_and,List.all_cons,List.all_nil,Bool.and_true];exact aIc.2 (by omega)) (by omega) (by omega) hIP (by simpa using hlP)
    rw [hwr]
    simpa using this) (p.Number.toNat+1) 0 P M (by omega) hI (by omega)
   have eI:cG (m+1) l P M (k:Int) (pre.length:Int) vs=loop (fun (s:(List dM × (List (bK × Bool)) × Int))=>gN (cG m) l (k:Int) (pre.length:Int) vs p s.1 s.2.1 s.2.2) (P,M,((0:Nat):Int)):=by
    show dR (cG m) l P M (k:Int) (pre.length:Int) vs=_
    unfold dR
    rw [hx,aF,hx2,aF,if_neg k1,if_neg k2,if_neg k3,if_pos (by simpa using hk)]
    exact aNL _
   rw [eI]
   refine (hw2.mono (by omega)).stop (fun R h=>?_) (fun R h=>?_)
   ·show cY (dI n) l (k:Int) (pre.length:Int) vs R=_
    unfold cY
    rw [hx,aF,hx2,aF,if_pos (by simp;omega)]
   ·show cY (dI n) l (k:Int) (pre.length:Int) vs R=_
    unfold cY
    rw [hx,aF,hx2,aF,if_neg (by simp;omega),if_neg k1,if_neg k2,if_neg k3,if_pos (by simpa using hk)]
    exact aNM _
 |.two p a c,m+1,n+1,pre,post,b,vs,P,M,he,hw,hg,hv,hvs,hm,hn,hI,hl=>by
  have h20:=(aKu hD hd).1
  have hx:ix l (k:Int)=some d:=by rw [iX];exact hd
  have hx2:ix d.Body (pre.length:Int)=some p:=by rw [iX,he];simp [GTr.flat]
  have hal:d.Body.length=pre.length+(1+a.flat.length+c.flat.length)+post.length:=by rw [he];simp [GTr.flat];omega
  have hwr:wr ((pre.length:Int)+1)=((pre++[p]).length:Int):=by rw [eT (by omega) (by omega)];simp
  have hfl:(GTr.two p a c).flat.length=a.flat.length+c.flat.length+1:=by simp [GTr.flat]
  have hea:d.Body=(pre++[p])++a.flat++(c.flat++post):=by rw [he];simp [GTr.flat]
  have hec:d.Body=(pre++[p]++a.flat)++c.flat++post:=by rw [he];simp [GTr.flat]
  have hca:8 ^ (6 - vs.length) * (GTr.two p a c).flat.length=8 ^ (6 - vs.length) * a.flat.length+8 ^ (6 - vs.length) * c.flat.length+8 ^ (6 - vs.length):=by rw [hfl,Nat.mul_succ,Nat.mul_add]
  have hk:p.Kind=2:=aLd.2 hw.1
  have hbel:bel (vs.length:Int) p=vs.length:=by unfold bel;rw [hk];rfl
  have hga:=hg.2.1
  have hgc:=hg.2.2
  rw [hbel] at hga hgc
  have k1:¬ (p.Kind == 1)=true:=by rw [hk];decide
  obtain ⟨e1,e2⟩:=end_at (by omega) a (pre++[p]) (c.flat++post) hea hw.2.1
  have hlen:((pre++[p]).length+a.flat.length:Nat)=(pre++[p]++a.flat).length:=by simp;omega
  have hpow:1<=8 ^ (6 - vs.length):=Nat.one_le_pow _ _ (by omega)
  rw [hlen] at e1 e2
  have w:=aEJ.seq (c2:=8 ^ (6 - vs.length) * c.flat.length) (f2:=fun P1 M1=>cG m l P1 M1 (k:Int) ((pre++[p]++a.flat).length:Int) vs) (g2:=dI n l (k:Int) ((pre++[p]++a.flat).length:Int) vs)
   (aGc a m n (pre++[p]) (c.flat++post) _ vs P M hea hw.2.1 hga hv hvs (by omega) (by omega) hI (by omega))
   (fun P1 M1 hI1 hl1=>aGc c m n (pre++[p]++a.flat) post _ vs P1 M1 hec hw.2.2 hgc hv hvs (by omega) (by omega) hI1 (by omega))
  have eI:cG (m+1) l P M (k:Int) (pre.length:Int) vs=ob (cG m l P M (k:Int) ((pre++[p]).length:Int) vs) fun r=>cG m l r.1 r.2 (k:Int) ((pre++[p]++a.flat).length:Int) vs:=by
   show dR (cG m) l P M (k:Int) (pre.length:Int) vs=_
   unfold dR
   rw [hx,aF,hx2,aF,if_neg k1,if_pos (by simpa using hk),hwr,e1]
   refine congrArg (ob _) (funext fun r=>?_)
   exact aNL _
  rw [eI]
  refine (w.mono (by omega)).stop (fun R h=>?_) (fun R h=>?_)
  ·show cY (dI n) l (k:Int) (pre.length:Int) vs R=_
   unfold cY
   rw [hx,aF,hx2,aF,if_pos (by simp;omega)]
  ·show cY (dI n) l (k:Int) (pre.length:Int) vs R=_
   unfold cY
   rw [hx,aF,hx2,aF,if_neg (by simp;omega),if_neg k1,if_pos (by simpa using hk),hwr,e2]
   refine congrArg (ob _) (funext fun r=>?_)
   exact aNM _
end
theorem aSX {l:List Definition} (hD:nU l) {p:bS} (h:PtG l p):(∃ X,aGz l p=some (X,true)/\aDp l p=some (X,true)/\X.length<=200/\(∀ y∈X,aGb l y)/\X.Nodup)\/(∃ X Y,aGz l p=some (X,false)/\aDp l p=some (Y,false)/\X.length<=6000000/\(∀ y∈X,aGb l y)/\X.Nodup):=by
 obtain ⟨⟨k,d,t,pre,post,b,h1,h2,h3,h4,h5,h6⟩,h7,h8⟩:=h
 have h20:=(aKu hD h1).1
 have h9:d.Body.length=pre.length+t.flat.length+post.length:=by rw [h3];simp;omega
 have hb:8 ^ (6 - p.Values.length) * t.flat.length<=8 ^ 6 * 20:=Nat.mul_le_mul (Nat.pow_le_pow_right (by omega) (by omega)) (by omega)
 have w:=aGc hD h1 t 100000 100000 pre post b p.Values [] [] h3 h4 h6 h7 h8 (by omega) (by omega) ⟨fun y hy=>(by cases hy),seen_nil _,List.nodup_nil⟩ (by simp only [List.length_nil];omega)
 obtain ⟨P,M,a1,a2,_,a4,a5⟩:=w
 have h6m:P.length<=6000000:=by simp only [List.length_nil] at a4;omega
 obtain ⟨R,b1,b2,b3,_,_⟩:=a5 [] (.inl rfl) (fun y hy=>(by cases hy)) (by simp only [List.length_nil];omega)
 have eI:aGz l p=some (P,decide ((P.length:Int)<=200)):=by
  unfold aGz aAS
  rw [h2,h5,a1,aF]
 have eS:aDp l p=some (R,decide ((R.length:Int)<=200)):=by
  unfold aDp aDo
  rw [h2,h5,b1,aF]
 rw [eI,eS]
 rcases b2 with rfl|b2
 ·by_cases hl:P.length<=200
  ·left;exact ⟨P,by rw [decide_eq_true (by omega)],by rw [decide_eq_true (by omega)],hl,b3,a2.nd⟩
  ·right;exact ⟨P,P,by rw [decide_eq_false (by omega)],by rw [decide_eq_false (by omega)],h6m,a2.g,a2.nd⟩
 ·right;exact ⟨P,R,by rw [decide_eq_false (by omega)],by rw [decide_eq_false (by omega)],h6m,a2.g,a2.nd⟩
end Gv
namespace Gv
open Go
def stT0 (s:cP):List bS:=s.Components.map fun c=>⟨c.Definition,0,c.Values⟩
theorem aRP {s:cP} (hs:SysOk s):∀ p∈stT0 s,PtG s.Definitions p:=fun p hp=>by
 obtain ⟨c,hc,rfl⟩:=List.mem_map.1 hp
 have:=hs.comp c hc
 unfold aCW at this
 simp only [Bool.and_eq_true,decide_eq_true_eq,beq_iff_eq] at this
 exact PtG.start hs.defs this.1.1.1 this.1.1.2 this.1.2 this.2
theorem aSY {s:cP} (hs:SysOk s):tX s=some (stT0 s)/\aEk s=some (stT0 s):=by
 have hn:=hs.n3
 have hv:∀ c∈s.Components,c.Values.length < 1000000:=fun c hc=>by
  have:=(aRP hs ⟨c.Definition,0,c.Values⟩ (List.mem_map.2 ⟨c,hc,rfl⟩)).2.1
  simp only at this;omega
 constructor
 ·unfold tX
  rw [aBC (step:=fun t:List bS × Int=>oT s t.1 t.2) s.Components (fun c=>⟨c.Definition,0,c.Values⟩) (fun x=>x) (fun k out x hk ho hx=>?_) (fun out=>by simp only [oT,cK];rfl),aF]
  ·rfl
  ·have hm:x∈s.Components:=by rw [cV hk] at hx;cases hx;exact List.getElem_mem hk
   have:=hv x hm
   simp only [oT,eG,cU hk,if_true,hx,aF,gK (show ([]:List Int).length+x.Values.length<=jU by unfold jU;simp;omega),List.nil_append]
   rw [gK (by unfold jU;simp;omega),aF,cT hk (by omega)]
 ·unfold aEk
  rw [aBC (step:=fun t:List bS × Int=>wM s t.1 t.2) s.Components (fun c=>⟨c.Definition,0,c.Values⟩) (fun x=>x) (fun k out x hk ho hx=>?_) (fun out=>by simp only [wM,cK];rfl),aF]
  ·rfl
  ·have hm:x∈s.Components:=by rw [cV hk] at hx;cases hx;exact List.getElem_mem hk
   have:=hv x hm
   simp only [wM,tM,cU hk,if_true,hx,aF,gK (show ([]:List Int).length+x.Values.length<=jU by unfold jU;simp;omega),List.nil_append]
   rw [gK (by unfold jU;simp;omega),aF,cT hk (by omega)]
end Gv
