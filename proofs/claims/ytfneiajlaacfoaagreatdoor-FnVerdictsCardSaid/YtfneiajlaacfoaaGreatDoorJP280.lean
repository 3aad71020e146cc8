/- The equations of a formula: their game is the formula's; values, consistency. -/
import Derived.Test.YtfneiajlaacfoaaGreatDoorJP260
set_option linter.all false
set_option linter.unusedVariables false
set_option linter.unusedSimpArgs false
namespace Gv
open Go
section
variable {f:List aO} {b:List Int} {t:cR}
theorem posN_at {N:List Int} (hN:N.Nodup) {j:Nat} (hj:j < N.length):pos N (N.getD j 0)=(j:Int):=by
 have hm:N.getD j 0=N[j]:=by rw [List.getD_eq_getElem?_getD,List.getElem?_eq_getElem hj];rfl
 rw [hm]
 obtain ⟨i,hi,e1,e2⟩:=aIC (List.getElem_mem hj)
 rw [e1]
 have:=(List.pairwise_iff_getElem.1 hN)
 by_cases hij:i=j
 ·rw [hij]
 ·rcases Nat.lt_or_gt_of_ne hij with h|h
  ·exact absurd e2 (this i j hi hj h)
  ·exact absurd e2.symm (this j i hj hi h)
theorem aJT {N:List Int} {i:Nat} (h:i < N.length):vD (eqL f t N) i=mkE f t N (N.getD i 0):=by
 unfold vD eqL
 rw [List.getD_eq_getElem?_getD,List.getElem?_map,List.getD_eq_getElem?_getD,List.getElem?_eq_getElem h]
 rfl
theorem aFF {N:List Int}:(eqL f t N).length=N.length:=by unfold eqL;simp
theorem eqL_tm {N:List Int} (hN:N.Nodup) (hcl:∀ v∈N,∀ w∈(vx (jE f t f.length) v).Next,w∈N) {i:Nat} (h:i < N.length) {w:Int}:
  w∈(mkE f t N (N.getD i 0)).Terms<->∃ j:Nat,j < N.length/\w=(j:Int)/\N.getD j 0∈(vx (jE f t f.length) (N.getD i 0)).Next:=by
 unfold mkE
 simp only
 rw [aJR,List.mem_map]
 constructor
 ·rintro ⟨v,hv,rfl⟩
  have hm:=hcl _ (aFr h) v hv
  obtain ⟨j,hj,e⟩:=List.getElem_of_mem hm
  have e':N.getD j 0=v:=by rw [List.getD_eq_getElem?_getD,List.getElem?_eq_getElem hj];exact e
  exact ⟨j,hj,by rw [←e',posN_at hN hj],by rw [e'];exact hv⟩
 ·rintro ⟨j,hj,rfl,hv⟩
  exact ⟨_,hv,posN_at hN hj⟩
theorem eqL_ok {N:List Int} (hs:N.Pairwise (· < ·)) (h1:1<=N.length) (h2:N.length<=120) (hcl:∀ v∈N,∀ w∈(vx (jE f t f.length) v).Next,w∈N) (hfit:jU (xQ (eqL f t N)) (N.length - 1) < 9):EqOk (eqL f t N) where
 len:=by rw [aFF];exact ⟨h1,h2⟩
 fit:=by rw [aFF];exact hfit
 tm:=fun i hi=>by
  rw [aFF] at hi ⊢
  have hN:N.Nodup:=hs.imp fun h=>by omega
  rw [aJT hi]
  refine ⟨aFD.1,fun w hw=>?_⟩
  obtain ⟨j,hj,rfl,_⟩:=(eqL_tm hN hcl hi).1 hw
  omega
theorem eqL_game (hf:FOk f) (hT:Tm b f) (ht:cS t) (hg:GOk (jE f t f.length)) {N:List Int} (hs:N.Pairwise (· < ·)) (hin:∀ v∈N,xT (jE f t f.length) v) (hcl:∀ v∈N,∀ w∈(vx (jE f t f.length) v).Next,w∈N):EqG f t N (gmE (eqL f t N)) (ugF f):=by
 have hN:N.Nodup:=hs.imp fun h=>by omega
 have hlen:=hf.len
 have hvt:∀ i,i < N.length->vx (gmE (eqL f t N)) (i:Int)=vtE (eqL f t N) i:=fun i hi=>aJS (by rw [aFF];exact hi)
 have hgr:∀ i,i < N.length->xQ (eqL f t N) i=ugF f (dI t (N.getD i 0)):=fun i hi=>by
  unfold xQ
  rw [aJT hi]
  rfl
 refine ⟨by unfold gmE;rw [List.length_map,List.length_range,aFF],hs,hin,fun i hi=>?_,fun i hi w=>?_,hcl,fun i hi=>?_,fun k hk hx=>(ug_spec hlen.2 hT hk).2 hx⟩
 ·rw [hvt i hi]
  show (if (vD (eqL f t N) i).All=true then (1:Int) else 0)=_
  rw [aJT hi]
  have ho:=hg.own (N.getD i 0)
  show (if ((vx (jE f t f.length) (N.getD i 0)).Owner == 1)=true then (1:Int) else 0)=_
  rcases ho with ho|ho<;>rw [ho]<;>rfl
 ·rw [hvt i hi]
  show w∈(vD (eqL f t N) i).Terms<->_
  rw [aJT hi]
  exact eqL_tm hN hcl hi
 ·rw [hvt i hi]
  show (jU (xQ (eqL f t N)) i:Int)+(if xQ (eqL f t N) 0=true then 0 else 1)=_
  rw [hgr 0 (by omega)]
  congr 2
  have:∀ j,j<=i->jU (xQ (eqL f t N)) j=jU (fun i=>ugF f (dI t (N.getD i 0))) j:=by
   intro j
   induction j with
   |zero=>intro _;rfl
   |succ j ih=>
    intro hj
    show jU _ j+_=jU _ j+_
    rw [ih (by omega),hgr (j+1) (by omega),hgr j (by omega)]
  exact this i (Nat.le_refl _)
end
theorem solve_ok {e:List aS} (h:EqOk e):∃ out vals,wE (gmE e)=some out/\out.length=e.length/\aDW e=some vals/\vals=out.map (fun w=>w == 0)/\tT e=some (vals,0)/\aGZ e=some (gmE e,0)/\∀ v,xT (gmE e) v->∃ q,(q=0\/q=1)/\out.getD v.toNat 0=q/\∃ W σ,Reg (gg (gmE e)) (xT (gmE e)) q W σ/\W v:=by
 have hl:=h.len
 obtain ⟨hg,h1,h2⟩:=aLT h
 obtain ⟨out,e1,e2,e3⟩:=aJL hg h1
 have hge:aGk e=some (gmE e):=game_eqE e (by omega) fun i hi=>by
  have:=aLS (h.tm i hi).1 (h.tm i hi).2
  omega
 have hol:out.length=e.length:=by rw [e2,h2]
 have key:=aDC (step:=fun s:List Bool × Int=>yN out s.1 s.2) out (fun w=>w == 0) (fun r=>r) (fun k o w hk ho hw=>by
  show yN out o (k:Int)=_
  unfold yN
  rw [if_pos (bZ hk),hw,aA,cI (by simp only [List.length_singleton];unfold iC;omega),aA,bN hk (by omega)]) (fun o=>by
  show yN out o (out.length:Int)=_
  unfold yN
  rw [if_neg (by simp)])
 have hs:aDW e=some (out.map fun w=>w == 0):=by
  unfold aDW
  rw [hge,aA,e1,aA,key,aA]
  rfl
 refine ⟨out,_,e1,hol,hs,rfl,?_,?_,e3⟩
 ·unfold tT
  rw [validE h,aA,if_neg (by simp),hs,aA]
 ·unfold aGZ
  rw [validE h,aA,if_neg (by simp),hge,aA]
theorem aKm {e:List aS} (h:EqOk e) {out:List Int} (hol:out.length=e.length) (ho:∀ v,xT (gmE e) v->∃ q,(q=0\/q=1)/\out.getD v.toNat 0=q/\∃ W σ,Reg (gg (gmE e)) (xT (gmE e)) q W σ/\W v):sY e (out.map fun w=>w == 0)=some true:=by
 have hl:=h.len
 obtain ⟨hg,_,h2⟩:=aLT h
 have hval:∀ w:Int,0<=w->w < (e.length:Int)->ix (out.map fun w=>w == 0) w=some (out.getD w.toNat 0 == 0):=fun w h0 h1=>by
  unfold ix
  rw [if_pos h0,List.getElem?_map,List.getElem?_eq_getElem (by omega),List.getD_eq_getElem?_getD,List.getElem?_eq_getElem (by omega)]
  rfl
 have hin:∀ i,i < e.length->xT (gmE e) (i:Int):=fun i hi=>⟨by omega,by rw [h2];omega⟩
 have hloc:∀ i,i < e.length->(out.getD i 0 == 0)=((vD e i).All != (vD e i).Terms.any fun k=>(out.getD k.toNat 0 == 0) != (vD e i).All):=by
  intro i hi
  obtain ⟨q,q1,q2,W,σ,q3,q4⟩:=ho _ (hin i hi)
  rw [Int.toNat_natCast] at q2
  have hown:(gg (gmE e)).own (i:Int)=if (vD e i).All=true then 1 else 0:=by
   show (vx (gmE e) (i:Int)).Owner=_
   rw [aJS hi]
   rfl
  have hE:∀ w,(gg (gmE e)).E (i:Int) w<->w∈(vD e i).Terms:=fun w=>by
   show w∈(vx (gmE e) (i:Int)).Next<->_
   rw [aJS hi]
   exact Iff.rfl
  have hwin:∀ w,W w->xT (gmE e) w->out.getD w.toNat 0=q:=fun w hw hwi=>by
   obtain ⟨q',q1',q2',W',σ',q3',q4'⟩:=ho w hwi
   rw [q2']
   exact (one_won hg q1 q1' q3 q3' hw q4').symm
  rw [q2]
  by_cases hm:(gg (gmE e)).own (i:Int)=q
  ·
   obtain ⟨m1,m2⟩:=q3.mine _ q4 hm
   have m3:=(hE _).1 m1
   have m4:=hwin _ m2 (by have:=(h.tm i hi).2 _ m3;exact ⟨this.1,by rw [h2];exact this.2⟩)
   rw [hown] at hm
   have hany:((vD e i).Terms.any fun k=>(out.getD k.toNat 0 == 0) != (vD e i).All)=true:=by
    rw [List.any_eq_true]
    refine ⟨_,m3,?_⟩
    rw [m4]
    cases ha:(vD e i).All<;>rw [ha] at hm<;>simp at hm<;>subst hm<;>rfl
   rw [hany]
   cases ha:(vD e i).All<;>rw [ha] at hm<;>simp at hm<;>subst hm<;>rfl
  ·
   have hno:((vD e i).Terms.any fun k=>(out.getD k.toNat 0 == 0) != (vD e i).All)=false:=by
    rw [List.any_eq_false]
    intro k hk
    have hki:xT (gmE e) k:=by have:=(h.tm i hi).2 _ hk;exact ⟨this.1,by rw [h2];exact this.2⟩
    have:=hwin k (q3.theirs _ q4 hm k ((hE k).2 hk) hki) hki
    rw [this]
    rw [hown] at hm
    cases ha:(vD e i).All<;>rw [ha] at hm<;>simp at hm<;>rcases q1 with rfl|rfl<;>simp at hm ⊢
   rw [hno]
   rw [hown] at hm
   cases ha:(vD e i).All<;>rw [ha] at hm<;>simp at hm<;>rcases q1 with rfl|rfl<;>simp at hm ⊢
 have hcon:∀ i,i < e.length->dZ (vD e i).Terms (out.map fun w=>w == 0) (vD e i)=some ((vD e i).Terms.any fun k=>(out.getD k.toNat 0 == 0) != (vD e i).All):=fun i hi=>by
  have htl:=aLS (h.tm i hi).1 (h.tm i hi).2
  have key:=aBg (step:=fun s:Int=>bY (vD e i).Terms (out.map fun w=>w == 0) (vD e i) s) (vD e i).Terms (fun k=>(out.getD k.toNat 0 == 0) != (vD e i).All) (fun k w hk hw=>by
   show bY (vD e i).Terms (out.map fun w=>w == 0) (vD e i) (k:Int)=_
   have hr:=(h.tm i hi).2 w (aLM hw)
   unfold bY xB
   rw [if_pos (bZ hk),hw,aA,hval w hr.1 hr.2,aA,aA,bN hk (by omega)]) (by
   show bY (vD e i).Terms (out.map fun w=>w == 0) (vD e i) ((vD e i).Terms.length:Int)=_
   unfold bY
   rw [if_neg (by simp)])
  have hfi:dF (vD e i).Terms (out.map fun w=>w == 0) (vD e i)=some (match (vD e i).Terms.findIdx? (fun k=>(out.getD k.toNat 0 == 0) != (vD e i).All) with|none=>-1|some i=>(i:Int)):=by
   unfold dF
   rw [key,aA]
   cases (vD e i).Terms.findIdx? (fun k=>(out.getD k.toNat 0 == 0) != (vD e i).All)<;>rfl
  unfold dZ
  rw [hfi,aA]
  have:=aJx (vD e i).Terms (fun k=>(out.getD k.toNat 0 == 0) != (vD e i).All)
  rw [←this]
  cases (vD e i).Terms.findIdx? (fun k=>(out.getD k.toNat 0 == 0) != (vD e i).All)<;>simp
 have key:=cV (step:=fun s:Int=>gW e (out.map fun w=>w == 0) s) e.length (fun i (_:Unit)=>(i:Int)) (fun _ _=>True) (fun r=>r=.inl ()) (fun i _ hi _=>?_) (fun _ _=>?_) e.length 0 () (by omega) trivial
 ·obtain ⟨r,e1,e2⟩:=key
  have e1':loop (fun s:Int=>gW e (out.map fun w=>w == 0) s) 0=some r:=e1
  unfold sY oI
  rw [validE h,aA,if_neg (by simp),if_neg (by rw [List.length_map,hol];simp),e1',aA,e2]
  rfl
 ·refine ⟨(),?_,trivial⟩
  show gW e (out.map fun w=>w == 0) (i:Int)=some (.inl ((i+1:Nat):Int))
  unfold gW
  rw [if_pos (bZ hi),ixE hi,aA,hcon i hi,aA,hval _ (by omega) (by omega),aA,Int.toNat_natCast,hloc i hi,if_neg (by simp),bN hi (by omega)]
 ·refine ⟨.inl (),?_,rfl⟩
  show gW e (out.map fun w=>w == 0) (e.length:Int)=_
  unfold gW
  rw [if_neg (by simp)]
end Gv
set_option linter.unusedVariables false
set_option linter.unusedSimpArgs false
namespace Gv
open Go
theorem aCG (n:aO):vF n=some (oW n):=by
 unfold vF yU oW
 by_cases h:n.Kind=7
 ·simp [h]
 ·by_cases h':n.Kind=8<;>simp [h,h']
theorem aNe {n:aO} (h:0<=n.Kind/\n.Kind<=8):yF n.Kind=some ((xR n:Nat):Int):=by
 unfold yF rF yS xR
 have:n.Kind=0\/n.Kind=1\/n.Kind=2\/n.Kind=3\/n.Kind=4\/n.Kind=5\/n.Kind=6\/n.Kind=7\/n.Kind=8:=by omega
 rcases this with e|e|e|e|e|e|e|e|e<;>simp [e]
theorem aOd {l:aF} (h:oU l=true):l.getLast?≠some 42:=by
 intro hl
 have happ:=yO 40 l
 unfold oU at h
 cases hc:(gG 40 l).2 with
 |none=>
  rw [hc] at h
  simp only at h
  cases l with
  |nil=>simp at hl
  |cons c r=>
   unfold aHf at h
   rw [Bool.and_eq_true,Bool.and_eq_true,List.all_eq_true] at h
   have hm:=List.mem_of_getLast? hl
   rcases List.mem_cons.1 hm with e|e
   ·rw [←e] at h
    exact absurd h.1.1 (by decide)
   ·exact absurd (h.1.2 _ e) (by decide)
 |some r=>
  rw [hc] at h happ
  simp only at h happ
  rw [Bool.and_eq_true,Bool.and_eq_true] at h
  have h41:r.getLast?=some 41:=by simpa using h.2.1
  have hr:r≠[]:=fun e=>by rw [e] at h41;cases h41
  rw [happ,List.getLast?_append,List.getLast?_cons,h41] at hl
  simp at hl
theorem last_char {s:aF} (h:s≠[]) (hl:s.length < 1000000000):∃ c,s.getLast?=some c/\ix s (wr ((s.length:Int) - 1))=some c/\slc s 0 (wr ((s.length:Int) - 1))=some s.dropLast:=by
 rcases List.eq_nil_or_concat s with rfl|⟨l,c,rfl⟩
 ·exact absurd rfl h
 ·have hll:(l.concat c).length=l.length+1:=by simp
  have w:wr (((l.concat c).length:Int) - 1)=(l.length:Int):=by
   rw [hll] at hl ⊢
   rw [bP (by omega) (by omega)];omega
  refine ⟨c,by simp,?_,?_⟩
  ·rw [w,aDF];simp
  ·rw [w]
   unfold slc
   rw [if_pos ⟨by omega,by omega,by simp⟩]
   simp
theorem aKn {n:aO} {l:aF} (hn:n.B.length < 1000) (hl:l.length < 1000) (hb:oU l=true):wW n.B n.Not l=some (selN n l):=by
 have e1:gY n l=some (selN n l):=aJM (by omega) (by omega) hb
 have e2:gY n l=wW n.B n.Not l:=by
  unfold gY wW iX
  by_cases h0:n.B=[]
  ·rw [tW _ _ (by omega),aA,h0]
   cases n.Not<;>rfl
  ·obtain ⟨c,hc,hi,hs⟩:=last_char h0 (by omega)
   have hb0:¬ (n.B == ([]:aF))=true:=by simpa using h0
   have hl0:¬ ((n.B.length:Int) == 0)=true:=by simpa using h0
   by_cases h42:c=42
   ·subst h42
    have hne:¬ n.B=l:=fun e=>aOd hb (by rw [←e];exact hc)
    have hne':¬ (n.B == l)=true:=by simpa using hne
    have ecut:gR n.B ([42]:aF)=some (n.B.dropLast,true):=by rw [tW _ _ (by omega),hc];rfl
    have hd:(((42:UInt8).toNat:Int) == 42)=true:=rfl
    rw [ecut,aA,if_neg hb0,if_neg hne',if_neg hl0,hi,aA,if_pos hd,aKV (by omega) hb,name_eq l (by omega),aA,aA,hs,aA]
    rfl
   ·have h42':¬ ((c.toNat:Int) == 42)=true:=by
     rw [beq_iff_eq]
     intro e
     exact h42 (UInt8.toNat_inj.1 (by
       have:c.toNat=42:=by omega
       exact this))
    have ecut:gR n.B ([42]:aF)=some (n.B,false):=by rw [tW _ _ (by omega),hc,if_neg (by simpa using h42)]
    rw [ecut,aA,if_neg hb0,if_neg hl0,hi,aA,if_neg h42']
    by_cases he:n.B=l
    ·have he':(n.B == l)=true:=by simpa using he
     rw [if_pos he',he']
    ·have he':¬ (n.B == l)=true:=by simpa using he
     have he2:(n.B == l)=false:=by simpa using he
     rw [if_neg he',he2]
     rfl
 rw [←e2,e1]
section
variable {f:List aO} {b:List Int} {t:cR}
theorem aLa (h:Tm b f) {k:Nat} (hk:k < f.length):0<=(dC f k).Kind/\(dC f k).Kind<=8:=by
 obtain ⟨c,M,hM⟩:=xP h hk
 exact (nd_ok hM).1
theorem aFG (hf:f.length<=100) (h:Tm b f) {o:Nat} (ho:o < f.length):sI f (o:Int)=some ((nA f o:Nat):Int):=by
 obtain ⟨c,L,hL⟩:=xP h ho
 have hl:=hL.len
 rw [aEi hf hL]
 obtain ⟨h1,post,h2⟩:=hL
 have key:=aLN (f:=f) (step:=fun s:Int × Int=>lY f s.1 s.2) (fun k need=>((k:Int),(need:Int))) (fun k need hk h1 h3=>by
  show lY f (k:Int) (need:Int)=_
  have ha:xR (dC f k)<=2:=by unfold xR;split;omega;split<;>omega
  unfold lY
  rw [if_pos (by simp;omega),jF hk,aA,aNe (aLa h hk),aA,bN hk (by omega),bP (x:=((xR (dC f k):Nat):Int) - 1) (by omega) (by omega),bP (by omega) (by omega)]
  congr 3
  omega) h1 o post 1 h2 (by omega) (by omega)
 unfold sI
 show (ob (loop (fun s:Int × Int=>lY f s.1 s.2) ((o:Int),((1:Nat):Int))) fun r=>aES r)=_
 rw [key,eC (r:=((o+L.length:Nat):Int)) (by
  show lY f _ ((1 - 1:Nat):Int)=_
  unfold lY
  rw [if_neg (by simp)]),aA]
 rfl
theorem aHl (hf:f.length<=30) (h:Tm b f) {k:Nat} (hk:k < f.length):dS f (k:Int)=pL f (k:Int):=by
 have hstep:∀ s:Int,s < (k:Int)->gX f (k:Int) s=eF f (k:Int) s:=by
  intro s hs
  unfold gX eF
  by_cases h0:0<=s
  ·obtain ⟨i,rfl⟩:=Int.eq_ofNat_of_zero_le h0
   rw [if_pos (by simp),if_pos (by simp),jF (show i < f.length by omega),aA,aA,aCG,oT,aA,aA,jF hk,aA,aA,aFG (by omega) h (show i < f.length by omega),(pR (by omega) h (show i < f.length by omega)).1,aA,aA]
   rfl
  ·rw [if_neg (by simpa using h0),if_neg (by simpa using h0)]
 have key:∀ n (s:Int),s < (k:Int)->(s+1).toNat<=n->loop (fun s:Int=>gX f (k:Int) s) s=loop (fun s:Int=>eF f (k:Int) s) s:=by
  intro n
  induction n with
  |zero=>
   intro s h1 h2
   have e:eF f (k:Int) s=some (.inr (.inl ())):=by
    unfold eF
    rw [if_neg (by simp;omega)]
   rw [eC (r:=.inl ()) (by show gX f (k:Int) s=_;rw [hstep s h1,e]),eC (r:=.inl ()) e]
  |succ n ih=>
   intro s h1 h2
   rw [cF,cF (step:=fun s:Int=>eF f (k:Int) s)]
   rw [hstep s h1]
   by_cases h0:0<=s
   ·obtain ⟨i,rfl⟩:=Int.eq_ofNat_of_zero_le h0
    have e1:=(pR (by omega) h (show i < f.length by omega)).1
    have hj:∀ v:Bool,lZ (i:Int) v=some (.inr (.inr (i:Int)))\/lZ (i:Int) v=some (.inl ((i:Int) - 1)):=fun v=>by
     unfold lZ
     rw [bP (x:=(i:Int) - 1) (by omega) (by omega)]
     cases v
     ·exact .inr rfl
     ·exact .inl rfl
    have hv:eF f (k:Int) (i:Int)=some (.inr (.inr (i:Int)))\/eF f (k:Int) (i:Int)=some (.inl ((i:Int) - 1)):=by
     unfold eF
     rw [if_pos (by simp),jF (show i < f.length by omega),aA,oT,aA,jF hk,aA,e1,aA]
     split
     ·split<;>exact hj _
     ·exact hj _
    rcases hv with e|e<;>rw [e]
    exact ih _ (by omega) (by omega)
   ·have e:eF f (k:Int) s=some (.inr (.inl ())):=by
     unfold eF
     rw [if_neg (by simpa using h0)]
    rw [e]
 unfold dS pL
 rw [bP (x:=(k:Int) - 1) (by omega) (by omega),key _ _ (by omega) (Nat.le_refl _)]
 cases loop (fun s:Int=>eF f (k:Int) s) ((k:Int) - 1) with
 |none=>rfl
 |some r=>cases r<;>rfl
end
end Gv
set_option linter.unusedVariables false
set_option linter.unusedSimpArgs false
namespace Gv
open Go
section
variable {f:List aO} {b:List Int} {t:cR}
theorem ops_exact (hf:FOk f) (h:Tm b f) {k:Nat} (hk:k < f.length):(xR (dC f k)=0->rE f k=[])/\(xR (dC f k)=1->k+1 < f.length/\rE f k=[((k+1:Nat):Int)])/\(xR (dC f k)=2->k+1 < f.length/\rE f k=[((k+1:Nat):Int),(nA f (k+1):Int)]):=by
 have hlen:=hf.len
 have hop:=(hf.ops k hk).1
 have hin:=ops_in hlen.2 h hk
 unfold hX at hop
 rw [jF hk,aA,wG,aA,bN hk (by omega)] at hop
 refine ⟨fun h0=>?_,fun h1=>?_,fun h2=>?_⟩
 ·rw [h0,eC (r:=[]) (by
   show bO f ((0:Nat):Int) [] _ 0=_
   unfold bO
   rw [if_neg (by simp)]),aA] at hop
  exact (Option.some.inj hop).symm
 ·have hk1:k+1 < f.length:=by
   refine Classical.byContradiction fun hc=>?_
   obtain ⟨c,M,hM⟩:=xP h hk
   have hl:=hM.len
   obtain ⟨hT,post,hd⟩:=hM
   cases hT with
   |leaf hk'=>obtain ⟨_,e,_⟩:=dH hd;rw [e] at h1;unfold xR at h1;simp only at h1;split at h1<;>(try split at h1)<;>omega
   |var hv=>obtain ⟨_,e,_⟩:=dH hd;rw [e] at h1;unfold xR at h1;simp at h1
   |bin hk' hL hM=>rw [List.length_cons,List.length_append] at hl;have:=hL.pos;omega
   |mod hk' hl' hL=>rw [List.length_cons] at hl;have:=hL.pos;omega
   |fix hk' hv hL=>rw [List.length_cons] at hl;have:=hL.pos;omega
  have e1:=pR (by omega) h hk1
  rw [h1,eJ (s':=([((k+1:Nat):Int)],(nA f (k+1):Int),1)) (by
   show bO f ((1:Nat):Int) [] _ 0=_
   unfold bO
   rw [if_pos (by simp),cI (by simp [iC]),aA,e1.1,aA,bP (by omega) (by omega)]
   rfl),eC (r:=[((k+1:Nat):Int)]) (by
   show bO f ((1:Nat):Int) _ _ 1=_
   unfold bO
   rw [if_neg (by simp)]),aA] at hop
  exact ⟨hk1,(Option.some.inj hop).symm⟩
 ·have hk1:k+1 < f.length:=by
   refine Classical.byContradiction fun hc=>?_
   obtain ⟨c,M,hM⟩:=xP h hk
   have hl:=hM.len
   obtain ⟨hT,post,hd⟩:=hM
   cases hT with
   |leaf hk'=>obtain ⟨_,e,_⟩:=dH hd;rw [e] at h2;unfold xR at h2;simp only at h2;split at h2<;>(try split at h2)<;>omega
   |var hv=>obtain ⟨_,e,_⟩:=dH hd;rw [e] at h2;unfold xR at h2;simp at h2
   |bin hk' hL hM=>rw [List.length_cons,List.length_append] at hl;have:=hL.pos;omega
   |mod hk' hl' hL=>rw [List.length_cons] at hl;have:=hL.pos;omega
   |fix hk' hv hL=>rw [List.length_cons] at hl;have:=hL.pos;omega
  have e1:=pR (by omega) h hk1
  have hk2:nA f (k+1) < f.length:=by
   refine Classical.byContradiction fun hc=>?_
   have hend:=end_in (by omega) h hk (show k<=k by omega) (pR (by omega) h hk).2.1
   obtain ⟨c,M,hM⟩:=xP h hk
   have he:=aEi (by omega) hM
   have hl:=hM.len
   obtain ⟨hT,post,hd⟩:=hM
   cases hT with
   |leaf hk'=>obtain ⟨_,e,_⟩:=dH hd;rw [e] at h2;unfold xR at h2;simp only at h2;split at h2<;>(try split at h2)<;>omega
   |var hv=>obtain ⟨_,e,_⟩:=dH hd;rw [e] at h2;unfold xR at h2;simp at h2
   |@bin _ kd L M' hk' hL hM'=>
    obtain ⟨_,e,d⟩:=dH hd
    have hL':At f (k+1) c L:=⟨hL,M'++post,d.trans (List.append_assoc L M' post)⟩
    have:=aEi (by omega) hL'
    rw [List.length_cons,List.length_append] at hl
    have:=hM'.pos
    omega
   |mod hk'=>obtain ⟨_,e,_⟩:=dH hd;rw [e] at h2;unfold xR at h2;simp only at h2;split at h2<;>(try split at h2)<;>omega
   |fix hk'=>obtain ⟨_,e,_⟩:=dH hd;rw [e] at h2;unfold xR at h2;simp only at h2;split at h2<;>(try split at h2)<;>omega
  have e2:=pR (by omega) h hk2
  rw [h2,eJ (s':=([((k+1:Nat):Int)],(nA f (k+1):Int),1)) (by
   show bO f ((2:Nat):Int) [] _ 0=_
   unfold bO
   rw [if_pos (by simp),cI (by simp [iC]),aA,e1.1,aA,bP (by omega) (by omega)]
   rfl),eJ (s':=([((k+1:Nat):Int),(nA f (k+1):Int)],(nA f (nA f (k+1)):Int),2)) (by
   show bO f ((2:Nat):Int) [((k+1:Nat):Int)] _ 1=_
   unfold bO
   rw [if_pos (by simp),cI (by simp [iC]),aA,e2.1,aA,bP (by omega) (by omega)]
   rfl),eC (r:=[((k+1:Nat):Int),(nA f (k+1):Int)]) (by
   show bO f ((2:Nat):Int) _ _ 2=_
   unfold bO
   rw [if_neg (by simp)]),aA] at hop
  exact ⟨hk1,(Option.some.inj hop).symm⟩
noncomputable def aGw (f:List aO) (k:Nat):Nat->Bool
 |0=>false
 |i+1=>if (oW (dC f i)&&decide (k < nA f i))=true then decide ((dC f i).Kind=8) else aGw f k i
theorem ug_inn (hf:f.length<=30) (h:Tm b f) {k:Nat} (hk:k < f.length):ugF f k=aGw f k (k+1):=by
 have key:∀ n:Nat,n<=k+1->(ob (loop (fun s:Int=>cO f (k:Int) s) ((n:Int) - 1)) fun r=>match r with|.inl r=>vJ|.inr r=>some r)=some (aGw f k n):=by
  intro n
  induction n with
  |zero=>
   intro _
   rw [eC (r:=.inl ()) (by
    show cO f (k:Int) _=_
    unfold cO
    rw [if_neg (by simp)]),aA]
   rfl
  |succ n ih=>
   intro hn
   have ih:=ih (by omega)
   have e1:=(pR (by omega) h (show n < f.length by omega)).1
   rw [show ((n+1:Nat):Int) - 1=(n:Int) by omega]
   have hst:cO f (k:Int) (n:Int)=if (oW (dC f n)&&decide (k < nA f n))=true then some (.inr (.inr (decide ((dC f n).Kind=8)))) else some (.inl ((n:Int) - 1)):=by
    have hj:∀ v:Bool,fB f (n:Int) v=if v=true then some (.inr (.inr (decide ((dC f n).Kind=8)))) else some (.inl ((n:Int) - 1)):=fun v=>by
     unfold fB
     cases v with
     |false=>rw [if_neg (by simp),if_neg (by simp),bP (x:=(n:Int) - 1) (by omega) (by omega)]
     |true=>
      rw [if_pos rfl,if_pos rfl,jF (by omega),aA]
      by_cases h8:(dC f n).Kind=8<;>simp [h8]
    unfold cO
    rw [if_pos (by simp),jF (by omega),aA,oT,aA,e1,aA,hj,hj]
    unfold oW
    by_cases hx:(dC f n).Kind=7\/(dC f n).Kind=8
    ·rw [if_pos (by simpa using hx),decide_eq_true hx,Bool.true_and]
     by_cases hd:k < nA f n
     ·rw [if_pos (by rw [decide_eq_true_iff];omega),if_pos (by simpa using hd)]
     ·rw [if_neg (by rw [decide_eq_true_iff];omega),if_neg (by simpa using hd)]
    ·rw [if_neg (by simpa using hx),decide_eq_false hx,Bool.false_and,if_neg (by simp)]
   have hin:aGw f k (n+1)=if (oW (dC f n)&&decide (k < nA f n))=true then decide ((dC f n).Kind=8) else aGw f k n:=rfl
   rw [hin]
   by_cases hc:(oW (dC f n)&&decide (k < nA f n))=true
   ·rw [if_pos hc] at hst ⊢
    rw [eC (r:=.inr (decide ((dC f n).Kind=8))) hst,aA]
   ·rw [if_neg hc] at hst ⊢
    rw [eJ (s':=(n:Int) - 1) hst]
    exact ih
 have:=key (k+1) (Nat.le_refl _)
 rw [show ((k+1:Nat):Int) - 1=(k:Int) by omega] at this
 have e:hY f (k:Int)=some (aGw f k (k+1)):=this
 unfold ugF
 rw [e]
 rfl
theorem aJU (hf:f.length<=30) (h:Tm b f) {k:Nat} (hk:k < f.length):uR f (k:Int)=some (ugF f k):=by
 rw [ug_inn hf h hk]
 have key:=cV (step:=fun s:Bool × Int=>iL f (k:Int) s.1 s.2) (k+1) (fun i (q:Bool)=>(q,(i:Int))) (fun i q=>q=aGw f k i) (fun r=>r=aGw f k (k+1)) (fun i q hi hI=>?_) (fun q hI=>?_) (k+1) 0 false (by omega) rfl
 ·obtain ⟨r,e1,e2⟩:=key
  have e1':loop (fun s:Bool × Int=>iL f (k:Int) s.1 s.2) (false,0)=some r:=e1
  unfold uR
  rw [e1',aA,e2]
  rfl
 ·subst hI
  refine ⟨aGw f k (i+1),?_,rfl⟩
  show iL f (k:Int) (aGw f k i) (i:Int)=some (.inl (aGw f k (i+1),((i+1:Nat):Int)))
  have hin:aGw f k (i+1)=if (oW (dC f i)&&decide (k < nA f i))=true then decide ((dC f i).Kind=8) else aGw f k i:=rfl
  have hj:∀ v:Bool,pN f (aGw f k i) (i:Int) v=some (.inl (if v=true then decide ((dC f i).Kind=8) else aGw f k i,((i+1:Nat):Int))):=fun v=>by
   unfold pN pM
   rw [bN hi (by omega),jF (by omega),aA]
   cases v with
   |false=>rfl
   |true=>
    rw [if_pos rfl,if_pos rfl]
    by_cases h8:(dC f i).Kind=8<;>simp [h8]
  unfold iL
  rw [if_pos (by rw [decide_eq_true_iff];omega),jF (by omega),aA,aCG,aA,aFG (by omega) h (show i < f.length by omega),aA,hj,hj,hin]
  cases hx:oW (dC f i) with
  |false=>simp
  |true=>
   rw [if_pos rfl,Bool.true_and]
   by_cases hd:k < nA f i
   ·rw [if_pos (by rw [decide_eq_true_iff];omega),if_pos (by simpa using hd)]
   ·rw [if_neg (by rw [decide_eq_true_iff];omega),if_neg (by simpa using hd)]
 ·refine ⟨q,?_,hI⟩
  show iL f (k:Int) q ((k+1:Nat):Int)=_
  unfold iL
  rw [if_neg (by rw [decide_eq_true_iff];omega)]
end
end Gv
set_option linter.unusedVariables false
set_option linter.unusedSimpArgs false
namespace Gv
open Go
section
variable {f:List aO} {b:List Int} {t:cR}
theorem aNf {n:Int}:∀ l:List Int,(aGt n l).length<=l.length+1
 |[]=>by simp [aGt]
 |x::l=>by
  have ih:=aNf (n:=n) l
  unfold aGt
  split
  ·simp
  ·split
   ·simp
   ·simp only [List.length_cons];omega
theorem at_pos (ht:cS t) {o y:Int} (ho:0<=o/\o<=1000) (hy:inT t y):wr (wr (o * t.N)+y)=o * t.N+y:=by
 have h1:=ht.1
 unfold inT at hy
 have h2:0<=o * t.N:=Int.mul_nonneg ho.1 (by omega)
 have h3:o * t.N<=1000 * 40:=Int.mul_le_mul ho.2 h1.2 (by omega) (by omega)
 rw [bP (x:=o * t.N) (by omega) (by omega),bP (by omega) (by omega)]
theorem aNg (hf:FOk f) (h:Tm b f) (ht:cS t) (hlab:LabF t) {k:Nat} (hk:k < f.length) {x:Int} (hx:inT t x):∃ T,yM f t (k:Int) x=some T/\T.length<=400/\∀ w,w∈T<->w∈nxF f t k x:=by
 have hlen:=hf.len
 have h300:=ht.2.2.2.1
 have hkd:=aLa h hk
 obtain ⟨o0,o1,o2⟩:=ops_exact hf h hk
 have hw1:wr ((k:Int)+1)=((k+1:Nat):Int):=bN hk (by omega)
 have hone:∀ y,inT t y->wr (wr (wr ((k:Int)+1) * t.N)+y)=((k+1:Nat):Int) * t.N+y:=fun y hy=>by
  rw [hw1,at_pos ht ⟨by omega,by omega⟩ hy]
 unfold yM
 rw [jF hk,aA]
 by_cases h23:(dC f k).Kind=2\/(dC f k).Kind=3
 ·have ha:xR (dC f k)=2:=by unfold xR;rw [if_pos h23]
  obtain ⟨hk1,ho⟩:=o2 ha
  have hend:=pR (by omega) h hk1
  have hj:oP f t (k:Int) x (dC f k) true=some [((k+1:Nat):Int) * t.N+x,(nA f (k+1):Int) * t.N+x]:=by
   unfold oP kJ
   rw [if_pos rfl,hone x hx,hw1,aFG (by omega) h hk1,aA,at_pos ht ⟨by omega,by omega⟩ hx,cI (by simp [iC]),aA]
   rfl
  refine ⟨[((k+1:Nat):Int) * t.N+x,(nA f (k+1):Int) * t.N+x],?_,by simp,fun w=>?_⟩
  ·rcases h23 with e|e
   ·rw [if_pos (by simpa using e),show ((dC f k).Kind == 2)=true by simpa using e];exact hj
   ·rw [if_neg (by rw [e];decide),show ((dC f k).Kind == 3)=true by simpa using e];exact hj
  ·unfold nxF
   rw [if_neg (by omega),if_neg (by omega),ho]
   rfl
 ·rw [if_neg (by simp;omega),show ((dC f k).Kind == 3)=false by simp;omega]
  unfold oP
  rw [if_neg (by simp)]
  by_cases h45:(dC f k).Kind=4\/(dC f k).Kind=5
  ·have ha:xR (dC f k)=1:=by unfold xR;rw [if_neg h23,if_pos (by omega)]
   obtain ⟨hk1,ho⟩:=o1 ha
   have hlb:=hf.lab k hk
   have key:=cV (step:=fun s:List Int × Int=>mA t (k:Int) x (dC f k) s.1 s.2) t.E.length (fun i (q:List Int)=>(q,(i:Int)))
    (fun i q=>q.length<=i/\∀ w,w∈q<->∃ e∈t.E.take i,e.F=x/\selN (dC f k) (txt t e)=true/\w=((k+1:Nat):Int) * t.N+e.To)
    (fun r=>r.length<=300/\∀ w,w∈r<->∃ e∈t.E,e.F=x/\selN (dC f k) (txt t e)=true/\w=((k+1:Nat):Int) * t.N+e.To) (fun i q hi hI=>?_) (fun q hI=>?_) t.E.length 0 [] (by omega) ⟨by simp,by simp⟩
   ·obtain ⟨T,e1,e2,e3⟩:=key
    have e1':loop (fun s:List Int × Int=>mA t (k:Int) x (dC f k) s.1 s.2) (([]:List Int),0)=some T:=e1
    have hj:oO f t (k:Int) x (dC f k) true=some T:=by
     unfold oO
     rw [if_pos rfl,e1',aA]
     rfl
    refine ⟨T,?_,by omega,fun w=>?_⟩
    ·rcases h45 with e|e
     ·rw [if_pos (by simpa using e),show ((dC f k).Kind == 4)=true by simpa using e];exact hj
     ·rw [if_neg (by rw [e];decide),show ((dC f k).Kind == 5)=true by simpa using e];exact hj
    ·rw [e3]
     unfold nxF
     rw [if_pos h45,ho,List.mem_map]
     constructor
     ·rintro ⟨e,he,g1,g2,rfl⟩
      exact ⟨e,List.mem_filter.2 ⟨List.mem_filter.2 ⟨he,by simpa using g1⟩,g2⟩,rfl⟩
     ·rintro ⟨e,he,rfl⟩
      obtain ⟨g1,g2⟩:=List.mem_filter.1 he
      obtain ⟨g3,g4⟩:=List.mem_filter.1 g1
      exact ⟨e,g3,by simpa using g4,g2,rfl⟩
   ·obtain ⟨h1,h2⟩:=hI
    have he:=List.getElem_mem hi
    have heT:=aLF ht he
    have hsl:=hlab _ (txt_in ht he)
    have htk:∀ (P:Edge->Prop),(∃ e∈t.E.take (i+1),P e)<->(∃ e∈t.E.take i,P e)\/P t.E[i]:=fun P=>by
     rw [List.take_succ_eq_append_getElem hi]
     constructor
     ·rintro ⟨e,he,hp⟩
      rcases List.mem_append.1 he with he|he
      ·exact .inl ⟨e,he,hp⟩
      ·rw [List.mem_singleton] at he;subst he;exact .inr hp
     ·rintro (⟨e,he,hp⟩|hp)
      ·exact ⟨e,List.mem_append_left _ he,hp⟩
      ·exact ⟨_,List.mem_append_right _ (List.mem_singleton.2 rfl),hp⟩
    have hj3:∀ o,rO (i:Int) o=some (.inl (o,((i+1:Nat):Int))):=fun o=>by
     unfold rO
     rw [bN hi (by omega)]
    show ∃ q',mA t (k:Int) x (dC f k) q (i:Int)=some (.inl (q',((i+1:Nat):Int)))/\_
    unfold mA
    rw [if_pos (bZ hi),bT hi,aA]
    by_cases hfr:t.E[i].F=x
    ·rw [if_pos (by simpa using hfr),aMG (aHi ht he),aA,aKn hlb hsl.2 hsl.1,aA]
     unfold rP
     cases hsel:selN (dC f k) (txt t t.E[i]) with
     |true=>
      rw [if_pos rfl,hone _ heT.2.1,put_eq _ _ (by omega),aA,hj3]
      refine ⟨_,rfl,by have:=aNf (n:=((k+1:Nat):Int) * t.N+t.E[i].To) q;omega,fun w=>?_⟩
      rw [aMO,h2,htk]
      constructor
      ·rintro (rfl|h)
       ·exact .inr ⟨hfr,hsel,rfl⟩
       ·exact .inl h
      ·rintro (h|h)
       ·exact .inr h
       ·exact .inl h.2.2
     |false=>
      rw [if_neg (by simp),hj3]
      refine ⟨_,rfl,by omega,fun w=>?_⟩
      rw [h2,htk]
      constructor
      ·exact .inl
      ·rintro (h|h)
       ·exact h
       ·rw [hsel] at h;exact absurd h.2.1 (by simp)
    ·rw [if_neg (by simpa using hfr)]
     unfold rP
     rw [if_neg (by simp),hj3]
     refine ⟨_,rfl,by omega,fun w=>?_⟩
     rw [h2,htk]
     constructor
     ·exact .inl
     ·rintro (h|h)
      ·exact h
      ·exact absurd h.1 hfr
   ·refine ⟨q,?_,by omega,fun w=>by rw [hI.2,List.take_length]⟩
    show mA t (k:Int) x (dC f k) q (t.E.length:Int)=_
    unfold mA
    rw [if_neg (by simp)]
  ·rw [if_neg (by simp;omega),show ((dC f k).Kind == 5)=false by simp;omega]
   unfold oO
   rw [if_neg (by simp)]
   by_cases h6:(dC f k).Kind=6
   ·have hb:=hf.bnd k hk h6
    rw [if_pos (by simpa using h6),aHl hlen.2 h hk,hb.1,aA,at_pos ht ⟨hb.2.1,by omega⟩ hx,cI (by simp [iC]),aA]
    refine ⟨_,rfl,by simp,fun w=>?_⟩
    unfold nxF
    rw [if_neg h45,if_pos h6]
    rfl
   ·rw [if_neg (by simpa using h6)]
    by_cases h78:(dC f k).Kind=7\/(dC f k).Kind=8
    ·have ha:xR (dC f k)=1:=by unfold xR;rw [if_neg h23,if_pos (by omega)]
     obtain ⟨hk1,ho⟩:=o1 ha
     have hj:rQ t (k:Int) x true=some [((k+1:Nat):Int) * t.N+x]:=by
      unfold rQ kJ
      rw [if_pos rfl,hone x hx,cI (by simp [iC]),aA]
      rfl
     refine ⟨[((k+1:Nat):Int) * t.N+x],?_,by simp,fun w=>?_⟩
     ·rcases h78 with e|e
      ·rw [if_pos (by simpa using e),show ((dC f k).Kind == 7)=true by simpa using e];exact hj
      ·rw [if_neg (by rw [e];decide),show ((dC f k).Kind == 8)=true by simpa using e];exact hj
     ·unfold nxF
      rw [if_neg h45,if_neg h6,ho]
      rfl
    ·have ha:xR (dC f k)=0:=by unfold xR;rw [if_neg h23,if_neg (by omega)]
     rw [if_neg (by simp;omega),show ((dC f k).Kind == 8)=false by simp;omega]
     unfold rQ kJ
     rw [if_neg (by simp)]
     refine ⟨_,rfl,by simp,fun w=>?_⟩
     unfold nxF
     rw [if_neg h45,if_neg h6,o0 ha]
     rfl
end
end Gv
set_option linter.unusedVariables false
set_option linter.unusedSimpArgs false
namespace Gv
open Go
section
variable {f:List aO} {b:List Int} {t:cR}
theorem sp_row {T:List Int} {n:Nat} (hT:∀ w∈T,0<=w/\w < (n:Int)) (hl:T.length<=400) (hn:n<=10000) {V:List Int} (hV:V.length<=10000) {m:List Bool} (hml:m.length=n) (hm:∀ w,On m w<->w∈V):
  ∃ m',loop (fun s:List Bool × List Int × Int=>kK T s.1 s.2.1 s.2.2) (m,V,0)=some (m',T.foldl oS V)/\m'.length=n/\∀ w,On m' w<->w∈T.foldl oS V:=by
 have key:=cV (step:=fun s:List Bool × List Int × Int=>kK T s.1 s.2.1 s.2.2) T.length (fun i (q:List Bool × List Int)=>(q.1,q.2,(i:Int)))
  (fun i q=>q.2=(T.take i).foldl oS V/\q.1.length=n/\(∀ w,On q.1 w<->w∈(T.take i).foldl oS V)/\((T.take i).foldl oS V).length<=V.length+i)
  (fun r=>r.2=T.foldl oS V/\r.1.length=n/\∀ w,On r.1 w<->w∈T.foldl oS V) (fun i q hi hI=>?_) (fun q hI=>?_) T.length 0 (m,V) (by omega) ⟨rfl,hml,hm,by simp⟩
 ·obtain ⟨r,e1,e2,e3,e4⟩:=key
  have e1':loop (fun s:List Bool × List Int × Int=>kK T s.1 s.2.1 s.2.2) (m,V,0)=some r:=e1
  exact ⟨r.1,by rw [e1',←e2],e3,e4⟩
 ·obtain ⟨m1,P⟩:=q
  obtain ⟨h1,h2,h3,h4⟩:=hI
  simp only at h1 h2 h3 h4
  subst h1
  generalize hA:(T.take i).foldl oS V=A at h3 h4
  have hw:=hT _ (List.getElem_mem hi)
  have htk:(T.take (i+1)).foldl oS V=oS A T[i]:=by rw [List.take_succ_eq_append_getElem hi,List.foldl_append,hA];rfl
  rw [htk]
  show ∃ q:List Bool × List Int,kK T m1 A (i:Int)=some (.inl (q.1,q.2,((i+1:Nat):Int)))/\_
  have hj:∀ m P,rR (i:Int) m P=some (.inl (m,P,((i+1:Nat):Int))):=fun m P=>by
   unfold rR
   rw [bN hi (by omega)]
  unfold kK
  rw [if_pos (bZ hi),bT hi,aA,ixOn hw.1 (by rw [h2];exact hw.2),aA]
  unfold oS
  by_cases hin:T[i]∈A
  ·rw [if_neg (by simpa using (h3 _).2 hin),hj,if_pos hin]
   exact ⟨(_,_),rfl,rfl,h2,h3,by omega⟩
  ·have hno:¬ On m1 T[i]:=fun h=>hin ((h3 _).1 h)
   unfold st
   rw [if_pos (by simpa using hno),if_pos ⟨hw.1,by omega⟩,aA,cI (by simp only [List.length_singleton];unfold iC;omega),aA,hj,if_neg hin]
   refine ⟨(_,_),rfl,rfl,by simpa using h2,fun w=>?_,by rw [List.length_append,List.length_singleton];omega⟩
   rw [set_on hw.1 (by omega),h3,List.mem_append,List.mem_singleton]
 ·refine ⟨(q.1,q.2),?_,?_,hI.2.1,?_⟩
  ·show kK T q.1 q.2 (T.length:Int)=_
   unfold kK
   rw [if_neg (by simp)]
  ·have:=hI.1;rw [List.take_length] at this;exact this
  ·have:=hI.2.2.1;rw [List.take_length] at this;exact this
theorem sp_all (hf:FOk f) (h:Tm b f) (ht:cS t) (hlab:LabF t) (hg:GOk (jE f t f.length)) {s:Int}:∀ (n i:Nat) (V:List Int) (m:List Bool),i<=V.length->(jE f t f.length).length+1<=n+i->V.Nodup->s∈V->(∀ v∈V,RchF (jE f t f.length) s v/\xT (jE f t f.length) v)->m.length=(jE f t f.length).length->(∀ w,On m w<->w∈V)->(∀ j,j < i->∀ w∈(vx (jE f t f.length) (V.getD j 0)).Next,w∈V)->
  ∃ (V':List Int) (m':List Bool),loop (fun q:List Bool × List Int × Int=>mC f t q.1 q.2.1 q.2.2) (m,V,(i:Int))=some m'/\V'.Nodup/\s∈V'/\(∀ v∈V',RchF (jE f t f.length) s v/\xT (jE f t f.length) v)/\(∀ v∈V',∀ w∈(vx (jE f t f.length) v).Next,w∈V')/\m'.length=(jE f t f.length).length/\∀ w,On m' w<->w∈V':=by
 have hgl:=hg.len
 have hlen:=hf.len
 have h1S:=ht.1
 intro n
 induction n with
 |zero=>
  intro i V m hi hn hnd hs hr hml hm hc
  exfalso
  have:=List.Nodup.length_le_of_subset (l₂:=(List.range (jE f t f.length).length).map fun (i:Nat)=>(i:Int)) hnd (fun w hw=>by
   have:=(hr w hw).2
   unfold xT at this
   rw [List.mem_map]
   exact ⟨w.toNat,List.mem_range.2 (by omega),by omega⟩)
  rw [List.length_map,List.length_range] at this
  omega
 |succ n ih=>
  intro i V m hi hn hnd hs hr hml hm hc
  have hVl:V.length<=(jE f t f.length).length:=by
   have:=List.Nodup.length_le_of_subset (l₂:=(List.range (jE f t f.length).length).map fun (i:Nat)=>(i:Int)) hnd (fun w hw=>by
    have:=(hr w hw).2
    unfold xT at this
    rw [List.mem_map]
    exact ⟨w.toNat,List.mem_range.2 (by omega),by omega⟩)
   rwa [List.length_map,List.length_range] at this
  by_cases h1:i < V.length
  ·have hvi:V.getD i 0=V[i]:=by rw [List.getD_eq_getElem?_getD,List.getElem?_eq_getElem h1];rfl
   have hv:=hr _ (List.getElem_mem h1)
   obtain ⟨x,hx,hk,e⟩:=tX ht hv.2
   obtain ⟨T,eT,hTl,hTm⟩:=aNg hf h ht hlab hk hx
   have hTn:∀ w,w∈T<->w∈(vx (jE f t f.length) V[i]).Next:=fun w=>by
    have hvx:=aLP (f:=f) ht hk hx
    rw [←e] at hvx
    rw [hTm,hvx]
    exact aJR.symm
   have hvr:=hv.2
   unfold xT at hvr
   obtain ⟨q1,q2⟩:=qu_pos (a:=V[i]) (b:=t.N) hvr.1 (by omega) (by omega)
   have hdiv:V[i] / t.N=((dI t V[i]:Nat):Int):=by
    unfold dI
    rw [Int.natCast_ediv,show ((V[i].toNat:Nat):Int)=V[i] by omega,show ((t.N.toNat:Nat):Int)=t.N by omega]
   have hmod:V[i] % t.N=x:=by
    have:=Int.mul_ediv_add_emod V[i] t.N
    rw [hdiv,Int.mul_comm] at this
    omega
   obtain ⟨m',e1,hml',hm'⟩:=sp_row (T:=T) (n:=(jE f t f.length).length) (fun w hw=>hg.nx _ w ((hTn w).1 hw)) hTl (by omega) (V:=V) (by omega) hml hm
   obtain ⟨f1,f2,f3,f4⟩:=aHL T V hnd
   have hst:mC f t m V (i:Int)=some (.inl (m',T.foldl oS V,((i+1:Nat):Int))):=by
    unfold mC
    rw [if_pos (bZ h1),bT h1,aA,q1,aA,q2,aA,hdiv,hmod,eT,aA,e1,aA]
    unfold aDV aAT
    rw [bN h1 (by omega)]
   have hpre:∀ j,j < V.length->(T.foldl oS V).getD j 0=V.getD j 0:=fun j hj=>by
    obtain ⟨r,e⟩:=f1
    rw [←e,List.getD_eq_getElem?_getD,List.getD_eq_getElem?_getD,List.getElem?_append_left hj]
   obtain ⟨V',m2,g1,g2⟩:=ih (i+1) (T.foldl oS V) m' (by have:=f1.length_le;omega) (by omega) f2 ((f3 s).2 (.inl hs)) (fun v hv'=>by
     rcases (f3 v).1 hv' with h|h
     ·exact hr v h
     ·exact ⟨.step hv.1 ((hTn v).1 h),hg.nx _ v ((hTn v).1 h)⟩) hml' hm' (fun j hj w hw=>by
     rw [hpre j (by omega)] at hw
     by_cases hji:j < i
     ·exact (f3 w).2 (.inl (hc j hji w hw))
     ·obtain rfl:j=i:=by omega
      rw [hvi] at hw
      exact (f3 w).2 (.inr ((hTn w).2 hw)))
   refine ⟨V',m2,?_,g2⟩
   rw [eJ (s':=(m',T.foldl oS V,((i+1:Nat):Int))) hst]
   exact g1
  ·refine ⟨V,m,eC ?_,hnd,hs,hr,fun v hv w hw=>?_,hml,hm⟩
   ·show mC f t m V (i:Int)=_
    unfold mC
    rw [if_neg (by rw [decide_eq_true_iff];omega)]
   ·obtain ⟨j,hj,rfl⟩:=List.getElem_of_mem hv
    have:V.getD j 0=V[j]:=by rw [List.getD_eq_getElem?_getD,List.getElem?_eq_getElem hj];rfl
    exact hc j (by omega) w (by rw [this];exact hw)
end
end Gv
set_option linter.unusedVariables false
set_option linter.unusedSimpArgs false
namespace Gv
open Go
section
variable {f:List aO} {b:List Int} {t:cR}
theorem count_eq (e:List aS) (h1:1<=e.length) (h:e.length<=1000):aBF e=some ((jU (xQ e) (e.length - 1)+1:Nat):Int):=by
 have key:=cV (step:=fun s:Int × Int=>mB e s.1 s.2) (e.length - 1) (fun i (q:Int)=>(q,((i+1:Nat):Int))) (fun i q=>q=((jU (xQ e) i+1:Nat):Int)) (fun r=>r=((jU (xQ e) (e.length - 1)+1:Nat):Int)) (fun i q hi hI=>?_) (fun q hI=>?_) (e.length - 1) 0 1 (by omega) rfl
 ·obtain ⟨r,e1,e2⟩:=key
  have e1':loop (fun s:Int × Int=>mB e s.1 s.2) (1,1)=some r:=e1
  unfold aBF
  rw [e1',aA,e2]
  rfl
 ·subst hI
  refine ⟨((jU (xQ e) (i+1)+1:Nat):Int),?_,rfl⟩
  show mB e ((jU (xQ e) i+1:Nat):Int) ((i+1:Nat):Int)=some (.inl (((jU (xQ e) (i+1)+1:Nat):Int),((i+1+1:Nat):Int)))
  have hle:=aHk (xQ e) i
  have hs:jU (xQ e) (i+1)=jU (xQ e) i+(if xQ e (i+1)=xQ e i then 0 else 1):=rfl
  unfold mB uS
  rw [if_pos (by rw [decide_eq_true_iff];omega),ixE (show i+1 < e.length by omega),aA,bP (x:=((i+1:Nat):Int) - 1) (by omega) (by omega),show ((i+1:Nat):Int) - 1=(i:Int) by omega,ixE (show i < e.length by omega),aA,bN (show i+1 < e.length by omega) (by omega),bP (x:=((jU (xQ e) i+1:Nat):Int)+1) (by omega) (by omega)]
  by_cases hg:xQ e (i+1)=xQ e i
  ·have hg':(vD e (i+1)).Greatest=(vD e i).Greatest:=hg
   rw [hg',if_neg (by simp),hs,if_pos hg]
  ·have hg':(vD e (i+1)).Greatest≠(vD e i).Greatest:=hg
   rw [if_pos (by simpa using hg'),hs,if_neg hg]
   rfl
 ·refine ⟨q,?_,hI⟩
  show mB e q ((e.length - 1+1:Nat):Int)=_
  unfold mB
  rw [if_neg (by rw [decide_eq_true_iff];omega)]
theorem same_srt {V R:List Int} (hV:V.Nodup) (hR:R.Pairwise (· < ·)) (hm:∀ v,v∈R<->v∈V):R=srt iLt V:=by
 have h1:aHj R (·∈V):=⟨hR,hm⟩
 exact h1.eq (aGs hV)
theorem spec_make (hf:FOk f) (h:Tm b f) (ht:cS t) (hlab:LabF t) {V:List Int} (hnd:V.Nodup) (hs:t.I∈V) (hr:∀ v∈V,RchF (jE f t f.length) t.I v/\xT (jE f t f.length) v) (hc:V.length<=120->∀ v∈V,∀ w∈(vx (jE f t f.length) v).Next,w∈V):
  ∃ e p,aDq f t=some (e,p,decide (V.length<=120/\jU (xQ (eqL f t (srt iLt V))) (V.length - 1) < 9)):=by
 have hS:=ht.1
 have hI:=ht.2.1
 have hlen:=hf.len
 obtain ⟨hg,hg1⟩:=aLL hf ht (by omega) hlab
 have hgl:=hg.len
 have hgn:(jE f t f.length).length=f.length * t.N.toNat:=zD f t f.length
 have hin:=(hr _ hs).2
 have hmul:(f.length:Int) * t.N=((f.length * t.N.toNat:Nat):Int):=by rw [Int.natCast_mul,show ((t.N.toNat:Nat):Int)=t.N by omega]
 have hIr:=hin
 unfold xT at hIr
 have hmk:mkz (wr ((f.length:Int) * t.N)) false=some (List.replicate (jE f t f.length).length false):=by
  rw [hmul,←hgn,bP (by omega) (by omega),aAp _ (by unfold iC;omega)]
 have hix:ix (List.replicate (jE f t f.length).length false) t.I=some false:=by
  unfold ix
  rw [if_pos hIr.1,List.getElem?_replicate,if_pos (by omega)]
 have hst:st (List.replicate (jE f t f.length).length false) t.I true=some ((List.replicate (jE f t f.length).length false).set t.I.toNat true):=by
  unfold st
  rw [if_pos ⟨hIr.1,by rw [List.length_replicate];omega⟩]
 obtain ⟨L,m,e1,h1,h2,h3,h4,h5,h6⟩:=sp_all hf h ht hlab hg (s:=t.I) ((jE f t f.length).length+1) 0 [t.I] ((List.replicate (jE f t f.length).length false).set t.I.toNat true) (by simp) (by omega) (by simp) (by simp) (fun v hv=>by
  rw [List.mem_singleton] at hv
  subst hv
  exact ⟨.base,hin⟩) (by simp) (fun w=>by
  rw [set_on hIr.1 (by rw [List.length_replicate];omega),List.mem_singleton]
  constructor
  ·rintro (hw|hw)
   ·have h7:=hw.2
    rw [List.getD_eq_getElem?_getD,List.getElem?_replicate] at h7
    split at h7<;>cases h7
   ·exact hw
  ·exact .inr) (fun j hj=>by omega)
 have hRm:∀ v,v∈onL m<->v∈L:=fun v=>by rw [qS,h6]
 have hRs:(onL m).Pairwise (· < ·):=by
  unfold onL
  have:((List.range m.length).filter fun k=>m.getD k false).Pairwise (· < ·):=List.pairwise_lt_range.filter _
  exact List.pairwise_map.2 (this.imp fun h=>by omega)
 have hVL:∀ v∈V,v∈L:=fun v hv=>by
  have:∀ {w},RchF (jE f t f.length) t.I w->w∈L:=fun {w} hw=>by
   induction hw with
   |base=>exact h2
   |step _ hw ih=>exact h4 _ ih _ hw
  exact this (hr v hv).1
 have hl14:aBf m=some (onL m):=by
  rw [list_eq (by omega)]
  rfl
 have hRl:(onL m).length<=(jE f t f.length).length:=by
  have:=List.Nodup.length_le_of_subset (l₂:=(List.range (jE f t f.length).length).map fun (i:Nat)=>(i:Int)) (aHM m) (fun w hw=>by
   have:=(h3 w ((hRm w).1 hw)).2
   unfold xT at this
   rw [List.mem_map]
   exact ⟨w.toNat,List.mem_range.2 (by omega),by omega⟩)
  rwa [List.length_map,List.length_range] at this
 have hge:V.length<=(onL m).length:=List.Nodup.length_le_of_subset hnd fun v hv=>(hRm v).2 (hVL v hv)
 unfold aDq
 have e1':loop (fun s:List Bool × List Int × Int=>mC f t s.1 s.2.1 s.2.2) ((List.replicate (jE f t f.length).length false).set t.I.toNat true,([t.I]:List Int),0)=some m:=e1
 rw [hmk,aA,hix,aA,hst,aA,e1',aA]
 unfold aAS
 rw [hl14,aA]
 by_cases h120:120 < V.length
 ·rw [if_pos (by rw [decide_eq_true_iff];omega),decide_eq_false (by omega)]
  exact ⟨_,_,rfl⟩
 ·have hLV:∀ v,v∈onL m<->v∈V:=fun v=>by
   rw [hRm]
   refine ⟨fun hv=>?_,hVL v⟩
   have:∀ {w},RchF (jE f t f.length) t.I w->w∈V:=fun {w} hw=>by
    induction hw with
    |base=>exact hs
    |step _ hw ih=>exact hc (by omega) _ ih _ hw
   exact this (h3 v hv).1
  have hR:=same_srt hnd hRs hLV
  have hsl:(srt iLt V).length=V.length:=List.length_mergeSort _
  have hV1:1<=V.length:=List.length_pos_of_mem hs
  rw [hR,if_neg (by rw [decide_eq_true_iff,hsl];omega)]
  generalize hN:srt iLt V=N at hsl
  have hNin:∀ v∈N,xT (jE f t f.length) v:=fun v hv=>(hr v (by rw [←hN] at hv;unfold srt at hv;rwa [List.mem_mergeSort] at hv)).2
  have key:=cV (step:=fun s:List aS × Int=>oA f t N s.1 s.2) N.length (fun i (q:List aS)=>(q,(i:Int))) (fun i q=>q.length=i/\∀ j,j < i->(vD q j).Greatest=ugF f (dI t (N.getD j 0)))
   (fun r=>r.length=N.length/\∀ j,j < N.length->(vD r j).Greatest=ugF f (dI t (N.getD j 0))) (fun i q hi hI=>?_) (fun q hI=>?_) N.length 0 [] (by omega) ⟨rfl,fun j hj=>by omega⟩
  ·obtain ⟨out,g1,g2,g3⟩:=key
   have g1':loop (fun s:List aS × Int=>oA f t N s.1 s.2) (([]:List aS),0)=some out:=g1
   have hblk:∀ j,j < N.length->jU (xQ out) j=jU (xQ (eqL f t N)) j:=by
    have hgr:∀ j,j < N.length->xQ out j=xQ (eqL f t N) j:=fun j hj=>by
     unfold xQ
     rw [g3 j hj,aJT hj]
     rfl
    intro j
    induction j with
    |zero=>intro _;rfl
    |succ j ih=>
     intro hj
     show jU _ j+_=jU _ j+_
     rw [ih (by omega),hgr (j+1) (by omega),hgr j (by omega)]
   rw [g1',aA]
   unfold aDU
   rw [count_eq _ (by omega) (by omega),aA,g2,hblk _ (by omega),hsl]
   refine ⟨out,N,?_⟩
   rw [decide_eq_decide.2 (show _<->(V.length<=120/\jU (xQ (eqL f t N)) (V.length - 1) < 9) by omega)]
  ·obtain ⟨h7,h8⟩:=hI
   have hv:=hNin _ (List.getElem_mem hi)
   obtain ⟨x,hx,hk,e⟩:=tX ht hv
   obtain ⟨T,eT,hTl,hTm⟩:=aNg hf h ht hlab hk hx
   have hvr:=hv
   unfold xT at hvr
   obtain ⟨q1,q2⟩:=qu_pos (a:=N[i]) (b:=t.N) hvr.1 (by omega) (by omega)
   have hdiv:N[i] / t.N=((dI t N[i]:Nat):Int):=by
    unfold dI
    rw [Int.natCast_ediv,show ((N[i].toNat:Nat):Int)=N[i] by omega,show ((t.N.toNat:Nat):Int)=t.N by omega]
   have hmod:N[i] % t.N=x:=by
    have:=Int.mul_ediv_add_emod N[i] t.N
    rw [hdiv,Int.mul_comm] at this
    omega
   have hgi:N.getD i 0=N[i]:=by rw [List.getD_eq_getElem?_getD,List.getElem?_eq_getElem hi];rfl
   have pl:=aDC (step:=fun s:List Int × Int=>qM N T s.1 s.2) T (pos N) (fun r=>r) (fun k out w hk ho hw=>by
    show qM N T out (k:Int)=_
    unfold qM
    rw [if_pos (bZ hk),hw,aA,aMJ _ _ (by omega),aA,cI (by simp only [List.length_singleton];unfold iC;omega),aA,bN hk (by omega)]) (fun out=>by
    show qM N T out (T.length:Int)=_
    unfold qM
    rw [if_neg (by simp)])
   have hj5:∀ a:Bool,∃ q',qN N q (i:Int) T (ugF f (dI t N[i])) a=some (.inl (q',((i+1:Nat):Int)))/\q'.length=i+1/\∀ j,j < i+1->(vD q' j).Greatest=ugF f (dI t (N.getD j 0)):=fun a=>by
    unfold qN
    rw [pl,aA]
    unfold aAR aAQ
    rw [cI (by simp only [List.length_singleton];unfold iC;omega),aA,bN hi (by omega)]
    refine ⟨_,rfl,by rw [List.length_append,List.length_singleton,h7],fun j hj=>?_⟩
    unfold vD at h8 ⊢
    rw [List.getD_eq_getElem?_getD]
    by_cases hji:j < i
    ·rw [List.getElem?_append_left (by omega),←List.getD_eq_getElem?_getD]
     exact h8 j hji
    ·obtain rfl:j=i:=by omega
     rw [List.getElem?_append_right (by omega),h7,Nat.sub_self,hgi]
     rfl
   show ∃ q',oA f t N q (i:Int)=some (.inl (q',((i+1:Nat):Int)))/\_
   unfold oA
   rw [if_pos (bZ hi),bT hi,aA,q1,aA,q2,aA,hdiv,hmod,eT,aA,aJU hlen.2 h hk,aA,jF hk,aA]
   split
   ·exact hj5 _
   ·split
    ·exact hj5 _
    ·exact hj5 _
  ·refine ⟨q,?_,by rw [hI.1],hI.2⟩
   show oA f t N q (N.length:Int)=_
   unfold oA
   rw [if_neg (by simp)]
end
end Gv
set_option linter.unusedVariables false
set_option linter.unusedSimpArgs false
namespace Gv
open Go
section
variable {f:List aO} {b:List Int} {t:cR}
theorem aOf (hf:FOk f) (h:Tm b f) (ht:cS t) (hlab:LabF t) (hc:oN t [f]=some 0) (h1:vA f=some true) (h2:aCq t=some true):
  (iA f t=some ([],[],5)/\nI f t=some ([],[],5))\/
  ∃ N:List Int,N.Pairwise (· < ·)/\t.I∈N/\(∀ v∈N,xT (jE f t f.length) v)/\(∀ v∈N,∀ w∈(vx (jE f t f.length) v).Next,w∈N)/\N.length<=120/\EqOk (eqL f t N)/\iA f t=some (eqL f t N,N.map (yC t),0):=by
 obtain ⟨V,hnd,hs,hr,hcl,e⟩:=makeE_ok hf h ht hlab
 obtain ⟨e2,p2,e3⟩:=spec_make hf h ht hlab hnd hs hr hcl
 have hV1:1<=V.length:=List.length_pos_of_mem hs
 have hi:iA f t=ob (nH f t) fun r30=>if (!r30.2.2) then (some ([],[],5)) else (some (r30.1,r30.2.1,0)):=by
  unfold iA
  rw [hc,aA,if_neg (by decide)]
 have hsp:nI f t=jY f t false:=by
  unfold nI
  rw [h1,aA,if_neg (by decide),h2,aA]
  rfl
 by_cases hgood:V.length<=120/\jU (xQ (eqL f t (srt iLt V))) (V.length - 1) < 9
 ·refine .inr ⟨srt iLt V,(aGs hnd).1,(List.mem_mergeSort).2 hs,fun v hv=>(hr v (List.mem_mergeSort.1 hv)).2,fun v hv w hw=>(List.mem_mergeSort).2 (hcl hgood.1 v (List.mem_mergeSort.1 hv) w hw),?_,?_,?_⟩
  ·rw [show (srt iLt V).length=V.length from List.length_mergeSort _];exact hgood.1
  ·have hsl:(srt iLt V).length=V.length:=List.length_mergeSort _
   refine eqL_ok (aGs hnd).1 (by omega) (by omega) (fun v hv w hw=>(List.mem_mergeSort).2 (hcl hgood.1 v (List.mem_mergeSort.1 hv) w hw)) ?_
   rw [hsl];exact hgood.2
  ·rw [hi,e,if_neg (by omega),aA,decide_eq_true hgood.2]
   rfl
 ·refine .inl ⟨?_,?_⟩
  ·rw [hi,e,aA]
   by_cases h5:120 < V.length
   ·rw [if_pos h5];rfl
   ·rw [if_neg h5,decide_eq_false (fun h6=>hgood ⟨by omega,h6⟩)]
    rfl
  ·rw [hsp]
   unfold jY
   rw [if_neg (by decide),e3,aA,decide_eq_false hgood]
   rfl
end
end Gv
set_option linter.unusedVariables false
set_option linter.unusedSimpArgs false
namespace Gv
open Go
structure aCH (n:aO):Prop where
 kind:0<=n.Kind/\n.Kind<=8
 modal:n.Kind=4\/n.Kind=5->PatOk n.B
 plain:¬ (n.Kind=4\/n.Kind=5)->n.B=[]/\n.Not=false
 isvar:n.Kind=6\/n.Kind=7\/n.Kind=8->0<=n.Variable/\n.Variable<=2
 novar:¬ (n.Kind=6\/n.Kind=7\/n.Kind=8)->n.Variable=0
theorem tm_widen {b:List Int} {L:List aO} (h:Tm b L):∀ {c:List Int},(∀ v∈b,v∈c)->Tm c L:=by
 induction h with
 |leaf hk=>intro c hc;exact .leaf hk
 |var hv hr=>intro c hc;exact .var (hc _ hv) hr
 |bin hk _ _ ih1 ih2=>intro c hc;exact .bin hk (ih1 hc) (ih2 hc)
 |mod hk hp _ ih=>intro c hc;exact .mod hk hp (ih hc)
 |fix hk hv _ ih=>intro c hc;exact .fix hk hv (ih fun v h=>by rw [List.mem_append] at h ⊢;exact h.imp (hc v) id)
def Cnt9:Nat->List aO->Prop
 |m,[]=>m=0
 |m,n::l=>1<=m/\Cnt9 (m - 1+xR n) l
inductive Tz9 (b:List Int):Nat->List aO->Prop
 |nil:Tz9 b 0 []
 |cons {m:Nat} {L M:List aO}:Tm b L->Tz9 b m M->Tz9 b (m+1) (L++M)
theorem aID {b:List Int} {m:Nat} {l:List aO} (h:Tz9 b (m+1) l):∃ L M,l=L++M/\Tm b L/\Tz9 b m M:=by
 cases h with
 |cons h1 h2=>exact ⟨_,_,rfl,h1,h2⟩
theorem aNh:∀ (l:List aO) (m:Nat),(∀ n∈l,aCH n)->Cnt9 m l->Tz9 [0,1,2] m l
 |[],m,_,h=>by
  have:m=0:=h
  subst this
  exact .nil
 |n::l,m,hn,h=>by
  obtain ⟨h1,h2⟩:=h
  have ih:=aNh l _ (fun x hx=>hn x (List.mem_cons_of_mem _ hx)) h2
  obtain ⟨k,rfl⟩:∃ k,m=k+1:=⟨m - 1,by omega⟩
  have hk:=hn n List.mem_cons_self
  obtain ⟨kd,v,la,nt⟩:=n
  obtain ⟨g1,g2,g3,g4,g5⟩:=hk
  simp only at g1 g2 g3 g4 g5
  unfold xR at ih
  simp only at ih
  by_cases a2:kd=2\/kd=3
  ·rw [if_pos a2,show k+1 - 1+2=k+1+1 by omega] at ih
   obtain ⟨L,M,rfl,t1,t2⟩:=(aID ih)
   obtain ⟨L',M',rfl,t3,t4⟩:=(aID t2)
   obtain ⟨e1,e2⟩:=g3 (by omega)
   have e3:=g5 (by omega)
   subst e1 e2 e3
   have:=Tz9.cons (Tm.bin a2 t1 t3) t4
   simpa [List.append_assoc] using this
  ·rw [if_neg a2] at ih
   by_cases a1:kd=4\/kd=5\/kd=7\/kd=8
   ·rw [if_pos a1,show k+1 - 1+1=k+1 by omega] at ih
    obtain ⟨L,M,rfl,t1,t2⟩:=(aID ih)
    by_cases a4:kd=4\/kd=5
    ·have e3:=g5 (by omega)
     subst e3
     exact Tz9.cons (Tm.mod a4 (g2 a4) t1) t2
    ·obtain ⟨e1,e2⟩:=g3 (by omega)
     subst e1 e2
     exact Tz9.cons (Tm.fix (by omega) (g4 (by omega)) (tm_widen t1 fun x hx=>List.mem_append_left _ hx)) t2
   ·rw [if_neg a1,show k+1 - 1+0=k by omega] at ih
    obtain ⟨e1,e2⟩:=g3 (by omega)
    subst e1 e2
    by_cases a6:kd=6
    ·subst a6
     have hv:=g4 (by omega)
     exact Tz9.cons (L:=[_]) (Tm.var (by simp;omega) hv) ih
    ·have e3:=g5 (by omega)
     subst e3
     exact Tz9.cons (L:=[_]) (Tm.leaf (by omega)) ih
theorem aNi {l:List aO} (hn:∀ n∈l,aCH n) (h:Cnt9 1 l):Tm [0,1,2] l:=by
 obtain ⟨L,M,rfl,t1,t2⟩:=aID (aNh l 1 hn h)
 cases t2 with
 |nil=>simpa using t1
end Gv
set_option linter.unusedVariables false
set_option linter.unusedSimpArgs false
namespace Gv
open Go
def patB (l:aF):Bool:=l == []||oU l||(l.getLast? == some (42:UInt8)&&yB l.dropLast)
theorem ipat_eq {l:aF} (h:l.length < 1000):pW l=some (patB l):=by
 unfold pW mT patB
 have h1:((if (l.getLast? == some (42:UInt8))=true then (l.dropLast,true) else (l,false)).1:aF).length < 1000:=by
  split
  ·show l.dropLast.length < 1000
   rw [List.length_dropLast];omega
  ·exact h
 rw [tW _ _ (by omega),aA,aEb _ (by omega),aA,aFm _ (by omega),aA]
 cases l == []<;>cases oU l<;>cases l.getLast? == some (42:UInt8)<;>simp
theorem aLV {l:aF} (h:l.length < 1000):qD l=some (patB l):=by
 unfold qD patB
 by_cases h0:l=[]
 ·subst h0;rfl
 ·rw [if_neg (by simpa using h0),aIg _ (by omega),aA,show (l == [])=false by simpa using h0]
  unfold qV uZ
  cases hb:oU l with
  |true=>rfl
  |false=>
   obtain ⟨q,c,hq⟩:=(List.eq_nil_or_concat l).resolve_left h0
   rw [List.concat_eq_append] at hq
   subst hq
   have hl:(q++[c]).length=q.length+1:=by simp
   rw [hl] at h
   rw [if_neg (by decide),hl,bP (by omega) (by omega),show ((q.length+1:Nat):Int) - 1=(q.length:Int) by omega,bT (by rw [hl];omega),aA]
   simp only [List.getElem_concat_length,List.getLast?_append,List.getLast?_singleton,List.dropLast_concat,Option.some_or,Bool.false_or]
   by_cases hc:c=42
   ·subst hc
    rw [if_pos (by decide),slc_to (by rw [hl];omega),aA,aHg,aA,List.take_left]
    simp
   ·have hn:¬ (((c.toNat:Int) == 42)=true):=fun h9=>hc (UInt8.toNat_inj.1 (by
     have h7:(c.toNat:Int)=42:=by simpa using h9
     have h8:(42:UInt8).toNat=42:=rfl
     omega))
    rw [if_neg hn]
    have:((some c:Option UInt8) == some 42)=false:=by simpa using hc
    rw [this]
    rfl
end Gv
set_option linter.unusedVariables false
set_option linter.unusedSimpArgs false
namespace Gv
open Go
structure aIk (n:aO):Prop where
 kind:0<=n.Kind/\n.Kind<=8
 modal:n.Kind=4\/n.Kind=5->PatOk n.B
 plain:¬ (n.Kind=4\/n.Kind=5)->n.B=[]/\n.Not=false
theorem arN_le (n:aO):xR n<=2:=by unfold xR;split;omega;split<;>omega
theorem aJW {f:List aO} (hl:∀ n∈f,n.B.length < 1000) (hf:f.length<=1000):∀ (post:List aO) (i m:Nat),f.drop i=post->i+post.length=f.length->m+post.length<=5000->
  ∃ r,loop (fun s:Int × Int=>cY f 8 s.1 s.2) ((m:Int),(i:Int))=some r/\(r=.inr false\/∃ k:Nat,r=.inl (k:Int)/\(∀ n∈post,aIk n)/\(k=0->Cnt9 m post))
 |[],i,m,hd,h1,h2=>by
  refine ⟨.inl (m:Int),eC ?_,.inr ⟨m,rfl,fun n hn=>absurd hn List.not_mem_nil,fun h=>h⟩⟩
  show cY f 8 (m:Int) (i:Int)=_
  unfold cY
  rw [if_neg (by simp only [List.length_nil] at h1;simp only [decide_eq_true_eq];omega)]
 |n::post,i,m,hd,h1,h2=>by
  obtain ⟨hi,hn,hd'⟩:=dH hd
  rw [List.length_cons] at h1 h2
  have ih:=aJW hl hf post (i+1) (m - 1+xR n) hd' (by omega) (by have:=arN_le n;omega)
  have hmem:n∈f:=by
   have:n∈f.drop i:=by rw [hd];exact List.mem_cons_self
   exact List.mem_of_mem_drop this
  have hlen:=hl n hmem
  have hbad:∀ e:cY f 8 (m:Int) (i:Int)=some (.inr (.inr false)),∃ r,loop (fun s:Int × Int=>cY f 8 s.1 s.2) ((m:Int),(i:Int))=some r/\(r=.inr false\/∃ k:Nat,r=.inl (k:Int)/\(∀ n'∈n::post,aIk n')/\(k=0->Cnt9 m (n::post))):=
   fun e=>⟨.inr false,eC e,.inl rfl⟩
  by_cases hm:m=0
  ·refine hbad ?_
   unfold cY
   rw [if_pos (bZ hi),if_pos (by simp [hm])]
   rfl
  have hstep:cY f 8 (m:Int) (i:Int)=rH f (m:Int) (i:Int) (!(decide (0<=n.Kind)&&decide (n.Kind<=8))):=by
   unfold cY
   rw [if_pos (bZ hi),if_neg (by simp [hm]),jF hi,aA,hn,aDD,aA]
  by_cases hk:0<=n.Kind/\n.Kind<=8
  ·rw [decide_eq_true hk.1,decide_eq_true hk.2] at hstep
   have hj2:kH (m:Int) (i:Int) ((xR n:Nat):Int) false=some (.inl (((m - 1+xR n:Nat):Int),((i+1:Nat):Int))):=by
    have ha:=arN_le n
    unfold kH
    rw [if_neg (by simp),bP (x:=((xR n:Nat):Int) - 1) (by omega) (by omega),bN hi (by omega),bP (by omega) (by omega)]
    congr 3
    omega
   have hgo:∀ e:cY f 8 (m:Int) (i:Int)=some (.inl (((m - 1+xR n:Nat):Int),((i+1:Nat):Int))),aIk n->∃ r,loop (fun s:Int × Int=>cY f 8 s.1 s.2) ((m:Int),(i:Int))=some r/\(r=.inr false\/∃ k:Nat,r=.inl (k:Int)/\(∀ n'∈n::post,aIk n')/\(k=0->Cnt9 m (n::post))):=by
    intro e hK
    obtain ⟨r,e1,e2⟩:=ih
    refine ⟨r,(eJ (step:=fun s:Int × Int=>cY f 8 s.1 s.2) (s:=((m:Int),(i:Int))) e).trans e1,?_⟩
    rcases e2 with e2|⟨k,e2,e3,e4⟩
    ·exact .inl e2
    ·refine .inr ⟨k,e2,fun n' hn'=>?_,fun h0=>⟨by omega,e4 h0⟩⟩
     rcases List.mem_cons.1 hn' with rfl|hn'
     ·exact hK
     ·exact e3 n' hn'
   have hj4:cY f 8 (m:Int) (i:Int)=iR (m:Int) (i:Int) n ((xR n:Nat):Int) (decide (n.Kind=4\/n.Kind=5)):=by
    rw [hstep]
    unfold rH
    rw [if_neg (by decide),jF hi,aA,hn,aNe hk,aA]
    by_cases h4:n.Kind=4
    ·rw [if_pos (by simpa using h4)];simp [h4]
    ·rw [if_neg (by simpa using h4)]
     congr 1
     by_cases h5:n.Kind=5<;>simp [h4,h5]
   by_cases hmod:n.Kind=4\/n.Kind=5
   ·rw [decide_eq_true hmod] at hj4
    cases hp:patB n.B with
    |true=>
     refine hgo ?_ ⟨hk,fun _=>⟨by rw [ipat_eq hlen,hp],hlen⟩,fun h=>absurd hmod h⟩
     rw [hj4]
     unfold iR
     rw [if_pos rfl,aLV hlen,aA,hp]
     exact hj2
    |false=>
     refine hbad ?_
     rw [hj4]
     unfold iR
     rw [if_pos rfl,aLV hlen,aA,hp]
     rfl
   ·rw [decide_eq_false hmod] at hj4
    by_cases hlb:n.B=[]
    ·cases hnt:n.Not with
     |true=>
      refine hbad ?_
      rw [hj4]
      unfold iR
      rw [if_neg (by simp),if_neg (by simp [hlb]),hnt]
      rfl
     |false=>
      refine hgo ?_ ⟨hk,fun h=>absurd h hmod,fun _=>⟨hlb,hnt⟩⟩
      rw [hj4]
      unfold iR
      rw [if_neg (by simp),if_neg (by simp [hlb]),hnt]
      exact hj2
    ·refine hbad ?_
     rw [hj4]
     unfold iR
     rw [if_neg (by simp),if_pos (by simpa using hlb)]
     rfl
  ·have hf':(decide (0<=n.Kind)&&decide (n.Kind<=8))=false:=by
    rw [Bool.and_eq_false_iff,decide_eq_false_iff_not,decide_eq_false_iff_not];omega
   rw [hf'] at hstep
   refine hbad ?_
   rw [hstep]
   rfl
theorem shape_ref {f:List aO} (hl:∀ n∈f,n.B.length < 1000) (hf:f.length<=1000):∃ v,yG f 30 8=some v/\(v=true->1<=f.length/\f.length<=30/\(∀ n∈f,aIk n)/\Cnt9 1 f):=by
 unfold yG
 by_cases h1:(f.length:Int) < 1
 ·rw [if_pos (by simpa using h1)]
  exact ⟨false,rfl,fun h=>by cases h⟩
 rw [if_neg (by simpa using h1)]
 by_cases h2:30 < (f.length:Int)
 ·rw [decide_eq_true h2]
  exact ⟨false,rfl,fun h=>by cases h⟩
 rw [decide_eq_false h2]
 unfold uL
 obtain ⟨r,e1,e2⟩:=aJW hl hf f 0 1 rfl (by omega) (by omega)
 have e1':loop (fun s:Int × Int=>cY f 8 s.1 s.2) (1,0)=some r:=e1
 rw [if_neg (by simp),e1',aA]
 rcases e2 with rfl|⟨k,rfl,e3,e4⟩
 ·exact ⟨false,rfl,fun h=>by cases h⟩
 ·refine ⟨((k:Int) == 0),rfl,fun h=>⟨by omega,by omega,e3,e4 ?_⟩⟩
  have:(k:Int)=0:=by simpa using h
  omega
def nmV (n:aO):aO:=⟨n.Kind,0,n.B,n.Not⟩
theorem cnt_nm:∀ (l:List aO) (m:Nat),Cnt9 m l->Cnt9 m (l.map nmV)
 |[],m,h=>h
 |n::l,m,h=>⟨h.1,cnt_nm l _ h.2⟩
theorem tm_nm {f:List aO} (hK:∀ n∈f,aIk n) (h:Cnt9 1 f):Tm [0,1,2] (f.map nmV):=by
 refine aNi (fun n hn=>?_) (cnt_nm f 1 h)
 obtain ⟨x,hx,rfl⟩:=List.mem_map.1 hn
 have:=hK x hx
 exact ⟨this.kind,this.modal,this.plain,fun _=>⟨by show (0:Int)<=0;omega,by show (0:Int)<=2;omega⟩,fun _=>rfl⟩
theorem end_nm {f:List aO} (k:Int):sI f k=sI (f.map nmV) k:=by
 have hs:(fun s:Int × Int=>lY f s.1 s.2)=fun s:Int × Int=>lY (f.map nmV) s.1 s.2:=by
  funext s
  unfold lY
  have:∀ i:Int,ix (f.map nmV) i=(ix f i).map nmV:=fun i=>by
   unfold ix
   split<;>simp
  rw [this]
  cases ix f s.1<;>rfl
 unfold sI
 rw [hs]
theorem aNj {f:List aO} (hf:f.length<=30) (hK:∀ n∈f,aIk n) (h:Cnt9 1 f) {k:Nat} (hk:k < f.length):∃ r,dS f (k:Int)=some r:=by
 have hT:=tm_nm hK h
 have hend:∀ i:Nat,i < f.length->∃ e,sI f (i:Int)=some e:=fun i hi=>by
  rw [end_nm]
  exact ⟨_,aFG (by rw [List.length_map];omega) hT (by rw [List.length_map];exact hi)⟩
 have key:=mM (step:=fun s:Int=>gX f (k:Int) s) (fun s=>-1<=s/\s < (k:Int)) (fun s=>(s+1).toNat) (fun r=>True) (fun s hs=>?_) (s:=(k:Int) - 1) (by omega)
 ·obtain ⟨r,e1,_⟩:=key
  unfold dS
  rw [bP (x:=(k:Int) - 1) (by omega) (by omega),e1,aA]
  cases r with
  |inl r=>exact ⟨_,rfl⟩
  |inr r=>exact ⟨_,rfl⟩
 ·show (∃ s',gX f (k:Int) s=some (.inl s')/\_)\/∃ r,gX f (k:Int) s=some (.inr r)/\True
  unfold gX
  by_cases h0:0<=s
  ·obtain ⟨i,rfl⟩:=Int.eq_ofNat_of_zero_le h0
   have hi:i < f.length:=by omega
   obtain ⟨e,he⟩:=hend i hi
   have hj:∀ v:Bool,(∃ s',mP (i:Int) v=some (.inl s')/\(-1<=s'/\s' < (k:Int))/\(s'+1).toNat < ((i:Int)+1).toNat)\/∃ r,mP (i:Int) v=some (.inr r)/\True:=fun v=>by
    unfold mP
    rw [bP (x:=(i:Int) - 1) (by omega) (by omega)]
    cases v
    ·exact .inl ⟨_,rfl,by omega,by omega⟩
    ·exact .inr ⟨_,rfl,trivial⟩
   rw [if_pos (by simp),jF hi,aA,aCG,aA]
   cases oW (dC f i)
   ·exact hj false
   ·rw [if_pos rfl,jF hk,aA,he,aA]
    split
    ·exact hj _
    ·exact hj _
  ·rw [if_neg (by simpa using h0)]
   exact .inr ⟨_,rfl,trivial⟩
structure Frm (f:List aO):Prop where
 len:1<=f.length/\f.length<=30
 tm:Tm [0,1,2] f
 bnd:∀ k,k < f.length->(dC f k).Kind=6->∃ r,dS f (k:Int)=some r/\0<=r
theorem is_ref {f:List aO} (hl:∀ n∈f,n.B.length < 1000) (hf:f.length<=1000):∃ v,vA f=some v/\(v=true->Frm f):=by
 unfold vA
 obtain ⟨v,e,hv⟩:=shape_ref hl hf
 rw [e,aA]
 cases v with
 |false=>exact ⟨false,rfl,fun h=>by cases h⟩
 |true=>
  obtain ⟨h1,h2,hK,hC⟩:=hv rfl
  rw [if_neg (by simp)]
  have hvar:∀ k,k < f.length->aIk (dC f k):=fun k hk=>by
   refine hK _ ?_
   have:=jF hk
   rw [bT hk] at this
   rw [←Option.some.inj this]
   exact List.getElem_mem hk
  have key:=mM (step:=fun s:Int=>qE f s) (fun s=>∃ i:Nat,s=(i:Int)/\i<=f.length/\∀ k,k < i->aCH (dC f k)/\((dC f k).Kind=6->∃ r,dS f (k:Int)=some r/\0<=r)) (fun s=>f.length - s.toNat) (fun r=>r=.inr false\/r=.inl ()/\∀ k,k < f.length->aCH (dC f k)/\((dC f k).Kind=6->∃ r,dS f (k:Int)=some r/\0<=r)) (fun s hs=>?_) (s:=0) ⟨0,rfl,by omega,fun k hk=>by omega⟩
  ·obtain ⟨r,e1,e2⟩:=key
   rw [e1,aA]
   rcases e2 with rfl|⟨rfl,e3⟩
   ·exact ⟨false,rfl,fun h=>by cases h⟩
   ·refine ⟨true,rfl,fun _=>⟨⟨h1,h2⟩,aNi (fun n hn=>?_) hC,fun k hk=>(e3 k hk).2⟩⟩
    obtain ⟨k,hk,rfl⟩:=List.getElem_of_mem hn
    have:=jF hk
    rw [bT hk] at this
    rw [Option.some.inj this]
    exact (e3 k hk).1
  ·obtain ⟨i,rfl,hi,hI⟩:=hs
   show (∃ s',qE f (i:Int)=some (.inl s')/\_)\/∃ r,qE f (i:Int)=some (.inr r)/\_
   unfold qE
   by_cases h0:i < f.length
   ·have hKi:=hvar i h0
    have hbad:∀ x:Option (Int ⊕ (Unit ⊕ Bool)),x=some (.inr (.inr false))->(∃ s',x=some (.inl s')/\(∃ j:Nat,s'=(j:Int)/\j<=f.length/\∀ k,k < j->aCH (dC f k)/\((dC f k).Kind=6->∃ r,dS f (k:Int)=some r/\0<=r))/\f.length - s'.toNat < f.length - ((i:Int)).toNat)\/∃ r,x=some (.inr r)/\(r=.inr false\/r=.inl ()/\∀ k,k < f.length->aCH (dC f k)/\((dC f k).Kind=6->∃ r,dS f (k:Int)=some r/\0<=r)):=
     fun x hx=>.inr ⟨_,hx,.inl rfl⟩
    have hgo:∀ x:Option (Int ⊕ (Unit ⊕ Bool)),x=some (.inl ((i+1:Nat):Int))->aCH (dC f i)->((dC f i).Kind=6->∃ r,dS f (i:Int)=some r/\0<=r)->(∃ s',x=some (.inl s')/\(∃ j:Nat,s'=(j:Int)/\j<=f.length/\∀ k,k < j->aCH (dC f k)/\((dC f k).Kind=6->∃ r,dS f (k:Int)=some r/\0<=r))/\f.length - s'.toNat < f.length - ((i:Int)).toNat)\/∃ r,x=some (.inr r)/\(r=.inr false\/r=.inl ()/\∀ k,k < f.length->aCH (dC f k)/\((dC f k).Kind=6->∃ r,dS f (k:Int)=some r/\0<=r)):=
     fun x hx h9 hb=>.inl ⟨_,hx,⟨i+1,rfl,by omega,fun k hk=>by
      by_cases hki:k=i
      ·subst hki;exact ⟨h9,hb⟩
      ·exact hI k (by omega)⟩,by omega⟩
    have hj3:aCH (dC f i)->(∃ s',vG f (i:Int)=some (.inl s')/\(∃ j:Nat,s'=(j:Int)/\j<=f.length/\∀ k,k < j->aCH (dC f k)/\((dC f k).Kind=6->∃ r,dS f (k:Int)=some r/\0<=r))/\f.length - s'.toNat < f.length - ((i:Int)).toNat)\/∃ r,vG f (i:Int)=some (.inr r)/\(r=.inr false\/r=.inl ()/\∀ k,k < f.length->aCH (dC f k)/\((dC f k).Kind=6->∃ r,dS f (k:Int)=some r/\0<=r)):=by
     intro h9
     have hj2:aBy (i:Int) false=some (.inl ((i+1:Nat):Int)):=by
      unfold aBy
      rw [if_neg (by simp),bN h0 (by omega)]
     unfold vG
     rw [jF h0,aA]
     by_cases h6:(dC f i).Kind=6
     ·obtain ⟨r,er⟩:=aNj (by omega) hK hC h0
      rw [if_pos (by simpa using h6),er,aA]
      by_cases hr:r < 0
      ·rw [decide_eq_true hr]
       exact hbad _ rfl
      ·rw [decide_eq_false hr]
       exact hgo _ hj2 h9 fun _=>⟨r,er,by omega⟩
     ·rw [if_neg (by simpa using h6)]
      exact hgo _ hj2 h9 fun h=>absurd h h6
    have hj4t:(dC f i).Kind=6\/(dC f i).Kind=7\/(dC f i).Kind=8->(∃ s',vH f (i:Int) true=some (.inl s')/\(∃ j:Nat,s'=(j:Int)/\j<=f.length/\∀ k,k < j->aCH (dC f k)/\((dC f k).Kind=6->∃ r,dS f (k:Int)=some r/\0<=r))/\f.length - s'.toNat < f.length - ((i:Int)).toNat)\/∃ r,vH f (i:Int) true=some (.inr r)/\(r=.inr false\/r=.inl ()/\∀ k,k < f.length->aCH (dC f k)/\((dC f k).Kind=6->∃ r,dS f (k:Int)=some r/\0<=r)):=by
     intro hkd
     unfold vH
     rw [if_pos rfl,jF h0,aA,aDD,aA]
     by_cases hr:0<=(dC f i).Variable/\(dC f i).Variable<=2
     ·rw [decide_eq_true hr.1,decide_eq_true hr.2,if_neg (by decide)]
      exact hj3 ⟨hKi.kind,hKi.modal,hKi.plain,fun _=>hr,fun h=>absurd hkd h⟩
     ·have:(decide (0<=(dC f i).Variable)&&decide ((dC f i).Variable<=2))=false:=by
       rw [Bool.and_eq_false_iff,decide_eq_false_iff_not,decide_eq_false_iff_not];omega
      rw [this,if_pos (by decide)]
      exact hbad _ rfl
    rw [if_pos (bZ h0),jF h0,aA,aCG,aA]
    by_cases hkd:(dC f i).Kind=6\/(dC f i).Kind=7\/(dC f i).Kind=8
    ·by_cases hfx:oW (dC f i)=true
     ·rw [if_pos hfx];exact hj4t hkd
     ·rw [if_neg hfx]
      have:(dC f i).Kind=6:=by
       unfold oW at hfx
       simp at hfx
       omega
      rw [show ((dC f i).Kind == 6)=true by simpa using this]
      exact hj4t hkd
    ·have hfx:¬ oW (dC f i)=true:=by
      unfold oW
      simp
      omega
     rw [if_neg hfx,show ((dC f i).Kind == 6)=false by simp;omega]
     unfold vH
     rw [if_neg (by simp),jF h0,aA]
     by_cases hv0:(dC f i).Variable=0
     ·rw [if_neg (by simpa using hv0)]
      exact hj3 ⟨hKi.kind,hKi.modal,hKi.plain,fun h=>absurd h hkd,fun _=>hv0⟩
     ·rw [if_pos (by simpa using hv0)]
      exact hbad _ rfl
   ·have:i=f.length:=by omega
    subst this
    rw [if_neg (by simp)]
    exact .inr ⟨_,rfl,.inr ⟨rfl,hI⟩⟩
theorem Frm.bi {f:List aO} (h:Frm f):∀ k,k < f.length->(dC f k).Kind=6->∃ n,pL f (k:Int)=some n/\0<=n/\n < (f.length:Int):=fun k hk h6=>by
 obtain ⟨r,e,hr⟩:=h.bnd k hk h6
 rw [aHl h.len.2 h.tm hk] at e
 obtain ⟨r',e',hr'⟩:=aIj h.len.2 h.tm hk
 rw [e] at e'
 obtain rfl:=Option.some.inj e'
 refine ⟨r,e,hr,?_⟩
 rcases hr' with h1|h1
 ·omega
 ·omega
theorem Frm.fok {f:List aO} (h:Frm f):FOk f:=fok_any h.len.2 h.tm h.bi
theorem Frm.valid {f:List aO} (h:Frm f):mU f=some true:=valid_any h.len.2 h.tm h.bi
end Gv
set_option linter.unusedVariables false
set_option linter.unusedSimpArgs false
namespace Gv
open Go
theorem own8 {n:Nat} {t:cR} (h:iO n t) (hn:n<=1000000):aEQ t=some t:=by
 have h1:=h.1
 have h3:=h.2.2
 unfold aEQ
 rw [cI (by simp [iC];omega),aA,cI (by simp [iC];omega),aA,List.nil_append,List.nil_append]
theorem bend8_ok (c:aF) {s1:Int} (s2:Int) (h:0<=s1/\s1<=1000000000) {t:cR} (ht:cS t/\iO 500 t):∃ u s1' s2',aBe c s1 s2 t=some (u,s1',s2')/\iO 500 u/\s1<=s1'/\s1'<=s1+10:=by
 have g2:∀ s∈t.L,s.length<=500:=ht.2.2.1
 have f1:t.L.length<=12:=ht.1.2.2.1.2.1
 have f3:t.E.length<=300:=ht.1.2.2.2.1
 have hl0:1<=t.L.length:=ht.1.2.2.1.1
 obtain ⟨b,x,y,e,i1,i2⟩:=aFq c s2 (s1:=s1) (n:=8) (by omega) (by omega)
 obtain ⟨v,x',y',e',gv,j1,j2⟩:=eN c y (s1:=x) (n:=8) (by omega) (by omega)
 have hend:∀ (i j:Int) (L:List aF) (E:List Edge) (p q:Int),L.length<=500->(∀ s∈L,s.length<=500)->E.length<=500->s1<=p->p<=s1+10->∃ u s1' s2',eX i j L E p q=some (u,s1',s2')/\iO 500 u/\s1<=s1'/\s1'<=s1+10:=
  fun i j L E p q k1 k2 k3 k4 k5=>⟨_,_,_,rfl,⟨k1,k2,k3⟩,k4,k5⟩
 unfold aBe
 rw [own8 ht.2 (by decide),aA,e,aA]
 by_cases q:(!b)=true
 ·rw [if_pos q];exact ⟨_,_,_,rfl,ht.2,i1,by show x<=_;omega⟩
 rw [if_neg q]
 show ∃ u s1' s2',(ob (bC c x y 8) fun r46=>_)=_/\_
 rw [e',aA]
 show ∃ u s1' s2',(if (v == 0)=true then _ else _)=_/\_
 by_cases q0:(v == 0)=true
 ·rw [if_pos q0]
  obtain ⟨z,p,q,e3,_,k1,k2⟩:=aBZ c y' (s1:=x') (l:=[0,-1,41,40,wr (t.N - 1)]) (by omega) (by simp)
  show ∃ u s1' s2',(ob (eE c x' y' _) fun r77=>_)=_/\_
  rw [e3,aA]
  exact hend _ _ _ _ _ _ (by omega) g2 (by omega) (by show s1<=p;omega) (by show p<=_;omega)
 rw [if_neg q0]
 by_cases q1:(v == 1)=true
 ·rw [if_pos q1]
  obtain ⟨z,p,q,e3,_,k1,k2⟩:=aBZ c y' (s1:=x') (l:=[-1,t.N]) (by omega) (by simp)
  show ∃ u s1' s2',(ob (eE c x' y' _) fun r77=>_)=_/\_
  rw [e3,aA]
  exact hend _ _ _ _ _ _ (by omega) g2 (by omega) (by show s1<=p;omega) (by show p<=_;omega)
 rw [if_neg q1]
 by_cases q2:(v == 2)=true
 ·rw [if_pos q2]
  rw [aFQ (by omega) (by omega),aA]
  have hst:st t.L 0 ([97]:aF)=some (t.L.set 0 [97]):=by
   unfold Gv.st
   rw [if_pos ⟨by omega,by omega⟩];rfl
  rw [hst,aA]
  refine hend _ _ _ _ _ _ (by rw [List.length_set];omega) (fun s hs=>?_) (by omega) (by show s1<=x';omega) (by show x'<=_;omega)
  rcases List.mem_or_eq_of_mem_set hs with hs|rfl
  ·exact g2 s hs
  ·decide
 rw [if_neg q2]
 by_cases q3:(v == 3)=true
 ·rw [if_pos q3]
  obtain ⟨z,p,q,e3,hz,k1,k2⟩:=aLU c y' (s1:=x') (l:=[[116,97,117],[97],[122,122],[65],[]]) (by omega) (by simp)
  show ∃ u s1' s2',(ob (oK c x' y' _) fun r77=>_)=_/\_
  rw [e3,aA,cI (by simp [iC];omega),aA]
  refine hend _ _ _ _ _ _ (by simp;omega) (fun s hs=>?_) (by omega) (by show s1<=p;omega) (by show p<=_;omega)
  rcases List.mem_append.1 hs with hs|hs
  ·exact g2 s hs
  ·rw [List.mem_singleton] at hs
   subst hs
   have:∀ s∈([[116,97,117],[97],[122,122],[65],[]]:List aF),s.length<=500:=by decide
   exact this _ hz
 rw [if_neg q3]
 have hno:∃ u s1' s2',eX t.N t.I t.L t.E x' y'=some (u,s1',s2')/\iO 500 u/\s1<=s1'/\s1'<=s1+10:=hend _ _ _ _ _ _ (by omega) g2 (by omega) (by omega) (by omega)
 by_cases q4:(v == 4)=true
 ·rw [if_pos q4]
  by_cases hp:(decide (0 < (t.E.length:Int)))=true
  ·rw [if_pos hp]
   have hp:0 < t.E.length:=by simpa using hp
   rw [aFQ (by omega) (by omega),aA,cI (by simp [iC];omega),aA]
   exact hend _ _ _ _ _ _ (by omega) g2 (by simp;omega) (by show s1<=x';omega) (by show x'<=_;omega)
  ·rw [if_neg hp];exact hno
 rw [if_neg q4]
 by_cases q5:(v == 5)=true
 ·rw [if_pos q5]
  by_cases hp:(decide (0 < (t.E.length:Int)))=true
  ·rw [if_pos hp]
   have hp:0 < t.E.length:=by simpa using hp
   obtain ⟨a,p0,q0,e2,ga,m1,m2⟩:=eN c y' (s1:=x') (n:=(t.E.length:Int)) (by omega) (by omega)
   obtain ⟨z,p,q,e3,_,k1,k2⟩:=aBZ c q0 (s1:=p0) (l:=[-1,(t.L.length:Int),0]) (by omega) (by simp)
   show ∃ u s1' s2',(ob (bC c x' y' (t.E.length:Int)) fun r=>_)=_/\_
   rw [e2,aA]
   show ∃ u s1' s2',(ob (eE c p0 q0 _) fun r77=>_)=_/\_
   rw [e3,aA,aFQ (xs:=t.E) (j:=a) ga.1 (by omega),aA]
   unfold Gv.st
   rw [if_pos (by exact ⟨ga.1,by omega⟩),aA]
   exact hend _ _ _ _ _ _ (by omega) g2 (by rw [List.length_set];omega) (by show s1<=p;omega) (by show p<=_;omega)
  ·rw [if_neg hp];exact hno
 rw [if_neg q5]
 by_cases q6:(v == 6)=true
 ·rw [if_pos q6]
  by_cases hp:(decide (0 < (t.E.length:Int)))=true
  ·rw [if_pos hp]
   have hp:0 < t.E.length:=by simpa using hp
   obtain ⟨a,p0,q0,e2,ga,m1,m2⟩:=eN c y' (s1:=x') (n:=(t.E.length:Int)) (by omega) (by omega)
   obtain ⟨z,p,q,e3,_,k1,k2⟩:=aBZ c q0 (s1:=p0) (l:=[-1,t.N,0]) (by omega) (by simp)
   show ∃ u s1' s2',(ob (bC c x' y' (t.E.length:Int)) fun r=>_)=_/\_
   rw [e2,aA]
   show ∃ u s1' s2',(ob (eE c p0 q0 _) fun r77=>_)=_/\_
   rw [e3,aA,aFQ (xs:=t.E) (j:=a) ga.1 (by omega),aA]
   unfold Gv.st
   rw [if_pos (by exact ⟨ga.1,by omega⟩),aA]
   exact hend _ _ _ _ _ _ (by omega) g2 (by rw [List.length_set];omega) (by show s1<=p;omega) (by show p<=_;omega)
  ·rw [if_neg hp];exact hno
 rw [if_neg q6]
 by_cases q7:(v == 7)=true
 ·rw [if_pos q7]
  exact hend _ _ _ _ _ _ (by simp) (by simp) (by omega) (by show s1<=x';omega) (by show x'<=_;omega)
 rw [if_neg q7]
 exact hno
theorem iO.up8 {a b:Nat} {t:cR} (h:iO a t) (hab:a<=b):iO b t:=⟨Nat.le_trans h.1 hab,fun s hs=>Nat.le_trans (h.2.1 s hs) hab,Nat.le_trans h.2.2 hab⟩
theorem ok_lab {t:cR} (h:cS t) (hf:iO 500 t):LabF t:=fun s hs=>by
 obtain ⟨h1,h2,h3,h4⟩:=h.2.2.1
 refine ⟨?_,by have:=hf.2.1 s hs;omega⟩
 obtain ⟨k,hk,rfl⟩:=List.getElem_of_mem hs
 by_cases h0:k=0
 ·subst h0
  rw [h3 hk]
  exact aKI
 ·exact (h4 k (by omega) hk).1
def std8:List aO:=[⟨4,0,([97]:aF),false⟩,⟨0,0,([]:aF),false⟩]
theorem std_is:vA std8=some true:=by
 have hp:qD ([97]:aF)=some true:=by rw [aLV (by simp)];rfl
 have a1:cY std8 8 1 0=some (.inl (1,1)):=by
  show (ob (qD ([97]:aF)) fun r67=>if (!r67)=true then kH 1 0 1 true else kH 1 0 1 false)=_
  rw [hp]
  rfl
 have a2:cY std8 8 1 1=some (.inl (0,2)):=rfl
 have a3:cY std8 8 0 2=some (.inr (.inl 0)):=rfl
 have b1:qE std8 0=some (.inl 1):=rfl
 have b2:qE std8 1=some (.inl 2):=rfl
 have b3:qE std8 2=some (.inr (.inl ())):=rfl
 have hs:yG std8 30 8=some true:=by
  show (ob (loop (fun s:Int × Int=>cY std8 8 s.1 s.2) (1,0)) fun r=>match r with|.inl r=>aCR r|.inr r=>some r)=_
  rw [eJ (s:=((1:Int),(0:Int))) a1,eJ (s:=((1:Int),(1:Int))) a2,eC (s:=((0:Int),(2:Int))) a3,aA]
  rfl
 unfold vA
 rw [hs,aA,if_neg (by simp),eJ (s:=(0:Int)) b1,eJ (s:=(1:Int)) b2,eC (s:=(2:Int)) b3,aA]
 rfl
theorem drn8 {c:Nat} {t:cR} (h:Drn c t):cS t/\iO 500 t/\LabF t:=by
 have h1:=h.ok.2.2.1.2.1
 have h2:=h.ok.2.2.2.1
 refine ⟨h.ok,⟨by omega,fun s hs=>?_,by omega⟩,fun s hs=>⟨Nm_lab s (h.nm s hs),?_⟩⟩
 ·have:=Nm_len s (h.nm s hs)
  omega
 ·have:=Nm_len s (h.nm s hs)
  omega
theorem draw8_ok (c:aF) {s1:Int} (s2:Int) (h:0<=s1/\s1<=10000000):∃ u s1' s2',aFx c s1 s2=some (u,s1',s2')/\iO 500 u/\s1<=s1'/\s1'<=s1+310:=by
 obtain ⟨a,x,y,e,⟨ha,_⟩,h1,h2⟩:=aKR c s2 (s1:=s1) (by omega)
 obtain ⟨u,x',y',e',hu,h3,h4⟩:=bend8_ok c y (s1:=x) (by omega) ⟨(drn8 ha).1,(drn8 ha).2.1⟩
 unfold aFx
 rw [e,aA]
 show ∃ u s1' s2',(ob (aBe c x y a) fun r=>_)=_/\_
 rw [e',aA]
 exact ⟨_,_,_,rfl,hu,by show s1<=x';omega,by show x'<=_;omega⟩
def aGx (f:List aO):Prop:=f.length<=40/\∀ n∈f,n.B.length < 1000
theorem tm_lst {b:List Int} {f:List aO} (h:Tm b f) (hf:f.length<=40):aGx f:=by
 refine ⟨hf,fun n hn=>?_⟩
 obtain ⟨k,hk,rfl⟩:=List.getElem_of_mem hn
 obtain ⟨c,M,hM⟩:=xP h hk
 have:=(nd_ok hM).2.2.2
 have e:=jF hk
 rw [bT hk] at e
 rw [Option.some.inj e]
 exact this
theorem aIE {f:List aO} (h:aGx f) {k:Nat} {n:aO} (hn:n.B.length < 1000):aGx (f.set k n):=by
 refine ⟨by rw [List.length_set];exact h.1,fun x hx=>?_⟩
 rcases List.mem_or_eq_of_mem_set hx with hx|rfl
 ·exact h.2 x hx
 ·exact hn
section
variable (cs:aF)
theorem drawOk19 {s1:Int} (s2:Int) (h:0<=s1/\s1<=10000000):∃ f s1' s2',zV cs s1 s2=some (f,s1',s2')/\(1<=f.length/\f.length<=30)/\aGx f/\s1<=s1'/\s1'<=s1+800:=by
 unfold zV
 obtain ⟨w,a,c,e,hw,h2,h3⟩:=eN cs s2 (s1:=s1) (n:=8) (by omega) (by omega)
 rw [e,aA,bP (x:=1+w) (by omega) (by omega)]
 obtain ⟨L,a2,c2,e2,hL,hl,g5,g6⟩:=part_ok cs 100000 (1+w) (by omega) (by omega) (by omega) [] (fun v hv=>by cases hv) (by simp;omega) a c (by omega) (by omega)
 unfold aCS
 simp only
 rw [e2,aA]
 have hd:Tm [] [⟨7,1,[],false⟩,⟨4,0,[97],false⟩,⟨6,1,[],false⟩]:=.fix (.inl rfl) (by omega) (.mod (.inl rfl) (aLO (by decide)) (.var (by simp) (by omega)))
 have hj:∀ v:Bool,(v=false->L.length<=30)->∀ x y,s1<=x->x<=s1+800->∃ f s1' s2',mQ (L,a2,c2) v x y=some (f,s1',s2')/\(1<=f.length/\f.length<=30)/\aGx f/\s1<=s1'/\s1'<=s1+800:=by
  intro v hv x y hx1 hx2
  unfold mQ
  cases v with
  |true=>exact ⟨_,_,_,rfl,⟨by simp,by simp⟩,tm_lst hd (by simp),hx1,hx2⟩
  |false=>exact ⟨_,_,_,rfl,⟨hL.pos,hv rfl⟩,tm_lst hL (by have:=hv rfl;show L.length<=40;omega),hx1,hx2⟩
 simp only
 by_cases h16:16 < (L.length:Int)
 ·rw [if_pos (by simpa using h16)]
  obtain ⟨d,a1,c1,e1,g1,g2⟩:=aFq cs c2 (s1:=a2) (n:=4) (by omega) (by omega)
  rw [e1,aA]
  split
  ·exact hj true (fun h=>by cases h) _ _ (by simp only;omega) (by simp only;omega)
  ·exact hj _ (fun h=>by simp at h;omega) _ _ (by simp only;omega) (by simp only;omega)
 ·rw [if_neg (by simpa using h16)]
  exact hj _ (fun h=>by simp at h;omega) _ _ (by omega) (by omega)
theorem bend19 {s1:Int} (s2:Int) (h:0<=s1/\s1<=100000000) {f:List aO} (hf:1<=f.length/\f.length<=30) (hL:aGx f):∃ g s1' s2',aDl cs s1 s2 f=some (g,s1',s2')/\aGx g/\s1<=s1'/\s1'<=s1+100:=by
 unfold aDl
 rw [cI (by rw [List.length_nil];unfold iC;omega),aA,List.nil_append]
 obtain ⟨b,x,y,e,i1,i2⟩:=aFq cs s2 (s1:=s1) (n:=8) (by omega) (by omega)
 rw [e,aA]
 cases b with
 |false=>exact ⟨_,_,_,rfl,hL,i1,by show x<=_;omega⟩
 |true=>
 rw [if_neg (by simp)]
 obtain ⟨v,x1,y1,e1,gv,j1,j2⟩:=eN cs y (s1:=x) (n:=(f.length:Int)) (by omega) (by omega)
 obtain ⟨k,rfl⟩:=Int.eq_ofNat_of_zero_le gv.1
 have hk:k < f.length:=by omega
 simp only
 rw [e1,aA]
 obtain ⟨u,x2,y2,e2,gu,j3,j4⟩:=eN cs y1 (s1:=x1) (n:=6) (by omega) (by omega)
 simp only
 rw [e2,aA,jF hk]
 have hlab:(dC f k).B.length < 1000:=by
  have:=jF hk
  rw [bT hk] at this
  rw [←Option.some.inj this]
  exact hL.2 _ (List.getElem_mem hk)
 have hj1:∀ (g:List aO) (p q:Int),aGx g->s1<=p->p<=s1+100->∃ g' s1' s2',nT g p q=some (g',s1',s2')/\aGx g'/\s1<=s1'/\s1'<=s1+100:=fun g p q h1 h2 h3=>⟨_,_,_,rfl,h1,h2,h3⟩
 by_cases q0:u=0
 ·rw [if_pos (by simpa using q0)]
  obtain ⟨z,p,q,e3,_,k1,k2⟩:=eN cs y2 (s1:=x2) (n:=11) (by omega) (by omega)
  simp only
  rw [e3,aA,aA,pY _ hk,aA]
  exact hj1 _ _ _ (aIE hL hlab) (by simp only;omega) (by simp only;omega)
 rw [if_neg (by simpa using q0)]
 by_cases q1:u=1
 ·rw [if_pos (by simpa using q1)]
  obtain ⟨z,p,q,e3,_,k1,k2⟩:=aBZ cs y2 (s1:=x2) (l:=[-1,0,1,2,3]) (by omega) (by simp)
  simp only
  rw [e3,aA,aA,pY _ hk,aA]
  exact hj1 _ _ _ (aIE hL hlab) (by simp only;omega) (by simp only;omega)
 rw [if_neg (by simpa using q1)]
 by_cases q2:u=2
 ·rw [if_pos (by simpa using q2)]
  obtain ⟨z,p,q,e3,hz,k1,k2⟩:=aLU cs y2 (s1:=x2) (l:=[([97]:aF),([]:aF),([116,97,117,42]:aF),([97,40,54,52,41]:aF),([103,101,116,42]:aF)]) (by omega) (by simp)
  simp only
  rw [e3,aA,aA,pY _ hk,aA]
  have:∀ s∈[([97]:aF),([]:aF),([116,97,117,42]:aF),([97,40,54,52,41]:aF),([103,101,116,42]:aF)],s.length < 1000:=by decide
  exact hj1 _ _ _ (aIE hL (this _ hz)) (by simp only;omega) (by simp only;omega)
 rw [if_neg (by simpa using q2)]
 by_cases q3:u=3
 ·rw [if_pos (by simpa using q3)]
  rw [aA,pY _ hk,aA]
  exact hj1 _ _ _ (aIE hL hlab) (by simp only;omega) (by simp only;omega)
 rw [if_neg (by simpa using q3)]
 by_cases q4:u=4
 ·rw [if_pos (by simpa using q4)]
  rw [slc_to (by omega),aA]
  exact ⟨_,_,_,rfl,⟨by rw [List.length_take];have:=hL.1;omega,fun n hn=>hL.2 n (List.mem_of_mem_take hn)⟩,by simp only;omega,by simp only;omega⟩
 rw [if_neg (by simpa using q4)]
 by_cases q5:u=5
 ·rw [if_pos (by simpa using q5)]
  have key:=mM (step:=fun s:Int × Int × List aO=>tO cs s.1 s.2.1 s.2.2) (fun s=>aGx s.2.2/\s.2.2.length<=31/\s1<=s.1/\s.1+2 * (32 - (s.2.2.length:Int))<=s1+100) (fun s=>31 - s.2.2.length) (fun r=>aGx r.1/\s1<=r.2.1/\r.2.1<=s1+100) (fun s hs=>?_) (s:=(x2,y2,f)) ⟨hL,by simp only;omega,by simp only;omega,by simp only;omega⟩
  ·obtain ⟨r,e3,h1,h2,h3⟩:=key
   simp only
   rw [e3,aA]
   exact ⟨_,_,_,rfl,h1,h2,h3⟩
  ·obtain ⟨p,q,out⟩:=s
   obtain ⟨h1,h2,h3,h4⟩:=hs
   simp only at h1 h2 h3 h4
   show (∃ s',tO cs p q out=some (.inl s')/\_)\/∃ r,tO cs p q out=some (.inr r)/\_
   unfold tO
   obtain ⟨z,p1,q1,e3,hz,k1,k2⟩:=eN cs q (s1:=p) (n:=3) (by omega) (by omega)
   rw [e3,aA,bP (x:=29+z) (by omega) (by omega)]
   by_cases hlt:(out.length:Int) < 29+z
   ·rw [if_pos (by simpa using hlt),cI (by rw [List.length_singleton];unfold iC;omega),aA]
    refine .inl ⟨_,rfl,⟨⟨?_,fun n hn=>?_⟩,?_,?_,?_⟩,?_⟩
    ·show ([_]++out).length<=40
     simp;omega
    ·rcases List.mem_cons.1 hn with rfl|hn
     ·show ([]:aF).length < 1000
      simp
     ·exact h1.2 n hn
    ·show ([_]++out).length<=31
     simp;omega
    ·show s1<=p1
     omega
    ·show p1+2 * (32 - (([_]++out).length:Int))<=s1+100
     simp only [List.length_append,List.length_singleton]
     omega
    ·show 31 - ([_]++out).length < 31 - out.length
     simp only [List.length_append,List.length_singleton]
     omega
   ·rw [if_neg (by simpa using hlt)]
    exact .inr ⟨_,rfl,h1,by show s1<=p1;omega,by show p1<=_;omega⟩
 rw [if_neg (by simpa using q5)]
 exact hj1 _ _ _ hL (by simp only;omega) (by simp only;omega)
theorem large8 {s1:Int} (s2:Int) (h:0<=s1/\s1<=100000000):∃ u s1' s2',sQ cs s1 s2=some (u,s1',s2')/\iO 500 u/\s1<=s1'/\s1'<=s1+2:=by
 unfold sQ
 obtain ⟨v,a,b,e,hv,h2,h3⟩:=eN cs s2 (s1:=s1) (n:=26) (by omega) (by omega)
 rw [e,aA]
 have key:=mM (step:=fun s:List Edge × Int=>lC (v,a,b) s.1 s.2) (fun s=>s.1.length<=300/\0<=s.2/\s.2<=15+v) (fun s=>(15+v - s.2).toNat) (fun r=>r.length<=300) (fun s hs=>?_) (s:=([],0)) ⟨by simp,by simp,by simp only;omega⟩
 ·obtain ⟨r,e1,h1⟩:=key
  rw [e1,aA]
  refine ⟨_,_,_,rfl,⟨by simp,?_,by show r.length<=500;omega⟩,h2,h3⟩
  show ∀ s∈([([116,97,117]:aF),([97]:aF),([98]:aF),([99]:aF),([100]:aF),([101]:aF),([102]:aF),([103]:aF),([104]:aF)]:List aF),s.length<=500
  decide
 ·obtain ⟨E,k⟩:=s
  obtain ⟨h1,h4,h5⟩:=hs
  simp only at h1 h4 h5
  show (∃ s',lC (v,a,b) E k=some (.inl s')/\_)\/∃ r,lC (v,a,b) E k=some (.inr r)/\_
  unfold lC
  simp only
  rw [bP (x:=15+v) (by omega) (by omega)]
  by_cases hk:k < 15+v
  ·rw [if_pos (by simpa using hk)]
   have inner:=mM (step:=fun s:List Edge × Int=>lB (v,a,b) k s.1 s.2) (fun s=>s.1.length<=300/\0<=s.2/\s.2<=8) (fun s=>(8 - s.2).toNat) (fun r=>r.length<=300) (fun s hs=>?_) (s:=(E,0)) ⟨h1,by simp,by simp⟩
   ·obtain ⟨r,e1,h6⟩:=inner
    rw [e1,aA]
    unfold wS sC
    rw [bP (x:=k+1) (by omega) (by omega)]
    exact .inl ⟨_,rfl,⟨h6,by simp only;omega,by simp only;omega⟩,by simp only;omega⟩
   ·obtain ⟨F,n⟩:=s
    obtain ⟨g1,g2,g3⟩:=hs
    simp only at g1 g2 g3
    show (∃ s',lB (v,a,b) k F n=some (.inl s')/\_)\/∃ r,lB (v,a,b) k F n=some (.inr r)/\_
    unfold lB nU
    by_cases hn:n < 8
    ·rw [if_pos (by simpa using hn)]
     by_cases hF:(F.length:Int) < 300
     ·simp only
      rw [if_pos (by simpa using hF),bP (x:=15+v) (by omega) (by omega)]
      unfold rm
      rw [if_neg (by omega),aA,cI (by rw [List.length_singleton];unfold iC;omega),aA,bP (x:=n+1) (by omega) (by omega)]
      exact .inl ⟨_,rfl,⟨by simp;omega,by simp only;omega,by simp only;omega⟩,by simp only;omega⟩
     ·rw [if_neg (by simpa using hF)]
      exact .inr ⟨_,rfl,g1⟩
    ·rw [if_neg (by simpa using hn),if_neg (by simp)]
     exact .inr ⟨_,rfl,g1⟩
  ·rw [if_neg (by simpa using hk)]
   exact .inr ⟨_,rfl,h1⟩
theorem both24 {s1:Int} (s2:Int) (h:0<=s1/\s1<=1000000):∃ f t s1' s2',uN cs s1 s2=some (f,t,s1',s2')/\aGx f/\iO 500 t/\s1<=s1'/\s1'<=s1+2000:=by
 unfold uN
 obtain ⟨t,x,y,e,ht,h1,h2⟩:=draw8_ok cs s2 (s1:=s1) (by omega)
 rw [e,aA]
 have hD:∃ f s1' s2',aFy cs x y=some (f,s1',s2')/\aGx f/\x<=s1'/\s1'<=x+900:=by
  unfold aFy
  obtain ⟨f,a,b,e1,hf,hL,h3,h4⟩:=drawOk19 cs y (s1:=x) (by omega)
  obtain ⟨g,a',b',e2,hg,h5,h6⟩:=bend19 cs b (s1:=a) (by omega) hf hL
  rw [e1,aA]
  simp only
  rw [e2,aA]
  exact ⟨_,_,_,rfl,hg,by simp only;omega,by simp only;omega⟩
 obtain ⟨f,a,b,e1,hf,h3,h4⟩:=hD
 simp only
 rw [e1,aA]
 obtain ⟨o,a1,b1,e2,h5,h6⟩:=aFq cs b (s1:=a) (n:=40) (by omega) (by omega)
 simp only
 rw [e2,aA]
 cases o with
 |true=>
  rw [if_pos rfl]
  obtain ⟨u,a2,b2,e3,hu,h7,h8⟩:=large8 cs b1 (s1:=a1) (by omega)
  simp only
  rw [e3,aA]
  exact ⟨_,_,_,_,rfl,hf,hu,by simp only;omega,by simp only;omega⟩
 |false=>
  rw [if_neg (by simp)]
  split
  ·obtain ⟨v,a2,b2,e3,hv,h7,h8⟩:=eN cs b1 (s1:=a1) (n:=4) (by omega) (by omega)
   simp only
   rw [e3,aA]
   obtain ⟨k,rfl⟩:=Int.eq_ofNat_of_zero_le hv.1
   rw [bT (by simp;omega),aA]
   refine ⟨_,_,_,_,rfl,?_,ht,by simp only;omega,by simp only;omega⟩
   have hall:∀ g∈([([⟨7,0,([]:aF),false⟩,⟨3,0,([]:aF),false⟩,⟨5,0,([97]:aF),false⟩,⟨1,0,([]:aF),false⟩,⟨4,0,([]:aF),false⟩,⟨6,0,([]:aF),false⟩]:List aO),([⟨8,0,([]:aF),false⟩,⟨2,0,([]:aF),false⟩,⟨4,0,([97]:aF),false⟩,⟨0,0,([]:aF),false⟩,⟨5,0,([]:aF),false⟩,⟨6,0,([]:aF),false⟩]:List aO),([⟨8,0,([]:aF),false⟩,⟨7,1,([]:aF),false⟩,⟨3,0,([]:aF),false⟩,⟨4,0,([97]:aF),false⟩,⟨6,0,([]:aF),false⟩,⟨4,0,([]:aF),false⟩,⟨6,1,([]:aF),false⟩]:List aO),([⟨5,0,([98]:aF),false⟩,⟨4,0,([]:aF),false⟩,⟨0,0,([]:aF),false⟩]:List aO)]:List (List aO)),aGx g:=by
    unfold aGx
    decide
   exact hall _ (List.getElem_mem _)
  ·exact ⟨_,_,_,_,rfl,hf,ht,by simp only;omega,by simp only;omega⟩
theorem both_ok:∃ f t,aDm cs=some (f,t)/\Frm f/\vA f=some true/\cS t/\iO 500 t/\LabF t:=by
 unfold aDm aHw
 rw [aA]
 have key:=mM (step:=fun s:Int × Int × Int=>tQ cs s.1 s.2.1 s.2.2) (fun s=>0<=s.2.2/\s.2.2<=6/\0<=s.1/\s.1<=2000 * s.2.2) (fun s=>(6 - s.2.2).toNat) (fun r=>(∃ x y,r=.inl (x,y)/\0<=x/\x<=100000)\/∃ f t,r=.inr (f,t)/\Frm f/\vA f=some true/\cS t/\iO 500 t) (fun s hs=>?_) (s:=(0,0,0)) ⟨by simp,by simp,by simp,by simp⟩
 ·obtain ⟨r,e,h⟩:=key
  simp only
  rw [e,aA]
  rcases h with ⟨x,y,rfl,h1,h2⟩|⟨f,t,rfl,h1,h2,h3,h4⟩
  ·simp only
   unfold aAP
   obtain ⟨t,x',y',e1,⟨ht,_⟩,_,_⟩:=aKR cs y (s1:=x) (by omega)
   rw [e1,aA]
   have hf:Tm [] [⟨4,0,([97]:aF),false⟩,⟨0,0,([]:aF),false⟩]:=.mod (.inl rfl) (aLO (by decide)) (.leaf (.inl rfl))
   obtain ⟨g1,g2,g3⟩:=drn8 ht
   have hFrm:Frm [⟨4,0,([97]:aF),false⟩,⟨0,0,([]:aF),false⟩]:=⟨⟨by simp,by simp⟩,.mod (.inl rfl) (aLO (by decide)) (.leaf (.inl rfl)),fun k hk h6=>by
    exfalso
    simp only [List.length_cons,List.length_nil] at hk
    have:k=0\/k=1:=by omega
    rcases this with rfl|rfl
    ·exact absurd h6 (by decide)
    ·exact absurd h6 (by decide)⟩
   exact ⟨_,_,rfl,hFrm,std_is,g1,g2,g3⟩
  ·exact ⟨f,t,rfl,h1,h2,h3,h4,ok_lab h3 h4⟩
 ·obtain ⟨x,y,k⟩:=s
  obtain ⟨h1,h2,h3,h4⟩:=hs
  simp only at h1 h2 h3 h4
  show (∃ s',tQ cs x y k=some (.inl s')/\_)\/∃ r,tQ cs x y k=some (.inr r)/\_
  unfold tQ
  by_cases hk:k < 6
  ·rw [if_pos (by simpa using hk)]
   obtain ⟨f,t,a,b,e,hf,ht,h5,h6⟩:=both24 cs y (s1:=x) (by omega)
   rw [e,aA]
   obtain ⟨v,ev,hv⟩:=is_ref hf.2 (by have:=hf.1;omega)
   simp only
   rw [ev,aA]
   have hno:(∃ s',nV k (f,t,a,b) false=some (.inl s')/\(0<=s'.2.2/\s'.2.2<=6/\0<=s'.1/\s'.1<=2000 * s'.2.2)/\(6 - s'.2.2).toNat < (6 - k).toNat)\/∃ r,nV k (f,t,a,b) false=some (.inr r)/\((∃ x y,r=.inl (x,y)/\0<=x/\x<=100000)\/∃ f t,r=.inr (f,t)/\Frm f/\vA f=some true/\cS t/\iO 500 t):=by
    unfold nV
    rw [if_neg (by simp),bP (x:=k+1) (by omega) (by omega)]
    exact .inl ⟨_,rfl,⟨by simp only;omega,by simp only;omega,by simp only;omega,by simp only;omega⟩,by simp only;omega⟩
   cases v with
   |false=>exact hno
   |true=>
    rw [if_pos rfl,aMD t (ht.up8 (by decide)),aA]
    by_cases hok:cS t
    ·rw [aFN hok,if_pos rfl]
     by_cases h8:t.N < 8
     ·rw [decide_eq_true h8]
      exact .inr ⟨_,rfl,.inr ⟨f,t,rfl,hv rfl,ev,hok,ht⟩⟩
     ·rw [decide_eq_false h8]
      exact hno
    ·rw [xS hok,if_neg (by simp)]
     exact hno
  ·rw [if_neg (by simpa using hk)]
   exact .inr ⟨_,rfl,.inl ⟨x,y,rfl,h3,by omega⟩⟩
end
end Gv
set_option linter.unusedVariables false
set_option linter.unusedSimpArgs false
namespace Gv
open Go
theorem validG {e:List aS} (h:EqOk e):aAe (gmE e)=some true:=by
 have hl:=h.len
 obtain ⟨hg,h1,h2⟩:=aLT h
 have hi:cK (gmE e) (gmE e)=some (-1):=by
  have key:=cV (step:=fun s:Int=>bH (gmE e) (gmE e) s) (gmE e).length (fun i (_:Unit)=>(i:Int)) (fun _ _=>True) (fun r=>r=.inl ()) (fun i _ hi _=>?_) (fun _ _=>?_) (gmE e).length 0 () (by omega) trivial
  ·obtain ⟨r,e1,e2⟩:=key
   have e1':loop (fun s:Int=>bH (gmE e) (gmE e) s) 0=some r:=e1
   unfold cK
   rw [e1',aA,e2]
   rfl
  ·refine ⟨(),?_,trivial⟩
   show bH (gmE e) (gmE e) (i:Int)=some (.inl ((i+1:Nat):Int))
   have hie:i < e.length:=by omega
   have hx:ix (gmE e) (i:Int)=some (vtE e i):=by
    rw [bT hi]
    have:=aJS hie
    unfold vx at this
    rw [Int.toNat_natCast,List.getD_eq_getElem?_getD,List.getElem?_eq_getElem hi] at this
    exact congrArg some this
   have hb1:=aKX (xQ e) (show i<=e.length - 1 by omega)
   have hb2:=h.fit
   have ho:(vtE e i).Owner=0\/(vtE e i).Owner=1:=by
    show (if (vD e i).All=true then (1:Int) else 0)=0\/(if (vD e i).All=true then (1:Int) else 0)=1
    split<;>simp
   have hp:0<=(vtE e i).Priority/\(vtE e i).Priority<=9:=by
    show 0<=(jU (xQ e) i:Int)+(if xQ e 0=true then 0 else 1)/\(jU (xQ e) i:Int)+(if xQ e 0=true then 0 else 1)<=9
    split<;>omega
   have hn:qO (vtE e i).Next ((gmE e).length:Int)=some true:=by
    rw [h2]
    exact aGb (by omega) (h.tm i hie).1 (h.tm i hie).2
   unfold bH xA
   rw [if_pos (bZ hi),hx,aA,nK,aA,if_neg (by simp;omega),nK,aA,if_neg (by simp;omega),hn,aA]
   unfold oH
   rw [aA,if_neg (by simp),bN hi (by omega)]
  ·refine ⟨.inl (),?_,rfl⟩
   show bH (gmE e) (gmE e) ((gmE e).length:Int)=_
   unfold bH
   rw [if_neg (by simp)]
 unfold aAe eB
 rw [nK,aA,if_neg (by simp;omega),hi,aA,aA]
 rfl
theorem nums_eq (a b c d:Int):aDu [a,b] [c,d]=some (decide (a=c)&&decide (b=d)):=by
 unfold aDu
 rw [if_neg (by simp)]
 have h0:aAV [a,b] [c,d] 0=if (a != c)=true then some (.inr (.inr false)) else some (.inl 1):=rfl
 have h1:aAV [a,b] [c,d] 1=if (b != d)=true then some (.inr (.inr false)) else some (.inl 2):=rfl
 have h2:aAV [a,b] [c,d] 2=some (.inr (.inl ())):=rfl
 by_cases e0:a=c
 ·rw [if_neg (by simp [e0])] at h0
  by_cases e1:b=d
  ·rw [if_neg (by simp [e1])] at h1
   rw [eJ (s:=(0:Int)) h0,eJ (s:=(1:Int)) h1,eC (s:=(2:Int)) h2,aA,decide_eq_true e0,decide_eq_true e1]
   rfl
  ·rw [if_pos (by simpa using e1)] at h1
   rw [eJ (s:=(0:Int)) h0,eC (s:=(1:Int)) h1,aA,decide_eq_false e1,Bool.and_false]
 ·rw [if_pos (by simpa using e0)] at h0
  rw [eC (s:=(0:Int)) h0,aA,decide_eq_false e0,Bool.false_and]
section
variable {f:List aO} {t:cR}
theorem row_at (ht:cS t) {v:Int} (h:0<=v):(v / t.N=0/\v % t.N=t.I)<->v=t.I:=by
 have h1:=ht.1
 have h2:=ht.2.1
 constructor
 ·rintro ⟨e1,e2⟩
  have:=Int.mul_ediv_add_emod v t.N
  rw [e1,e2,Int.mul_zero,Int.zero_add] at this
  exact this.symm
 ·intro e
  rw [e]
  exact ⟨Int.ediv_eq_zero_of_lt h2.1 (by omega),Int.emod_eq_of_lt h2.1 (by omega)⟩
theorem row_dec (ht:cS t) {v:Int} (h:0<=v):(decide (v / t.N=0)&&decide (v % t.N=t.I))=decide (v=t.I):=by
 rw [←Bool.decide_and]
 exact decide_eq_decide.2 (row_at ht h)
theorem aLX {α β:Type} {l:List α} {g:α->β} {i:Nat} (h:i < l.length):ix (l.map g) (i:Int)=some (g l[i]):=by
 rw [bT (by rw [List.length_map];exact h),List.getElem_map]
theorem start_eq (ht:cS t) {N:List Int} (hN:∀ v∈N,0<=v) (hl:N.length<=1000) (hs:N.Pairwise (· < ·)) {k:Nat} (hk:k < N.length) (hki:N[k]=t.I):aDt t (N.map (yC t))=some (k:Int):=by
 have hc:∀ v,0<=v->xC (yC t v) t=some (decide (v=t.I)):=fun v hv=>by
  rw [←row_dec ht hv]
  unfold xC yC
  rw [show ix [v / t.N,v % t.N] 0=some (v / t.N) from rfl,aA,show ix [v / t.N,v % t.N] 1=some (v % t.N) from rfl,aA]
  unfold vC
  by_cases e:v / t.N=0
  ·rw [if_pos (by simpa using e),decide_eq_true e,Bool.true_and]
   congr 1
  ·rw [if_neg (by simpa using e),decide_eq_false e,Bool.false_and]
 have key:∀ n i:Nat,i+n=k->loop (fun s:Int=>cG (N.map (yC t)) t s) (i:Int)=some (.inr (k:Int)):=by
  intro n
  induction n with
  |zero=>
   intro i hi
   obtain rfl:i=k:=by omega
   refine eC ?_
   unfold cG
   rw [if_pos (bZ (by rw [List.length_map];exact hk)),aLX hk,aA,hc _ (hN _ (List.getElem_mem hk)),aA,decide_eq_true hki,if_pos rfl]
  |succ n ih=>
   intro i hi
   have hik:i < N.length:=by omega
   rw [←ih (i+1) (by omega)]
   refine eJ ?_
   have hne:N[i]≠t.I:=by
    have:=List.pairwise_iff_getElem.1 hs i k hik hk (by omega)
    omega
   unfold cG
   rw [if_pos (bZ (by rw [List.length_map];exact hik)),aLX hik,aA,hc _ (hN _ (List.getElem_mem hik)),aA,decide_eq_false hne,if_neg (by simp),bN hik (by omega)]
 have e1:loop (fun s:Int=>cG (N.map (yC t)) t s) 0=some (.inr (k:Int)):=key k 0 (by omega)
 unfold aDt eI
 rw [e1,aA,aA]
theorem holds_ok (h:Frm f) (ht:cS t) (ft:iO 999999999 t) (hl:LabF t):∃ m,tA f t=some (decide (On m t.I),0)/\∃ q,(q=0\/q=1)/\(On m t.I<->q=0)/\∃ W σ,Reg (gg (jE f t f.length)) (xT (jE f t f.length)) q W σ/\W t.I:=by
 have h1:=ht.1
 have hi:=ht.2.1
 obtain ⟨m,e1,e2,e3⟩:=sem_ok h.fok ht hl
 obtain ⟨q,g1,g2,W,σ,g3,g4⟩:=e3 t.I (by unfold inT;omega)
 rw [show ((0:Nat):Int) * t.N+t.I=t.I by rw [show ((0:Nat):Int)=0 from rfl,Int.zero_mul,Int.zero_add]] at g4
 refine ⟨m,?_,q,g1,g2,W,σ,g3,g4⟩
 unfold tA
 rw [code_of ft ht h.valid,aA,if_neg (by simp),e1,aA,ixOn (by omega) (by omega),aA]
end
theorem lawVerd (cs:aF):aAW cs=some true:=by
 unfold aAW aHv
 rw [aA]
 by_cases hlong:(1048576:Int) < (cs.length:Int)
 ·rw [if_pos (by simpa using hlong)]
 rw [if_neg (by simpa using hlong)]
 obtain ⟨f,t,e0,hF,hi,ht,ft,hlab⟩:=both_ok cs
 have ft9:iO 999999999 t:=ft.up8 (by decide)
 have hcode:=code_of ft9 ht hF.valid
 have hst:=ht.1
 have hin:=ht.2.1
 have h2:aCq t=some true:=by rw [aMD t ft9,aFN ht]
 rw [e0,aA]
 show (ob (iA f t) _)=_
 rcases aOf hF.fok hF.tm ht hlab hcode hi h2 with ⟨a1,a2⟩|⟨N,n1,n2,n3,n4,n5,n6,n7⟩
 ·rw [a1,aA,if_pos (by decide)]
  simp only
  rw [a2,aA]
  rfl
 ·rw [n7,aA,if_neg (by simp)]
  obtain ⟨hg,hg1⟩:=aLL hF.fok ht (by have:=hF.len;omega) hlab
  obtain ⟨out,vals,s1,s2,s3,s4,s5,s6,s7⟩:=solve_ok n6
  have hEl:(eqL f t N).length=N.length:=aFF
  have hol:out.length=N.length:=by rw [s2,hEl]
  have hvl:vals.length=N.length:=by rw [s4,List.length_map,hol]
  have hN0:∀ v∈N,0<=v:=fun v hv=>(n3 v hv).1
  have hW:aCx (gmE (eqL f t N))=some (out,0):=by
   unfold aCx
   rw [validG n6,aA,if_neg (by simp),s1,aA]
  obtain ⟨k,hk,hki⟩:=List.getElem_of_mem n2
  obtain ⟨m,m1,q,q1,q2,W,σ,q3,q4⟩:=holds_ok hF ht ft9 hlab
  have hN1:1<=N.length:=by omega
  have hval:vals[k]'(by omega)=decide (On m t.I):=by
   have hkG:xT (gmE (eqL f t N)) (k:Int):=by
    refine ⟨by omega,?_⟩
    rw [(aLT n6).2.2,hEl]
    omega
   obtain ⟨p,p1,p2,W',τ,p3,p4⟩:=s7 (k:Int) hkG
   have hEq:=eqL_game hF.fok hF.tm ht hg n1 n3 n4
   have hNk:N.getD k 0=t.I:=by rw [List.getD_eq_getElem?_getD,List.getElem?_eq_getElem hk];exact hki
   have hpq:q=p:=eq_won hF.fok hF.tm ht hEq q1 p1 q3 p3 hk (by rw [hNk];exact q4) p4
   have h3:vals[k]'(by omega)=(out[k]'(by omega) == 0):=by
    subst s4
    rw [List.getElem_map]
   rw [Int.toNat_natCast,List.getD_eq_getElem?_getD,List.getElem?_eq_getElem (by omega)] at p2
   have p2':out[k]'(by omega)=p:=p2
   rw [h3,p2',←hpq]
   by_cases hq0:q=0
   ·rw [decide_eq_true (q2.2 hq0),hq0]
    rfl
   ·rw [decide_eq_false (fun h=>hq0 (q2.1 h))]
    simpa using hq0
  have hEV:oJ f t=some (decide (On m t.I),0):=by
   unfold oJ
   rw [n7,aA,if_neg (by simp)]
   simp only
   rw [s3,aA,start_eq ht hN0 (by omega) n1 hk hki,aA,bT (by omega),aA,hval]
  simp only
  rw [s5,aA,s6,aA]
  simp only
  rw [hW,aA,if_neg (by simp),if_neg (by simp),if_neg (by simp)]
  rw [if_neg (by simp [hvl]),if_neg (by simp [hol])]
  have hv94:(((N.map (yC t)).length:Int) == 0)=false:=by
   rw [List.length_map]
   rw [beq_eq_false_iff_ne]
   omega
  rw [hv94]
  have hcons:=aKm n6 s2 s7
  rw [←s4] at hcons
  unfold iB
  rw [if_neg (by simp)]
  simp only
  rw [hcons,aA,if_neg (by simp),m1,aA,hEV,aA]
  have key:=cV (step:=fun s:Bool × Int=>jP (f,t) (eqL f t N,N.map (yC t),0) (vals,0) (out,0) (decide (On m t.I),0) s.1 s.2) N.length (fun i (q:Bool)=>(q,(i:Int))) (fun i q=>q=decide (k < i)) (fun r=>r=.inl true) (fun i q hi hI=>?_) (fun q hI=>?_) N.length 0 false (by omega) (by simp)
  ·obtain ⟨r,e1,e2⟩:=key
   have e1':loop (fun s:Bool × Int=>jP (f,t) (eqL f t N,N.map (yC t),0) (vals,0) (out,0) (decide (On m t.I),0) s.1 s.2) (false,0)=some r:=e1
   rw [e1',aA,e2]
   unfold rA lJ
   simp
  ·subst hI
   show ∃ q',jP _ _ _ _ _ (decide (k < i)) (i:Int)=some (.inl (q',((i+1:Nat):Int)))/\_
   have hNi:0<=N[i]:=hN0 _ (List.getElem_mem hi)
   have hvi:vals[i]'(by omega)=(out[i]'(by omega) == 0):=by
    subst s4
    rw [List.getElem_map]
   unfold jP rB
   simp only
   rw [if_pos (bZ (by rw [List.length_map];exact hi)),bT (show i < vals.length by omega),aA,bT (show i < out.length by omega),aA,if_neg (by rw [hvi];simp),aLX hi,aA]
   unfold yC
   rw [nums_eq,aA,row_dec ht hNi,bN hi (by omega)]
   by_cases hik:N[i]=t.I
   ·have:i=k:=by
     rcases Nat.lt_trichotomy i k with h|h|h
     ·have:=List.pairwise_iff_getElem.1 n1 i k hi hk h
      omega
     ·exact h
     ·have:=List.pairwise_iff_getElem.1 n1 k i hk hi h
      omega
    subst this
    rw [decide_eq_true hik,if_pos rfl]
    refine ⟨_,rfl,?_⟩
    rw [hval]
    simp
   ·rw [decide_eq_false hik,if_neg (by simp)]
    refine ⟨_,rfl,?_⟩
    have:i≠k:=fun e=>hik (by subst e;exact hki)
    exact decide_eq_decide.2 (by omega)
  ·subst hI
   refine ⟨.inl true,?_,rfl⟩
   show jP _ _ _ _ _ (decide (k < N.length)) (N.length:Int)=_
   unfold jP
   rw [if_neg (by simp),decide_eq_true hk]
end Gv
