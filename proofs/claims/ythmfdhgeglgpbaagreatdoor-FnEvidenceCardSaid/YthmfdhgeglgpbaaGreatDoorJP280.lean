/- Parts that are won, put together; games of which only the winners' moves go in step. Plain Lean. -/
import Derived.Test.YthmfdhgeglgpbaaGreatDoorJP260
set_option linter.all false
set_option linter.unusedVariables false
set_option linter.unusedSimpArgs false
namespace Gv
section
variable {V U:Type}
theorem Reg.eqv {G:PG V} {A W W':V->Prop} {p:Int} {σ:V->V} (e:∀ v,W v<->W' v) (h:Reg G A p W σ):Reg G A p W' σ:=by
 have:W=W':=funext fun v=>propext (e v)
 rw [←this]
 exact h
open Classical in
theorem join2 {G:PG V} {A W W':V->Prop} {p:Int} {σ τ:V->V} (h:Reg G A p W σ) (h':Reg G A p W' τ):Reg G A p (fun v=>W v\/W' v) (fun v=>if W v then σ v else τ v) where
 sub:=fun v hv=>hv.elim (h.sub v) (h'.sub v)
 mine:=fun v hv ho=>by
  by_cases hb:W v
  ·rw [if_pos hb];exact ⟨(h.mine v hb ho).1,.inl (h.mine v hb ho).2⟩
  ·rw [if_neg hb]
   have:=h'.mine v (hv.resolve_left hb) ho
   exact ⟨this.1,.inr this.2⟩
 theirs:=fun v hv ho w hE hA=>hv.elim (fun hb=>.inl (h.theirs v hb ho w hE hA)) fun hb=>.inr (h'.theirs v hb ho w hE hA)
 good:=fun f hW hE hg=>by
  have hA:∀ n,A (f n):=fun n=>(hW n).elim (h.sub _) (h'.sub _)
  by_cases hk:∃ k,W (f k)
  ·obtain ⟨k,hk⟩:=hk
   exact h.win hA hE (fun n hb ho=>by rw [hg n ho,if_pos hb]) hk
  ·have hn:∀ n,¬ W (f n):=fun n hb=>hk ⟨n,hb⟩
   exact h'.good f (fun n=>(hW n).resolve_left (hn n)) hE fun n ho=>by rw [hg n ho,if_neg (hn n)]
theorem uniReg {G:PG V} {A:V->Prop} {p:Int} (W:Nat->V->Prop):∀ n,(∀ i,i < n->∃ σ,Reg G A p (W i) σ)->∃ σ,Reg G A p (fun v=>∃ i,i < n/\W i v) σ
 |0,_=>⟨id,⟨fun v ⟨i,hi,_⟩=>absurd hi (Nat.not_lt_zero _),fun v ⟨i,hi,_⟩=>absurd hi (Nat.not_lt_zero _),fun v ⟨i,hi,_⟩=>absurd hi (Nat.not_lt_zero _),fun f hf=>by
  obtain ⟨i,hi,_⟩:=hf 0
  exact absurd hi (Nat.not_lt_zero _)⟩⟩
 |n+1,h=>by
  obtain ⟨σ,h1⟩:=uniReg W n fun i hi=>h i (by omega)
  obtain ⟨τ,h2⟩:=h n (by omega)
  refine ⟨_,(join2 h1 h2).eqv fun v=>⟨fun hv=>?_,fun hv=>?_⟩⟩
  ·rcases hv with ⟨i,hi,hw⟩|hw
   ·exact ⟨i,by omega,hw⟩
   ·exact ⟨n,by omega,hw⟩
  ·obtain ⟨i,hi,hw⟩:=hv
   by_cases e:i=n
   ·subst e;exact .inr hw
   ·exact .inl ⟨i,by omega,hw⟩
theorem lockS {G:PG V} {H:PG U} {R:V->U->Prop} {A:V->Prop} {A':U->Prop} {W:V->Prop} {W':U->Prop} {p q:Int} {σ:V->V} {τ:U->U}
  (hR:∀ x y,R x y->W x->W' y->G.own x=H.own y/\(G.own x=p\/G.own x=q)/\(G.own x=p->∃ y',H.E y y'/\A' y'/\R (σ x) y')/\(H.own y=q->∃ x',G.E x x'/\A x'/\R x' (τ y)))
  (hG:∀ (f:Nat->V) (g:Nat->U),(∀ n,R (f n) (g n))->(∀ n,G.E (f n) (f (n+1)))->(∀ n,H.E (g n) (g (n+1)))->aCm G.pr p f->aCm H.pr p g)
  (h0:Reg G A p W σ) (h1:Reg H A' q W' τ) (hq:p≠q) {x:V} {y:U} (hxy:R x y) (hx:W x) (hy:W' y):False:=by
 have step:∀ s:{s:V × U // R s.1 s.2/\W s.1/\W' s.2},∃ s':{s:V × U // R s.1 s.2/\W s.1/\W' s.2},G.E s.1.1 s'.1.1/\H.E s.1.2 s'.1.2/\(G.own s.1.1=p->s'.1.1=σ s.1.1)/\(H.own s.1.2=q->s'.1.2=τ s.1.2):=by
  rintro ⟨⟨a,b⟩,hab,ha,hb⟩
  obtain ⟨e1,e3,e4,e5⟩:=hR a b hab ha hb
  simp only at hab ha hb ⊢
  by_cases ho:G.own a=p
  ·obtain ⟨m1,m2⟩:=h0.mine a ha ho
   obtain ⟨b',g2,g1,g3⟩:=e4 ho
   have hob:H.own b≠q:=by rw [←e1,ho];exact hq
   exact ⟨⟨(σ a,b'),g3,m2,h1.theirs b hb hob b' g2 g1⟩,m1,g2,fun _=>rfl,fun h=>absurd h hob⟩
  ·have hob:H.own b=q:=by rw [←e1];exact e3.resolve_left ho
   obtain ⟨m1,m2⟩:=h1.mine b hb hob
   obtain ⟨a',g2,g1,g3⟩:=e5 hob
   exact ⟨⟨(a',τ b),g3,h0.theirs a ha ho a' g2 g1,m2⟩,g2,m1,fun h=>absurd h ho,fun _=>rfl⟩
 obtain ⟨nx,hnx⟩:=Classical.axiomOfChoice step
 let f:Nat->{s:V × U // R s.1 s.2/\W s.1/\W' s.2}:=fun n=>Nat.rec ⟨(x,y),hxy,hx,hy⟩ (fun _ s=>nx s) n
 have hf:∀ n,f (n+1)=nx (f n):=fun n=>rfl
 have c1:∀ n,G.E (f n).1.1 (f (n+1)).1.1:=fun n=>by rw [hf];exact (hnx (f n)).1
 have c2:∀ n,H.E (f n).1.2 (f (n+1)).1.2:=fun n=>by rw [hf];exact (hnx (f n)).2.1
 have a1:=h0.good (fun n=>(f n).1.1) (fun n=>(f n).2.2.1) c1 fun n ho=>by rw [hf];exact (hnx (f n)).2.2.1 ho
 have a2:=h1.good (fun n=>(f n).1.2) (fun n=>(f n).2.2.2) c2 fun n ho=>by rw [hf];exact (hnx (f n)).2.2.2 ho
 exact hq (aCm.one (fun n=>rfl) (hG _ _ (fun n=>(f n).2.1) c1 c2 a1) a2)
end
section
variable {g:List aO}
def vA (g:List aO) (out:List Int) (q v:Int):Prop:=uZ g v/\out.getD v.toNat 0=q
structure Wins (g:List aO) (out:List Int):Prop where
 len:out.length=g.length
 two:∀ v,uZ g v->out.getD v.toNat 0=0\/out.getD v.toNat 0=1
 reg:∀ q,q=0\/q=1->∃ σ,Reg (gg g) (uZ g) q (vA g out q) σ
theorem aLX (hg:GOk g) (h1:1<=g.length):∃ out,sG g=some out/\Wins g out:=by
 obtain ⟨out,e,hl,hv⟩:=aNK hg h1
 refine ⟨out,e,hl,fun v hi=>?_,fun q hq=>?_⟩
 ·obtain ⟨q,h2,h3,_⟩:=hv v hi
  rw [h3];exact h2
 ·have hch:∀ i:Nat,∃ Wi:Int->Prop,(∃ σ,Reg (gg g) (uZ g) q Wi σ)/\(i < g.length->out.getD i 0=q->Wi (i:Int)):=fun i=>by
   by_cases hi:i < g.length/\out.getD i 0=q
   ·obtain ⟨q',h2,h3,W,σ,h4,h5⟩:=hv (i:Int) ⟨by omega,by omega⟩
    rw [Int.toNat_natCast,hi.2] at h3
    subst h3
    exact ⟨W,⟨σ,h4⟩,fun _ _=>h5⟩
   ·exact ⟨fun _=>False,⟨id,⟨fun v h=>h.elim,fun v h=>h.elim,fun v h=>h.elim,fun f hf=>(hf 0).elim⟩⟩,fun h2 h3=>absurd ⟨h2,h3⟩ hi⟩
  obtain ⟨W,hW⟩:=Classical.axiomOfChoice hch
  obtain ⟨σ,h2⟩:=uniReg W g.length fun i _=>(hW i).1
  refine ⟨σ,h2.eqv fun v=>⟨fun h=>?_,fun h=>?_⟩⟩
  ·obtain ⟨i,hi,hw⟩:=h
   obtain ⟨τ,h3⟩:=(hW i).1
   have hin:=h3.sub v hw
   obtain ⟨q',h4,h5,W',σ',h6,h7⟩:=hv v hin
   refine ⟨hin,?_⟩
   rw [h5]
   exact one_won hg h4 hq h6 h3 h7 hw
  ·obtain ⟨h3,h4⟩:=h
   obtain ⟨h5,h6⟩:=h3
   refine ⟨v.toNat,by omega,?_⟩
   have:=(hW v.toNat).2 (by omega) h4
   rwa [Int.toNat_of_nonneg h5] at this
theorem wins_one (hg:GOk g) {out out':List Int} (h:Wins g out) (h':Wins g out'):out=out':=by
 refine List.ext_getElem (h.len.trans h'.len.symm) fun i hi hi'=>?_
 have hin:uZ g (i:Int):=⟨by omega,by have:=h.len;omega⟩
 have e:∀ (l:List Int) (hl:i < l.length),l.getD ((i:Int)).toNat 0=l[i]:=fun l hl=>by
  rw [Int.toNat_natCast,List.getD_eq_getElem?_getD,List.getElem?_eq_getElem hl];rfl
 have h1:=h.two _ hin
 have h2:=h'.two _ hin
 obtain ⟨σ,r1⟩:=h.reg _ h1
 obtain ⟨τ,r2⟩:=h'.reg _ h2
 have:=one_won hg h1 h2 r1 r2 ⟨hin,rfl⟩ ⟨hin,rfl⟩
 rw [e out hi,e out' hi'] at this
 exact this
end
end Gv
set_option linter.unusedVariables false
set_option linter.unusedSimpArgs false
namespace Gv
open Go
section
variable {f:List aT} {b:List Int} {t:cN}
theorem posN_at {N:List Int} (hN:N.Nodup) {j:Nat} (hj:j < N.length):pos N (N.getD j 0)=(j:Int):=by
 have hm:N.getD j 0=N[j]:=by rw [List.getD_eq_getElem?_getD,List.getElem?_eq_getElem hj];rfl
 rw [hm]
 obtain ⟨i,hi,e1,e2⟩:=aMw (List.getElem_mem hj)
 rw [e1]
 have:=(List.pairwise_iff_getElem.1 hN)
 by_cases hij:i=j
 ·rw [hij]
 ·rcases Nat.lt_or_gt_of_ne hij with h|h
  ·exact absurd e2 (this i j hi hj h)
  ·exact absurd e2.symm (this j i hj hi h)
theorem aNP {N:List Int} {i:Nat} (h:i < N.length):eqA (oU f t N) i=mkE f t N (N.getD i 0):=by
 unfold eqA oU
 rw [List.getD_eq_getElem?_getD,List.getElem?_map,List.getD_eq_getElem?_getD,List.getElem?_eq_getElem h]
 rfl
theorem aDj {N:List Int}:(oU f t N).length=N.length:=by unfold oU;simp
theorem eqL_tm {N:List Int} (hN:N.Nodup) (hcl:∀ v∈N,∀ w∈(vx (gR f t f.length) v).Next,w∈N) {i:Nat} (h:i < N.length) {w:Int}:
  w∈(mkE f t N (N.getD i 0)).Terms<->∃ j:Nat,j < N.length/\w=(j:Int)/\N.getD j 0∈(vx (gR f t f.length) (N.getD i 0)).Next:=by
 unfold mkE
 simp only
 rw [aCn,List.mem_map]
 constructor
 ·rintro ⟨v,hv,rfl⟩
  have hm:=hcl _ (aCo h) v hv
  obtain ⟨j,hj,e⟩:=List.getElem_of_mem hm
  have e':N.getD j 0=v:=by rw [List.getD_eq_getElem?_getD,List.getElem?_eq_getElem hj];exact e
  exact ⟨j,hj,by rw [←e',posN_at hN hj],by rw [e'];exact hv⟩
 ·rintro ⟨j,hj,rfl,hv⟩
  exact ⟨_,hv,posN_at hN hj⟩
theorem eqL_ok {N:List Int} (hs:N.Pairwise (· < ·)) (h1:1<=N.length) (h2:N.length<=120) (hcl:∀ v∈N,∀ w∈(vx (gR f t f.length) v).Next,w∈N) (hfit:mP (grE (oU f t N)) (N.length - 1) < 9):EqOk (oU f t N) where
 len:=by rw [aDj];exact ⟨h1,h2⟩
 fit:=by rw [aDj];exact hfit
 tm:=fun i hi=>by
  rw [aDj] at hi ⊢
  have hN:N.Nodup:=hs.imp fun h=>by omega
  rw [aNP hi]
  refine ⟨aIS.1,fun w hw=>?_⟩
  obtain ⟨j,hj,rfl,_⟩:=(eqL_tm hN hcl hi).1 hw
  omega
theorem aNQ (hf:FOk f) (hT:Tm b f) (ht:cM t) (hg:GOk (gR f t f.length)) {N:List Int} (hs:N.Pairwise (· < ·)) (hin:∀ v∈N,uZ (gR f t f.length) v) (hcl:∀ v∈N,∀ w∈(vx (gR f t f.length) v).Next,w∈N):EqG f t N (wB (oU f t N)) (ugF f):=by
 have hN:N.Nodup:=hs.imp fun h=>by omega
 have hlen:=hf.len
 have hvt:∀ i,i < N.length->vx (wB (oU f t N)) (i:Int)=vtE (oU f t N) i:=fun i hi=>gmE_vx (by rw [aDj];exact hi)
 have hgr:∀ i,i < N.length->grE (oU f t N) i=ugF f (bR t (N.getD i 0)):=fun i hi=>by
  unfold grE
  rw [aNP hi]
  rfl
 refine ⟨by unfold wB;rw [List.length_map,List.length_range,aDj],hs,hin,fun i hi=>?_,fun i hi w=>?_,hcl,fun i hi=>?_,fun k hk hx=>(ug_spec hlen.2 hT hk).2 hx⟩
 ·rw [hvt i hi]
  show (if (eqA (oU f t N) i).All=true then (1:Int) else 0)=_
  rw [aNP hi]
  have ho:=hg.own (N.getD i 0)
  show (if ((vx (gR f t f.length) (N.getD i 0)).Owner == 1)=true then (1:Int) else 0)=_
  rcases ho with ho|ho<;>rw [ho]<;>rfl
 ·rw [hvt i hi]
  show w∈(eqA (oU f t N) i).Terms<->_
  rw [aNP hi]
  exact eqL_tm hN hcl hi
 ·rw [hvt i hi]
  show (mP (grE (oU f t N)) i:Int)+(if grE (oU f t N) 0=true then 0 else 1)=_
  rw [hgr 0 (by omega)]
  congr 2
  have:∀ j,j<=i->mP (grE (oU f t N)) j=mP (fun i=>ugF f (bR t (N.getD i 0))) j:=by
   intro j
   induction j with
   |zero=>intro _;rfl
   |succ j ih=>
    intro hj
    show mP _ j+_=mP _ j+_
    rw [ih (by omega),hgr (j+1) (by omega),hgr j (by omega)]
  exact this i (Nat.le_refl _)
end
end Gv
set_option linter.unusedVariables false
set_option linter.unusedSimpArgs false
namespace Gv
open Go
theorem aFb (n:aT):yQ n=some (rM n):=by
 unfold yQ aBD rM
 by_cases h:n.Kind=7
 ·simp [h]
 ·by_cases h':n.Kind=8<;>simp [h,h']
theorem aRm {n:aT} (h:0<=n.Kind/\n.Kind<=8):aBm n.Kind=some ((arN n:Nat):Int):=by
 unfold aBm uB aBB arN
 have:n.Kind=0\/n.Kind=1\/n.Kind=2\/n.Kind=3\/n.Kind=4\/n.Kind=5\/n.Kind=6\/n.Kind=7\/n.Kind=8:=by omega
 rcases this with e|e|e|e|e|e|e|e|e<;>simp [e]
theorem aSo {l:aJ} (h:rK l=true):l.getLast?≠some 42:=by
 intro hl
 have happ:=aBy 40 l
 unfold rK at h
 cases hc:(iQ 40 l).2 with
 |none=>
  rw [hc] at h
  simp only at h
  cases l with
  |nil=>simp at hl
  |cons c r=>
   unfold aKF at h
   rw [Bool.and_eq_true,Bool.and_eq_true,List.all_eq_true] at h
   have hm:=List.mem_of_getLast? hl
   rcases List.mem_cons.1 hm with e|e
   ·rw [←e] at h
    exact absurd h.1.1 (by decide)
   ·exact absurd (h.1.2 _ e) (by decide)
 |some r=>
  rw [hc] at h happ
  simp only at h happ
  rw [Bool.and_eq_true,Bool.and_eq_true] at h
  have h41:r.getLast?=some 41:=by simpa using h.2.1
  have hr:r≠[]:=fun e=>by rw [e] at h41;cases h41
  rw [happ,List.getLast?_append,List.getLast?_cons,h41] at hl
  simp at hl
theorem last_char {s:aJ} (h:s≠[]) (hl:s.length < 1000000000):∃ c,s.getLast?=some c/\ix s (wr ((s.length:Int) - 1))=some c/\slc s 0 (wr ((s.length:Int) - 1))=some s.dropLast:=by
 rcases List.eq_nil_or_concat s with rfl|⟨l,c,rfl⟩
 ·exact absurd rfl h
 ·have hll:(l.concat c).length=l.length+1:=by simp
  have w:wr (((l.concat c).length:Int) - 1)=(l.length:Int):=by
   rw [hll] at hl ⊢
   rw [bT (by omega) (by omega)];omega
  refine ⟨c,by simp,?_,?_⟩
  ·rw [w,aFf];simp
  ·rw [w]
   unfold slc
   rw [if_pos ⟨by omega,by omega,by simp⟩]
   simp
theorem aOn {n:aT} {l:aJ} (hn:n.B.length < 1000) (hl:l.length < 1000) (hb:rK l=true):aAF n.B n.Not l=some (aMo n l):=by
 have e1:iF n l=some (aMo n l):=aJO (by omega) (by omega) hb
 have e2:iF n l=aAF n.B n.Not l:=by
  unfold iF aAF kR
  by_cases h0:n.B=[]
  ·rw [wW _ _ (by omega),aA,h0]
   cases n.Not<;>rfl
  ·obtain ⟨c,hc,hi,hs⟩:=last_char h0 (by omega)
   have hb0:¬ (n.B == ([]:aJ))=true:=by simpa using h0
   have hl0:¬ ((n.B.length:Int) == 0)=true:=by simpa using h0
   by_cases h42:c=42
   ·subst h42
    have hne:¬ n.B=l:=fun e=>aSo hb (by rw [←e];exact hc)
    have hne':¬ (n.B == l)=true:=by simpa using hne
    have ecut:jA n.B ([42]:aJ)=some (n.B.dropLast,true):=by rw [wW _ _ (by omega),hc];rfl
    have hd:(((42:UInt8).toNat:Int) == 42)=true:=rfl
    rw [ecut,aA,if_neg hb0,if_neg hne',if_neg hl0,hi,aA,if_pos hd,aPa (by omega) hb,name_eq l (by omega),aA,aA,hs,aA]
    rfl
   ·have h42':¬ ((c.toNat:Int) == 42)=true:=by
     rw [beq_iff_eq]
     intro e
     exact h42 (UInt8.toNat_inj.1 (by
       have:c.toNat=42:=by omega
       exact this))
    have ecut:jA n.B ([42]:aJ)=some (n.B,false):=by rw [wW _ _ (by omega),hc,if_neg (by simpa using h42)]
    rw [ecut,aA,if_neg hb0,if_neg hl0,hi,aA,if_neg h42']
    by_cases he:n.B=l
    ·have he':(n.B == l)=true:=by simpa using he
     rw [if_pos he',he']
    ·have he':¬ (n.B == l)=true:=by simpa using he
     have he2:(n.B == l)=false:=by simpa using he
     rw [if_neg he',he2]
     rfl
 rw [←e2,e1]
section
variable {f:List aT} {b:List Int} {t:cN}
theorem aPe (h:Tm b f) {k:Nat} (hk:k < f.length):0<=(dG f k).Kind/\(dG f k).Kind<=8:=by
 obtain ⟨c,M,hM⟩:=aAY h hk
 exact (nd_ok hM).1
theorem aIV (hf:f.length<=100) (h:Tm b f) {o:Nat} (ho:o < f.length):vG f (o:Int)=some ((pQ f o:Nat):Int):=by
 obtain ⟨c,L,hL⟩:=aAY h ho
 have hl:=hL.len
 rw [aGR hf hL]
 obtain ⟨h1,post,h2⟩:=hL
 have key:=aPY (f:=f) (step:=fun s:Int × Int=>oD f s.1 s.2) (fun k need=>((k:Int),(need:Int))) (fun k need hk h1 h3=>by
  show oD f (k:Int) (need:Int)=_
  have ha:arN (dG f k)<=2:=by unfold arN;split;omega;split<;>omega
  unfold oD
  rw [if_pos (by simp;omega),kH hk,aA,aRm (aPe h hk),aA,bQ hk (by omega),bT (x:=((arN (dG f k):Nat):Int) - 1) (by omega) (by omega),bT (by omega) (by omega)]
  congr 3
  omega) h1 o post 1 h2 (by omega) (by omega)
 unfold vG
 show (ob (loop (fun s:Int × Int=>oD f s.1 s.2) ((o:Int),((1:Nat):Int))) fun r=>aHR r)=_
 rw [key,fP (r:=((o+L.length:Nat):Int)) (by
  show oD f _ ((1 - 1:Nat):Int)=_
  unfold oD
  rw [if_neg (by simp)]),aA]
 rfl
theorem aKN (hf:f.length<=30) (h:Tm b f) {k:Nat} (hk:k < f.length):eS f (k:Int)=sD f (k:Int):=by
 have hstep:∀ s:Int,s < (k:Int)->jI f (k:Int) s=fB f (k:Int) s:=by
  intro s hs
  unfold jI fB
  by_cases h0:0<=s
  ·obtain ⟨i,rfl⟩:=Int.eq_ofNat_of_zero_le h0
   rw [if_pos (by simp),if_pos (by simp),kH (show i < f.length by omega),aA,aA,aFb,rJ,aA,aA,kH hk,aA,aA,aIV (by omega) h (show i < f.length by omega),(sO (by omega) h (show i < f.length by omega)).1,aA,aA]
   rfl
  ·rw [if_neg (by simpa using h0),if_neg (by simpa using h0)]
 have key:∀ n (s:Int),s < (k:Int)->(s+1).toNat<=n->loop (fun s:Int=>jI f (k:Int) s) s=loop (fun s:Int=>fB f (k:Int) s) s:=by
  intro n
  induction n with
  |zero=>
   intro s h1 h2
   have e:fB f (k:Int) s=some (.inr (.inl ())):=by
    unfold fB
    rw [if_neg (by simp;omega)]
   rw [fP (r:=.inl ()) (by show jI f (k:Int) s=_;rw [hstep s h1,e]),fP (r:=.inl ()) e]
  |succ n ih=>
   intro s h1 h2
   rw [cS,cS (step:=fun s:Int=>fB f (k:Int) s)]
   rw [hstep s h1]
   by_cases h0:0<=s
   ·obtain ⟨i,rfl⟩:=Int.eq_ofNat_of_zero_le h0
    have e1:=(sO (by omega) h (show i < f.length by omega)).1
    have hj:∀ v:Bool,oE (i:Int) v=some (.inr (.inr (i:Int)))\/oE (i:Int) v=some (.inl ((i:Int) - 1)):=fun v=>by
     unfold oE
     rw [bT (x:=(i:Int) - 1) (by omega) (by omega)]
     cases v
     ·exact .inr rfl
     ·exact .inl rfl
    have hv:fB f (k:Int) (i:Int)=some (.inr (.inr (i:Int)))\/fB f (k:Int) (i:Int)=some (.inl ((i:Int) - 1)):=by
     unfold fB
     rw [if_pos (by simp),kH (show i < f.length by omega),aA,rJ,aA,kH hk,aA,e1,aA]
     split
     ·split<;>exact hj _
     ·exact hj _
    rcases hv with e|e<;>rw [e]
    exact ih _ (by omega) (by omega)
   ·have e:fB f (k:Int) s=some (.inr (.inl ())):=by
     unfold fB
     rw [if_neg (by simpa using h0)]
    rw [e]
 unfold eS sD
 rw [bT (x:=(k:Int) - 1) (by omega) (by omega),key _ _ (by omega) (Nat.le_refl _)]
 cases loop (fun s:Int=>fB f (k:Int) s) ((k:Int) - 1) with
 |none=>rfl
 |some r=>cases r<;>rfl
end
end Gv
set_option linter.unusedVariables false
set_option linter.unusedSimpArgs false
namespace Gv
open Go
section
variable {f:List aT} {b:List Int} {t:cN}
theorem ops_exact (hf:FOk f) (h:Tm b f) {k:Nat} (hk:k < f.length):(arN (dG f k)=0->tR f k=[])/\(arN (dG f k)=1->k+1 < f.length/\tR f k=[((k+1:Nat):Int)])/\(arN (dG f k)=2->k+1 < f.length/\tR f k=[((k+1:Nat):Int),(pQ f (k+1):Int)]):=by
 have hlen:=hf.len
 have hop:=(hf.ops k hk).1
 have hin:=ops_in hlen.2 h hk
 unfold jM at hop
 rw [kH hk,aA,aAi,aA,bQ hk (by omega)] at hop
 refine ⟨fun h0=>?_,fun h1=>?_,fun h2=>?_⟩
 ·rw [h0,fP (r:=[]) (by
   show bX f ((0:Nat):Int) [] _ 0=_
   unfold bX
   rw [if_neg (by simp)]),aA] at hop
  exact (Option.some.inj hop).symm
 ·have hk1:k+1 < f.length:=by
   refine Classical.byContradiction fun hc=>?_
   obtain ⟨c,M,hM⟩:=aAY h hk
   have hl:=hM.len
   obtain ⟨hT,post,hd⟩:=hM
   cases hT with
   |leaf hk'=>obtain ⟨_,e,_⟩:=eA hd;rw [e] at h1;unfold arN at h1;simp only at h1;split at h1<;>(try split at h1)<;>omega
   |var hv=>obtain ⟨_,e,_⟩:=eA hd;rw [e] at h1;unfold arN at h1;simp at h1
   |bin hk' hL hM=>rw [List.length_cons,List.length_append] at hl;have:=hL.pos;omega
   |mod hk' hl' hL=>rw [List.length_cons] at hl;have:=hL.pos;omega
   |fix hk' hv hL=>rw [List.length_cons] at hl;have:=hL.pos;omega
  have e1:=sO (by omega) h hk1
  rw [h1,fY (s':=([((k+1:Nat):Int)],(pQ f (k+1):Int),1)) (by
   show bX f ((1:Nat):Int) [] _ 0=_
   unfold bX
   rw [if_pos (by simp),cG (by simp [iE]),aA,e1.1,aA,bT (by omega) (by omega)]
   rfl),fP (r:=[((k+1:Nat):Int)]) (by
   show bX f ((1:Nat):Int) _ _ 1=_
   unfold bX
   rw [if_neg (by simp)]),aA] at hop
  exact ⟨hk1,(Option.some.inj hop).symm⟩
 ·have hk1:k+1 < f.length:=by
   refine Classical.byContradiction fun hc=>?_
   obtain ⟨c,M,hM⟩:=aAY h hk
   have hl:=hM.len
   obtain ⟨hT,post,hd⟩:=hM
   cases hT with
   |leaf hk'=>obtain ⟨_,e,_⟩:=eA hd;rw [e] at h2;unfold arN at h2;simp only at h2;split at h2<;>(try split at h2)<;>omega
   |var hv=>obtain ⟨_,e,_⟩:=eA hd;rw [e] at h2;unfold arN at h2;simp at h2
   |bin hk' hL hM=>rw [List.length_cons,List.length_append] at hl;have:=hL.pos;omega
   |mod hk' hl' hL=>rw [List.length_cons] at hl;have:=hL.pos;omega
   |fix hk' hv hL=>rw [List.length_cons] at hl;have:=hL.pos;omega
  have e1:=sO (by omega) h hk1
  have hk2:pQ f (k+1) < f.length:=by
   refine Classical.byContradiction fun hc=>?_
   have hend:=end_in (by omega) h hk (show k<=k by omega) (sO (by omega) h hk).2.1
   obtain ⟨c,M,hM⟩:=aAY h hk
   have he:=aGR (by omega) hM
   have hl:=hM.len
   obtain ⟨hT,post,hd⟩:=hM
   cases hT with
   |leaf hk'=>obtain ⟨_,e,_⟩:=eA hd;rw [e] at h2;unfold arN at h2;simp only at h2;split at h2<;>(try split at h2)<;>omega
   |var hv=>obtain ⟨_,e,_⟩:=eA hd;rw [e] at h2;unfold arN at h2;simp at h2
   |@bin _ kd L M' hk' hL hM'=>
    obtain ⟨_,e,d⟩:=eA hd
    have hL':At f (k+1) c L:=⟨hL,M'++post,d.trans (List.append_assoc L M' post)⟩
    have:=aGR (by omega) hL'
    rw [List.length_cons,List.length_append] at hl
    have:=hM'.pos
    omega
   |mod hk'=>obtain ⟨_,e,_⟩:=eA hd;rw [e] at h2;unfold arN at h2;simp only at h2;split at h2<;>(try split at h2)<;>omega
   |fix hk'=>obtain ⟨_,e,_⟩:=eA hd;rw [e] at h2;unfold arN at h2;simp only at h2;split at h2<;>(try split at h2)<;>omega
  have e2:=sO (by omega) h hk2
  rw [h2,fY (s':=([((k+1:Nat):Int)],(pQ f (k+1):Int),1)) (by
   show bX f ((2:Nat):Int) [] _ 0=_
   unfold bX
   rw [if_pos (by simp),cG (by simp [iE]),aA,e1.1,aA,bT (by omega) (by omega)]
   rfl),fY (s':=([((k+1:Nat):Int),(pQ f (k+1):Int)],(pQ f (pQ f (k+1)):Int),2)) (by
   show bX f ((2:Nat):Int) [((k+1:Nat):Int)] _ 1=_
   unfold bX
   rw [if_pos (by simp),cG (by simp [iE]),aA,e2.1,aA,bT (by omega) (by omega)]
   rfl),fP (r:=[((k+1:Nat):Int),(pQ f (k+1):Int)]) (by
   show bX f ((2:Nat):Int) _ _ 2=_
   unfold bX
   rw [if_neg (by simp)]),aA] at hop
  exact ⟨hk1,(Option.some.inj hop).symm⟩
noncomputable def aJS (f:List aT) (k:Nat):Nat->Bool
 |0=>false
 |i+1=>if (rM (dG f i)&&decide (k < pQ f i))=true then decide ((dG f i).Kind=8) else aJS f k i
theorem ug_inn (hf:f.length<=30) (h:Tm b f) {k:Nat} (hk:k < f.length):ugF f k=aJS f k (k+1):=by
 have key:∀ n:Nat,n<=k+1->(ob (loop (fun s:Int=>dA f (k:Int) s) ((n:Int) - 1)) fun r=>match r with|.inl r=>yU|.inr r=>some r)=some (aJS f k n):=by
  intro n
  induction n with
  |zero=>
   intro _
   rw [fP (r:=.inl ()) (by
    show dA f (k:Int) _=_
    unfold dA
    rw [if_neg (by simp)]),aA]
   rfl
  |succ n ih=>
   intro hn
   have ih:=ih (by omega)
   have e1:=(sO (by omega) h (show n < f.length by omega)).1
   rw [show ((n+1:Nat):Int) - 1=(n:Int) by omega]
   have hst:dA f (k:Int) (n:Int)=if (rM (dG f n)&&decide (k < pQ f n))=true then some (.inr (.inr (decide ((dG f n).Kind=8)))) else some (.inl ((n:Int) - 1)):=by
    have hj:∀ v:Bool,gE f (n:Int) v=if v=true then some (.inr (.inr (decide ((dG f n).Kind=8)))) else some (.inl ((n:Int) - 1)):=fun v=>by
     unfold gE
     cases v with
     |false=>rw [if_neg (by simp),if_neg (by simp),bT (x:=(n:Int) - 1) (by omega) (by omega)]
     |true=>
      rw [if_pos rfl,if_pos rfl,kH (by omega),aA]
      by_cases h8:(dG f n).Kind=8<;>simp [h8]
    unfold dA
    rw [if_pos (by simp),kH (by omega),aA,rJ,aA,e1,aA,hj,hj]
    unfold rM
    by_cases hx:(dG f n).Kind=7\/(dG f n).Kind=8
    ·rw [if_pos (by simpa using hx),decide_eq_true hx,Bool.true_and]
     by_cases hd:k < pQ f n
     ·rw [if_pos (by rw [decide_eq_true_iff];omega),if_pos (by simpa using hd)]
     ·rw [if_neg (by rw [decide_eq_true_iff];omega),if_neg (by simpa using hd)]
    ·rw [if_neg (by simpa using hx),decide_eq_false hx,Bool.false_and,if_neg (by simp)]
   have hin:aJS f k (n+1)=if (rM (dG f n)&&decide (k < pQ f n))=true then decide ((dG f n).Kind=8) else aJS f k n:=rfl
   rw [hin]
   by_cases hc:(rM (dG f n)&&decide (k < pQ f n))=true
   ·rw [if_pos hc] at hst ⊢
    rw [fP (r:=.inr (decide ((dG f n).Kind=8))) hst,aA]
   ·rw [if_neg hc] at hst ⊢
    rw [fY (s':=(n:Int) - 1) hst]
    exact ih
 have:=key (k+1) (Nat.le_refl _)
 rw [show ((k+1:Nat):Int) - 1=(k:Int) by omega] at this
 have e:jN f (k:Int)=some (aJS f k (k+1)):=this
 unfold ugF
 rw [e]
 rfl
theorem aNR (hf:f.length<=30) (h:Tm b f) {k:Nat} (hk:k < f.length):xV f (k:Int)=some (ugF f k):=by
 rw [ug_inn hf h hk]
 have key:=dO (step:=fun s:Bool × Int=>kD f (k:Int) s.1 s.2) (k+1) (fun i (q:Bool)=>(q,(i:Int))) (fun i q=>q=aJS f k i) (fun r=>r=aJS f k (k+1)) (fun i q hi hI=>?_) (fun q hI=>?_) (k+1) 0 false (by omega) rfl
 ·obtain ⟨r,e1,e2⟩:=key
  have e1':loop (fun s:Bool × Int=>kD f (k:Int) s.1 s.2) (false,0)=some r:=e1
  unfold xV
  rw [e1',aA,e2]
  rfl
 ·subst hI
  refine ⟨aJS f k (i+1),?_,rfl⟩
  show kD f (k:Int) (aJS f k i) (i:Int)=some (.inl (aJS f k (i+1),((i+1:Nat):Int)))
  have hin:aJS f k (i+1)=if (rM (dG f i)&&decide (k < pQ f i))=true then decide ((dG f i).Kind=8) else aJS f k i:=rfl
  have hj:∀ v:Bool,sI f (aJS f k i) (i:Int) v=some (.inl (if v=true then decide ((dG f i).Kind=8) else aJS f k i,((i+1:Nat):Int))):=fun v=>by
   unfold sI sH
   rw [bQ hi (by omega),kH (by omega),aA]
   cases v with
   |false=>rfl
   |true=>
    rw [if_pos rfl,if_pos rfl]
    by_cases h8:(dG f i).Kind=8<;>simp [h8]
  unfold kD
  rw [if_pos (by rw [decide_eq_true_iff];omega),kH (by omega),aA,aFb,aA,aIV (by omega) h (show i < f.length by omega),aA,hj,hj,hin]
  cases hx:rM (dG f i) with
  |false=>simp
  |true=>
   rw [if_pos rfl,Bool.true_and]
   by_cases hd:k < pQ f i
   ·rw [if_pos (by rw [decide_eq_true_iff];omega),if_pos (by simpa using hd)]
   ·rw [if_neg (by rw [decide_eq_true_iff];omega),if_neg (by simpa using hd)]
 ·refine ⟨q,?_,hI⟩
  show kD f (k:Int) q ((k+1:Nat):Int)=_
  unfold kD
  rw [if_neg (by rw [decide_eq_true_iff];omega)]
end
end Gv
set_option linter.unusedVariables false
set_option linter.unusedSimpArgs false
namespace Gv
open Go
section
variable {f:List aT} {b:List Int} {t:cN}
theorem aRn {n:Int}:∀ l:List Int,(aJN n l).length<=l.length+1
 |[]=>by simp [aJN]
 |x::l=>by
  have ih:=aRn (n:=n) l
  unfold aJN
  split
  ·simp
  ·split
   ·simp
   ·simp only [List.length_cons];omega
theorem at_pos (ht:cM t) {o y:Int} (ho:0<=o/\o<=1000) (hy:inT t y):wr (wr (o * t.N)+y)=o * t.N+y:=by
 have h1:=ht.1
 unfold inT at hy
 have h2:0<=o * t.N:=Int.mul_nonneg ho.1 (by omega)
 have h3:o * t.N<=1000 * 40:=Int.mul_le_mul ho.2 h1.2 (by omega) (by omega)
 rw [bT (x:=o * t.N) (by omega) (by omega),bT (by omega) (by omega)]
theorem aRo (hf:FOk f) (h:Tm b f) (ht:cM t) (hlab:aGh t) {k:Nat} (hk:k < f.length) {x:Int} (hx:inT t x):∃ T,aBu f t (k:Int) x=some T/\T.length<=400/\∀ w,w∈T<->w∈nxF f t k x:=by
 have hlen:=hf.len
 have h300:=ht.2.2.2.1
 have hkd:=aPe h hk
 obtain ⟨o0,o1,o2⟩:=ops_exact hf h hk
 have hw1:wr ((k:Int)+1)=((k+1:Nat):Int):=bQ hk (by omega)
 have hone:∀ y,inT t y->wr (wr (wr ((k:Int)+1) * t.N)+y)=((k+1:Nat):Int) * t.N+y:=fun y hy=>by
  rw [hw1,at_pos ht ⟨by omega,by omega⟩ hy]
 unfold aBu
 rw [kH hk,aA]
 by_cases h23:(dG f k).Kind=2\/(dG f k).Kind=3
 ·have ha:arN (dG f k)=2:=by unfold arN;rw [if_pos h23]
  obtain ⟨hk1,ho⟩:=o2 ha
  have hend:=sO (by omega) h hk1
  have hj:rG f t (k:Int) x (dG f k) true=some [((k+1:Nat):Int) * t.N+x,(pQ f (k+1):Int) * t.N+x]:=by
   unfold rG mJ
   rw [if_pos rfl,hone x hx,hw1,aIV (by omega) h hk1,aA,at_pos ht ⟨by omega,by omega⟩ hx,cG (by simp [iE]),aA]
   rfl
  refine ⟨[((k+1:Nat):Int) * t.N+x,(pQ f (k+1):Int) * t.N+x],?_,by simp,fun w=>?_⟩
  ·rcases h23 with e|e
   ·rw [if_pos (by simpa using e),show ((dG f k).Kind == 2)=true by simpa using e];exact hj
   ·rw [if_neg (by rw [e];decide),show ((dG f k).Kind == 3)=true by simpa using e];exact hj
  ·unfold nxF
   rw [if_neg (by omega),if_neg (by omega),ho]
   rfl
 ·rw [if_neg (by simp;omega),show ((dG f k).Kind == 3)=false by simp;omega]
  unfold rG
  rw [if_neg (by simp)]
  by_cases h45:(dG f k).Kind=4\/(dG f k).Kind=5
  ·have ha:arN (dG f k)=1:=by unfold arN;rw [if_neg h23,if_pos (by omega)]
   obtain ⟨hk1,ho⟩:=o1 ha
   have hlb:=hf.lab k hk
   have key:=dO (step:=fun s:List Int × Int=>oI t (k:Int) x (dG f k) s.1 s.2) t.E.length (fun i (q:List Int)=>(q,(i:Int)))
    (fun i q=>q.length<=i/\∀ w,w∈q<->∃ e∈t.E.take i,e.F=x/\aMo (dG f k) (txt t e)=true/\w=((k+1:Nat):Int) * t.N+e.To)
    (fun r=>r.length<=300/\∀ w,w∈r<->∃ e∈t.E,e.F=x/\aMo (dG f k) (txt t e)=true/\w=((k+1:Nat):Int) * t.N+e.To) (fun i q hi hI=>?_) (fun q hI=>?_) t.E.length 0 [] (by omega) ⟨by simp,by simp⟩
   ·obtain ⟨T,e1,e2,e3⟩:=key
    have e1':loop (fun s:List Int × Int=>oI t (k:Int) x (dG f k) s.1 s.2) (([]:List Int),0)=some T:=e1
    have hj:rF f t (k:Int) x (dG f k) true=some T:=by
     unfold rF
     rw [if_pos rfl,e1',aA]
     rfl
    refine ⟨T,?_,by omega,fun w=>?_⟩
    ·rcases h45 with e|e
     ·rw [if_pos (by simpa using e),show ((dG f k).Kind == 4)=true by simpa using e];exact hj
     ·rw [if_neg (by rw [e];decide),show ((dG f k).Kind == 5)=true by simpa using e];exact hj
    ·rw [e3]
     unfold nxF
     rw [if_pos h45,ho,List.mem_map]
     constructor
     ·rintro ⟨e,he,g1,g2,rfl⟩
      exact ⟨e,List.mem_filter.2 ⟨List.mem_filter.2 ⟨he,by simpa using g1⟩,g2⟩,rfl⟩
     ·rintro ⟨e,he,rfl⟩
      obtain ⟨g1,g2⟩:=List.mem_filter.1 he
      obtain ⟨g3,g4⟩:=List.mem_filter.1 g1
      exact ⟨e,g3,by simpa using g4,g2,rfl⟩
   ·obtain ⟨h1,h2⟩:=hI
    have he:=List.getElem_mem hi
    have heT:=aLs ht he
    have hsl:=hlab _ (txt_in ht he)
    have htk:∀ (P:Edge->Prop),(∃ e∈t.E.take (i+1),P e)<->(∃ e∈t.E.take i,P e)\/P t.E[i]:=fun P=>by
     rw [List.take_succ_eq_append_getElem hi]
     constructor
     ·rintro ⟨e,he,hp⟩
      rcases List.mem_append.1 he with he|he
      ·exact .inl ⟨e,he,hp⟩
      ·rw [List.mem_singleton] at he;subst he;exact .inr hp
     ·rintro (⟨e,he,hp⟩|hp)
      ·exact ⟨e,List.mem_append_left _ he,hp⟩
      ·exact ⟨_,List.mem_append_right _ (List.mem_singleton.2 rfl),hp⟩
    have hj3:∀ o,uM (i:Int) o=some (.inl (o,((i+1:Nat):Int))):=fun o=>by
     unfold uM
     rw [bQ hi (by omega)]
    show ∃ q',oI t (k:Int) x (dG f k) q (i:Int)=some (.inl (q',((i+1:Nat):Int)))/\_
    unfold oI
    rw [if_pos (bV hi),bS hi,aA]
    by_cases hfr:t.E[i].F=x
    ·rw [if_pos (by simpa using hfr),aQL (aIO ht he),aA,aOn hlb hsl.2 hsl.1,aA]
     unfold uN
     cases hsel:aMo (dG f k) (txt t t.E[i]) with
     |true=>
      rw [if_pos rfl,hone _ heT.2.1,put_eq _ _ (by omega),aA,hj3]
      refine ⟨_,rfl,by have:=aRn (n:=((k+1:Nat):Int) * t.N+t.E[i].To) q;omega,fun w=>?_⟩
      rw [aQV,h2,htk]
      constructor
      ·rintro (rfl|h)
       ·exact .inr ⟨hfr,hsel,rfl⟩
       ·exact .inl h
      ·rintro (h|h)
       ·exact .inr h
       ·exact .inl h.2.2
     |false=>
      rw [if_neg (by simp),hj3]
      refine ⟨_,rfl,by omega,fun w=>?_⟩
      rw [h2,htk]
      constructor
      ·exact .inl
      ·rintro (h|h)
       ·exact h
       ·rw [hsel] at h;exact absurd h.2.1 (by simp)
    ·rw [if_neg (by simpa using hfr)]
     unfold uN
     rw [if_neg (by simp),hj3]
     refine ⟨_,rfl,by omega,fun w=>?_⟩
     rw [h2,htk]
     constructor
     ·exact .inl
     ·rintro (h|h)
      ·exact h
      ·exact absurd h.1 hfr
   ·refine ⟨q,?_,by omega,fun w=>by rw [hI.2,List.take_length]⟩
    show oI t (k:Int) x (dG f k) q (t.E.length:Int)=_
    unfold oI
    rw [if_neg (by simp)]
  ·rw [if_neg (by simp;omega),show ((dG f k).Kind == 5)=false by simp;omega]
   unfold rF
   rw [if_neg (by simp)]
   by_cases h6:(dG f k).Kind=6
   ·have hb:=hf.bnd k hk h6
    rw [if_pos (by simpa using h6),aKN hlen.2 h hk,hb.1,aA,at_pos ht ⟨hb.2.1,by omega⟩ hx,cG (by simp [iE]),aA]
    refine ⟨_,rfl,by simp,fun w=>?_⟩
    unfold nxF
    rw [if_neg h45,if_pos h6]
    rfl
   ·rw [if_neg (by simpa using h6)]
    by_cases h78:(dG f k).Kind=7\/(dG f k).Kind=8
    ·have ha:arN (dG f k)=1:=by unfold arN;rw [if_neg h23,if_pos (by omega)]
     obtain ⟨hk1,ho⟩:=o1 ha
     have hj:uO t (k:Int) x true=some [((k+1:Nat):Int) * t.N+x]:=by
      unfold uO mJ
      rw [if_pos rfl,hone x hx,cG (by simp [iE]),aA]
      rfl
     refine ⟨[((k+1:Nat):Int) * t.N+x],?_,by simp,fun w=>?_⟩
     ·rcases h78 with e|e
      ·rw [if_pos (by simpa using e),show ((dG f k).Kind == 7)=true by simpa using e];exact hj
      ·rw [if_neg (by rw [e];decide),show ((dG f k).Kind == 8)=true by simpa using e];exact hj
     ·unfold nxF
      rw [if_neg h45,if_neg h6,ho]
      rfl
    ·have ha:arN (dG f k)=0:=by unfold arN;rw [if_neg h23,if_neg (by omega)]
     rw [if_neg (by simp;omega),show ((dG f k).Kind == 8)=false by simp;omega]
     unfold uO mJ
     rw [if_neg (by simp)]
     refine ⟨_,rfl,by simp,fun w=>?_⟩
     unfold nxF
     rw [if_neg h45,if_neg h6,o0 ha]
     rfl
end
end Gv
set_option linter.unusedVariables false
set_option linter.unusedSimpArgs false
namespace Gv
open Go
section
variable {f:List aT} {b:List Int} {t:cN}
theorem sp_row {T:List Int} {n:Nat} (hT:∀ w∈T,0<=w/\w < (n:Int)) (hl:T.length<=400) (hn:n<=10000) {V:List Int} (hV:V.length<=10000) {m:List Bool} (hml:m.length=n) (hm:∀ w,On m w<->w∈V):
  ∃ m',loop (fun s:List Bool × List Int × Int=>mK T s.1 s.2.1 s.2.2) (m,V,0)=some (m',T.foldl mO V)/\m'.length=n/\∀ w,On m' w<->w∈T.foldl mO V:=by
 have key:=dO (step:=fun s:List Bool × List Int × Int=>mK T s.1 s.2.1 s.2.2) T.length (fun i (q:List Bool × List Int)=>(q.1,q.2,(i:Int)))
  (fun i q=>q.2=(T.take i).foldl mO V/\q.1.length=n/\(∀ w,On q.1 w<->w∈(T.take i).foldl mO V)/\((T.take i).foldl mO V).length<=V.length+i)
  (fun r=>r.2=T.foldl mO V/\r.1.length=n/\∀ w,On r.1 w<->w∈T.foldl mO V) (fun i q hi hI=>?_) (fun q hI=>?_) T.length 0 (m,V) (by omega) ⟨rfl,hml,hm,by simp⟩
 ·obtain ⟨r,e1,e2,e3,e4⟩:=key
  have e1':loop (fun s:List Bool × List Int × Int=>mK T s.1 s.2.1 s.2.2) (m,V,0)=some r:=e1
  exact ⟨r.1,by rw [e1',←e2],e3,e4⟩
 ·obtain ⟨m1,P⟩:=q
  obtain ⟨h1,h2,h3,h4⟩:=hI
  simp only at h1 h2 h3 h4
  subst h1
  generalize hA:(T.take i).foldl mO V=A at h3 h4
  have hw:=hT _ (List.getElem_mem hi)
  have htk:(T.take (i+1)).foldl mO V=mO A T[i]:=by rw [List.take_succ_eq_append_getElem hi,List.foldl_append,hA];rfl
  rw [htk]
  show ∃ q:List Bool × List Int,mK T m1 A (i:Int)=some (.inl (q.1,q.2,((i+1:Nat):Int)))/\_
  have hj:∀ m P,uP (i:Int) m P=some (.inl (m,P,((i+1:Nat):Int))):=fun m P=>by
   unfold uP
   rw [bQ hi (by omega)]
  unfold mK
  rw [if_pos (bV hi),bS hi,aA,ixOn hw.1 (by rw [h2];exact hw.2),aA]
  unfold mO
  by_cases hin:T[i]∈A
  ·rw [if_neg (by simpa using (h3 _).2 hin),hj,if_pos hin]
   exact ⟨(_,_),rfl,rfl,h2,h3,by omega⟩
  ·have hno:¬ On m1 T[i]:=fun h=>hin ((h3 _).1 h)
   unfold st
   rw [if_pos (by simpa using hno),if_pos ⟨hw.1,by omega⟩,aA,cG (by simp only [List.length_singleton];unfold iE;omega),aA,hj,if_neg hin]
   refine ⟨(_,_),rfl,rfl,by simpa using h2,fun w=>?_,by rw [List.length_append,List.length_singleton];omega⟩
   rw [set_on hw.1 (by omega),h3,List.mem_append,List.mem_singleton]
 ·refine ⟨(q.1,q.2),?_,?_,hI.2.1,?_⟩
  ·show mK T q.1 q.2 (T.length:Int)=_
   unfold mK
   rw [if_neg (by simp)]
  ·have:=hI.1;rw [List.take_length] at this;exact this
  ·have:=hI.2.2.1;rw [List.take_length] at this;exact this
theorem sp_all (hf:FOk f) (h:Tm b f) (ht:cM t) (hlab:aGh t) (hg:GOk (gR f t f.length)) {s:Int}:∀ (n i:Nat) (V:List Int) (m:List Bool),i<=V.length->(gR f t f.length).length+1<=n+i->V.Nodup->s∈V->(∀ v∈V,RchF (gR f t f.length) s v/\uZ (gR f t f.length) v)->m.length=(gR f t f.length).length->(∀ w,On m w<->w∈V)->(∀ j,j < i->∀ w∈(vx (gR f t f.length) (V.getD j 0)).Next,w∈V)->
  ∃ (V':List Int) (m':List Bool),loop (fun q:List Bool × List Int × Int=>oK f t q.1 q.2.1 q.2.2) (m,V,(i:Int))=some m'/\V'.Nodup/\s∈V'/\(∀ v∈V',RchF (gR f t f.length) s v/\uZ (gR f t f.length) v)/\(∀ v∈V',∀ w∈(vx (gR f t f.length) v).Next,w∈V')/\m'.length=(gR f t f.length).length/\∀ w,On m' w<->w∈V':=by
 have hgl:=hg.len
 have hlen:=hf.len
 have h1S:=ht.1
 intro n
 induction n with
 |zero=>
  intro i V m hi hn hnd hs hr hml hm hc
  exfalso
  have:=List.Nodup.length_le_of_subset (l₂:=(List.range (gR f t f.length).length).map fun (i:Nat)=>(i:Int)) hnd (fun w hw=>by
   have:=(hr w hw).2
   unfold uZ at this
   rw [List.mem_map]
   exact ⟨w.toNat,List.mem_range.2 (by omega),by omega⟩)
  rw [List.length_map,List.length_range] at this
  omega
 |succ n ih=>
  intro i V m hi hn hnd hs hr hml hm hc
  have hVl:V.length<=(gR f t f.length).length:=by
   have:=List.Nodup.length_le_of_subset (l₂:=(List.range (gR f t f.length).length).map fun (i:Nat)=>(i:Int)) hnd (fun w hw=>by
    have:=(hr w hw).2
    unfold uZ at this
    rw [List.mem_map]
    exact ⟨w.toNat,List.mem_range.2 (by omega),by omega⟩)
   rwa [List.length_map,List.length_range] at this
  by_cases h1:i < V.length
  ·have hvi:V.getD i 0=V[i]:=by rw [List.getD_eq_getElem?_getD,List.getElem?_eq_getElem h1];rfl
   have hv:=hr _ (List.getElem_mem h1)
   obtain ⟨x,hx,hk,e⟩:=sP ht hv.2
   obtain ⟨T,eT,hTl,hTm⟩:=aRo hf h ht hlab hk hx
   have hTn:∀ w,w∈T<->w∈(vx (gR f t f.length) V[i]).Next:=fun w=>by
    have hvx:=aGQ (f:=f) ht hk hx
    rw [←e] at hvx
    rw [hTm,hvx]
    exact aCn.symm
   have hvr:=hv.2
   unfold uZ at hvr
   obtain ⟨q1,q2⟩:=qu_pos (a:=V[i]) (b:=t.N) hvr.1 (by omega) (by omega)
   have hdiv:V[i] / t.N=((bR t V[i]:Nat):Int):=by
    unfold bR
    rw [Int.natCast_ediv,show ((V[i].toNat:Nat):Int)=V[i] by omega,show ((t.N.toNat:Nat):Int)=t.N by omega]
   have hmod:V[i] % t.N=x:=by
    have:=Int.mul_ediv_add_emod V[i] t.N
    rw [hdiv,Int.mul_comm] at this
    omega
   obtain ⟨m',e1,hml',hm'⟩:=sp_row (T:=T) (n:=(gR f t f.length).length) (fun w hw=>hg.nx _ w ((hTn w).1 hw)) hTl (by omega) (V:=V) (by omega) hml hm
   obtain ⟨f1,f2,f3,f4⟩:=aIT T V hnd
   have hst:oK f t m V (i:Int)=some (.inl (m',T.foldl mO V,((i+1:Nat):Int))):=by
    unfold oK
    rw [if_pos (bV h1),bS h1,aA,q1,aA,q2,aA,hdiv,hmod,eT,aA,e1,aA]
    unfold aGA aDa
    rw [bQ h1 (by omega)]
   have hpre:∀ j,j < V.length->(T.foldl mO V).getD j 0=V.getD j 0:=fun j hj=>by
    obtain ⟨r,e⟩:=f1
    rw [←e,List.getD_eq_getElem?_getD,List.getD_eq_getElem?_getD,List.getElem?_append_left hj]
   obtain ⟨V',m2,g1,g2⟩:=ih (i+1) (T.foldl mO V) m' (by have:=f1.length_le;omega) (by omega) f2 ((f3 s).2 (.inl hs)) (fun v hv'=>by
     rcases (f3 v).1 hv' with h|h
     ·exact hr v h
     ·exact ⟨.step hv.1 ((hTn v).1 h),hg.nx _ v ((hTn v).1 h)⟩) hml' hm' (fun j hj w hw=>by
     rw [hpre j (by omega)] at hw
     by_cases hji:j < i
     ·exact (f3 w).2 (.inl (hc j hji w hw))
     ·obtain rfl:j=i:=by omega
      rw [hvi] at hw
      exact (f3 w).2 (.inr ((hTn w).2 hw)))
   refine ⟨V',m2,?_,g2⟩
   rw [fY (s':=(m',T.foldl mO V,((i+1:Nat):Int))) hst]
   exact g1
  ·refine ⟨V,m,fP ?_,hnd,hs,hr,fun v hv w hw=>?_,hml,hm⟩
   ·show oK f t m V (i:Int)=_
    unfold oK
    rw [if_neg (by rw [decide_eq_true_iff];omega)]
   ·obtain ⟨j,hj,rfl⟩:=List.getElem_of_mem hv
    have:V.getD j 0=V[j]:=by rw [List.getD_eq_getElem?_getD,List.getElem?_eq_getElem hj];rfl
    exact hc j (by omega) w (by rw [this];exact hw)
end
end Gv
set_option linter.unusedVariables false
set_option linter.unusedSimpArgs false
namespace Gv
open Go
section
variable {f:List aT} {b:List Int} {t:cN}
theorem count_eq (e:List bB) (h1:1<=e.length) (h:e.length<=1000):aEd e=some ((mP (grE e) (e.length - 1)+1:Nat):Int):=by
 have key:=dO (step:=fun s:Int × Int=>oJ e s.1 s.2) (e.length - 1) (fun i (q:Int)=>(q,((i+1:Nat):Int))) (fun i q=>q=((mP (grE e) i+1:Nat):Int)) (fun r=>r=((mP (grE e) (e.length - 1)+1:Nat):Int)) (fun i q hi hI=>?_) (fun q hI=>?_) (e.length - 1) 0 1 (by omega) rfl
 ·obtain ⟨r,e1,e2⟩:=key
  have e1':loop (fun s:Int × Int=>oJ e s.1 s.2) (1,1)=some r:=e1
  unfold aEd
  rw [e1',aA,e2]
  rfl
 ·subst hI
  refine ⟨((mP (grE e) (i+1)+1:Nat):Int),?_,rfl⟩
  show oJ e ((mP (grE e) i+1:Nat):Int) ((i+1:Nat):Int)=some (.inl (((mP (grE e) (i+1)+1:Nat):Int),((i+1+1:Nat):Int)))
  have hle:=aKM (grE e) i
  have hs:mP (grE e) (i+1)=mP (grE e) i+(if grE e (i+1)=grE e i then 0 else 1):=rfl
  unfold oJ xW
  rw [if_pos (by rw [decide_eq_true_iff];omega),ixE (show i+1 < e.length by omega),aA,bT (x:=((i+1:Nat):Int) - 1) (by omega) (by omega),show ((i+1:Nat):Int) - 1=(i:Int) by omega,ixE (show i < e.length by omega),aA,bQ (show i+1 < e.length by omega) (by omega),bT (x:=((mP (grE e) i+1:Nat):Int)+1) (by omega) (by omega)]
  by_cases hg:grE e (i+1)=grE e i
  ·have hg':(eqA e (i+1)).Greatest=(eqA e i).Greatest:=hg
   rw [hg',if_neg (by simp),hs,if_pos hg]
  ·have hg':(eqA e (i+1)).Greatest≠(eqA e i).Greatest:=hg
   rw [if_pos (by simpa using hg'),hs,if_neg hg]
   rfl
 ·refine ⟨q,?_,hI⟩
  show oJ e q ((e.length - 1+1:Nat):Int)=_
  unfold oJ
  rw [if_neg (by rw [decide_eq_true_iff];omega)]
theorem same_srt {V R:List Int} (hV:V.Nodup) (hR:R.Pairwise (· < ·)) (hm:∀ v,v∈R<->v∈V):R=srt iLt V:=by
 have h1:aKJ R (·∈V):=⟨hR,hm⟩
 exact h1.eq (aGM hV)
theorem spec_make (hf:FOk f) (h:Tm b f) (ht:cM t) (hlab:aGh t) {V:List Int} (hnd:V.Nodup) (hs:t.I∈V) (hr:∀ v∈V,RchF (gR f t f.length) t.I v/\uZ (gR f t f.length) v) (hc:V.length<=120->∀ v∈V,∀ w∈(vx (gR f t f.length) v).Next,w∈V):
  ∃ e p,aDv f t=some (e,p,decide (V.length<=120/\mP (grE (oU f t (srt iLt V))) (V.length - 1) < 9)):=by
 have hS:=ht.1
 have hI:=ht.2.1
 have hlen:=hf.len
 obtain ⟨hg,hg1⟩:=aLu hf ht (by omega) hlab
 have hgl:=hg.len
 have hgn:(gR f t f.length).length=f.length * t.N.toNat:=yN f t f.length
 have hin:=(hr _ hs).2
 have hmul:(f.length:Int) * t.N=((f.length * t.N.toNat:Nat):Int):=by rw [Int.natCast_mul,show ((t.N.toNat:Nat):Int)=t.N by omega]
 have hIr:=hin
 unfold uZ at hIr
 have hmk:mkz (wr ((f.length:Int) * t.N)) false=some (List.replicate (gR f t f.length).length false):=by
  rw [hmul,←hgn,bT (by omega) (by omega),aBx _ (by unfold iE;omega)]
 have hix:ix (List.replicate (gR f t f.length).length false) t.I=some false:=by
  unfold ix
  rw [if_pos hIr.1,List.getElem?_replicate,if_pos (by omega)]
 have hst:st (List.replicate (gR f t f.length).length false) t.I true=some ((List.replicate (gR f t f.length).length false).set t.I.toNat true):=by
  unfold st
  rw [if_pos ⟨hIr.1,by rw [List.length_replicate];omega⟩]
 obtain ⟨L,m,e1,h1,h2,h3,h4,h5,h6⟩:=sp_all hf h ht hlab hg (s:=t.I) ((gR f t f.length).length+1) 0 [t.I] ((List.replicate (gR f t f.length).length false).set t.I.toNat true) (by simp) (by omega) (by simp) (by simp) (fun v hv=>by
  rw [List.mem_singleton] at hv
  subst hv
  exact ⟨.base,hin⟩) (by simp) (fun w=>by
  rw [set_on hIr.1 (by rw [List.length_replicate];omega),List.mem_singleton]
  constructor
  ·rintro (hw|hw)
   ·have h7:=hw.2
    rw [List.getD_eq_getElem?_getD,List.getElem?_replicate] at h7
    split at h7<;>cases h7
   ·exact hw
  ·exact .inr) (fun j hj=>by omega)
 have hRm:∀ v,v∈onL m<->v∈L:=fun v=>by rw [tQ,h6]
 have hRs:(onL m).Pairwise (· < ·):=by
  unfold onL
  have:((List.range m.length).filter fun k=>m.getD k false).Pairwise (· < ·):=List.pairwise_lt_range.filter _
  exact List.pairwise_map.2 (this.imp fun h=>by omega)
 have hVL:∀ v∈V,v∈L:=fun v hv=>by
  have:∀ {w},RchF (gR f t f.length) t.I w->w∈L:=fun {w} hw=>by
   induction hw with
   |base=>exact h2
   |step _ hw ih=>exact h4 _ ih _ hw
  exact this (hr v hv).1
 have hl14:aDu m=some (onL m):=by
  rw [list_eq (by omega)]
  rfl
 have hRl:(onL m).length<=(gR f t f.length).length:=by
  have:=List.Nodup.length_le_of_subset (l₂:=(List.range (gR f t f.length).length).map fun (i:Nat)=>(i:Int)) (aLt m) (fun w hw=>by
   have:=(h3 w ((hRm w).1 hw)).2
   unfold uZ at this
   rw [List.mem_map]
   exact ⟨w.toNat,List.mem_range.2 (by omega),by omega⟩)
  rwa [List.length_map,List.length_range] at this
 have hge:V.length<=(onL m).length:=List.Nodup.length_le_of_subset hnd fun v hv=>(hRm v).2 (hVL v hv)
 unfold aDv
 have e1':loop (fun s:List Bool × List Int × Int=>oK f t s.1 s.2.1 s.2.2) ((List.replicate (gR f t f.length).length false).set t.I.toNat true,([t.I]:List Int),0)=some m:=e1
 rw [hmk,aA,hix,aA,hst,aA,e1',aA]
 unfold aCZ
 rw [hl14,aA]
 by_cases h120:120 < V.length
 ·rw [if_pos (by rw [decide_eq_true_iff];omega),decide_eq_false (by omega)]
  exact ⟨_,_,rfl⟩
 ·have hLV:∀ v,v∈onL m<->v∈V:=fun v=>by
   rw [hRm]
   refine ⟨fun hv=>?_,hVL v⟩
   have:∀ {w},RchF (gR f t f.length) t.I w->w∈V:=fun {w} hw=>by
    induction hw with
    |base=>exact hs
    |step _ hw ih=>exact hc (by omega) _ ih _ hw
   exact this (h3 v hv).1
  have hR:=same_srt hnd hRs hLV
  have hsl:(srt iLt V).length=V.length:=List.length_mergeSort _
  have hV1:1<=V.length:=List.length_pos_of_mem hs
  rw [hR,if_neg (by rw [decide_eq_true_iff,hsl];omega)]
  generalize hN:srt iLt V=N at hsl
  have hNin:∀ v∈N,uZ (gR f t f.length) v:=fun v hv=>(hr v (by rw [←hN] at hv;unfold srt at hv;rwa [List.mem_mergeSort] at hv)).2
  have key:=dO (step:=fun s:List bB × Int=>qW f t N s.1 s.2) N.length (fun i (q:List bB)=>(q,(i:Int))) (fun i q=>q.length=i/\∀ j,j < i->(eqA q j).Greatest=ugF f (bR t (N.getD j 0)))
   (fun r=>r.length=N.length/\∀ j,j < N.length->(eqA r j).Greatest=ugF f (bR t (N.getD j 0))) (fun i q hi hI=>?_) (fun q hI=>?_) N.length 0 [] (by omega) ⟨rfl,fun j hj=>by omega⟩
  ·obtain ⟨out,g1,g2,g3⟩:=key
   have g1':loop (fun s:List bB × Int=>qW f t N s.1 s.2) (([]:List bB),0)=some out:=g1
   have hblk:∀ j,j < N.length->mP (grE out) j=mP (grE (oU f t N)) j:=by
    have hgr:∀ j,j < N.length->grE out j=grE (oU f t N) j:=fun j hj=>by
     unfold grE
     rw [g3 j hj,aNP hj]
     rfl
    intro j
    induction j with
    |zero=>intro _;rfl
    |succ j ih=>
     intro hj
     show mP _ j+_=mP _ j+_
     rw [ih (by omega),hgr (j+1) (by omega),hgr j (by omega)]
   rw [g1',aA]
   unfold aGz
   rw [count_eq _ (by omega) (by omega),aA,g2,hblk _ (by omega),hsl]
   refine ⟨out,N,?_⟩
   rw [decide_eq_decide.2 (show _<->(V.length<=120/\mP (grE (oU f t N)) (V.length - 1) < 9) by omega)]
  ·obtain ⟨h7,h8⟩:=hI
   have hv:=hNin _ (List.getElem_mem hi)
   obtain ⟨x,hx,hk,e⟩:=sP ht hv
   obtain ⟨T,eT,hTl,hTm⟩:=aRo hf h ht hlab hk hx
   have hvr:=hv
   unfold uZ at hvr
   obtain ⟨q1,q2⟩:=qu_pos (a:=N[i]) (b:=t.N) hvr.1 (by omega) (by omega)
   have hdiv:N[i] / t.N=((bR t N[i]:Nat):Int):=by
    unfold bR
    rw [Int.natCast_ediv,show ((N[i].toNat:Nat):Int)=N[i] by omega,show ((t.N.toNat:Nat):Int)=t.N by omega]
   have hmod:N[i] % t.N=x:=by
    have:=Int.mul_ediv_add_emod N[i] t.N
    rw [hdiv,Int.mul_comm] at this
    omega
   have hgi:N.getD i 0=N[i]:=by rw [List.getD_eq_getElem?_getD,List.getElem?_eq_getElem hi];rfl
   have pl:=aDw (step:=fun s:List Int × Int=>tK N T s.1 s.2) T (pos N) (fun r=>r) (fun k out w hk ho hw=>by
    show tK N T out (k:Int)=_
    unfold tK
    rw [if_pos (bV hk),hw,aA,aQQ _ _ (by omega),aA,cG (by simp only [List.length_singleton];unfold iE;omega),aA,bQ hk (by omega)]) (fun out=>by
    show tK N T out (T.length:Int)=_
    unfold tK
    rw [if_neg (by simp)])
   have hj5:∀ a:Bool,∃ q',tL N q (i:Int) T (ugF f (bR t N[i])) a=some (.inl (q',((i+1:Nat):Int)))/\q'.length=i+1/\∀ j,j < i+1->(eqA q' j).Greatest=ugF f (bR t (N.getD j 0)):=fun a=>by
    unfold tL
    rw [pl,aA]
    unfold aCY aCX
    rw [cG (by simp only [List.length_singleton];unfold iE;omega),aA,bQ hi (by omega)]
    refine ⟨_,rfl,by rw [List.length_append,List.length_singleton,h7],fun j hj=>?_⟩
    unfold eqA at h8 ⊢
    rw [List.getD_eq_getElem?_getD]
    by_cases hji:j < i
    ·rw [List.getElem?_append_left (by omega),←List.getD_eq_getElem?_getD]
     exact h8 j hji
    ·obtain rfl:j=i:=by omega
     rw [List.getElem?_append_right (by omega),h7,Nat.sub_self,hgi]
     rfl
   show ∃ q',qW f t N q (i:Int)=some (.inl (q',((i+1:Nat):Int)))/\_
   unfold qW
   rw [if_pos (bV hi),bS hi,aA,q1,aA,q2,aA,hdiv,hmod,eT,aA,aNR hlen.2 h hk,aA,kH hk,aA]
   split
   ·exact hj5 _
   ·split
    ·exact hj5 _
    ·exact hj5 _
  ·refine ⟨q,?_,by rw [hI.1],hI.2⟩
   show qW f t N q (N.length:Int)=_
   unfold qW
   rw [if_neg (by simp)]
end
end Gv
set_option linter.unusedVariables false
set_option linter.unusedSimpArgs false
namespace Gv
open Go
section
variable {f:List aT} {b:List Int} {t:cN}
end
end Gv
set_option linter.unusedVariables false
set_option linter.unusedSimpArgs false
namespace Gv
open Go
structure aFc (n:aT):Prop where
 kind:0<=n.Kind/\n.Kind<=8
 modal:n.Kind=4\/n.Kind=5->PatOk n.B
 plain:¬ (n.Kind=4\/n.Kind=5)->n.B=[]/\n.Not=false
 isvar:n.Kind=6\/n.Kind=7\/n.Kind=8->0<=n.Variable/\n.Variable<=2
 novar:¬ (n.Kind=6\/n.Kind=7\/n.Kind=8)->n.Variable=0
theorem tm_widen {b:List Int} {L:List aT} (h:Tm b L):∀ {c:List Int},(∀ v∈b,v∈c)->Tm c L:=by
 induction h with
 |leaf hk=>intro c hc;exact .leaf hk
 |var hv hr=>intro c hc;exact .var (hc _ hv) hr
 |bin hk _ _ ih1 ih2=>intro c hc;exact .bin hk (ih1 hc) (ih2 hc)
 |mod hk hp _ ih=>intro c hc;exact .mod hk hp (ih hc)
 |fix hk hv _ ih=>intro c hc;exact .fix hk hv (ih fun v h=>by rw [List.mem_append] at h ⊢;exact h.imp (hc v) id)
def Cnt9:Nat->List aT->Prop
 |m,[]=>m=0
 |m,n::l=>1<=m/\Cnt9 (m - 1+arN n) l
inductive Tz9 (b:List Int):Nat->List aT->Prop
 |nil:Tz9 b 0 []
 |cons {m:Nat} {L M:List aT}:Tm b L->Tz9 b m M->Tz9 b (m+1) (L++M)
theorem aMx {b:List Int} {m:Nat} {l:List aT} (h:Tz9 b (m+1) l):∃ L M,l=L++M/\Tm b L/\Tz9 b m M:=by
 cases h with
 |cons h1 h2=>exact ⟨_,_,rfl,h1,h2⟩
theorem aRp:∀ (l:List aT) (m:Nat),(∀ n∈l,aFc n)->Cnt9 m l->Tz9 [0,1,2] m l
 |[],m,_,h=>by
  have:m=0:=h
  subst this
  exact .nil
 |n::l,m,hn,h=>by
  obtain ⟨h1,h2⟩:=h
  have ih:=aRp l _ (fun x hx=>hn x (List.mem_cons_of_mem _ hx)) h2
  obtain ⟨k,rfl⟩:∃ k,m=k+1:=⟨m - 1,by omega⟩
  have hk:=hn n List.mem_cons_self
  obtain ⟨kd,v,la,nt⟩:=n
  obtain ⟨g1,g2,g3,g4,g5⟩:=hk
  simp only at g1 g2 g3 g4 g5
  unfold arN at ih
  simp only at ih
  by_cases a2:kd=2\/kd=3
  ·rw [if_pos a2,show k+1 - 1+2=k+1+1 by omega] at ih
   obtain ⟨L,M,rfl,t1,t2⟩:=(aMx ih)
   obtain ⟨L',M',rfl,t3,t4⟩:=(aMx t2)
   obtain ⟨e1,e2⟩:=g3 (by omega)
   have e3:=g5 (by omega)
   subst e1 e2 e3
   have:=Tz9.cons (Tm.bin a2 t1 t3) t4
   simpa [List.append_assoc] using this
  ·rw [if_neg a2] at ih
   by_cases a1:kd=4\/kd=5\/kd=7\/kd=8
   ·rw [if_pos a1,show k+1 - 1+1=k+1 by omega] at ih
    obtain ⟨L,M,rfl,t1,t2⟩:=(aMx ih)
    by_cases a4:kd=4\/kd=5
    ·have e3:=g5 (by omega)
     subst e3
     exact Tz9.cons (Tm.mod a4 (g2 a4) t1) t2
    ·obtain ⟨e1,e2⟩:=g3 (by omega)
     subst e1 e2
     exact Tz9.cons (Tm.fix (by omega) (g4 (by omega)) (tm_widen t1 fun x hx=>List.mem_append_left _ hx)) t2
   ·rw [if_neg a1,show k+1 - 1+0=k by omega] at ih
    obtain ⟨e1,e2⟩:=g3 (by omega)
    subst e1 e2
    by_cases a6:kd=6
    ·subst a6
     have hv:=g4 (by omega)
     exact Tz9.cons (L:=[_]) (Tm.var (by simp;omega) hv) ih
    ·have e3:=g5 (by omega)
     subst e3
     exact Tz9.cons (L:=[_]) (Tm.leaf (by omega)) ih
theorem aRq {l:List aT} (hn:∀ n∈l,aFc n) (h:Cnt9 1 l):Tm [0,1,2] l:=by
 obtain ⟨L,M,rfl,t1,t2⟩:=aMx (aRp l 1 hn h)
 cases t2 with
 |nil=>simpa using t1
end Gv
set_option linter.unusedVariables false
set_option linter.unusedSimpArgs false
namespace Gv
open Go
def patB (l:aJ):Bool:=l == []||rK l||(l.getLast? == some (42:UInt8)&&aBg l.dropLast)
theorem ipat_eq {l:aJ} (h:l.length < 1000):sT l=some (patB l):=by
 unfold sT pF patB
 have h1:((if (l.getLast? == some (42:UInt8))=true then (l.dropLast,true) else (l,false)).1:aJ).length < 1000:=by
  split
  ·show l.dropLast.length < 1000
   rw [List.length_dropLast];omega
  ·exact h
 rw [wW _ _ (by omega),aA,aGI _ (by omega),aA,aIu _ (by omega),aA]
 cases l == []<;>cases rK l<;>cases l.getLast? == some (42:UInt8)<;>simp
theorem aQd {l:aJ} (h:l.length < 1000):tA l=some (patB l):=by
 unfold tA patB
 by_cases h0:l=[]
 ·subst h0;rfl
 ·rw [if_neg (by simpa using h0),aLT _ (by omega),aA,show (l == [])=false by simpa using h0]
  unfold tU yF
  cases hb:rK l with
  |true=>rfl
  |false=>
   obtain ⟨q,c,hq⟩:=(List.eq_nil_or_concat l).resolve_left h0
   rw [List.concat_eq_append] at hq
   subst hq
   have hl:(q++[c]).length=q.length+1:=by simp
   rw [hl] at h
   rw [if_neg (by decide),hl,bT (by omega) (by omega),show ((q.length+1:Nat):Int) - 1=(q.length:Int) by omega,bS (by rw [hl];omega),aA]
   simp only [List.getElem_concat_length,List.getLast?_append,List.getLast?_singleton,List.dropLast_concat,Option.some_or,Bool.false_or]
   by_cases hc:c=42
   ·subst hc
    rw [if_pos (by decide),aPO (by rw [hl];omega),aA,aKG,aA,List.take_left]
    simp
   ·have hn:¬ (((c.toNat:Int) == 42)=true):=fun h9=>hc (UInt8.toNat_inj.1 (by
     have h7:(c.toNat:Int)=42:=by simpa using h9
     have h8:(42:UInt8).toNat=42:=rfl
     omega))
    rw [if_neg hn]
    have:((some c:Option UInt8) == some 42)=false:=by simpa using hc
    rw [this]
    rfl
end Gv
set_option linter.unusedVariables false
set_option linter.unusedSimpArgs false
namespace Gv
open Go
structure aLY (n:aT):Prop where
 kind:0<=n.Kind/\n.Kind<=8
 modal:n.Kind=4\/n.Kind=5->PatOk n.B
 plain:¬ (n.Kind=4\/n.Kind=5)->n.B=[]/\n.Not=false
theorem arN_le (n:aT):arN n<=2:=by unfold arN;split;omega;split<;>omega
theorem aNT {f:List aT} (hl:∀ n∈f,n.B.length < 1000) (hf:f.length<=1000):∀ (post:List aT) (i m:Nat),f.drop i=post->i+post.length=f.length->m+post.length<=5000->
  ∃ r,loop (fun s:Int × Int=>dQ f 8 s.1 s.2) ((m:Int),(i:Int))=some r/\(r=.inr false\/∃ k:Nat,r=.inl (k:Int)/\(∀ n∈post,aLY n)/\(k=0->Cnt9 m post))
 |[],i,m,hd,h1,h2=>by
  refine ⟨.inl (m:Int),fP ?_,.inr ⟨m,rfl,fun n hn=>absurd hn List.not_mem_nil,fun h=>h⟩⟩
  show dQ f 8 (m:Int) (i:Int)=_
  unfold dQ
  rw [if_neg (by simp only [List.length_nil] at h1;simp only [decide_eq_true_eq];omega)]
 |n::post,i,m,hd,h1,h2=>by
  obtain ⟨hi,hn,hd'⟩:=eA hd
  rw [List.length_cons] at h1 h2
  have ih:=aNT hl hf post (i+1) (m - 1+arN n) hd' (by omega) (by have:=arN_le n;omega)
  have hmem:n∈f:=by
   have:n∈f.drop i:=by rw [hd];exact List.mem_cons_self
   exact List.mem_of_mem_drop this
  have hlen:=hl n hmem
  have hbad:∀ e:dQ f 8 (m:Int) (i:Int)=some (.inr (.inr false)),∃ r,loop (fun s:Int × Int=>dQ f 8 s.1 s.2) ((m:Int),(i:Int))=some r/\(r=.inr false\/∃ k:Nat,r=.inl (k:Int)/\(∀ n'∈n::post,aLY n')/\(k=0->Cnt9 m (n::post))):=
   fun e=>⟨.inr false,fP e,.inl rfl⟩
  by_cases hm:m=0
  ·refine hbad ?_
   unfold dQ
   rw [if_pos (bV hi),if_pos (by simp [hm])]
   rfl
  have hstep:dQ f 8 (m:Int) (i:Int)=uD f (m:Int) (i:Int) (!(decide (0<=n.Kind)&&decide (n.Kind<=8))):=by
   unfold dQ
   rw [if_pos (bV hi),if_neg (by simp [hm]),kH hi,aA,hn,aGf,aA]
  by_cases hk:0<=n.Kind/\n.Kind<=8
  ·rw [decide_eq_true hk.1,decide_eq_true hk.2] at hstep
   have hj2:mG (m:Int) (i:Int) ((arN n:Nat):Int) false=some (.inl (((m - 1+arN n:Nat):Int),((i+1:Nat):Int))):=by
    have ha:=arN_le n
    unfold mG
    rw [if_neg (by simp),bT (x:=((arN n:Nat):Int) - 1) (by omega) (by omega),bQ hi (by omega),bT (by omega) (by omega)]
    congr 3
    omega
   have hgo:∀ e:dQ f 8 (m:Int) (i:Int)=some (.inl (((m - 1+arN n:Nat):Int),((i+1:Nat):Int))),aLY n->∃ r,loop (fun s:Int × Int=>dQ f 8 s.1 s.2) ((m:Int),(i:Int))=some r/\(r=.inr false\/∃ k:Nat,r=.inl (k:Int)/\(∀ n'∈n::post,aLY n')/\(k=0->Cnt9 m (n::post))):=by
    intro e hK
    obtain ⟨r,e1,e2⟩:=ih
    refine ⟨r,(fY (step:=fun s:Int × Int=>dQ f 8 s.1 s.2) (s:=((m:Int),(i:Int))) e).trans e1,?_⟩
    rcases e2 with e2|⟨k,e2,e3,e4⟩
    ·exact .inl e2
    ·refine .inr ⟨k,e2,fun n' hn'=>?_,fun h0=>⟨by omega,e4 h0⟩⟩
     rcases List.mem_cons.1 hn' with rfl|hn'
     ·exact hK
     ·exact e3 n' hn'
   have hj4:dQ f 8 (m:Int) (i:Int)=kI (m:Int) (i:Int) n ((arN n:Nat):Int) (decide (n.Kind=4\/n.Kind=5)):=by
    rw [hstep]
    unfold uD
    rw [if_neg (by decide),kH hi,aA,hn,aRm hk,aA]
    by_cases h4:n.Kind=4
    ·rw [if_pos (by simpa using h4)];simp [h4]
    ·rw [if_neg (by simpa using h4)]
     congr 1
     by_cases h5:n.Kind=5<;>simp [h4,h5]
   by_cases hmod:n.Kind=4\/n.Kind=5
   ·rw [decide_eq_true hmod] at hj4
    cases hp:patB n.B with
    |true=>
     refine hgo ?_ ⟨hk,fun _=>⟨by rw [ipat_eq hlen,hp],hlen⟩,fun h=>absurd hmod h⟩
     rw [hj4]
     unfold kI
     rw [if_pos rfl,aQd hlen,aA,hp]
     exact hj2
    |false=>
     refine hbad ?_
     rw [hj4]
     unfold kI
     rw [if_pos rfl,aQd hlen,aA,hp]
     rfl
   ·rw [decide_eq_false hmod] at hj4
    by_cases hlb:n.B=[]
    ·cases hnt:n.Not with
     |true=>
      refine hbad ?_
      rw [hj4]
      unfold kI
      rw [if_neg (by simp),if_neg (by simp [hlb]),hnt]
      rfl
     |false=>
      refine hgo ?_ ⟨hk,fun h=>absurd h hmod,fun _=>⟨hlb,hnt⟩⟩
      rw [hj4]
      unfold kI
      rw [if_neg (by simp),if_neg (by simp [hlb]),hnt]
      exact hj2
    ·refine hbad ?_
     rw [hj4]
     unfold kI
     rw [if_neg (by simp),if_pos (by simpa using hlb)]
     rfl
  ·have hf':(decide (0<=n.Kind)&&decide (n.Kind<=8))=false:=by
    rw [Bool.and_eq_false_iff,decide_eq_false_iff_not,decide_eq_false_iff_not];omega
   rw [hf'] at hstep
   refine hbad ?_
   rw [hstep]
   rfl
theorem shape_ref {f:List aT} (hl:∀ n∈f,n.B.length < 1000) (hf:f.length<=1000):∃ v,aBn f 30 8=some v/\(v=true->1<=f.length/\f.length<=30/\(∀ n∈f,aLY n)/\Cnt9 1 f):=by
 unfold aBn
 by_cases h1:(f.length:Int) < 1
 ·rw [if_pos (by simpa using h1)]
  exact ⟨false,rfl,fun h=>by cases h⟩
 rw [if_neg (by simpa using h1)]
 by_cases h2:30 < (f.length:Int)
 ·rw [decide_eq_true h2]
  exact ⟨false,rfl,fun h=>by cases h⟩
 rw [decide_eq_false h2]
 unfold xL
 obtain ⟨r,e1,e2⟩:=aNT hl hf f 0 1 rfl (by omega) (by omega)
 have e1':loop (fun s:Int × Int=>dQ f 8 s.1 s.2) (1,0)=some r:=e1
 rw [if_neg (by simp),e1',aA]
 rcases e2 with rfl|⟨k,rfl,e3,e4⟩
 ·exact ⟨false,rfl,fun h=>by cases h⟩
 ·refine ⟨((k:Int) == 0),rfl,fun h=>⟨by omega,by omega,e3,e4 ?_⟩⟩
  have:(k:Int)=0:=by simpa using h
  omega
def nmV (n:aT):aT:=⟨n.Kind,0,n.B,n.Not⟩
theorem cnt_nm:∀ (l:List aT) (m:Nat),Cnt9 m l->Cnt9 m (l.map nmV)
 |[],m,h=>h
 |n::l,m,h=>⟨h.1,cnt_nm l _ h.2⟩
theorem tm_nm {f:List aT} (hK:∀ n∈f,aLY n) (h:Cnt9 1 f):Tm [0,1,2] (f.map nmV):=by
 refine aRq (fun n hn=>?_) (cnt_nm f 1 h)
 obtain ⟨x,hx,rfl⟩:=List.mem_map.1 hn
 have:=hK x hx
 exact ⟨this.kind,this.modal,this.plain,fun _=>⟨by show (0:Int)<=0;omega,by show (0:Int)<=2;omega⟩,fun _=>rfl⟩
theorem end_nm {f:List aT} (k:Int):vG f k=vG (f.map nmV) k:=by
 have hs:(fun s:Int × Int=>oD f s.1 s.2)=fun s:Int × Int=>oD (f.map nmV) s.1 s.2:=by
  funext s
  unfold oD
  have:∀ i:Int,ix (f.map nmV) i=(ix f i).map nmV:=fun i=>by
   unfold ix
   split<;>simp
  rw [this]
  cases ix f s.1<;>rfl
 unfold vG
 rw [hs]
theorem aRr {f:List aT} (hf:f.length<=30) (hK:∀ n∈f,aLY n) (h:Cnt9 1 f) {k:Nat} (hk:k < f.length):∃ r,eS f (k:Int)=some r:=by
 have hT:=tm_nm hK h
 have hend:∀ i:Nat,i < f.length->∃ e,vG f (i:Int)=some e:=fun i hi=>by
  rw [end_nm]
  exact ⟨_,aIV (by rw [List.length_map];omega) hT (by rw [List.length_map];exact hi)⟩
 have key:=lQ (step:=fun s:Int=>jI f (k:Int) s) (fun s=>-1<=s/\s < (k:Int)) (fun s=>(s+1).toNat) (fun r=>True) (fun s hs=>?_) (s:=(k:Int) - 1) (by omega)
 ·obtain ⟨r,e1,_⟩:=key
  unfold eS
  rw [bT (x:=(k:Int) - 1) (by omega) (by omega),e1,aA]
  cases r with
  |inl r=>exact ⟨_,rfl⟩
  |inr r=>exact ⟨_,rfl⟩
 ·show (∃ s',jI f (k:Int) s=some (.inl s')/\_)\/∃ r,jI f (k:Int) s=some (.inr r)/\True
  unfold jI
  by_cases h0:0<=s
  ·obtain ⟨i,rfl⟩:=Int.eq_ofNat_of_zero_le h0
   have hi:i < f.length:=by omega
   obtain ⟨e,he⟩:=hend i hi
   have hj:∀ v:Bool,(∃ s',pB (i:Int) v=some (.inl s')/\(-1<=s'/\s' < (k:Int))/\(s'+1).toNat < ((i:Int)+1).toNat)\/∃ r,pB (i:Int) v=some (.inr r)/\True:=fun v=>by
    unfold pB
    rw [bT (x:=(i:Int) - 1) (by omega) (by omega)]
    cases v
    ·exact .inl ⟨_,rfl,by omega,by omega⟩
    ·exact .inr ⟨_,rfl,trivial⟩
   rw [if_pos (by simp),kH hi,aA,aFb,aA]
   cases rM (dG f i)
   ·exact hj false
   ·rw [if_pos rfl,kH hk,aA,he,aA]
    split
    ·exact hj _
    ·exact hj _
  ·rw [if_neg (by simpa using h0)]
   exact .inr ⟨_,rfl,trivial⟩
structure Frm (f:List aT):Prop where
 len:1<=f.length/\f.length<=30
 tm:Tm [0,1,2] f
 bnd:∀ k,k < f.length->(dG f k).Kind=6->∃ r,eS f (k:Int)=some r/\0<=r
theorem is_ref {f:List aT} (hl:∀ n∈f,n.B.length < 1000) (hf:f.length<=1000):∃ v,aAw f=some v/\(v=true->Frm f):=by
 unfold aAw
 obtain ⟨v,e,hv⟩:=shape_ref hl hf
 rw [e,aA]
 cases v with
 |false=>exact ⟨false,rfl,fun h=>by cases h⟩
 |true=>
  obtain ⟨h1,h2,hK,hC⟩:=hv rfl
  rw [if_neg (by simp)]
  have hvar:∀ k,k < f.length->aLY (dG f k):=fun k hk=>by
   refine hK _ ?_
   have:=kH hk
   rw [bS hk] at this
   rw [←Option.some.inj this]
   exact List.getElem_mem hk
  have key:=lQ (step:=fun s:Int=>tB f s) (fun s=>∃ i:Nat,s=(i:Int)/\i<=f.length/\∀ k,k < i->aFc (dG f k)/\((dG f k).Kind=6->∃ r,eS f (k:Int)=some r/\0<=r)) (fun s=>f.length - s.toNat) (fun r=>r=.inr false\/r=.inl ()/\∀ k,k < f.length->aFc (dG f k)/\((dG f k).Kind=6->∃ r,eS f (k:Int)=some r/\0<=r)) (fun s hs=>?_) (s:=0) ⟨0,rfl,by omega,fun k hk=>by omega⟩
  ·obtain ⟨r,e1,e2⟩:=key
   rw [e1,aA]
   rcases e2 with rfl|⟨rfl,e3⟩
   ·exact ⟨false,rfl,fun h=>by cases h⟩
   ·refine ⟨true,rfl,fun _=>⟨⟨h1,h2⟩,aRq (fun n hn=>?_) hC,fun k hk=>(e3 k hk).2⟩⟩
    obtain ⟨k,hk,rfl⟩:=List.getElem_of_mem hn
    have:=kH hk
    rw [bS hk] at this
    rw [Option.some.inj this]
    exact (e3 k hk).1
  ·obtain ⟨i,rfl,hi,hI⟩:=hs
   show (∃ s',tB f (i:Int)=some (.inl s')/\_)\/∃ r,tB f (i:Int)=some (.inr r)/\_
   unfold tB
   by_cases h0:i < f.length
   ·have hKi:=hvar i h0
    have hbad:∀ x:Option (Int ⊕ (Unit ⊕ Bool)),x=some (.inr (.inr false))->(∃ s',x=some (.inl s')/\(∃ j:Nat,s'=(j:Int)/\j<=f.length/\∀ k,k < j->aFc (dG f k)/\((dG f k).Kind=6->∃ r,eS f (k:Int)=some r/\0<=r))/\f.length - s'.toNat < f.length - ((i:Int)).toNat)\/∃ r,x=some (.inr r)/\(r=.inr false\/r=.inl ()/\∀ k,k < f.length->aFc (dG f k)/\((dG f k).Kind=6->∃ r,eS f (k:Int)=some r/\0<=r)):=
     fun x hx=>.inr ⟨_,hx,.inl rfl⟩
    have hgo:∀ x:Option (Int ⊕ (Unit ⊕ Bool)),x=some (.inl ((i+1:Nat):Int))->aFc (dG f i)->((dG f i).Kind=6->∃ r,eS f (i:Int)=some r/\0<=r)->(∃ s',x=some (.inl s')/\(∃ j:Nat,s'=(j:Int)/\j<=f.length/\∀ k,k < j->aFc (dG f k)/\((dG f k).Kind=6->∃ r,eS f (k:Int)=some r/\0<=r))/\f.length - s'.toNat < f.length - ((i:Int)).toNat)\/∃ r,x=some (.inr r)/\(r=.inr false\/r=.inl ()/\∀ k,k < f.length->aFc (dG f k)/\((dG f k).Kind=6->∃ r,eS f (k:Int)=some r/\0<=r)):=
     fun x hx h9 hb=>.inl ⟨_,hx,⟨i+1,rfl,by omega,fun k hk=>by
      by_cases hki:k=i
      ·subst hki;exact ⟨h9,hb⟩
      ·exact hI k (by omega)⟩,by omega⟩
    have hj3:aFc (dG f i)->(∃ s',yR f (i:Int)=some (.inl s')/\(∃ j:Nat,s'=(j:Int)/\j<=f.length/\∀ k,k < j->aFc (dG f k)/\((dG f k).Kind=6->∃ r,eS f (k:Int)=some r/\0<=r))/\f.length - s'.toNat < f.length - ((i:Int)).toNat)\/∃ r,yR f (i:Int)=some (.inr r)/\(r=.inr false\/r=.inl ()/\∀ k,k < f.length->aFc (dG f k)/\((dG f k).Kind=6->∃ r,eS f (k:Int)=some r/\0<=r)):=by
     intro h9
     have hj2:aDP (i:Int) false=some (.inl ((i+1:Nat):Int)):=by
      unfold aDP
      rw [if_neg (by simp),bQ h0 (by omega)]
     unfold yR
     rw [kH h0,aA]
     by_cases h6:(dG f i).Kind=6
     ·obtain ⟨r,er⟩:=aRr (by omega) hK hC h0
      rw [if_pos (by simpa using h6),er,aA]
      by_cases hr:r < 0
      ·rw [decide_eq_true hr]
       exact hbad _ rfl
      ·rw [decide_eq_false hr]
       exact hgo _ hj2 h9 fun _=>⟨r,er,by omega⟩
     ·rw [if_neg (by simpa using h6)]
      exact hgo _ hj2 h9 fun h=>absurd h h6
    have hj4t:(dG f i).Kind=6\/(dG f i).Kind=7\/(dG f i).Kind=8->(∃ s',yS f (i:Int) true=some (.inl s')/\(∃ j:Nat,s'=(j:Int)/\j<=f.length/\∀ k,k < j->aFc (dG f k)/\((dG f k).Kind=6->∃ r,eS f (k:Int)=some r/\0<=r))/\f.length - s'.toNat < f.length - ((i:Int)).toNat)\/∃ r,yS f (i:Int) true=some (.inr r)/\(r=.inr false\/r=.inl ()/\∀ k,k < f.length->aFc (dG f k)/\((dG f k).Kind=6->∃ r,eS f (k:Int)=some r/\0<=r)):=by
     intro hkd
     unfold yS
     rw [if_pos rfl,kH h0,aA,aGf,aA]
     by_cases hr:0<=(dG f i).Variable/\(dG f i).Variable<=2
     ·rw [decide_eq_true hr.1,decide_eq_true hr.2,if_neg (by decide)]
      exact hj3 ⟨hKi.kind,hKi.modal,hKi.plain,fun _=>hr,fun h=>absurd hkd h⟩
     ·have:(decide (0<=(dG f i).Variable)&&decide ((dG f i).Variable<=2))=false:=by
       rw [Bool.and_eq_false_iff,decide_eq_false_iff_not,decide_eq_false_iff_not];omega
      rw [this,if_pos (by decide)]
      exact hbad _ rfl
    rw [if_pos (bV h0),kH h0,aA,aFb,aA]
    by_cases hkd:(dG f i).Kind=6\/(dG f i).Kind=7\/(dG f i).Kind=8
    ·by_cases hfx:rM (dG f i)=true
     ·rw [if_pos hfx];exact hj4t hkd
     ·rw [if_neg hfx]
      have:(dG f i).Kind=6:=by
       unfold rM at hfx
       simp at hfx
       omega
      rw [show ((dG f i).Kind == 6)=true by simpa using this]
      exact hj4t hkd
    ·have hfx:¬ rM (dG f i)=true:=by
      unfold rM
      simp
      omega
     rw [if_neg hfx,show ((dG f i).Kind == 6)=false by simp;omega]
     unfold yS
     rw [if_neg (by simp),kH h0,aA]
     by_cases hv0:(dG f i).Variable=0
     ·rw [if_neg (by simpa using hv0)]
      exact hj3 ⟨hKi.kind,hKi.modal,hKi.plain,fun h=>absurd h hkd,fun _=>hv0⟩
     ·rw [if_pos (by simpa using hv0)]
      exact hbad _ rfl
   ·have:i=f.length:=by omega
    subst this
    rw [if_neg (by simp)]
    exact .inr ⟨_,rfl,.inr ⟨rfl,hI⟩⟩
theorem Frm.bi {f:List aT} (h:Frm f):∀ k,k < f.length->(dG f k).Kind=6->∃ n,sD f (k:Int)=some n/\0<=n/\n < (f.length:Int):=fun k hk h6=>by
 obtain ⟨r,e,hr⟩:=h.bnd k hk h6
 rw [aKN h.len.2 h.tm hk] at e
 obtain ⟨r',e',hr'⟩:=aLW h.len.2 h.tm hk
 rw [e] at e'
 obtain rfl:=Option.some.inj e'
 refine ⟨r,e,hr,?_⟩
 rcases hr' with h1|h1
 ·omega
 ·omega
theorem Frm.fok {f:List aT} (h:Frm f):FOk f:=fok_any h.len.2 h.tm h.bi
theorem Frm.valid {f:List aT} (h:Frm f):pG f=some true:=valid_any h.len.2 h.tm h.bi
end Gv
set_option linter.unusedVariables false
set_option linter.unusedSimpArgs false
namespace Gv
open Go
theorem own8 {n:Nat} {t:cN} (h:iD n t) (hn:n<=1000000):aHQ t=some t:=by
 have h1:=h.1
 have h3:=h.2.2
 unfold aHQ
 rw [cG (by simp [iE];omega),aA,cG (by simp [iE];omega),aA,List.nil_append,List.nil_append]
theorem bend8_ok (c:aJ) {s1:Int} (s2:Int) (h:0<=s1/\s1<=1000000000) {t:cN} (ht:cM t/\iD 500 t):∃ u s1' s2',aDs c s1 s2 t=some (u,s1',s2')/\iD 500 u/\s1<=s1'/\s1'<=s1+10:=by
 have g2:∀ s∈t.L,s.length<=500:=ht.2.2.1
 have f1:t.L.length<=12:=ht.1.2.2.1.2.1
 have f3:t.E.length<=300:=ht.1.2.2.2.1
 have hl0:1<=t.L.length:=ht.1.2.2.1.1
 obtain ⟨b,x,y,e,i1,i2⟩:=aIy c s2 (s1:=s1) (n:=8) (by omega) (by omega)
 obtain ⟨v,x',y',e',gv,j1,j2⟩:=fL c y (s1:=x) (n:=8) (by omega) (by omega)
 have hend:∀ (i j:Int) (L:List aJ) (E:List Edge) (p q:Int),L.length<=500->(∀ s∈L,s.length<=500)->E.length<=500->s1<=p->p<=s1+10->∃ u s1' s2',gA i j L E p q=some (u,s1',s2')/\iD 500 u/\s1<=s1'/\s1'<=s1+10:=
  fun i j L E p q k1 k2 k3 k4 k5=>⟨_,_,_,rfl,⟨k1,k2,k3⟩,k4,k5⟩
 unfold aDs
 rw [own8 ht.2 (by decide),aA,e,aA]
 by_cases q:(!b)=true
 ·rw [if_pos q];exact ⟨_,_,_,rfl,ht.2,i1,by show x<=_;omega⟩
 rw [if_neg q]
 show ∃ u s1' s2',(ob (bJ c x y 8) fun r46=>_)=_/\_
 rw [e',aA]
 show ∃ u s1' s2',(if (v == 0)=true then _ else _)=_/\_
 by_cases q0:(v == 0)=true
 ·rw [if_pos q0]
  obtain ⟨z,p,q,e3,_,k1,k2⟩:=aEw c y' (s1:=x') (l:=[0,-1,41,40,wr (t.N - 1)]) (by omega) (by simp)
  show ∃ u s1' s2',(ob (fA c x' y' _) fun r77=>_)=_/\_
  rw [e3,aA]
  exact hend _ _ _ _ _ _ (by omega) g2 (by omega) (by show s1<=p;omega) (by show p<=_;omega)
 rw [if_neg q0]
 by_cases q1:(v == 1)=true
 ·rw [if_pos q1]
  obtain ⟨z,p,q,e3,_,k1,k2⟩:=aEw c y' (s1:=x') (l:=[-1,t.N]) (by omega) (by simp)
  show ∃ u s1' s2',(ob (fA c x' y' _) fun r77=>_)=_/\_
  rw [e3,aA]
  exact hend _ _ _ _ _ _ (by omega) g2 (by omega) (by show s1<=p;omega) (by show p<=_;omega)
 rw [if_neg q1]
 by_cases q2:(v == 2)=true
 ·rw [if_pos q2]
  rw [aHq (by omega) (by omega),aA]
  have hst:st t.L 0 ([97]:aJ)=some (t.L.set 0 [97]):=by
   unfold Gv.st
   rw [if_pos ⟨by omega,by omega⟩];rfl
  rw [hst,aA]
  refine hend _ _ _ _ _ _ (by rw [List.length_set];omega) (fun s hs=>?_) (by omega) (by show s1<=x';omega) (by show x'<=_;omega)
  rcases List.mem_or_eq_of_mem_set hs with hs|rfl
  ·exact g2 s hs
  ·decide
 rw [if_neg q2]
 by_cases q3:(v == 3)=true
 ·rw [if_pos q3]
  obtain ⟨z,p,q,e3,hz,k1,k2⟩:=aQc c y' (s1:=x') (l:=[[116,97,117],[97],[122,122],[65],[]]) (by omega) (by simp)
  show ∃ u s1' s2',(ob (qZ c x' y' _) fun r77=>_)=_/\_
  rw [e3,aA,cG (by simp [iE];omega),aA]
  refine hend _ _ _ _ _ _ (by simp;omega) (fun s hs=>?_) (by omega) (by show s1<=p;omega) (by show p<=_;omega)
  rcases List.mem_append.1 hs with hs|hs
  ·exact g2 s hs
  ·rw [List.mem_singleton] at hs
   subst hs
   have:∀ s∈([[116,97,117],[97],[122,122],[65],[]]:List aJ),s.length<=500:=by decide
   exact this _ hz
 rw [if_neg q3]
 have hno:∃ u s1' s2',gA t.N t.I t.L t.E x' y'=some (u,s1',s2')/\iD 500 u/\s1<=s1'/\s1'<=s1+10:=hend _ _ _ _ _ _ (by omega) g2 (by omega) (by omega) (by omega)
 by_cases q4:(v == 4)=true
 ·rw [if_pos q4]
  by_cases hp:(decide (0 < (t.E.length:Int)))=true
  ·rw [if_pos hp]
   have hp:0 < t.E.length:=by simpa using hp
   rw [aHq (by omega) (by omega),aA,cG (by simp [iE];omega),aA]
   exact hend _ _ _ _ _ _ (by omega) g2 (by simp;omega) (by show s1<=x';omega) (by show x'<=_;omega)
  ·rw [if_neg hp];exact hno
 rw [if_neg q4]
 by_cases q5:(v == 5)=true
 ·rw [if_pos q5]
  by_cases hp:(decide (0 < (t.E.length:Int)))=true
  ·rw [if_pos hp]
   have hp:0 < t.E.length:=by simpa using hp
   obtain ⟨a,p0,q0,e2,ga,m1,m2⟩:=fL c y' (s1:=x') (n:=(t.E.length:Int)) (by omega) (by omega)
   obtain ⟨z,p,q,e3,_,k1,k2⟩:=aEw c q0 (s1:=p0) (l:=[-1,(t.L.length:Int),0]) (by omega) (by simp)
   show ∃ u s1' s2',(ob (bJ c x' y' (t.E.length:Int)) fun r=>_)=_/\_
   rw [e2,aA]
   show ∃ u s1' s2',(ob (fA c p0 q0 _) fun r77=>_)=_/\_
   rw [e3,aA,aHq (xs:=t.E) (j:=a) ga.1 (by omega),aA]
   unfold Gv.st
   rw [if_pos (by exact ⟨ga.1,by omega⟩),aA]
   exact hend _ _ _ _ _ _ (by omega) g2 (by rw [List.length_set];omega) (by show s1<=p;omega) (by show p<=_;omega)
  ·rw [if_neg hp];exact hno
 rw [if_neg q5]
 by_cases q6:(v == 6)=true
 ·rw [if_pos q6]
  by_cases hp:(decide (0 < (t.E.length:Int)))=true
  ·rw [if_pos hp]
   have hp:0 < t.E.length:=by simpa using hp
   obtain ⟨a,p0,q0,e2,ga,m1,m2⟩:=fL c y' (s1:=x') (n:=(t.E.length:Int)) (by omega) (by omega)
   obtain ⟨z,p,q,e3,_,k1,k2⟩:=aEw c q0 (s1:=p0) (l:=[-1,t.N,0]) (by omega) (by simp)
   show ∃ u s1' s2',(ob (bJ c x' y' (t.E.length:Int)) fun r=>_)=_/\_
   rw [e2,aA]
   show ∃ u s1' s2',(ob (fA c p0 q0 _) fun r77=>_)=_/\_
   rw [e3,aA,aHq (xs:=t.E) (j:=a) ga.1 (by omega),aA]
   unfold Gv.st
   rw [if_pos (by exact ⟨ga.1,by omega⟩),aA]
   exact hend _ _ _ _ _ _ (by omega) g2 (by rw [List.length_set];omega) (by show s1<=p;omega) (by show p<=_;omega)
  ·rw [if_neg hp];exact hno
 rw [if_neg q6]
 by_cases q7:(v == 7)=true
 ·rw [if_pos q7]
  exact hend _ _ _ _ _ _ (by simp) (by simp) (by omega) (by show s1<=x';omega) (by show x'<=_;omega)
 rw [if_neg q7]
 exact hno
theorem iD.up8 {a b:Nat} {t:cN} (h:iD a t) (hab:a<=b):iD b t:=⟨Nat.le_trans h.1 hab,fun s hs=>Nat.le_trans (h.2.1 s hs) hab,Nat.le_trans h.2.2 hab⟩
theorem ok_lab {t:cN} (h:cM t) (hf:iD 500 t):aGh t:=fun s hs=>by
 obtain ⟨h1,h2,h3,h4⟩:=h.2.2.1
 refine ⟨?_,by have:=hf.2.1 s hs;omega⟩
 obtain ⟨k,hk,rfl⟩:=List.getElem_of_mem hs
 by_cases h0:k=0
 ·subst h0
  rw [h3 hk]
  exact aOL
 ·exact (h4 k (by omega) hk).1
def std8:List aT:=[⟨4,0,([97]:aJ),false⟩,⟨0,0,([]:aJ),false⟩]
theorem std_is:aAw std8=some true:=by
 have hp:tA ([97]:aJ)=some true:=by rw [aQd (by simp)];rfl
 have a1:dQ std8 8 1 0=some (.inl (1,1)):=by
  show (ob (tA ([97]:aJ)) fun r67=>if (!r67)=true then mG 1 0 1 true else mG 1 0 1 false)=_
  rw [hp]
  rfl
 have a2:dQ std8 8 1 1=some (.inl (0,2)):=rfl
 have a3:dQ std8 8 0 2=some (.inr (.inl 0)):=rfl
 have b1:tB std8 0=some (.inl 1):=rfl
 have b2:tB std8 1=some (.inl 2):=rfl
 have b3:tB std8 2=some (.inr (.inl ())):=rfl
 have hs:aBn std8 30 8=some true:=by
  show (ob (loop (fun s:Int × Int=>dQ std8 8 s.1 s.2) (1,0)) fun r=>match r with|.inl r=>aFo r|.inr r=>some r)=_
  rw [fY (s:=((1:Int),(0:Int))) a1,fY (s:=((1:Int),(1:Int))) a2,fP (s:=((0:Int),(2:Int))) a3,aA]
  rfl
 unfold aAw
 rw [hs,aA,if_neg (by simp),fY (s:=(0:Int)) b1,fY (s:=(1:Int)) b2,fP (s:=(2:Int)) b3,aA]
 rfl
theorem drn8 {c:Nat} {t:cN} (h:Drn c t):cM t/\iD 500 t/\aGh t:=by
 have h1:=h.ok.2.2.1.2.1
 have h2:=h.ok.2.2.2.1
 refine ⟨h.ok,⟨by omega,fun s hs=>?_,by omega⟩,fun s hs=>⟨Nm_lab s (h.nm s hs),?_⟩⟩
 ·have:=Nm_len s (h.nm s hs)
  omega
 ·have:=Nm_len s (h.nm s hs)
  omega
theorem draw8_ok (c:aJ) {s1:Int} (s2:Int) (h:0<=s1/\s1<=10000000):∃ u s1' s2',aII c s1 s2=some (u,s1',s2')/\iD 500 u/\s1<=s1'/\s1'<=s1+310:=by
 obtain ⟨a,x,y,e,⟨ha,_⟩,h1,h2⟩:=aOW c s2 (s1:=s1) (by omega)
 obtain ⟨u,x',y',e',hu,h3,h4⟩:=bend8_ok c y (s1:=x) (by omega) ⟨(drn8 ha).1,(drn8 ha).2.1⟩
 unfold aII
 rw [e,aA]
 show ∃ u s1' s2',(ob (aDs c x y a) fun r=>_)=_/\_
 rw [e',aA]
 exact ⟨_,_,_,rfl,hu,by show s1<=x';omega,by show x'<=_;omega⟩
def aJT (f:List aT):Prop:=f.length<=40/\∀ n∈f,n.B.length < 1000
theorem tm_lst {b:List Int} {f:List aT} (h:Tm b f) (hf:f.length<=40):aJT f:=by
 refine ⟨hf,fun n hn=>?_⟩
 obtain ⟨k,hk,rfl⟩:=List.getElem_of_mem hn
 obtain ⟨c,M,hM⟩:=aAY h hk
 have:=(nd_ok hM).2.2.2
 have e:=kH hk
 rw [bS hk] at e
 rw [Option.some.inj e]
 exact this
theorem aMy {f:List aT} (h:aJT f) {k:Nat} {n:aT} (hn:n.B.length < 1000):aJT (f.set k n):=by
 refine ⟨by rw [List.length_set];exact h.1,fun x hx=>?_⟩
 rcases List.mem_or_eq_of_mem_set hx with hx|rfl
 ·exact h.2 x hx
 ·exact hn
section
variable (cs:aJ)
theorem drawOk19 {s1:Int} (s2:Int) (h:0<=s1/\s1<=10000000):∃ f s1' s2',aBV cs s1 s2=some (f,s1',s2')/\(1<=f.length/\f.length<=30)/\aJT f/\s1<=s1'/\s1'<=s1+800:=by
 unfold aBV
 obtain ⟨w,a,c,e,hw,h2,h3⟩:=fL cs s2 (s1:=s1) (n:=8) (by omega) (by omega)
 rw [e,aA,bT (x:=1+w) (by omega) (by omega)]
 obtain ⟨L,a2,c2,e2,hL,hl,g5,g6⟩:=part_ok cs 100000 (1+w) (by omega) (by omega) (by omega) [] (fun v hv=>by cases hv) (by simp;omega) a c (by omega) (by omega)
 unfold aFp
 simp only
 rw [e2,aA]
 have hd:Tm [] [⟨7,1,[],false⟩,⟨4,0,[97],false⟩,⟨6,1,[],false⟩]:=.fix (.inl rfl) (by omega) (.mod (.inl rfl) (aPZ (by decide)) (.var (by simp) (by omega)))
 have hj:∀ v:Bool,(v=false->L.length<=30)->∀ x y,s1<=x->x<=s1+800->∃ f s1' s2',pC (L,a2,c2) v x y=some (f,s1',s2')/\(1<=f.length/\f.length<=30)/\aJT f/\s1<=s1'/\s1'<=s1+800:=by
  intro v hv x y hx1 hx2
  unfold pC
  cases v with
  |true=>exact ⟨_,_,_,rfl,⟨by simp,by simp⟩,tm_lst hd (by simp),hx1,hx2⟩
  |false=>exact ⟨_,_,_,rfl,⟨hL.pos,hv rfl⟩,tm_lst hL (by have:=hv rfl;show L.length<=40;omega),hx1,hx2⟩
 simp only
 by_cases h16:16 < (L.length:Int)
 ·rw [if_pos (by simpa using h16)]
  obtain ⟨d,a1,c1,e1,g1,g2⟩:=aIy cs c2 (s1:=a2) (n:=4) (by omega) (by omega)
  rw [e1,aA]
  split
  ·exact hj true (fun h=>by cases h) _ _ (by simp only;omega) (by simp only;omega)
  ·exact hj _ (fun h=>by simp at h;omega) _ _ (by simp only;omega) (by simp only;omega)
 ·rw [if_neg (by simpa using h16)]
  exact hj _ (fun h=>by simp at h;omega) _ _ (by omega) (by omega)
theorem bend19 {s1:Int} (s2:Int) (h:0<=s1/\s1<=100000000) {f:List aT} (hf:1<=f.length/\f.length<=30) (hL:aJT f):∃ g s1' s2',aFM cs s1 s2 f=some (g,s1',s2')/\aJT g/\s1<=s1'/\s1'<=s1+100:=by
 unfold aFM
 rw [cG (by rw [List.length_nil];unfold iE;omega),aA,List.nil_append]
 obtain ⟨b,x,y,e,i1,i2⟩:=aIy cs s2 (s1:=s1) (n:=8) (by omega) (by omega)
 rw [e,aA]
 cases b with
 |false=>exact ⟨_,_,_,rfl,hL,i1,by show x<=_;omega⟩
 |true=>
 rw [if_neg (by simp)]
 obtain ⟨v,x1,y1,e1,gv,j1,j2⟩:=fL cs y (s1:=x) (n:=(f.length:Int)) (by omega) (by omega)
 obtain ⟨k,rfl⟩:=Int.eq_ofNat_of_zero_le gv.1
 have hk:k < f.length:=by omega
 simp only
 rw [e1,aA]
 obtain ⟨u,x2,y2,e2,gu,j3,j4⟩:=fL cs y1 (s1:=x1) (n:=6) (by omega) (by omega)
 simp only
 rw [e2,aA,kH hk]
 have hlab:(dG f k).B.length < 1000:=by
  have:=kH hk
  rw [bS hk] at this
  rw [←Option.some.inj this]
  exact hL.2 _ (List.getElem_mem hk)
 have hj1:∀ (g:List aT) (p q:Int),aJT g->s1<=p->p<=s1+100->∃ g' s1' s2',qG g p q=some (g',s1',s2')/\aJT g'/\s1<=s1'/\s1'<=s1+100:=fun g p q h1 h2 h3=>⟨_,_,_,rfl,h1,h2,h3⟩
 by_cases q0:u=0
 ·rw [if_pos (by simpa using q0)]
  obtain ⟨z,p,q,e3,_,k1,k2⟩:=fL cs y2 (s1:=x2) (n:=11) (by omega) (by omega)
  simp only
  rw [e3,aA,aA,pL _ hk,aA]
  exact hj1 _ _ _ (aMy hL hlab) (by simp only;omega) (by simp only;omega)
 rw [if_neg (by simpa using q0)]
 by_cases q1:u=1
 ·rw [if_pos (by simpa using q1)]
  obtain ⟨z,p,q,e3,_,k1,k2⟩:=aEw cs y2 (s1:=x2) (l:=[-1,0,1,2,3]) (by omega) (by simp)
  simp only
  rw [e3,aA,aA,pL _ hk,aA]
  exact hj1 _ _ _ (aMy hL hlab) (by simp only;omega) (by simp only;omega)
 rw [if_neg (by simpa using q1)]
 by_cases q2:u=2
 ·rw [if_pos (by simpa using q2)]
  obtain ⟨z,p,q,e3,hz,k1,k2⟩:=aQc cs y2 (s1:=x2) (l:=[([97]:aJ),([]:aJ),([116,97,117,42]:aJ),([97,40,54,52,41]:aJ),([103,101,116,42]:aJ)]) (by omega) (by simp)
  simp only
  rw [e3,aA,aA,pL _ hk,aA]
  have:∀ s∈[([97]:aJ),([]:aJ),([116,97,117,42]:aJ),([97,40,54,52,41]:aJ),([103,101,116,42]:aJ)],s.length < 1000:=by decide
  exact hj1 _ _ _ (aMy hL (this _ hz)) (by simp only;omega) (by simp only;omega)
 rw [if_neg (by simpa using q2)]
 by_cases q3:u=3
 ·rw [if_pos (by simpa using q3)]
  rw [aA,pL _ hk,aA]
  exact hj1 _ _ _ (aMy hL hlab) (by simp only;omega) (by simp only;omega)
 rw [if_neg (by simpa using q3)]
 by_cases q4:u=4
 ·rw [if_pos (by simpa using q4)]
  rw [aPO (by omega),aA]
  exact ⟨_,_,_,rfl,⟨by rw [List.length_take];have:=hL.1;omega,fun n hn=>hL.2 n (List.mem_of_mem_take hn)⟩,by simp only;omega,by simp only;omega⟩
 rw [if_neg (by simpa using q4)]
 by_cases q5:u=5
 ·rw [if_pos (by simpa using q5)]
  have key:=lQ (step:=fun s:Int × Int × List aT=>wM cs s.1 s.2.1 s.2.2) (fun s=>aJT s.2.2/\s.2.2.length<=31/\s1<=s.1/\s.1+2 * (32 - (s.2.2.length:Int))<=s1+100) (fun s=>31 - s.2.2.length) (fun r=>aJT r.1/\s1<=r.2.1/\r.2.1<=s1+100) (fun s hs=>?_) (s:=(x2,y2,f)) ⟨hL,by simp only;omega,by simp only;omega,by simp only;omega⟩
  ·obtain ⟨r,e3,h1,h2,h3⟩:=key
   simp only
   rw [e3,aA]
   exact ⟨_,_,_,rfl,h1,h2,h3⟩
  ·obtain ⟨p,q,out⟩:=s
   obtain ⟨h1,h2,h3,h4⟩:=hs
   simp only at h1 h2 h3 h4
   show (∃ s',wM cs p q out=some (.inl s')/\_)\/∃ r,wM cs p q out=some (.inr r)/\_
   unfold wM
   obtain ⟨z,p1,q1,e3,hz,k1,k2⟩:=fL cs q (s1:=p) (n:=3) (by omega) (by omega)
   rw [e3,aA,bT (x:=29+z) (by omega) (by omega)]
   by_cases hlt:(out.length:Int) < 29+z
   ·rw [if_pos (by simpa using hlt),cG (by rw [List.length_singleton];unfold iE;omega),aA]
    refine .inl ⟨_,rfl,⟨⟨?_,fun n hn=>?_⟩,?_,?_,?_⟩,?_⟩
    ·show ([_]++out).length<=40
     simp;omega
    ·rcases List.mem_cons.1 hn with rfl|hn
     ·show ([]:aJ).length < 1000
      simp
     ·exact h1.2 n hn
    ·show ([_]++out).length<=31
     simp;omega
    ·show s1<=p1
     omega
    ·show p1+2 * (32 - (([_]++out).length:Int))<=s1+100
     simp only [List.length_append,List.length_singleton]
     omega
    ·show 31 - ([_]++out).length < 31 - out.length
     simp only [List.length_append,List.length_singleton]
     omega
   ·rw [if_neg (by simpa using hlt)]
    exact .inr ⟨_,rfl,h1,by show s1<=p1;omega,by show p1<=_;omega⟩
 rw [if_neg (by simpa using q5)]
 exact hj1 _ _ _ hL (by simp only;omega) (by simp only;omega)
theorem large8 {s1:Int} (s2:Int) (h:0<=s1/\s1<=100000000):∃ u s1' s2',vN cs s1 s2=some (u,s1',s2')/\iD 500 u/\s1<=s1'/\s1'<=s1+2:=by
 unfold vN
 obtain ⟨v,a,b,e,hv,h2,h3⟩:=fL cs s2 (s1:=s1) (n:=26) (by omega) (by omega)
 rw [e,aA]
 have key:=lQ (step:=fun s:List Edge × Int=>nI (v,a,b) s.1 s.2) (fun s=>s.1.length<=300/\0<=s.2/\s.2<=15+v) (fun s=>(15+v - s.2).toNat) (fun r=>r.length<=300) (fun s hs=>?_) (s:=([],0)) ⟨by simp,by simp,by simp only;omega⟩
 ·obtain ⟨r,e1,h1⟩:=key
  rw [e1,aA]
  refine ⟨_,_,_,rfl,⟨by simp,?_,by show r.length<=500;omega⟩,h2,h3⟩
  show ∀ s∈([([116,97,117]:aJ),([97]:aJ),([98]:aJ),([99]:aJ),([100]:aJ),([101]:aJ),([102]:aJ),([103]:aJ),([104]:aJ)]:List aJ),s.length<=500
  decide
 ·obtain ⟨E,k⟩:=s
  obtain ⟨h1,h4,h5⟩:=hs
  simp only at h1 h4 h5
  show (∃ s',nI (v,a,b) E k=some (.inl s')/\_)\/∃ r,nI (v,a,b) E k=some (.inr r)/\_
  unfold nI
  simp only
  rw [bT (x:=15+v) (by omega) (by omega)]
  by_cases hk:k < 15+v
  ·rw [if_pos (by simpa using hk)]
   have inner:=lQ (step:=fun s:List Edge × Int=>nH (v,a,b) k s.1 s.2) (fun s=>s.1.length<=300/\0<=s.2/\s.2<=8) (fun s=>(8 - s.2).toNat) (fun r=>r.length<=300) (fun s hs=>?_) (s:=(E,0)) ⟨h1,by simp,by simp⟩
   ·obtain ⟨r,e1,h6⟩:=inner
    rw [e1,aA]
    unfold aAz uX
    rw [bT (x:=k+1) (by omega) (by omega)]
    exact .inl ⟨_,rfl,⟨h6,by simp only;omega,by simp only;omega⟩,by simp only;omega⟩
   ·obtain ⟨F,n⟩:=s
    obtain ⟨g1,g2,g3⟩:=hs
    simp only at g1 g2 g3
    show (∃ s',nH (v,a,b) k F n=some (.inl s')/\_)\/∃ r,nH (v,a,b) k F n=some (.inr r)/\_
    unfold nH qH
    by_cases hn:n < 8
    ·rw [if_pos (by simpa using hn)]
     by_cases hF:(F.length:Int) < 300
     ·simp only
      rw [if_pos (by simpa using hF),bT (x:=15+v) (by omega) (by omega)]
      unfold rm
      rw [if_neg (by omega),aA,cG (by rw [List.length_singleton];unfold iE;omega),aA,bT (x:=n+1) (by omega) (by omega)]
      exact .inl ⟨_,rfl,⟨by simp;omega,by simp only;omega,by simp only;omega⟩,by simp only;omega⟩
     ·rw [if_neg (by simpa using hF)]
      exact .inr ⟨_,rfl,g1⟩
    ·rw [if_neg (by simpa using hn),if_neg (by simp)]
     exact .inr ⟨_,rfl,g1⟩
  ·rw [if_neg (by simpa using hk)]
   exact .inr ⟨_,rfl,h1⟩
theorem both24 {s1:Int} (s2:Int) (h:0<=s1/\s1<=1000000):∃ f t s1' s2',xN cs s1 s2=some (f,t,s1',s2')/\aJT f/\iD 500 t/\s1<=s1'/\s1'<=s1+2000:=by
 unfold xN
 obtain ⟨t,x,y,e,ht,h1,h2⟩:=draw8_ok cs s2 (s1:=s1) (by omega)
 rw [e,aA]
 have hD:∃ f s1' s2',aIJ cs x y=some (f,s1',s2')/\aJT f/\x<=s1'/\s1'<=x+900:=by
  unfold aIJ
  obtain ⟨f,a,b,e1,hf,hL,h3,h4⟩:=drawOk19 cs y (s1:=x) (by omega)
  obtain ⟨g,a',b',e2,hg,h5,h6⟩:=bend19 cs b (s1:=a) (by omega) hf hL
  rw [e1,aA]
  simp only
  rw [e2,aA]
  exact ⟨_,_,_,rfl,hg,by simp only;omega,by simp only;omega⟩
 obtain ⟨f,a,b,e1,hf,h3,h4⟩:=hD
 simp only
 rw [e1,aA]
 obtain ⟨o,a1,b1,e2,h5,h6⟩:=aIy cs b (s1:=a) (n:=40) (by omega) (by omega)
 simp only
 rw [e2,aA]
 cases o with
 |true=>
  rw [if_pos rfl]
  obtain ⟨u,a2,b2,e3,hu,h7,h8⟩:=large8 cs b1 (s1:=a1) (by omega)
  simp only
  rw [e3,aA]
  exact ⟨_,_,_,_,rfl,hf,hu,by simp only;omega,by simp only;omega⟩
 |false=>
  rw [if_neg (by simp)]
  split
  ·obtain ⟨v,a2,b2,e3,hv,h7,h8⟩:=fL cs b1 (s1:=a1) (n:=4) (by omega) (by omega)
   simp only
   rw [e3,aA]
   obtain ⟨k,rfl⟩:=Int.eq_ofNat_of_zero_le hv.1
   rw [bS (by simp;omega),aA]
   refine ⟨_,_,_,_,rfl,?_,ht,by simp only;omega,by simp only;omega⟩
   have hall:∀ g∈([([⟨7,0,([]:aJ),false⟩,⟨3,0,([]:aJ),false⟩,⟨5,0,([97]:aJ),false⟩,⟨1,0,([]:aJ),false⟩,⟨4,0,([]:aJ),false⟩,⟨6,0,([]:aJ),false⟩]:List aT),([⟨8,0,([]:aJ),false⟩,⟨2,0,([]:aJ),false⟩,⟨4,0,([97]:aJ),false⟩,⟨0,0,([]:aJ),false⟩,⟨5,0,([]:aJ),false⟩,⟨6,0,([]:aJ),false⟩]:List aT),([⟨8,0,([]:aJ),false⟩,⟨7,1,([]:aJ),false⟩,⟨3,0,([]:aJ),false⟩,⟨4,0,([97]:aJ),false⟩,⟨6,0,([]:aJ),false⟩,⟨4,0,([]:aJ),false⟩,⟨6,1,([]:aJ),false⟩]:List aT),([⟨5,0,([98]:aJ),false⟩,⟨4,0,([]:aJ),false⟩,⟨0,0,([]:aJ),false⟩]:List aT)]:List (List aT)),aJT g:=by
    unfold aJT
    decide
   exact hall _ (List.getElem_mem _)
  ·exact ⟨_,_,_,_,rfl,hf,ht,by simp only;omega,by simp only;omega⟩
theorem both_ok:∃ f t,aFN cs=some (f,t)/\Frm f/\aAw f=some true/\cM t/\iD 500 t/\aGh t:=by
 unfold aFN aLc
 rw [aA]
 have key:=lQ (step:=fun s:Int × Int × Int=>wO cs s.1 s.2.1 s.2.2) (fun s=>0<=s.2.2/\s.2.2<=6/\0<=s.1/\s.1<=2000 * s.2.2) (fun s=>(6 - s.2.2).toNat) (fun r=>(∃ x y,r=.inl (x,y)/\0<=x/\x<=100000)\/∃ f t,r=.inr (f,t)/\Frm f/\aAw f=some true/\cM t/\iD 500 t) (fun s hs=>?_) (s:=(0,0,0)) ⟨by simp,by simp,by simp,by simp⟩
 ·obtain ⟨r,e,h⟩:=key
  simp only
  rw [e,aA]
  rcases h with ⟨x,y,rfl,h1,h2⟩|⟨f,t,rfl,h1,h2,h3,h4⟩
  ·simp only
   unfold aCV
   obtain ⟨t,x',y',e1,⟨ht,_⟩,_,_⟩:=aOW cs y (s1:=x) (by omega)
   rw [e1,aA]
   have hf:Tm [] [⟨4,0,([97]:aJ),false⟩,⟨0,0,([]:aJ),false⟩]:=.mod (.inl rfl) (aPZ (by decide)) (.leaf (.inl rfl))
   obtain ⟨g1,g2,g3⟩:=drn8 ht
   have hFrm:Frm [⟨4,0,([97]:aJ),false⟩,⟨0,0,([]:aJ),false⟩]:=⟨⟨by simp,by simp⟩,.mod (.inl rfl) (aPZ (by decide)) (.leaf (.inl rfl)),fun k hk h6=>by
    exfalso
    simp only [List.length_cons,List.length_nil] at hk
    have:k=0\/k=1:=by omega
    rcases this with rfl|rfl
    ·exact absurd h6 (by decide)
    ·exact absurd h6 (by decide)⟩
   exact ⟨_,_,rfl,hFrm,std_is,g1,g2,g3⟩
  ·exact ⟨f,t,rfl,h1,h2,h3,h4,ok_lab h3 h4⟩
 ·obtain ⟨x,y,k⟩:=s
  obtain ⟨h1,h2,h3,h4⟩:=hs
  simp only at h1 h2 h3 h4
  show (∃ s',wO cs x y k=some (.inl s')/\_)\/∃ r,wO cs x y k=some (.inr r)/\_
  unfold wO
  by_cases hk:k < 6
  ·rw [if_pos (by simpa using hk)]
   obtain ⟨f,t,a,b,e,hf,ht,h5,h6⟩:=both24 cs y (s1:=x) (by omega)
   rw [e,aA]
   obtain ⟨v,ev,hv⟩:=is_ref hf.2 (by have:=hf.1;omega)
   simp only
   rw [ev,aA]
   have hno:(∃ s',qI k (f,t,a,b) false=some (.inl s')/\(0<=s'.2.2/\s'.2.2<=6/\0<=s'.1/\s'.1<=2000 * s'.2.2)/\(6 - s'.2.2).toNat < (6 - k).toNat)\/∃ r,qI k (f,t,a,b) false=some (.inr r)/\((∃ x y,r=.inl (x,y)/\0<=x/\x<=100000)\/∃ f t,r=.inr (f,t)/\Frm f/\aAw f=some true/\cM t/\iD 500 t):=by
    unfold qI
    rw [if_neg (by simp),bT (x:=k+1) (by omega) (by omega)]
    exact .inl ⟨_,rfl,⟨by simp only;omega,by simp only;omega,by simp only;omega,by simp only;omega⟩,by simp only;omega⟩
   cases v with
   |false=>exact hno
   |true=>
    rw [if_pos rfl,aQJ t (ht.up8 (by decide)),aA]
    by_cases hok:cM t
    ·rw [aJd hok,if_pos rfl]
     by_cases h8:t.N < 8
     ·rw [decide_eq_true h8]
      exact .inr ⟨_,rfl,.inr ⟨f,t,rfl,hv rfl,ev,hok,ht⟩⟩
     ·rw [decide_eq_false h8]
      exact hno
    ·rw [aBa hok,if_neg (by simp)]
     exact hno
  ·rw [if_neg (by simpa using hk)]
   exact .inr ⟨_,rfl,.inl ⟨x,y,rfl,h3,by omega⟩⟩
end
end Gv
set_option linter.unusedVariables false
set_option linter.unusedSimpArgs false
namespace Gv
open Go
theorem aLy {l:List aO} {k:Nat} (hk:k < l.length) (n:aO) (v:Int):vx (l.set k n) v=if v.toNat=k then n else vx l v:=by
 unfold vx
 rw [List.getD_eq_getElem?_getD,List.getElem?_set]
 by_cases e:k=v.toNat
 ·rw [if_pos e,if_pos e.symm,if_pos (by omega)];rfl
 ·rw [if_neg e,if_neg (fun h=>e h.symm),←List.getD_eq_getElem?_getD]
theorem vx_nat {l:List aO} {k:Nat} (hk:k < l.length):vx l (k:Int)=l[k]:=by
 unfold vx
 rw [Int.toNat_natCast,List.getD_eq_getElem?_getD,List.getElem?_eq_getElem hk];rfl
theorem ixV9 {l:List aO} {k:Nat} (hk:k < l.length):ix l (k:Int)=some (vx l (k:Int)):=by rw [bS hk,vx_nat hk]
structure aIz (g l:List aO):Prop where
 len:l.length=g.length
 own:∀ v,(vx l v).Owner=(vx g v).Owner
 pr:∀ v,(vx l v).Priority=(vx g v).Priority
 nx:∀ v,(vx l v).Next=(vx g v).Next\/∃ e∈(vx g v).Next,(vx l v).Next=[e]
section
variable {g l:List aO}
theorem aIz.refl (g:List aO):aIz g g:=⟨rfl,fun _=>rfl,fun _=>rfl,fun _=>.inl rfl⟩
theorem aIz.mem (h:aIz g l) {v w:Int} (hw:w∈(vx l v).Next):w∈(vx g v).Next:=by
 rcases h.nx v with e|⟨e,he,e2⟩
 ·rwa [e] at hw
 ·rw [e2,List.mem_singleton] at hw
  rw [hw];exact he
theorem aIz.ok (h:aIz g l) (hg:GOk g):GOk l where
 len:=by rw [h.len];exact hg.len
 own:=fun v=>by rw [h.own];exact hg.own v
 pr:=fun v=>by rw [h.pr];exact hg.pr v
 nx:=fun v w hw=>by rw [h.len];exact hg.nx v w (h.mem hw)
 nd:=fun v=>by
  rcases h.nx v with e|⟨e,_,e2⟩
  ·rw [e];exact hg.nd v
  ·rw [e2];simp
theorem aIz.inG (h:aIz g l) (v:Int):uZ l v<->uZ g v:=by unfold uZ;rw [h.len]
theorem wins_less (h:aIz g l) {out:List Int} (hw:Wins g out) (hk:∀ q,q=0\/q=1->∃ σ,Reg (gg g) (uZ g) q (vA g out q) σ/\∀ v,vA g out q v->(vx g v).Owner=q->σ v∈(vx l v).Next):Wins l out where
 len:=by rw [h.len];exact hw.len
 two:=fun v hv=>hw.two v ((h.inG v).1 hv)
 reg:=fun q hq=>by
  obtain ⟨σ,hr,hs⟩:=hk q hq
  refine ⟨σ,fun v hv=>hv.1,fun v hv ho=>?_,fun v hv ho w hE hA=>?_,fun f hf hE hσ=>?_⟩
  ·have hv':vA g out q v:=⟨(h.inG v).1 hv.1,hv.2⟩
   have ho':(vx g v).Owner=q:=by rw [←h.own];exact ho
   have hm:=hr.mine v hv' ho'
   exact ⟨hs v hv' ho',(h.inG _).2 hm.2.1,hm.2.2⟩
  ·have hv':vA g out q v:=⟨(h.inG v).1 hv.1,hv.2⟩
   have ho':¬ (vx g v).Owner=q:=by rw [←h.own];exact ho
   have hm:=hr.theirs v hv' ho' w (h.mem hE) ((h.inG w).1 hA)
   exact ⟨hA,hm.2⟩
  ·have:=hr.good f (fun n=>⟨(h.inG _).1 (hf n).1,(hf n).2⟩) (fun n=>h.mem (hE n)) fun n ho=>hσ n (by
    show (vx l (f n)).Owner=q
    rw [h.own];exact ho)
   have e:(gg l).pr=(gg g).pr:=funext h.pr
   rw [e];exact this
structure SL (g l:List aO) (won ch:List Int) (k:Nat):Prop where
 le:aIz g l
 cl:ch.length=g.length
 wi:Wins l won
 nx:∀ v,uZ g v->(vx l v).Next=if v.toNat < k/\(vx g v).Owner=won.getD v.toNat 0 then [ch.getD v.toNat 0] else (vx g v).Next
theorem clone_eq (h:g.length<=100000) (hn:∀ v,(vx g v).Next.length<=100000):aCb g=some g:=by
 have key:=dO (step:=fun s:List aO × Int=>mX g s.1 s.2) g.length (fun i (_:Unit)=>(g,(i:Int))) (fun _ _=>True) (fun r=>r=g) (fun i _ hi _=>?_) (fun _ _=>?_) g.length 0 () (by omega) trivial
 ·obtain ⟨r,e1,e2⟩:=key
  have e1':loop (fun s:List aO × Int=>mX g s.1 s.2) (g,0)=some r:=e1
  have hc:dE g=some g:=by
   unfold dE
   rw [cG (by simp [iE];omega),aA,List.nil_append]
  unfold aCb
  rw [hc,aA,e1',aA,e2]
  rfl
 ·refine ⟨(),?_,trivial⟩
  show mX g g (i:Int)=some (.inl (g,((i+1:Nat):Int)))
  have hc:bL (vx g (i:Int)).Next=some (vx g (i:Int)).Next:=by
   unfold bL
   rw [cG (by have:=hn (i:Int);simp [iE];omega),aA,List.nil_append]
  unfold mX
  rw [if_pos (bV hi),ixV9 hi,aA,hc,aA,pL _ hi,aA,bQ hi (by omega)]
  have:g.set i ⟨(vx g (i:Int)).Owner,(vx g (i:Int)).Priority,(vx g (i:Int)).Next⟩=g:=by
   rw [vx_nat hi]
   exact List.set_getElem_self hi
  rw [this]
 ·refine ⟨g,?_,rfl⟩
  show mX g g (g.length:Int)=_
  unfold mX
  rw [if_neg (by simp)]
theorem own_moves {X won:List Int} {v:aO} (hl:X.length < 1000000) (hX:∀ x∈X,0<=x/\x < (won.length:Int)):eP X won v=some (X.filter fun x=>won.getD x.toNat 0 == v.Owner):=by
 have hc:∀ x∈X,xT x won v=some (won.getD x.toNat 0 != v.Owner):=fun x hx=>by
  obtain ⟨h0,h1⟩:=hX x hx
  obtain ⟨k,rfl⟩:=Int.eq_ofNat_of_zero_le h0
  unfold xT
  rw [bS (by omega),aA,Int.toNat_natCast,List.getD_eq_getElem?_getD,List.getElem?_eq_getElem (by omega)]
  rfl
 have key:=del_gen (0:Int) (xs:=X) (p:=fun x=>won.getD x.toNat 0 != v.Owner) hl (r0:=dX X won v) ?_ (step:=fun s:List Int × Int × Int=>dU won v s.1 s.2.1 s.2.2) (fun s i j x hj hij hx hm hsl=>?_) (fun s i=>?_)
 ·have e:eP X won v=_:=key
  rw [e]
  congr 1
  refine List.filter_congr fun x _=>?_
  show (!(!(won.getD x.toNat 0 == v.Owner)))=_
  rw [Bool.not_not]
 ·unfold dX
  rw [aAh (step:=fun s=>dM X won v s) X (fun x=>won.getD x.toNat 0 != v.Owner) (fun k x hk hx=>by
   obtain ⟨hk',rfl⟩:=aJI hx
   simp only [dM,bV hk,if_pos,hx,aA,hc _ (List.getElem_mem hk'),bQ hk (show X.length < 4611686018427387904 by omega)]) (by simp only [dM,jH];rfl),aA]
  cases X.findIdx? (fun x=>won.getD x.toNat 0 != v.Owner)<;>rfl
 ·have hw:=bQ hj (show s.length < 4611686018427387904 by omega)
  simp only [dU,bV hj,if_pos,bS hj,aA,hx,hc x hm,dT,hw]
  cases won.getD x.toNat 0 != v.Owner with
  |true=>rfl
  |false=>
   simp only [Bool.not_true,Bool.not_false,if_pos,Bool.false_eq_true,if_false]
   rw [bS (by omega),aA,pL _ (by omega),aA,bQ (show i < s.length by omega) (by omega)]
 ·simp only [dU,jH];rfl
end
end Gv
set_option linter.unusedVariables false
set_option linter.unusedSimpArgs false
namespace Gv
open Go
section
variable {g l:List aO}
theorem aIA (l:List aO) (v:Int):vx l v=vx l (v.toNat:Int):=by
 unfold vx
 rw [Int.toNat_natCast]
theorem aNU {k:Nat} (hk:k < l.length) {e:Int} (he:e∈(vx l (k:Int)).Next):aIz l (l.set k ⟨(vx l (k:Int)).Owner,(vx l (k:Int)).Priority,[e]⟩) where
 len:=List.length_set
 own:=fun v=>by
  rw [aLy hk]
  split
  ·rename_i h;rw [aIA l v,h]
  ·rfl
 pr:=fun v=>by
  rw [aLy hk]
  split
  ·rename_i h;rw [aIA l v,h]
  ·rfl
 nx:=fun v=>by
  rw [aLy hk]
  split
  ·rename_i h
   exact .inr ⟨e,by rw [aIA l v,h];exact he,rfl⟩
  ·exact .inl rfl
theorem aIz.trans {g l m:List aO} (h:aIz g l) (h':aIz l m):aIz g m where
 len:=h'.len.trans h.len
 own:=fun v=>(h'.own v).trans (h.own v)
 pr:=fun v=>(h'.pr v).trans (h.pr v)
 nx:=fun v=>by
  rcases h'.nx v with e|⟨e,he,e2⟩
  ·rw [e];exact h.nx v
  ·exact .inr ⟨e,h.mem he,e2⟩
theorem SL.next {won ch:List Int} {k:Nat} (h:SL g l won ch k) (hk:k < g.length) (ho:(vx g (k:Int)).Owner=won.getD k 0) {e:Int} (he:e∈(vx l (k:Int)).Next) (hw:Wins (l.set k ⟨(vx l (k:Int)).Owner,(vx l (k:Int)).Priority,[e]⟩) won):
  SL g (l.set k ⟨(vx l (k:Int)).Owner,(vx l (k:Int)).Priority,[e]⟩) won (ch.set k e) (k+1) where
 le:=h.le.trans (aNU (by rw [h.le.len];exact hk) he)
 cl:=by rw [List.length_set];exact h.cl
 wi:=hw
 nx:=fun v hv=>by
  have hcl:=h.cl
  rw [aLy (by rw [h.le.len];exact hk)]
  by_cases hvk:v.toNat=k
  ·rw [if_pos hvk,if_pos ⟨by omega,by rw [aIA g v,hvk];exact ho⟩,hvk,List.getD_eq_getElem?_getD,List.getElem?_set_self (by omega)]
   rfl
  ·rw [if_neg hvk,h.nx v hv,List.getD_eq_getElem?_getD (l:=ch.set k e),List.getElem?_set_ne (fun hh=>hvk hh.symm),←List.getD_eq_getElem?_getD]
   have:(v.toNat < k+1/\(vx g v).Owner=won.getD v.toNat 0)<->(v.toNat < k/\(vx g v).Owner=won.getD v.toNat 0):=⟨fun hh=>⟨by omega,hh.2⟩,fun hh=>⟨by omega,hh.2⟩⟩
   by_cases hc:v.toNat < k/\(vx g v).Owner=won.getD v.toNat 0
   ·rw [if_pos hc,if_pos (this.2 hc)]
   ·rw [if_neg hc,if_neg (fun hh=>hc (this.1 hh))]
theorem keep_move {won ch:List Int} {k:Nat} (h:SL g l won ch k) (hk:k < g.length) (ho:(vx g (k:Int)).Owner=won.getD k 0):
  ∃ e,e∈(vx l (k:Int)).Next/\won.getD e.toNat 0=won.getD k 0/\Wins (l.set k ⟨(vx l (k:Int)).Owner,(vx l (k:Int)).Priority,[e]⟩) won:=by
 have hkl:k < l.length:=by rw [h.le.len];exact hk
 have hin:uZ l (k:Int):=⟨by omega,by omega⟩
 have hq:=h.wi.two _ hin
 rw [Int.toNat_natCast] at hq
 obtain ⟨σ,hr⟩:=h.wi.reg _ hq
 have hWk:vA l won (won.getD k 0) (k:Int):=⟨hin,by rw [Int.toNat_natCast]⟩
 have hm:=hr.mine _ hWk (by show (vx l (k:Int)).Owner=_;rw [h.le.own];exact ho)
 refine ⟨σ (k:Int),hm.1,hm.2.2,wins_less (aNU hkl hm.1) h.wi fun q hq'=>?_⟩
 by_cases e:q=won.getD k 0
 ·subst e
  refine ⟨σ,hr,fun v hv hov=>?_⟩
  rw [aLy hkl]
  split
  ·rename_i hvk
   have:v=(k:Int):=by have:=hv.1.1;omega
   rw [this]
   exact List.mem_singleton.2 rfl
  ·exact (hr.mine v hv hov).1
 ·obtain ⟨τ,hr'⟩:=h.wi.reg q hq'
  refine ⟨τ,hr',fun v hv hov=>?_⟩
  rw [aLy hkl]
  split
  ·rename_i hvk
   exact absurd (by rw [←hv.2,hvk]) e
  ·exact (hr'.mine v hv hov).1
theorem pick_move (hg:GOk g) (h1:1<=g.length) {won ch:List Int} {k:Nat} (h:SL g l won ch k) (hk:k < g.length) (ho:(vx g (k:Int)).Owner=won.getD k 0):
  ∃ l' ch',loop (fun s:List aO × Int=>rE won ch (k:Int) ((vx g (k:Int)).Next.filter fun x=>won.getD x.toNat 0 == (vx g (k:Int)).Owner) s.1 s.2) (l,0)=some (l',ch')/\SL g l' won ch' (k+1):=by
 have hgl:=hg.len
 have hkl:k < l.length:=by rw [h.le.len];exact hk
 have hkc:k < ch.length:=by rw [h.cl];exact hk
 have hnk:(vx l (k:Int)).Next=(vx g (k:Int)).Next:=by
  rw [h.nx _ ⟨by omega,by omega⟩,if_neg (fun hh=>by rw [Int.toNat_natCast] at hh;omega)]
 obtain ⟨es,he1,he2,he3⟩:=keep_move h hk ho
 generalize hO:((vx g (k:Int)).Next.filter fun x=>won.getD x.toNat 0 == (vx g (k:Int)).Owner)=O
 have hmem:es∈O:=by
  rw [←hO,List.mem_filter]
  refine ⟨by rw [←hnk];exact he1,?_⟩
  rw [he2,ho]
  exact beq_self_eq_true _
 have hOm:∀ e∈O,e∈(vx l (k:Int)).Next:=fun e he=>by
  rw [hnk]
  rw [←hO] at he
  exact (List.mem_filter.1 he).1
 have hOl:O.length<=100000:=by
  have h2:O.length<=(vx g (k:Int)).Next.length:=by rw [←hO];exact List.length_filter_le _ _
  have h3:(vx g (k:Int)).Next.length<=g.length:=aGN (x:=⟨g,[],[]⟩) hg (k:Int)
  omega
 obtain ⟨is,his,hes⟩:=List.getElem_of_mem hmem
 generalize hn:(fun e:Int=>(⟨(vx l (k:Int)).Owner,(vx l (k:Int)).Priority,[e]⟩:aO))=nk
 have hnk':∀ e,nk e=⟨(vx l (k:Int)).Owner,(vx l (k:Int)).Priority,[e]⟩:=fun e=>by rw [←hn]
 have key:=lQ (step:=fun s:List aO × Int=>rE won ch (k:Int) O s.1 s.2)
  (fun s=>(∃ X,s.1=l.set k ⟨(vx l (k:Int)).Owner,(vx l (k:Int)).Priority,X⟩)/\∃ i:Nat,s.2=(i:Int)/\i<=is) (fun s=>is+1 - s.2.toNat)
  (fun r=>∃ e,e∈(vx l (k:Int)).Next/\r=(l.set k (nk e),ch.set k e)/\Wins (l.set k (nk e)) won) (fun s hs=>?_) (s:=(l,0)) ⟨⟨(vx l (k:Int)).Next,by
   show l=l.set k (vx l (k:Int))
   rw [vx_nat hkl]
   exact (List.set_getElem_self hkl).symm⟩,0,rfl,Nat.zero_le _⟩
 ·obtain ⟨r,e1,e,e2,rfl,e3⟩:=key
  refine ⟨_,_,e1,?_⟩
  rw [hnk'] at e3 ⊢
  exact h.next hk ho e2 e3
 ·obtain ⟨s1,s2⟩:=s
  obtain ⟨⟨X,hX⟩,i,hi,hii⟩:=hs
  simp only at hX hi
  subst hX hi
  show (∃ s',rE won ch (k:Int) O (l.set k ⟨_,_,X⟩) (i:Int)=some (.inl s')/\_)\/∃ r,rE won ch (k:Int) O (l.set k ⟨_,_,X⟩) (i:Int)=some (.inr r)/\_
  have hiO:i < O.length:=by omega
  have hix:ix (l.set k ⟨(vx l (k:Int)).Owner,(vx l (k:Int)).Priority,X⟩) (k:Int)=some ⟨(vx l (k:Int)).Owner,(vx l (k:Int)).Priority,X⟩:=by
   rw [bS (by rw [List.length_set];exact hkl),List.getElem_set_self]
  unfold rE
  rw [if_pos (bV hiO),bS hiO,aA,hix,aA,pL _ (by rw [List.length_set];exact hkl),aA,List.set_set,bT (x:=(O.length:Int) - 1) (by omega) (by omega)]
  simp only
  rw [←hnk' O[i]]
  have hj4:rD ch (k:Int) (i:Int) O[i] (l.set k (nk O[i])) true=some (.inr (l.set k (nk O[i]),ch.set k O[i])):=by
   unfold rD
   rw [if_pos rfl,bS hkc,aA,pL _ hkc,aA]
  have hem:O[i]∈(vx l (k:Int)).Next:=hOm _ (List.getElem_mem hiO)
  by_cases hlast:(i:Int)=(O.length:Int) - 1
  ·have:i=is:=by omega
   subst this
   rw [if_pos (by simpa using hlast),hj4]
   refine .inr ⟨_,rfl,O[i],hem,rfl,?_⟩
   rw [hnk',hes];exact he3
  ·rw [if_neg (by simpa using hlast)]
   have hL:aIz g (l.set k (nk O[i])):=by rw [hnk'];exact h.le.trans (aNU hkl hem)
   have hG:=hL.ok hg
   have hl1:1<=(l.set k (nk O[i])).length:=by rw [hL.len];exact h1
   obtain ⟨o,e1,hw⟩:=aLX hG hl1
   have hol:=hw.len
   rw [e1,aA,Equal_int _ _ (by rw [hol,hL.len];omega),aA]
   by_cases heq:o=won
   ·rw [decide_eq_true heq,hj4]
    refine .inr ⟨_,rfl,O[i],hem,rfl,?_⟩
    rw [←heq];exact hw
   ·rw [decide_eq_false heq]
    have hne:i≠is:=fun hh=>by
     subst hh
     rw [hes,hnk'] at hw
     exact heq (wins_one (by rw [hes,hnk'] at hG;exact hG) hw he3)
    unfold rD
    rw [if_neg (by simp),bQ hiO (by omega)]
    refine .inl ⟨_,rfl,⟨⟨[O[i]],by rw [hnk']⟩,i+1,rfl,by omega⟩,?_⟩
    show is+1 - (((i+1:Nat):Int)).toNat < is+1 - ((i:Int)).toNat
    omega
theorem strat_ok (hg:GOk g) (h1:1<=g.length):∃ out ch,sG g=some out/\Wins g out/\yY g=some ch/\ch.length=g.length/\∀ q,q=0\/q=1->Reg (gg g) (uZ g) q (vA g out q) fun v=>ch.getD v.toNat 0:=by
 have hgl:=hg.len
 have hnx:∀ v,(vx g v).Next.length<=100000:=fun v=>by
  have:(vx g v).Next.length<=g.length:=aGN (x:=⟨g,[],[]⟩) hg v
  omega
 obtain ⟨won,e1,hw⟩:=aLX hg h1
 have hwl:=hw.len
 have key:=dO (step:=fun s:List aO × List Int × Int=>oH g won s.1 s.2.1 s.2.2) g.length (fun i (q:List aO × List Int)=>(q.1,q.2,(i:Int))) (fun i q=>SL g q.1 won q.2 i)
  (fun r=>∃ l,SL g l won r g.length) (fun i q hi hI=>?_) (fun q hI=>?_) g.length 0 (g,List.replicate g.length (-1)) (by omega) ⟨aIz.refl g,by simp,hw,fun v hv=>by rw [if_neg (by omega)]⟩
 ·obtain ⟨ch,e2,l,hS⟩:=key
  have e2':loop (fun s:List aO × List Int × Int=>oH g won s.1 s.2.1 s.2.2) (g,List.replicate g.length (-1),0)=some ch:=e2
  refine ⟨won,ch,e1,hw,?_,hS.cl,fun q hq=>?_⟩
  ·unfold yY
   rw [e1,aA,clone_eq (by omega) hnx,aA,aRT (-1) g.length h1 (by omega),aA,e2',aA]
   rfl
  ·obtain ⟨σ,hr⟩:=hS.wi.reg q hq
   have hin:∀ v,vA g won q v<->vA l won q v:=fun v=>by unfold vA;rw [hS.le.inG]
   have hone:∀ v,vA g won q v->(vx g v).Owner=q->(vx l v).Next=[ch.getD v.toNat 0]/\σ v=ch.getD v.toNat 0/\vA g won q (σ v):=fun v hv ho=>by
    have hn:=hS.nx v hv.1
    rw [if_pos ⟨by have:=hv.1.1;have:=hv.1.2;omega,by rw [hv.2];exact ho⟩] at hn
    have hm:=hr.mine v ((hin v).1 hv) (by show (vx l v).Owner=q;rw [hS.le.own];exact ho)
    have hE:σ v∈(vx l v).Next:=hm.1
    rw [hn,List.mem_singleton] at hE
    exact ⟨hn,hE,(hin _).2 hm.2⟩
   have hall:∀ v,vA g won q v->(vx g v).Owner≠q->(vx l v).Next=(vx g v).Next:=fun v hv ho=>by
    rw [hS.nx v hv.1,if_neg (fun hh=>ho (by rw [hh.2];exact hv.2))]
   refine ⟨fun v hv=>hv.1,fun v hv ho=>?_,fun v hv ho w hE hA=>?_,fun f hf hE hσ=>?_⟩
   ·obtain ⟨a,b,c⟩:=hone v hv ho
    refine ⟨?_,by rw [←b];exact c⟩
    refine hS.le.mem ?_
    rw [a]
    exact List.mem_singleton.2 rfl
   ·have:=hr.theirs v ((hin v).1 hv) (by show (vx l v).Owner≠q;rw [hS.le.own];exact ho) w (by show w∈(vx l v).Next;rw [hall v hv ho];exact hE) ((hS.le.inG w).2 hA)
    exact (hin w).2 this
   ·have h3:=hr.good f (fun n=>(hin _).1 (hf n)) (fun n=>?_) fun n ho=>?_
    ·have e:(gg l).pr=(gg g).pr:=funext hS.le.pr
     rw [←e];exact h3
    ·show f (n+1)∈(vx l (f n)).Next
     by_cases ho:(vx g (f n)).Owner=q
     ·obtain ⟨a,b,c⟩:=hone _ (hf n) ho
      rw [a,List.mem_singleton]
      exact hσ n ho
     ·rw [hall _ (hf n) ho];exact hE n
    ·have ho':(vx g (f n)).Owner=q:=by rw [←hS.le.own];exact ho
     obtain ⟨a,b,c⟩:=hone _ (hf n) ho'
     rw [b]
     exact hσ n ho'
 ·obtain ⟨l,ch⟩:=q
  simp only at hI
  have hiw:i < won.length:=by omega
  have hwi:won.getD i 0=won[i]:=by rw [List.getD_eq_getElem?_getD,List.getElem?_eq_getElem hiw];rfl
  show ∃ q':List aO × List Int,oH g won l ch (i:Int)=some (.inl (q'.1,q'.2,((i+1:Nat):Int)))/\_
  unfold oH
  rw [if_pos (bV hi),ixV9 hi,aA,bS hiw,aA]
  by_cases ho:(vx g (i:Int)).Owner=won.getD i 0
  ·rw [if_neg (by rw [ho,hwi];simp)]
   have hcl:bL (vx g (i:Int)).Next=some (vx g (i:Int)).Next:=by
    unfold bL
    rw [cG (by have:=hnx (i:Int);simp [iE];omega),aA,List.nil_append]
   rw [hcl,aA,own_moves (by have:=hnx (i:Int);omega) (fun x hx=>by rw [hwl];exact hg.nx _ x hx),aA]
   obtain ⟨l',ch',e3,hS⟩:=pick_move hg h1 hI hi ho
   rw [e3,aA]
   unfold xU uL
   rw [bQ hi (by omega)]
   exact ⟨(l',ch'),rfl,hS⟩
  ·rw [if_pos (by rw [hwi] at ho;simpa using ho)]
   unfold uL
   rw [bQ hi (by omega)]
   refine ⟨(l,ch),rfl,hI.le,hI.cl,hI.wi,fun v hv=>?_⟩
   rw [hI.nx v hv]
   by_cases hvi:v.toNat=i
   ·rw [if_neg (by omega),if_neg (fun hh=>ho (by rw [←hvi,←aIA];exact hh.2))]
   ·have:(v.toNat < i+1/\(vx g v).Owner=won.getD v.toNat 0)<->(v.toNat < i/\(vx g v).Owner=won.getD v.toNat 0):=⟨fun hh=>⟨by omega,hh.2⟩,fun hh=>⟨by omega,hh.2⟩⟩
    by_cases hc:v.toNat < i/\(vx g v).Owner=won.getD v.toNat 0
    ·rw [if_pos hc,if_pos (this.2 hc)]
    ·rw [if_neg hc,if_neg (fun hh=>hc (this.1 hh))]
 ·obtain ⟨l,ch⟩:=q
  refine ⟨ch,?_,l,hI⟩
  show oH g won l ch (g.length:Int)=_
  unfold oH
  rw [if_neg (by simp)]
end
end Gv
set_option linter.unusedVariables false
set_option linter.unusedSimpArgs false
namespace Gv
open Go
section
variable {f:List aT} {t:cN}
theorem row_at (ht:cM t) {v:Int} (h:0<=v):(v / t.N=0/\v % t.N=t.I)<->v=t.I:=by
 have h1:=ht.1
 have h2:=ht.2.1
 constructor
 ·rintro ⟨e1,e2⟩
  have:=Int.mul_ediv_add_emod v t.N
  rw [e1,e2,Int.mul_zero,Int.zero_add] at this
  exact this.symm
 ·intro e
  rw [e]
  exact ⟨Int.ediv_eq_zero_of_lt h2.1 (by omega),Int.emod_eq_of_lt h2.1 (by omega)⟩
theorem row_dec (ht:cM t) {v:Int} (h:0<=v):(decide (v / t.N=0)&&decide (v % t.N=t.I))=decide (v=t.I):=by
 rw [←Bool.decide_and]
 exact decide_eq_decide.2 (row_at ht h)
theorem aKO {α β:Type} {l:List α} {g:α->β} {i:Nat} (h:i < l.length):ix (l.map g) (i:Int)=some (g l[i]):=by
 rw [bS (by rw [List.length_map];exact h),List.getElem_map]
theorem start_eq (ht:cM t) {N:List Int} (hN:∀ v∈N,0<=v) (hl:N.length<=1000) (hs:N.Pairwise (· < ·)) {k:Nat} (hk:k < N.length) (hki:N[k]=t.I):aDt t (N.map (wC t))=some (k:Int):=by
 have hc:∀ v,0<=v->aAC (wC t v) t=some (decide (v=t.I)):=fun v hv=>by
  rw [←row_dec ht hv]
  unfold aAC wC
  rw [show ix [v / t.N,v % t.N] 0=some (v / t.N) from rfl,aA,show ix [v / t.N,v % t.N] 1=some (v % t.N) from rfl,aA]
  unfold yH
  by_cases e:v / t.N=0
  ·rw [if_pos (by simpa using e),decide_eq_true e,Bool.true_and]
   congr 1
  ·rw [if_neg (by simpa using e),decide_eq_false e,Bool.false_and]
 have key:∀ n i:Nat,i+n=k->loop (fun s:Int=>cT (N.map (wC t)) t s) (i:Int)=some (.inr (k:Int)):=by
  intro n
  induction n with
  |zero=>
   intro i hi
   obtain rfl:i=k:=by omega
   refine fP ?_
   unfold cT
   rw [if_pos (bV (by rw [List.length_map];exact hk)),aKO hk,aA,hc _ (hN _ (List.getElem_mem hk)),aA,decide_eq_true hki,if_pos rfl]
  |succ n ih=>
   intro i hi
   have hik:i < N.length:=by omega
   rw [←ih (i+1) (by omega)]
   refine fY ?_
   have hne:N[i]≠t.I:=by
    have:=List.pairwise_iff_getElem.1 hs i k hik hk (by omega)
    omega
   unfold cT
   rw [if_pos (bV (by rw [List.length_map];exact hik)),aKO hik,aA,hc _ (hN _ (List.getElem_mem hik)),aA,decide_eq_false hne,if_neg (by simp),bQ hik (by omega)]
 have e1:loop (fun s:Int=>cT (N.map (wC t)) t s) 0=some (.inr (k:Int)):=key k 0 (by omega)
 unfold aDt fD
 rw [e1,aA,aA]
end
end Gv
set_option linter.unusedVariables false
set_option linter.unusedSimpArgs false
namespace Gv
open Go
structure Psn (f:List aT) (t:cN) (N:List Int):Prop where
 srt:N.Pairwise (· < ·)
 ini:t.I∈N
 inn:∀ v∈N,uZ (gR f t f.length) v
 cl:∀ v∈N,∀ w∈(vx (gR f t f.length) v).Next,w∈N
 len:N.length<=120
 ok:EqOk (oU f t N)
section
variable {f:List aT} {t:cN}
theorem Psn.pos {N:List Int} (h:Psn f t N):∀ v∈N,0<=v:=fun v hv=>(h.inn v hv).1
theorem Psn.at_ {N:List Int} (h:Psn f t N):∃ k:Nat,k < N.length/\N.getD k 0=t.I:=by
 obtain ⟨k,hk,hki⟩:=List.getElem_of_mem h.ini
 exact ⟨k,hk,by rw [List.getD_eq_getElem?_getD,List.getElem?_eq_getElem hk];exact hki⟩
theorem psn_ok (hF:Frm f) (ht:cM t) (ft:iD 999999999 t) (hlab:aGh t):
  (jO f t=some ([],[],5)/\∃ e p,aDv f t=some (e,p,false))\/∃ N:List Int,Psn f t N/\jO f t=some (oU f t N,N.map (wC t),0):=by
 obtain ⟨V,hnd,hs,hr,hcl,e⟩:=makeE_ok hF.fok hF.tm ht hlab
 obtain ⟨e2,p2,e3⟩:=spec_make hF.fok hF.tm ht hlab hnd hs hr hcl
 have hV1:1<=V.length:=List.length_pos_of_mem hs
 have hi:jO f t=ob (pW f t) fun r30=>if (!r30.2.2) then (some ([],[],5)) else (some (r30.1,r30.2.1,0)):=by
  unfold jO
  rw [code_of ft ht hF.valid,aA,if_neg (by decide)]
 by_cases hgood:V.length<=120/\mP (grE (oU f t (srt iLt V))) (V.length - 1) < 9
 ·have hsl:(srt iLt V).length=V.length:=List.length_mergeSort _
  have hcl':∀ v∈srt iLt V,∀ w∈(vx (gR f t f.length) v).Next,w∈srt iLt V:=fun v hv w hw=>(List.mem_mergeSort).2 (hcl hgood.1 v (List.mem_mergeSort.1 hv) w hw)
  refine .inr ⟨srt iLt V,⟨(aGM hnd).1,(List.mem_mergeSort).2 hs,fun v hv=>(hr v (List.mem_mergeSort.1 hv)).2,hcl',by omega,?_⟩,?_⟩
  ·refine eqL_ok (aGM hnd).1 (by omega) (by omega) hcl' ?_
   rw [hsl];exact hgood.2
  ·rw [hi,e,if_neg (by omega),aA,decide_eq_true hgood.2]
   rfl
 ·refine .inl ⟨?_,e2,p2,by rw [e3,decide_eq_false hgood]⟩
  rw [hi,e,aA]
  by_cases h5:120 < V.length
  ·rw [if_pos h5];rfl
  ·rw [if_neg h5,decide_eq_false (fun h6=>hgood ⟨by omega,h6⟩)]
   rfl
theorem Psn.game {N:List Int} (h:Psn f t N):aJB (oU f t N)=some (wB (oU f t N)):=
 game_eqE _ (by have:=h.ok.len;omega) fun i hi=>by
  have:=srt_len (h.ok.tm i hi).1 (h.ok.tm i hi).2
  have:=h.ok.len
  omega
theorem Psn.start {N:List Int} (h:Psn f t N) (ht:cM t) {k:Nat} (hk:k < N.length) (hki:N.getD k 0=t.I):aDt t (N.map (wC t))=some (k:Int):=
 start_eq ht h.pos (by have:=h.len;omega) h.srt hk (by rw [←hki,List.getD_eq_getElem?_getD,List.getElem?_eq_getElem hk];rfl)
noncomputable def psx (f:List aT) (t:cN) (N:List Int) (k:Nat):gY:=⟨f,⟨t.N,t.I,t.L,t.E⟩,oU f t N,N.map (wC t),wB (oU f t N),(k:Int)⟩
theorem psnOf_ok {N:List Int} (h:Psn f t N) (ht:cM t) (hm:jO f t=some (oU f t N,N.map (wC t),0)) {k:Nat} (hk:k < N.length) (hki:N.getD k 0=t.I):
  mI f t=some (oU f t N,N.map (wC t),wB (oU f t N),(k:Int),0):=by
 unfold mI
 rw [hm,aA,if_neg (by simp),h.game,aA,h.start ht hk hki,aA]
theorem psnOf_no (hm:jO f t=some ([],[],5)):mI f t=some ([],[],[],0,5):=by
 unfold mI
 rw [hm,aA,if_pos (by decide)]
structure Sol (f:List aT) (t:cN) (N out ch:List Int):Prop where
 win:sG (wB (oU f t N))=some out
 wins:Wins (wB (oU f t N)) out
 str:yY (wB (oU f t N))=some ch
 chl:ch.length=N.length
 reg:∀ q,q=0\/q=1->Reg (gg (wB (oU f t N))) (uZ (wB (oU f t N))) q (vA (wB (oU f t N)) out q) fun v=>ch.getD v.toNat 0
 val:aIK (oU f t N)=some (out.map fun w=>w == 0)
theorem aGS {N:List Int}:(wB (oU f t N)).length=N.length:=by
 unfold wB
 rw [List.length_map,List.length_range,aDj]
theorem sol_ok {N:List Int} (h:Psn f t N):∃ out ch,Sol f t N out ch:=by
 obtain ⟨hg,h1,h2⟩:=gmE_ok h.ok
 obtain ⟨out,ch,e1,hw,e2,e3,e4⟩:=strat_ok hg h1
 have hol:=hw.len
 have hl:=h.ok.len
 refine ⟨out,ch,e1,hw,e2,by rw [e3,aGS],e4,?_⟩
 have key:=aDw (step:=fun s:List Bool × Int=>aBt out s.1 s.2) out (fun w=>w == 0) (fun r=>r) (fun k o w hk ho hw=>by
  show aBt out o (k:Int)=_
  unfold aBt
  rw [if_pos (bV hk),hw,aA,cG (by simp only [List.length_singleton];unfold iE;omega),aA,bQ hk (by omega)]) (fun o=>by
  show aBt out o (out.length:Int)=_
  unfold aBt
  rw [if_neg (by simp)])
 unfold aIK
 rw [h.game,aA,e1,aA,key,aA]
 rfl
theorem vtL {N:List Int} {i:Nat} (hi:i < N.length):vx (wB (oU f t N)) (i:Int)=vtE (oU f t N) i:=gmE_vx (by rw [aDj];exact hi)
theorem ownL {N:List Int} {i:Nat} (hi:i < N.length):(vx (wB (oU f t N)) (i:Int)).Owner=if (eqA (oU f t N) i).All=true then 1 else 0:=by rw [vtL hi];rfl
theorem nxL {N:List Int} {i:Nat} (hi:i < N.length):(vx (wB (oU f t N)) (i:Int)).Next=(eqA (oU f t N) i).Terms:=by rw [vtL hi];rfl
theorem aNV {N:List Int} {k:Nat} {q:Int} (hq:q=0\/q=1) {i:Nat} (hi:i < N.length):nX (psx f t N k) (q == 0) (i:Int)=some (decide ((vx (wB (oU f t N)) (i:Int)).Owner=q)):=by
 unfold nX
 show (ob (ix (oU f t N) (i:Int)) fun e22=>some (e22.All != (q == 0)))=_
 rw [ixE (by rw [aDj];exact hi),aA,ownL hi]
 rcases hq with rfl|rfl<;>cases (eqA (oU f t N) i).All<;>rfl
end
end Gv
set_option linter.unusedVariables false
set_option linter.unusedSimpArgs false
namespace Gv
open Go
def nxQ (g:List aO) (ch:List Int) (q v:Int):List Int:=if (vx g v).Owner=q then [ch.getD v.toNat 0] else (vx g v).Next
section
variable {f:List aT} {t:cN} {N out ch:List Int} {q:Int}
theorem ins_loop {L V:List Int} (hL:L.length<=100000) (hV:V.length<=100000):loop (fun s:List Int × Int=>fX L s.1 s.2) (V,0)=some (L.foldl mO V):=by
 refine aBw (step:=fun s:List Int × Int=>fX L s.1 s.2) L (fun j a=>(a,(j:Int))) (fun l a=>l.foldl mO a) (fun j a=>a.length<=100000+j) (fun j a x l hj hx hI=>?_) (fun a _=>?_) (a:=V) (by omega)
 ·refine .inl ⟨mO a x,?_,?_,rfl⟩
  ·show fX L a (j:Int)=_
   unfold fX mZ
   rw [if_pos (bV hj),hx,aA,aPI _ _ (by omega),aA,bQ hj (by omega)]
   unfold mO
   by_cases hm:x∈a
   ·have:(a.any fun y=>x == y)=true:=List.any_eq_true.2 ⟨x,hm,by simp⟩
    rw [this,if_neg (by simp),if_pos hm]
   ·have:(a.any fun y=>x == y)=false:=by
     rw [List.any_eq_false]
     intro y hy
     have:x≠y:=fun e=>hm (e ▸ hy)
     simpa using this
    rw [this,if_pos (by simp),if_neg hm,cG (by rw [List.length_singleton];unfold iE;omega),aA]
  ·have:(mO a x).length<=a.length+1:=by unfold mO;split<;>simp
   omega
 ·show fX L a (L.length:Int)=_
  unfold fX
  rw [if_neg (by simp)]
  rfl
theorem nxQ_in (h:Psn f t N) (hs:Sol f t N out ch) (hq:q=0\/q=1) {v:Int} (hv:vA (wB (oU f t N)) out q v):∀ w∈nxQ (wB (oU f t N)) ch q v,vA (wB (oU f t N)) out q w:=fun w hw=>by
 unfold nxQ at hw
 have hr:=hs.reg q hq
 obtain ⟨hg,h1,h2⟩:=gmE_ok h.ok
 by_cases ho:(vx (wB (oU f t N)) v).Owner=q
 ·rw [if_pos ho,List.mem_singleton] at hw
  rw [hw]
  exact (hr.mine v hv ho).2
 ·rw [if_neg ho] at hw
  exact hr.theirs v hv ho w hw (hg.nx v w hw)
theorem aFd (h:Psn f t N) {v:Int} (hv:vA (wB (oU f t N)) out q v):∃ i:Nat,v=(i:Int)/\i < N.length:=by
 have:=hv.1
 unfold uZ at this
 rw [aGS] at this
 exact ⟨v.toNat,by omega,by omega⟩
theorem aQf (h:Psn f t N) {V:List Int} (hnd:V.Nodup) (hV:∀ v∈V,vA (wB (oU f t N)) out q v):V.length<=N.length:=by
 have:=List.Nodup.length_le_of_subset (l₂:=(List.range N.length).map fun (i:Nat)=>(i:Int)) hnd (fun w hw=>by
  obtain ⟨i,e,hi⟩:=aFd h (hV w hw)
  rw [List.mem_map]
  exact ⟨i,List.mem_range.2 hi,e.symm⟩)
 rwa [List.length_map,List.length_range] at this
theorem reachQ_ok (h:Psn f t N) (hs:Sol f t N out ch) (hq:q=0\/q=1) {k:Nat} {s:Int}:∀ (n i:Nat) (V:List Int),i<=V.length->N.length+1<=n+i->V.Nodup->s∈V->(∀ v∈V,vA (wB (oU f t N)) out q v)->(∀ j,j < i->∀ w∈nxQ (wB (oU f t N)) ch q (V.getD j 0),w∈V)->
  ∃ V':List Int,loop (fun s:List Int × Int=>fJ (psx f t N k) (q == 0) ch s.1 s.2) (V,(i:Int))=some V'/\V'.Nodup/\s∈V'/\(∀ v∈V',vA (wB (oU f t N)) out q v)/\∀ v∈V',∀ w∈nxQ (wB (oU f t N)) ch q v,w∈V':=by
 intro n
 induction n with
 |zero=>
  intro i V hi hn hnd hsV hV hc
  have:=aQf h hnd hV
  omega
 |succ n ih=>
  intro i V hi hn hnd hsV hV hc
  have hVl:=aQf h hnd hV
  have hNl:=h.len
  by_cases h1:i < V.length
  ·have hvi:V.getD i 0=V[i]:=by rw [List.getD_eq_getElem?_getD,List.getElem?_eq_getElem h1];rfl
   have hv:=hV _ (List.getElem_mem h1)
   obtain ⟨j,hj,hjN⟩:=aFd h hv
   obtain ⟨hg,_,h2⟩:=gmE_ok h.ok
   have hnl:(vx (wB (oU f t N)) V[i]).Next.length<=(wB (oU f t N)).length:=aGN (x:=⟨wB (oU f t N),[],[]⟩) hg _
   rw [aGS] at hnl
   have hql:(nxQ (wB (oU f t N)) ch q V[i]).length<=100000:=by
    unfold nxQ
    split
    ·simp
    ·omega
   obtain ⟨f1,f2,f3,f4⟩:=aIT (nxQ (wB (oU f t N)) ch q V[i]) V hnd
   have hst:fJ (psx f t N k) (q == 0) ch V (i:Int)=some (.inl ((nxQ (wB (oU f t N)) ch q V[i]).foldl mO V,((i+1:Nat):Int))):=by
    have hix:ix (psx f t N k).equations V[i]=some (eqA (oU f t N) j):=by
     rw [hj]
     show ix (oU f t N) (j:Int)=_
     exact ixE (by rw [aDj];exact hjN)
    unfold fJ
    rw [if_pos (bV h1),bS h1,aA,hix,aA,hj,aNV hq hjN,aA]
    have hj9:∀ L:List Int,L.length<=100000->kA V (i:Int) L=some (.inl (L.foldl mO V,((i+1:Nat):Int))):=fun L hL=>by
     unfold kA
     rw [ins_loop hL (by omega),aA]
     unfold vT qV
     rw [bQ h1 (by omega)]
    unfold nxQ at hql ⊢
    rw [hj] at hql
    by_cases ho:(vx (wB (oU f t N)) (j:Int)).Owner=q
    ·rw [decide_eq_true ho,if_pos rfl,if_pos ho]
     have hjc:j < ch.length:=by rw [hs.chl];exact hjN
     rw [bS hjc,aA,hj9 _ (by simp),Int.toNat_natCast,List.getD_eq_getElem?_getD,List.getElem?_eq_getElem hjc]
     rfl
    ·rw [decide_eq_false ho,if_neg (by simp),if_neg ho]
     rw [if_neg ho] at hql
     rw [←nxL hjN,hj9 _ hql]
   have hpre:∀ j,j < V.length->((nxQ (wB (oU f t N)) ch q V[i]).foldl mO V).getD j 0=V.getD j 0:=fun j hj=>by
    obtain ⟨r,e⟩:=f1
    rw [←e,List.getD_eq_getElem?_getD,List.getD_eq_getElem?_getD,List.getElem?_append_left hj]
   obtain ⟨V',g1,g2⟩:=ih (i+1) ((nxQ (wB (oU f t N)) ch q V[i]).foldl mO V) (by have:=f1.length_le;omega) (by omega) f2 ((f3 s).2 (.inl hsV)) (fun v hv'=>by
     rcases (f3 v).1 hv' with h3|h3
     ·exact hV v h3
     ·exact nxQ_in h hs hq hv v h3) (fun j hj w hw=>by
     rw [hpre j (by omega)] at hw
     by_cases hji:j < i
     ·exact (f3 w).2 (.inl (hc j hji w hw))
     ·obtain rfl:j=i:=by omega
      rw [hvi] at hw
      exact (f3 w).2 (.inr hw))
   refine ⟨V',?_,g2⟩
   rw [fY (s':=((nxQ (wB (oU f t N)) ch q V[i]).foldl mO V,((i+1:Nat):Int))) hst]
   exact g1
  ·refine ⟨V,fP ?_,hnd,hsV,hV,fun v hv w hw=>?_⟩
   ·show fJ (psx f t N k) (q == 0) ch V (i:Int)=_
    unfold fJ
    rw [if_neg (by rw [decide_eq_true_iff];omega)]
   ·obtain ⟨j,hj,rfl⟩:=List.getElem_of_mem hv
    have:V.getD j 0=V[j]:=by rw [List.getD_eq_getElem?_getD,List.getElem?_eq_getElem hj];rfl
    exact hc j (by omega) w (by rw [this];exact hw)
noncomputable def aJU (f:List aT) (t:cN) (N ch:List Int) (q v:Int):List Int:=
 wC t (N.getD v.toNat 0)++(if (vx (wB (oU f t N)) v).Owner=q then wC t (N.getD (ch.getD v.toNat 0).toNat 0) else [])
theorem ixN {i:Nat} (hi:i < N.length):ix (N.map (wC t)) (i:Int)=some (wC t (N.getD i 0)):=by
 rw [aKO hi,List.getD_eq_getElem?_getD,List.getElem?_eq_getElem hi]
 rfl
theorem rows_ok (h:Psn f t N) (hs:Sol f t N out ch) (hq:q=0\/q=1) {k:Nat} {T:List Int} (hl:T.length<=1000) (hT:∀ v∈T,vA (wB (oU f t N)) out q v):
  loop (fun s:List (List Int) × Int=>fW (psx f t N k) (q == 0) ch T s.1 s.2) ([],0)=some (T.map (aJU f t N ch q)):=by
 refine aDw (step:=fun s:List (List Int) × Int=>fW (psx f t N k) (q == 0) ch T s.1 s.2) T (aJU f t N ch q) (fun r=>r) (fun j o x hj ho hx=>?_) (fun o=>?_)
 ·show fW (psx f t N k) (q == 0) ch T o (j:Int)=_
  obtain ⟨_,rfl⟩:=aJI hx
  have hw:=hT _ (List.getElem_mem hj)
  obtain ⟨i,hi,hiN⟩:=aFd h hw
  unfold fW
  rw [if_pos (bV hj),hx,aA,hi]
  have hlist:(psx f t N k).list=N.map (wC t):=rfl
  rw [hlist,ixN hiN,aA]
  have hcl:bL (wC t (N.getD i 0))=some (wC t (N.getD i 0)):=by
   unfold bL wC
   rw [cG (by simp [iE]),aA,List.nil_append]
  rw [hcl,aA,aNV hq hiN,aA]
  unfold mY aJU
  rw [Int.toNat_natCast]
  by_cases hoq:(vx (wB (oU f t N)) (i:Int)).Owner=q
  ·have hic:i < ch.length:=by rw [hs.chl];exact hiN
   have hw2:=((hs.reg q hq).mine _ (by rw [hi] at hw;exact hw) hoq).2
   obtain ⟨i2,hi2,hiN2⟩:=aFd h hw2
   simp only [Int.toNat_natCast] at hi2
   have hci:ch[i]=(i2:Int):=by
    rw [←hi2,List.getD_eq_getElem?_getD,List.getElem?_eq_getElem hic];rfl
   rw [decide_eq_true hoq,if_pos rfl,if_pos hoq,bS hic,aA,hci,ixN hiN2,aA,hi2,Int.toNat_natCast,cG (by unfold wC;simp [iE]),aA,cG (by rw [List.length_singleton];unfold iE;omega),aA,bQ hj (by omega)]
  ·rw [decide_eq_false hoq,if_neg (by simp),if_neg hoq,List.append_nil,cG (by rw [List.length_singleton];unfold iE;omega),aA,bQ hj (by omega)]
 ·show fW (psx f t N k) (q == 0) ch T o (T.length:Int)=_
  unfold fW
  rw [if_neg (by simp)]
structure Prf (f:List aT) (t:cN) (N out ch:List Int) (q:Int) (k:Nat) (T:List Int):Prop where
 nd:T.Nodup
 len:T.length<=N.length
 st:(k:Int)∈T
 won:∀ v∈T,vA (wB (oU f t N)) out q v
 cl:∀ v∈T,∀ w∈nxQ (wB (oU f t N)) ch q v,w∈T
theorem proof_ok (h:Psn f t N) (hs:Sol f t N out ch) {k:Nat} (hk:k < N.length) (hq:q=0\/q=1) (hqk:out.getD k 0=q):∃ T,Prf f t N out ch q k T/\jG (psx f t N k)=some ⟨q == 0,T.map (aJU f t N ch q)⟩:=by
 have hNl:=h.len
 have hol:out.length=N.length:=by rw [hs.wins.len,aGS]
 have hwk:vA (wB (oU f t N)) out q (k:Int):=⟨⟨by omega,by rw [aGS];omega⟩,by rw [Int.toNat_natCast];exact hqk⟩
 obtain ⟨V,e1,h1,h2,h3,h4⟩:=reachQ_ok h hs hq (k:=k) (s:=(k:Int)) (N.length+1) 0 [(k:Int)] (by simp) (by omega) (by simp) (by simp) (fun v hv=>by rw [List.mem_singleton] at hv;rw [hv];exact hwk) (fun j hj=>by omega)
 have hVl:=aQf h h1 h3
 have hm:∀ v,v∈srt iLt V<->v∈V:=fun v=>List.mem_mergeSort
 have hsl:(srt iLt V).length=V.length:=List.length_mergeSort _
 refine ⟨srt iLt V,⟨(aGM h1).1.imp fun h=>by omega,by omega,(hm _).2 h2,fun v hv=>h3 v ((hm v).1 hv),fun v hv w hw=>(hm w).2 (h4 v ((hm v).1 hv) w hw)⟩,?_⟩
 unfold jG
 have hval:aIK (psx f t N k).equations=some (out.map fun w=>w == 0):=hs.val
 have hix:ix (out.map fun w=>w == 0) (psx f t N k).start=some (q == 0):=by
  show ix _ (k:Int)=_
  rw [aKO (by omega)]
  rw [List.getD_eq_getElem?_getD,List.getElem?_eq_getElem (by omega)] at hqk
  have:out[k]=q:=hqk
  rw [this]
 have hstr:yY (psx f t N k).game=some ch:=hs.str
 have e1':loop (fun s:List Int × Int=>fJ (psx f t N k) (q == 0) ch s.1 s.2) ([(psx f t N k).start],0)=some V:=e1
 rw [hval,aA,hix,aA]
 unfold pN
 rw [hstr,aA,e1',aA]
 unfold qU
 rw [aKK (by omega),aA,rows_ok h hs hq (by omega) (fun v hv=>h3 v ((hm v).1 hv)),aA]
 rfl
end
end Gv
set_option linter.unusedVariables false
set_option linter.unusedSimpArgs false
namespace Gv
open Go
section
variable {f:List aT} {t:cN} {N out ch:List Int} {q:Int}
theorem ix_txt (ht:cM t) {e:Edge} (he:e∈t.E):ix t.L e.B=some (txt t e):=by
 have h:=(aLs ht he).2.2
 rw [aHq h.1 (by omega)]
 unfold txt
 rw [List.getD_eq_getElem?_getD,List.getElem?_eq_getElem (by omega)]
 rfl
theorem used_c1 (ht:cM t) (hlab:aGh t) {n:aT} (hn:n.B.length < 1000) {k:Nat} {e:Edge} (he:e∈t.E) (a x b y:Int):
  nY e [a,x,b,y] n (psx f t N k)=some (e.F == x&&(e.To == y&&aMo n (txt t e))):=by
 have hl:=hlab _ (txt_in ht he)
 unfold nY kW
 rw [show ix [a,x,b,y] 1=some x from rfl,aA,show ix [a,x,b,y] 3=some y from rfl,aA,show (psx f t N k).t.L=t.L from rfl,ix_txt ht he,aA,aJO (by omega) (by omega) hl.1,aA]
 cases e.F == x
 ·rfl
 ·cases e.To == y<;>rfl
noncomputable def prU (t:cN) (n:aT) (x y:Int) (e:Edge):Bool:=e.F == x&&(e.To == y&&aMo n (txt t e))
noncomputable def edU (t:cN) (n:aT) (x y:Int):Edge:=t.E.getD ((t.E.findIdx? (prU t n x y)).getD 0) default
theorem find_ed (ht:cM t) (hlab:aGh t) {n:aT} (hn:n.B.length < 1000) {k:Nat} (a x b y:Int) (hex:∃ e∈t.E,prU t n x y e=true):
  (∃ i:Int,dF (psx f t N k).t.E [a,x,b,y] n (psx f t N k)=some i/\ix (psx f t N k).t.E i=some (edU t n x y))/\edU t n x y∈t.E/\prU t n x y (edU t n x y)=true:=by
 have h300:=ht.2.2.2.1
 have hE:(psx f t N k).t.E=t.E:=rfl
 rw [hE]
 have hi:∃ i,t.E.findIdx? (prU t n x y)=some i:=by
  cases hf:t.E.findIdx? (prU t n x y) with
  |some i=>exact ⟨i,rfl⟩
  |none=>
   obtain ⟨e,he,hp⟩:=hex
   have:=List.findIdx?_eq_none_iff.1 hf e he
   rw [hp] at this
   cases this
 obtain ⟨i,hi⟩:=hi
 obtain ⟨hl,hp,_⟩:=List.findIdx?_eq_some_iff_getElem.1 hi
 have hed:edU t n x y=t.E[i]:=by
  unfold edU
  rw [hi]
  show t.E.getD i default=_
  rw [List.getD_eq_getElem?_getD,List.getElem?_eq_getElem hl]
  rfl
 refine ⟨⟨(i:Int),?_,by rw [bS hl,hed]⟩,by rw [hed];exact List.getElem_mem hl,by rw [hed];exact hp⟩
 unfold dF
 rw [aAh (step:=fun s=>cZ t.E [a,x,b,y] n (psx f t N k) s) t.E (prU t n x y) (fun j e hj he=>by
  obtain ⟨_,rfl⟩:=aJI he
  unfold cZ
  rw [if_pos (bV hj),he,aA,used_c1 ht hlab hn (List.getElem_mem hj),aA,bQ hj (by omega)]
  rfl) (by unfold cZ;rw [if_neg (by simp)]),aA,hi]
theorem aDk (ht:cM t) {k:Nat} {x:Int} (hx:inT t x):((k:Int) * t.N+x) / t.N=(k:Int)/\((k:Int) * t.N+x) % t.N=x:=by
 have h1:=ht.1
 unfold inT at hx
 constructor
 ·rw [Int.add_comm,Int.add_mul_ediv_right _ _ (by omega),Int.ediv_eq_zero_of_lt hx.1 hx.2,Int.zero_add]
 ·rw [Int.add_comm,Int.add_mul_emod_self_right,Int.emod_eq_of_lt hx.1 hx.2]
theorem aFe (ht:cM t) (h:Psn f t N) {i:Nat} (hi:i < N.length):∃ x,inT t x/\bR t (N.getD i 0) < f.length/\N.getD i 0=(bR t (N.getD i 0):Int) * t.N+x/\wC t (N.getD i 0)=[(bR t (N.getD i 0):Int),x]:=by
 obtain ⟨x,hx,hk,e⟩:=sP ht (h.inn _ (aCo hi))
 refine ⟨x,hx,hk,e,?_⟩
 obtain ⟨e1,e2⟩:=aDk ht (k:=bR t (N.getD i 0)) hx
 rw [←e] at e1 e2
 unfold wC
 rw [e1,e2]
theorem ed_ex (hF:Frm f) (ht:cM t) (hlab:aGh t) (h:Psn f t N) (hs:Sol f t N out ch) (hq:q=0\/q=1) {i:Nat} (hi:i < N.length) (hw:vA (wB (oU f t N)) out q (i:Int)) (ho:(vx (wB (oU f t N)) (i:Int)).Owner=q):
  ∃ j:Nat,ch.getD i 0=(j:Int)/\j < N.length/\N.getD j 0∈(vx (gR f t f.length) (N.getD i 0)).Next/\
   ∀ x y a b,wC t (N.getD i 0)=[a,x]->wC t (N.getD j 0)=[b,y]->((dG f (bR t (N.getD i 0))).Kind=4\/(dG f (bR t (N.getD i 0))).Kind=5)->N.getD j 0=(tR f (bR t (N.getD i 0))).getD 0 0 * t.N+y/\∃ e∈t.E,prU t (dG f (bR t (N.getD i 0))) x y e=true:=by
 have hm:=(hs.reg q hq).mine _ hw ho
 have hS:=ht.1
 have hfl:=hF.len
 obtain ⟨hg,_⟩:=aLu hF.fok ht (by omega) hlab
 have hEq:=aNQ hF.fok hF.tm ht hg h.srt h.inn h.cl
 have hE:ch.getD ((i:Int)).toNat 0∈(vx (wB (oU f t N)) (i:Int)).Next:=hm.1
 rw [Int.toNat_natCast] at hE
 obtain ⟨j,hj,e1,e2⟩:=(hEq.nx i hi _).1 hE
 refine ⟨j,e1,hj,e2,fun x y a b hx hy hmod=>?_⟩
 obtain ⟨x',hx',hk,e3,e4⟩:=aFe ht h hi
 obtain ⟨y',hy',_,e5,e6⟩:=aFe ht h hj
 rw [e4] at hx
 rw [e6] at hy
 have hxx:x'=x:=by simpa using (List.cons.inj hx).2
 have hyy:y'=y:=by simpa using (List.cons.inj hy).2
 rw [e3,aGQ ht hk hx'] at e2
 have e2:=aCn.1 e2
 unfold nxF at e2
 rw [if_pos hmod] at e2
 obtain ⟨e,he,e7⟩:=List.mem_map.1 e2
 rw [List.mem_filter,List.mem_filter] at he
 obtain ⟨⟨he1,he2⟩,he3⟩:=he
 have hto:=(aLs ht he1).2.1
 have ho1:=hF.fok.one _ hk hmod
 have hmem:∀ l:List Int,0 < l.length->l.getD 0 0∈l:=fun l hl=>by
  cases l with
  |nil=>cases hl
  |cons a r=>simp
 have hop:=(hF.fok.ops _ hk).2.2 _ (hmem _ (by omega))
 obtain ⟨o,hoo⟩:=Int.eq_ofNat_of_zero_le hop.1
 have hye:e.To=y:=by
  have d1:=(aDk ht (k:=o) hto).2
  have d2:=(aDk ht (k:=bR t (N.getD j 0)) hy').2
  rw [←e5,←e7,hoo] at d2
  rw [←d1,←hyy,←d2]
 refine ⟨by rw [←hye,←e7],e,he1,?_⟩
 unfold prU
 rw [Bool.and_eq_true,Bool.and_eq_true]
 exact ⟨by rw [←hxx];exact he2,by simpa using hye,he3⟩
noncomputable def fU (f:List aT) (t:cN) (N ch:List Int) (q v:Int):Option Edge:=
 if (vx (wB (oU f t N)) v).Owner=q/\((dG f (bR t (N.getD v.toNat 0))).Kind=4\/(dG f (bR t (N.getD v.toNat 0))).Kind=5) then some (edU t (dG f (bR t (N.getD v.toNat 0))) (N.getD v.toNat 0 % t.N) (N.getD (ch.getD v.toNat 0).toNat 0 % t.N)) else none
noncomputable def aPg (f:List aT) (t:cN) (N ch:List Int) (q:Int) (T:List Int):List Edge:=iW (srt cK (T.filterMap (fU f t N ch q)))
theorem used_ok (hF:Frm f) (ht:cM t) (hlab:aGh t) (h:Psn f t N) (hs:Sol f t N out ch) (hq:q=0\/q=1) {k:Nat} {T:List Int} (hT:Prf f t N out ch q k T) (v:Bool):
  kC (psx f t N k) ⟨v,T.map (aJU f t N ch q)⟩=some (aPg f t N ch q T):=by
 have hNl:=h.len
 have hTl:=hT.len
 have key:=aBw (step:=fun s:List Edge × Int=>dY (psx f t N k) ⟨v,T.map (aJU f t N ch q)⟩ s.1 s.2) T (fun j a=>(a,(j:Int))) (fun l a=>a++l.filterMap (fU f t N ch q)) (fun j a=>a.length<=j) (fun j a x l hj hx hI=>?_) (fun a _=>?_) (a:=[]) (Nat.zero_le _)
 ·unfold kC
  have key':loop (fun s:List Edge × Int=>dY (psx f t N k) ⟨v,T.map (aJU f t N ch q)⟩ s.1 s.2) ([],0)=some (T.filterMap (fU f t N ch q)):=key
  have hl:(T.filterMap (fU f t N ch q)).length<=T.length:=List.length_filterMap_le _ _
  rw [key',aA]
  unfold rR aGr
  rw [if_pos (by simp [iE];omega),aA,aOl _ (by rw [show (srt cK (T.filterMap (fU f t N ch q))).length=(T.filterMap (fU f t N ch q)).length from List.length_mergeSort _];omega),aA]
  rfl
 ·obtain ⟨_,rfl⟩:=aJI hx
  have hw:=hT.won _ (List.getElem_mem hj)
  obtain ⟨i,hiv,hi⟩:=aFd h hw
  rw [hiv] at hw
  obtain ⟨x,hx',hk,e1,e2⟩:=aFe ht h hi
  have hmodx:N.getD i 0 % t.N=x:=by
   have:=(aDk ht (k:=bR t (N.getD i 0)) hx').2
   rwa [←e1] at this
  have hlab9:=hF.fok.lab _ hk
  have hrow:ix (T.map (aJU f t N ch q)) (j:Int)=some (aJU f t N ch q (i:Int)):=by rw [aKO hj,hiv]
  refine .inl ?_
  have hgo:∀ (o:Option Edge),fU f t N ch q T[j]=o->dY (psx f t N k) ⟨v,T.map (aJU f t N ch q)⟩ a (j:Int)=some (.inl (a++o.toList,((j+1:Nat):Int)))->∃ a',dY (psx f t N k) ⟨v,T.map (aJU f t N ch q)⟩ a (j:Int)=some (.inl (a',((j+1:Nat):Int)))/\a'.length<=j+1/\a'++l.filterMap (fU f t N ch q)=a++(T[j]::l).filterMap (fU f t N ch q):=fun o ho e=>by
   refine ⟨_,e,?_,?_⟩
   ·rw [List.length_append]
    have:o.toList.length<=1:=by cases o<;>simp
    omega
   ·rw [List.filterMap_cons,ho]
    cases o<;>simp
  have hnode:ix (psx f t N k).f (bR t (N.getD i 0):Int)=some (dG f (bR t (N.getD i 0))):=kH hk
  have hj2:∀ b:List Edge,lF (j:Int) b=some (.inl (b,((j+1:Nat):Int))):=fun b=>by
   unfold lF
   rw [bQ hj (by omega)]
  by_cases ho:(vx (wB (oU f t N)) (i:Int)).Owner=q
  ·obtain ⟨jj,c1,c2,c3,c4⟩:=ed_ex hF ht hlab h hs hq hi hw ho
   obtain ⟨y,hy',hk',e3,e4⟩:=aFe ht h c2
   have hmody:N.getD jj 0 % t.N=y:=by
    have:=(aDk ht (k:=bR t (N.getD jj 0)) hy').2
    rwa [←e3] at this
   have hrq:aJU f t N ch q (i:Int)=[(bR t (N.getD i 0):Int),x,(bR t (N.getD jj 0):Int),y]:=by
    unfold aJU
    rw [Int.toNat_natCast,if_pos ho,c1,Int.toNat_natCast,e2,e4]
    rfl
   by_cases hmod:(dG f (bR t (N.getD i 0))).Kind=4\/(dG f (bR t (N.getD i 0))).Kind=5
   ·obtain ⟨_,hex⟩:=c4 x y _ _ e2 e4 hmod
    obtain ⟨⟨ii,d1,d2⟩,d3,d4⟩:=find_ed (f:=f) (N:=N) (k:=k) ht hlab hlab9 (bR t (N.getD i 0):Int) x (bR t (N.getD jj 0):Int) y hex
    refine hgo (some (edU t (dG f (bR t (N.getD i 0))) x y)) ?_ ?_
    ·unfold fU
     rw [hiv,Int.toNat_natCast,if_pos ⟨ho,hmod⟩,c1,Int.toNat_natCast,hmodx,hmody]
    ·unfold dY
     rw [List.length_map,if_pos (bV hj),hrow,aA,hrq,show ix [(bR t (N.getD i 0):Int),x,(bR t (N.getD jj 0):Int),y] 0=some (bR t (N.getD i 0):Int) from rfl,aA,hnode,aA,if_neg (by simp),yB,aA,decide_eq_true hmod]
     unfold jD
     rw [if_neg (by simp),d1,aA,d2,aA,cG (by rw [List.length_singleton];unfold iE;omega),aA,hj2]
     rfl
   ·refine hgo none ?_ ?_
    ·unfold fU
     rw [hiv,Int.toNat_natCast,if_neg (fun hh=>hmod hh.2)]
    ·unfold dY
     rw [List.length_map,if_pos (bV hj),hrow,aA,hrq,show ix [(bR t (N.getD i 0):Int),x,(bR t (N.getD jj 0):Int),y] 0=some (bR t (N.getD i 0):Int) from rfl,aA,hnode,aA,if_neg (by simp),yB,aA,decide_eq_false hmod]
     unfold jD
     rw [if_pos (by simp),hj2,Option.toList_none,List.append_nil]
  ·have hrq:aJU f t N ch q (i:Int)=[(bR t (N.getD i 0):Int),x]:=by
    unfold aJU
    rw [Int.toNat_natCast,if_neg ho,e2]
    rfl
   refine hgo none ?_ ?_
   ·unfold fU
    rw [hiv,if_neg (fun hh=>ho hh.1)]
   ·unfold dY
    rw [List.length_map,if_pos (bV hj),hrow,aA,hrq,show ix [(bR t (N.getD i 0):Int),x] 0=some (bR t (N.getD i 0):Int) from rfl,aA,hnode,aA,if_pos (by simp)]
    unfold jD
    rw [if_pos rfl,hj2,Option.toList_none,List.append_nil]
 ·show dY _ _ a (T.length:Int)=some (.inr (a++[].filterMap (fU f t N ch q)))
  unfold dY
  rw [List.length_map,if_neg (by simp),List.filterMap_nil,List.append_nil]
theorem aSs (hF:Frm f) (ht:cM t) (hlab:aGh t) (h:Psn f t N) (hs:Sol f t N out ch) (hq:q=0\/q=1) {k:Nat} {T:List Int} (hT:Prf f t N out ch q k T):
  SE (aPg f t N ch q T)/\(∀ e∈aPg f t N ch q T,e∈t.E)/\
  ∀ i:Nat,(i:Int)∈T->(vx (wB (oU f t N)) (i:Int)).Owner=q->((dG f (bR t (N.getD i 0))).Kind=4\/(dG f (bR t (N.getD i 0))).Kind=5)->∃ e∈aPg f t N ch q T,prU t (dG f (bR t (N.getD i 0))) (N.getD i 0 % t.N) (N.getD (ch.getD i 0).toNat 0 % t.N) e=true:=by
 have hone:∀ i:Nat,(i:Int)∈T->(vx (wB (oU f t N)) (i:Int)).Owner=q->((dG f (bR t (N.getD i 0))).Kind=4\/(dG f (bR t (N.getD i 0))).Kind=5)->edU t (dG f (bR t (N.getD i 0))) (N.getD i 0 % t.N) (N.getD (ch.getD i 0).toNat 0 % t.N)∈t.E/\prU t (dG f (bR t (N.getD i 0))) (N.getD i 0 % t.N) (N.getD (ch.getD i 0).toNat 0 % t.N) (edU t (dG f (bR t (N.getD i 0))) (N.getD i 0 % t.N) (N.getD (ch.getD i 0).toNat 0 % t.N))=true:=fun i hiT ho hmod=>by
  have hw:=hT.won _ hiT
  obtain ⟨i',hii,hi⟩:=aFd h hw
  obtain rfl:i=i':=by omega
  obtain ⟨jj,c1,c2,c3,c4⟩:=ed_ex hF ht hlab h hs hq hi hw ho
  obtain ⟨x,hx',hk,e1,e2⟩:=aFe ht h hi
  obtain ⟨y,hy',hk',e3,e4⟩:=aFe ht h c2
  have hmodx:N.getD i 0 % t.N=x:=by
   have:=(aDk ht (k:=bR t (N.getD i 0)) hx').2
   rwa [←e1] at this
  have hmody:N.getD jj 0 % t.N=y:=by
   have:=(aDk ht (k:=bR t (N.getD jj 0)) hy').2
   rwa [←e3] at this
  obtain ⟨_,hex⟩:=c4 x y _ _ e2 e4 hmod
  have:=(find_ed (f:=f) (N:=N) (k:=k) ht hlab (hF.fok.lab _ hk) (bR t (N.getD i 0):Int) x (bR t (N.getD jj 0):Int) y hex).2
  rw [c1,Int.toNat_natCast,hmodx,hmody]
  exact this
 refine ⟨aPR _,fun e he=>?_,fun i hiT ho hmod=>?_⟩
 ·obtain ⟨v,hv,hf⟩:=List.mem_filterMap.1 (aKL.1 he)
  obtain ⟨i,hiv,hi⟩:=aFd h (hT.won v hv)
  subst hiv
  unfold fU at hf
  split at hf
  ·rename_i hc
   rw [Int.toNat_natCast] at hc hf
   cases hf
   exact (hone i hv hc.1 hc.2).1
  ·cases hf
 ·refine ⟨_,aKL.2 (List.mem_filterMap.2 ⟨(i:Int),hiT,?_⟩),(hone i hiT ho hmod).2⟩
  unfold fU
  rw [Int.toNat_natCast,if_pos ⟨ho,hmod⟩]
end
end Gv
set_option linter.unusedVariables false
set_option linter.unusedSimpArgs false
namespace Gv
open Go
theorem aCm.eqv {V:Type} {pr pr':V->Int} {p:Int} {f:Nat->V} (e:∀ n,pr (f n)=pr' (f n)) (h:aCm pr p f):aCm pr' p f:=by
 obtain ⟨m,h1,h2,N,h3⟩:=h
 refine ⟨m,h1,fun N'=>?_,N,fun n hn=>by rw [←e];exact h3 n hn⟩
 obtain ⟨n,hn,e1⟩:=h2 N'
 exact ⟨n,hn,by rw [←e];exact e1⟩
def aAj (t:cN) (E:List Edge):cN:=⟨t.N,t.I,t.L,E⟩
def aHo (t:cN) (E:List Edge):Prop:=SE E/\∀ e∈E,e∈t.E
section
variable {f:List aT} {t:cN} {N out ch:List Int} {q:Int} {E:List Edge}
theorem aHo.len (h:aHo t E):E.length<=t.E.length:=List.Nodup.length_le_of_subset (aQX h.1) fun e he=>h.2 e he
theorem aHo.ok (h:aHo t E) (ht:cM t):cM (aAj t E):=by
 have h300:=ht.2.2.2.1
 have hl:=h.len
 exact ⟨ht.1,ht.2.1,ht.2.2.1,aQZ (by show E.length<=300;omega) h.1 fun e he=>aIO ht (h.2 e he)⟩
theorem aHo.fits (h:aHo t E) {n:Nat} (hf:iD n t):iD n (aAj t E):=⟨hf.1,hf.2.1,Nat.le_trans h.len hf.2.2⟩
theorem sub_lab (hlab:aGh t):aGh (aAj t E):=hlab
theorem aQg (ht:cM t) (h:E.length<=100000):nO t E=some (aAj t E):=by
 have h1:=ht.2.2.1.2.1
 unfold nO iC cP
 rw [cG (by rw [List.length_nil];unfold iE;omega),aA,aA,cG (by rw [List.length_nil];unfold iE;omega),aA,aA,List.nil_append,List.nil_append]
 rfl
theorem nx_sub (h:aHo t E) {k:Nat} {x w:Int} (hw:w∈nxF f (aAj t E) k x):w∈nxF f t k x:=by
 unfold nxF at hw ⊢
 by_cases hm:(dG f k).Kind=4\/(dG f k).Kind=5
 ·rw [if_pos hm] at hw ⊢
  obtain ⟨e,he,rfl⟩:=List.mem_map.1 hw
  rw [List.mem_filter,List.mem_filter] at he
  exact List.mem_map.2 ⟨e,List.mem_filter.2 ⟨List.mem_filter.2 ⟨h.2 e he.1.1,he.1.2⟩,he.2⟩,rfl⟩
 ·rw [if_neg hm] at hw ⊢
  exact hw
theorem aQh (h:aHo t E) (ht:cM t) {v:Int} (hv:uZ (gR f t f.length) v):(vx (gR f (aAj t E) f.length) v).Owner=(vx (gR f t f.length) v).Owner/\(vx (gR f (aAj t E) f.length) v).Priority=(vx (gR f t f.length) v).Priority/\∀ w∈(vx (gR f (aAj t E) f.length) v).Next,w∈(vx (gR f t f.length) v).Next:=by
 obtain ⟨x,hx,hk,e⟩:=sP ht hv
 have e1:vx (gR f t f.length) v=aJP f t (bR t v) x:=by
  have:=aGQ ht hk hx
  rwa [←e] at this
 have e2:vx (gR f (aAj t E) f.length) v=aJP f (aAj t E) (bR t v) x:=by
  have:=aGQ (h.ok ht) hk (t:=aAj t E) hx
  have e':v=(bR t v:Int) * (aAj t E).N+x:=e
  rwa [←e'] at this
 rw [e1,e2]
 exact ⟨rfl,rfl,fun w hw=>aCn.2 (nx_sub h (aCn.1 hw))⟩
theorem inG_sub {v:Int}:uZ (gR f (aAj t E) f.length) v<->uZ (gR f t f.length) v:=by
 unfold uZ
 rw [yN,yN]
 rfl
theorem sub_won (hF:Frm f) (ht:cM t) (hlab:aGh t) (h:Psn f t N) (hs:Sol f t N out ch) (hq:q=0\/q=1) {k:Nat} (hk:k < N.length) (hki:N.getD k 0=t.I) {T:List Int} (hT:Prf f t N out ch q k T) (hE:aHo t E)
  (hU:∀ i:Nat,(i:Int)∈T->(vx (wB (oU f t N)) (i:Int)).Owner=q->((dG f (bR t (N.getD i 0))).Kind=4\/(dG f (bR t (N.getD i 0))).Kind=5)->∃ e∈E,prU t (dG f (bR t (N.getD i 0))) (N.getD i 0 % t.N) (N.getD (ch.getD i 0).toNat 0 % t.N) e=true)
  {p:Int} (hp:p=0\/p=1) {W:Int->Prop} {σ:Int->Int} (hr:Reg (gg (gR f (aAj t E) f.length)) (uZ (gR f (aAj t E) f.length)) p W σ) (hW:W t.I):p=q:=by
 have hS:=ht.1
 have hfl:=hF.len
 obtain ⟨hg,_⟩:=aLu hF.fok ht (by omega) hlab
 have hEq:=aNQ hF.fok hF.tm ht hg h.srt h.inn h.cl
 have hTN:∀ i:Nat,(i:Int)∈T->i < N.length:=fun i hi=>by
  obtain ⟨i',e,hi'⟩:=aFd h (hT.won _ hi)
  omega
 have hin:∀ i:Nat,i < N.length->uZ (gR f t f.length) (N.getD i 0):=fun i hi=>h.inn _ (aCo hi)
 have hmove:∀ i:Nat,i < N.length->∀ w,w∈(vx (gR f (aAj t E) f.length) (N.getD i 0)).Next->∃ j:Nat,j < N.length/\w=N.getD j 0/\(j:Int)∈(vx (wB (oU f t N)) (i:Int)).Next:=fun i hi w hw=>by
  have h1:=(aQh hE ht (hin i hi)).2.2 w hw
  obtain ⟨j,hj,e⟩:=List.getElem_of_mem (h.cl _ (aCo hi) w h1)
  have e':N.getD j 0=w:=by rw [List.getD_eq_getElem?_getD,List.getElem?_eq_getElem hj];exact e
  exact ⟨j,hj,e'.symm,(hEq.nx i hi _).2 ⟨j,hj,rfl,by rw [e'];exact h1⟩⟩
 refine Classical.byContradiction fun hne=>?_
 refine lockS (R:=fun v (w:Int)=>∃ i:Nat,(i:Int)∈T/\w=(i:Int)/\v=N.getD i 0) (A:=uZ (gR f (aAj t E) f.length)) (A':=uZ (wB (oU f t N))) (fun v w hR hv hw=>?_) (fun F g hR hF1 hF2 hg1=>?_) hr (hs.reg q hq) hne ⟨k,hT.st,rfl,hki.symm⟩ hW (hT.won _ hT.st)
 ·obtain ⟨i,hiT,rfl,rfl⟩:=hR
  have hi:=hTN i hiT
  obtain ⟨o1,o2,o3⟩:=aQh hE ht (hin i hi)
  have ho:(gg (gR f (aAj t E) f.length)).own (N.getD i 0)=(gg (wB (oU f t N))).own (i:Int):=o1.trans (hEq.own i hi).symm
  have hcl:=hT.cl _ hiT
  refine ⟨ho,?_,fun hop=>?_,fun hoq=>?_⟩
  ·have h1:(vx (gR f t f.length) (N.getD i 0)).Owner=0\/(vx (gR f t f.length) (N.getD i 0)).Owner=1:=hg.own _
   show (vx _ _).Owner=p\/(vx _ _).Owner=q
   rw [o1]
   omega
  ·have hm:=hr.mine _ hv hop
   obtain ⟨j,hj,e1,e2⟩:=hmove i hi _ hm.1
   have hno:¬ (vx (wB (oU f t N)) (i:Int)).Owner=q:=fun hh=>by
    have:(gg (wB (oU f t N))).own (i:Int)=q:=hh
    rw [←ho,hop] at this
    exact hne this
   refine ⟨(j:Int),e2,⟨by omega,by rw [aGS];omega⟩,j,hcl _ ?_,rfl,e1⟩
   unfold nxQ
   rw [if_neg hno]
   exact e2
  ·have hoq':(vx (wB (oU f t N)) (i:Int)).Owner=q:=hoq
   obtain ⟨j,c1,c2,c3,c4⟩:=ed_ex hF ht hlab h hs hq hi hw hoq'
   obtain ⟨x,hx,hkx,e1,e2⟩:=aFe ht h hi
   obtain ⟨y,hy,_,e3,e4⟩:=aFe ht h c2
   have hjT:(j:Int)∈T:=hcl _ (by
    unfold nxQ
    rw [if_pos hoq',Int.toNat_natCast,c1]
    exact List.mem_singleton.2 rfl)
   refine ⟨N.getD j 0,?_,inG_sub.2 (hin j c2),j,hjT,by show ch.getD ((i:Int)).toNat 0=_;rw [Int.toNat_natCast,c1],rfl⟩
   show N.getD j 0∈(vx (gR f (aAj t E) f.length) (N.getD i 0)).Next
   have v1:vx (gR f t f.length) (N.getD i 0)=aJP f t (bR t (N.getD i 0)) x:=by
    have:=aGQ ht hkx hx
    rwa [←e1] at this
   have v2:vx (gR f (aAj t E) f.length) (N.getD i 0)=aJP f (aAj t E) (bR t (N.getD i 0)) x:=by
    have:=aGQ (hE.ok ht) hkx (t:=aAj t E) hx
    have e':N.getD i 0=(bR t (N.getD i 0):Int) * (aAj t E).N+x:=e1
    rwa [←e'] at this
   rw [v2]
   refine aCn.2 ?_
   rw [v1] at c3
   have c3:=aCn.1 c3
   by_cases hm:(dG f (bR t (N.getD i 0))).Kind=4\/(dG f (bR t (N.getD i 0))).Kind=5
   ·obtain ⟨d1,_⟩:=c4 x y _ _ e2 e4 hm
    obtain ⟨e,he,hpr⟩:=hU i hiT hoq' hm
    rw [c1,Int.toNat_natCast] at hpr
    have hmodx:N.getD i 0 % t.N=x:=by
     have:=(aDk ht (k:=bR t (N.getD i 0)) hx).2
     rwa [←e1] at this
    have hmody:N.getD j 0 % t.N=y:=by
     have:=(aDk ht (k:=bR t (N.getD j 0)) hy).2
     rwa [←e3] at this
    rw [hmodx,hmody] at hpr
    unfold prU at hpr
    rw [Bool.and_eq_true,Bool.and_eq_true] at hpr
    unfold nxF
    rw [if_pos hm]
    refine List.mem_map.2 ⟨e,List.mem_filter.2 ⟨List.mem_filter.2 ⟨he,hpr.1⟩,hpr.2.2⟩,?_⟩
    have:e.To=y:=by simpa using hpr.2.1
    rw [this]
    exact d1.symm
   ·unfold nxF at c3 ⊢
    rw [if_neg hm] at c3 ⊢
    exact c3
 ·have hR':∀ n,∃ i:Nat,i < N.length/\g n=(i:Int)/\F n=N.getD i 0:=fun n=>by
   obtain ⟨i,hiT,e1,e2⟩:=hR n
   exact ⟨i,hTN i hiT,e1,e2⟩
  refine eq_good hF.fok hF.tm ht hEq hR' (fun n=>?_) (hg1.eqv fun n=>?_)
  ·obtain ⟨i,hi,_,e⟩:=hR' n
   have h1:F (n+1)∈(vx (gR f (aAj t E) f.length) (F n)).Next:=hF1 n
   rw [e] at h1
   show F (n+1)∈(vx (gR f t f.length) (F n)).Next
   rw [e]
   exact (aQh hE ht (hin i hi)).2.2 _ h1
  ·obtain ⟨i,hi,_,e⟩:=hR' n
   show (vx (gR f (aAj t E) f.length) (F n)).Priority=(vx (gR f t f.length) (F n)).Priority
   rw [e]
   exact (aQh hE ht (hin i hi)).2.1
theorem aMz (hF:Frm f) (ht:cM t) (hlab:aGh t):∃ m p,kY f t 0=some m/\ix m t.I=some (p == 0)/\(p=0\/p=1)/\∃ W σ,Reg (gg (gR f t f.length)) (uZ (gR f t f.length)) p W σ/\W t.I:=by
 have h1:=ht.1
 have hi:=ht.2.1
 obtain ⟨m,e1,e2,e3⟩:=sem_ok hF.fok ht hlab
 obtain ⟨p,g1,g2,W,σ,g3,g4⟩:=e3 t.I (by unfold inT;omega)
 rw [show ((0:Nat):Int) * t.N+t.I=t.I by rw [show ((0:Nat):Int)=0 from rfl,Int.zero_mul,Int.zero_add]] at g4
 refine ⟨m,p,e1,?_,g1,W,σ,g3,g4⟩
 rw [ixOn (by omega) (by omega)]
 by_cases hp0:p=0
 ·rw [decide_eq_true (g2.2 hp0),hp0];rfl
 ·rw [decide_eq_false (fun h=>hp0 (g2.1 h))]
  simp [hp0]
theorem aPh (hF:Frm f) (ht:cM t) (ft:iD 999999999 t) {m:List Bool} {b:Bool} (e1:kY f t 0=some m) (e2:ix m t.I=some b):sK f t=some (b,0):=by
 unfold sK
 rw [code_of ft ht hF.valid,aA,if_neg (by simp),e1,aA,e2,aA]
theorem evid_val (hF:Frm f) (ht:cM t) (hlab:aGh t) (hE:aHo t E):∃ p p',nP f t E=some ((p == 0) == (p' == 0))/\(p=0\/p=1)/\(p'=0\/p'=1)/\(∃ W σ,Reg (gg (gR f t f.length)) (uZ (gR f t f.length)) p W σ/\W t.I)/\∃ W σ,Reg (gg (gR f (aAj t E) f.length)) (uZ (gR f (aAj t E) f.length)) p' W σ/\W t.I:=by
 have h300:=ht.2.2.2.1
 have hl:=hE.len
 obtain ⟨m,p,e1,e2,e3,e4⟩:=aMz hF ht hlab
 obtain ⟨m',p',e1',e2',e3',e4'⟩:=aMz hF (hE.ok ht) (sub_lab hlab)
 refine ⟨p,p',?_,e3,e3',e4,e4'⟩
 unfold nP
 rw [e1,aA,e2,aA,aQg ht (by omega),aA,e1',aA]
 have e5:ix m' t.I=some (p' == 0):=e2'
 rw [e5,aA]
end
end Gv
set_option linter.unusedVariables false
set_option linter.unusedSimpArgs false
namespace Gv
open Go
section
variable {f:List aT} {t:cN} {N out ch:List Int} {q:Int} {E:List Edge}
theorem aRs {L:List Edge} (hl:L.length<=100000) {e:Edge} (he:e∈L):eR L e=some true:=by
 unfold eR fF
 rw [aAh (step:=fun s=>dI L e s) L (fun x=>decide (e=x)) (fun k x hk hx=>by
  unfold dI
  rw [if_pos (bV hk),hx,aA,bQ hk (by omega)]) (by unfold dI;rw [if_neg (by simp)]),aA]
 cases hf:L.findIdx? (fun x=>decide (e=x)) with
 |none=>
  have:=List.findIdx?_eq_none_iff.1 hf e he
  simp at this
 |some i=>
  show (ob (some (i:Int)) fun r7=>some (decide (0<=r7)))=_
  rw [aA,decide_eq_true (by omega)]
theorem edges_okE (ht:cM t) (hE:aHo t E):xZ t E=some true:=by
 have h300:=ht.2.2.2.1
 have hl:=hE.len
 have key:=dO (step:=fun s:Int=>kE t E s) E.length (fun i (_:Unit)=>(i:Int)) (fun _ _=>True) (fun r=>r=.inl ()) (fun i _ hi _=>?_) (fun _ _=>?_) E.length 0 () (by omega) trivial
 ·obtain ⟨r,e1,e2⟩:=key
  have e1':loop (fun s:Int=>kE t E s) 0=some r:=e1
  unfold xZ
  rw [e1',aA,e2]
  rfl
 ·refine ⟨(),?_,trivial⟩
  show kE t E (i:Int)=some (.inl ((i+1:Nat):Int))
  have hj:oT (i:Int) false=some (.inl ((i+1:Nat):Int)):=by
   unfold oT
   rw [if_neg (by simp),bQ hi (by omega)]
  unfold kE
  rw [if_pos (bV hi),bS hi,aA,aRs (by omega) (hE.2 _ (List.getElem_mem hi)),aA,if_neg (by simp)]
  by_cases h0:0 < i
  ·have hlt:cK (E[i - 1]'(by omega)) E[i]=true:=List.pairwise_iff_getElem.1 hE.1 (i - 1) i (by omega) hi (by omega)
   rw [if_pos (by simpa using h0),bT (x:=(i:Int) - 1) (by omega) (by omega),show (i:Int) - 1=((i - 1:Nat):Int) by omega,bS (by omega),aA,aCw,aA,aPL,hlt]
   exact hj
  ·rw [if_neg (by simpa using h0)]
   exact hj
 ·refine ⟨.inl (),?_,rfl⟩
  show kE t E (E.length:Int)=_
  unfold kE
  rw [if_neg (by simp)]
theorem kept_less (h:aHo t E) (i:Nat):aHo t (E.take i++E.drop (i+1)):=by
 rw [←List.eraseIdx_eq_take_drop_succ]
 have hs:=List.eraseIdx_sublist E i
 exact ⟨h.1.sublist hs,fun e he=>h.2 e (hs.subset he)⟩
theorem shrink_ok (hF:Frm f) (ht:cM t) (hlab:aGh t) (hE:aHo t E) (hv:nP f t E=some true):
  ∃ L,loop (fun s:List Edge × Int=>gP f t s.1 s.2) (E,0)=some L/\aHo t L/\nP f t L=some true/\L.length<=E.length:=by
 have h300:=ht.2.2.2.1
 have hEl:=hE.len
 have key:=lQ (step:=fun s:List Edge × Int=>gP f t s.1 s.2) (fun s=>aHo t s.1/\nP f t s.1=some true/\s.1.length<=E.length/\∃ i:Nat,s.2=(i:Int)/\i<=s.1.length) (fun s=>s.1.length - s.2.toNat)
  (fun r=>aHo t r/\nP f t r=some true/\r.length<=E.length) (fun s hs=>?_) (s:=(E,0)) ⟨hE,hv,Nat.le_refl _,0,rfl,Nat.zero_le _⟩
 ·obtain ⟨r,e1,h1,h2,h3⟩:=key
  exact ⟨r,e1,h1,h2,h3⟩
 ·obtain ⟨o,s2⟩:=s
  obtain ⟨h1,h2,h3,i,hi,hil⟩:=hs
  simp only at h1 h2 h3 hi hil
  subst hi
  show (∃ s',gP f t o (i:Int)=some (.inl s')/\_)\/∃ r,gP f t o (i:Int)=some (.inr r)/\_
  unfold gP
  by_cases hlt:i < o.length
  ·have hc:cP o=some o:=by
    unfold cP
    rw [cG (by rw [List.length_nil];unfold iE;omega),aA,List.nil_append]
   have hd:aOA o (i:Int) ((i+1:Nat):Int)=some (o.take i++o.drop (i+1)):=by
    unfold aOA
    rw [if_pos ⟨by omega,by omega,by omega⟩,Int.toNat_natCast,Int.toNat_natCast]
   have hk:=kept_less h1 i
   obtain ⟨p,p',e1,_⟩:=evid_val hF ht hlab hk
   have hlen:(o.take i++o.drop (i+1)).length=o.length - 1:=by
    rw [List.length_append,List.length_take,List.length_drop];omega
   rw [if_pos (bV hlt),hc,aA,bQ hlt (by omega),hd,aA,e1,aA]
   unfold oA
   cases hb:((p == 0) == (p' == 0)) with
   |true=>
    rw [hb] at e1
    exact .inl ⟨_,rfl,⟨hk,e1,by simp only [hlen];omega,i,rfl,by simp only [hlen];omega⟩,by simp only [hlen,Int.toNat_natCast];omega⟩
   |false=>exact .inl ⟨_,rfl,⟨h1,h2,h3,i+1,rfl,hlt⟩,by simp only [Int.toNat_natCast];omega⟩
  ·rw [if_neg (by simpa using hlt)]
   exact .inr ⟨_,rfl,h1,h2,h3⟩
end
theorem lawEvid (cs:aJ):aDh cs=some true:=by
 unfold aDh aLb
 rw [aA]
 by_cases hlong:(1048576:Int) < (cs.length:Int)
 ·rw [if_pos (by simpa using hlong)]
 rw [if_neg (by simpa using hlong)]
 obtain ⟨f,t,e0,hF,hi,ht,ft,hlab⟩:=both_ok cs
 have ft9:iD 999999999 t:=ft.up8 (by decide)
 have h300:=ht.2.2.2.1
 rw [e0,aA]
 simp only
 rcases psn_ok hF ht ft9 hlab with ⟨a1,e,p,a2⟩|⟨N,hN,hm⟩
 ·have hp:=psnOf_no a1
  have hE:mB f t=some (⟨0,0,[],[]⟩,false,5):=by
   unfold mB
   rw [hp,aA,if_pos (by decide)]
  have hsE:sJ f t=some (⟨0,0,[],[]⟩,false,5):=by
   unfold sJ
   rw [hi,aA,if_neg (by simp),aQJ t ft9,aJd ht,aA]
   unfold nZ aIL
   rw [if_neg (by simp),a2,aA,if_pos (by simp),aA]
   rfl
  rw [hE,aA,if_pos (by decide),hsE,aA]
  rfl
 ·obtain ⟨k,hk,hki⟩:=hN.at_
  have hp:=psnOf_ok hN ht hm hk hki
  obtain ⟨out,ch,hs⟩:=sol_ok hN
  have hkG:uZ (wB (oU f t N)) (k:Int):=⟨by omega,by rw [aGS];omega⟩
  have hq:=hs.wins.two _ hkG
  rw [Int.toNat_natCast] at hq
  obtain ⟨T,hT,hpr⟩:=proof_ok hN hs hk hq rfl
  generalize hqq:out.getD k 0=q at hq hT hpr
  have hu:=used_ok hF ht hlab hN hs hq hT (q == 0)
  obtain ⟨u1,u2,u3⟩:=aSs hF ht hlab hN hs hq hT
  have hK:aHo t (aPg f t N ch q T):=⟨u1,u2⟩
  have hKl:=hK.len
  generalize hU:aPg f t N ch q T=U at hu u1 u2 u3 hK hKl
  have hpos:∀ F:gY->Option (cN × Bool × Int),F ⟨f,⟨t.N,t.I,t.L,t.E⟩,oU f t N,N.map (wC t),wB (oU f t N),(k:Int)⟩=F (psx f t N k):=fun F=>rfl
  have hE:mB f t=some (aAj t U,q == 0,0):=by
   unfold mB
   rw [hp,aA,if_neg (by simp)]
   show (ob (jG (psx f t N k)) fun r53=>ob (kC (psx f t N k) r53) fun r104=>ob (nO t r104) fun r119=>some (r119,r53.Verdict,0))=_
   rw [hpr,aA,hu,aA,aQg ht (by omega),aA]
  obtain ⟨m,p,s1,s2,s3,W,σ,s4,s5⟩:=aMz hF ht hlab
  obtain ⟨m',p',s1',s2',s3',W',σ',s4',s5'⟩:=aMz hF (hK.ok ht) (sub_lab hlab)
  have hpq:p=q:=by
   have hS:=ht.1
   have hfl:=hF.len
   obtain ⟨hg,_⟩:=aLu hF.fok ht (by omega) hlab
   have hEq:=aNQ hF.fok hF.tm ht hg hN.srt hN.inn hN.cl
   exact eq_won hF.fok hF.tm ht hEq s3 hq s4 (hs.reg q hq) hk (by rw [hki];exact s5) (hT.won _ hT.st)
  have hpq':p'=q:=sub_won hF ht hlab hN hs hq hk hki hT hK (fun i h1 h2 h3=>u3 i h1 h2 h3) s3' s4' s5'
  have hev:nP f t U=some true:=by
   unfold nP
   have e5:ix m' t.I=some (p' == 0):=s2'
   rw [s1,aA,s2,aA,aQg ht (by omega),aA,s1',aA,e5,aA,hpq,hpq']
   simp
  have h1:=aPh hF ht ft9 s1 s2
  have h2:=aPh hF (hK.ok ht) (hK.fits ft9) s1' s2'
  rw [hE,aA,if_neg (by simp),h1,aA]
  simp only
  rw [h2,aA,if_neg (by simp),if_neg (by simp),if_neg (by rw [hpq];simp),if_neg (by rw [hpq'];simp)]
  have hst:((aAj t U).N != t.N)=false:=by
   show (t.N != t.N)=false
   simp
  rw [hst]
  unfold lM
  rw [if_neg (by simp)]
  obtain ⟨L,l1,l2,l3,l4⟩:=shrink_ok hF ht hlab hK hev
  have hSh:sL f t=some (L,0):=by
   unfold sL
   rw [hp,aA,if_neg (by simp)]
   show (ob (jG (psx f t N k)) fun r47=>ob (kC (psx f t N k) r47) fun r79=>ob (loop (fun (s:(List Edge × Int))=>gP f t s.1 s.2) (r79,0)) fun r=>xB r)=_
   rw [hpr,aA,hu,aA,l1,aA]
   rfl
  have hIs:aDg f t L=some (true,0):=by
   unfold aDg
   rw [hp,aA,if_neg (by simp),edges_okE ht l2,aA,if_neg (by simp),l3,aA]
  simp only
  rw [hSh,aA]
  simp only
  rw [hIs,aA,if_pos (by simp),if_pos (by simp),if_pos rfl]
  have hle:((L.length:Int)<=((aAj t U).E.length:Int)):=by
   show (L.length:Int)<=(U.length:Int)
   omega
  rw [if_pos (by simpa using hle)]
  unfold nR
  congr 1
  show decide ((U.length:Int)<=(t.E.length:Int))=true
  exact decide_eq_true (by omega)
end Gv
