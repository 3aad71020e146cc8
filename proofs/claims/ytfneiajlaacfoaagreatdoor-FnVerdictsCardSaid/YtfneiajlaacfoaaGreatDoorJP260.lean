/- Parity games with parts that are won, attractors, and games that go in step. Plain Lean. -/
import Derived.Test.YtfneiajlaacfoaaGreatDoorJP90
set_option linter.all false
set_option linter.unusedVariables false
namespace Gv
structure PG (V:Type) where
 own:V->Int
 pr:V->Int
 E:V->V->Prop
section
variable {V U:Type}
def aDE (pr:V->Int) (p:Int) (f:Nat->V):Prop:=
 ∃ m:Int,m % 2=p/\(∀ N,∃ n,N<=n/\pr (f n)=m)/\∃ N,∀ n,N<=n->m<=pr (f n)
theorem aDE.tail {pr:V->Int} {p:Int} {f:Nat->V} (k:Nat) (h:aDE pr p fun n=>f (n+k)):aDE pr p f:=by
 obtain ⟨m,h1,h2,N,h3⟩:=h
 refine ⟨m,h1,fun N'=>?_,N+k,fun n hn=>?_⟩
 ·obtain ⟨n,hn,e⟩:=h2 N'
  exact ⟨n+k,by omega,e⟩
 ·have:=h3 (n - k) (by omega)
  simp only at this
  rw [Nat.sub_add_cancel (by omega)] at this
  exact this
theorem aDE.one {pr:V->Int} {pr':U->Int} {p q:Int} {f:Nat->V} {g:Nat->U} (e:∀ n,pr (f n)=pr' (g n)) (h:aDE pr p f) (h':aDE pr' q g):p=q:=by
 obtain ⟨m,h1,h2,N,h3⟩:=h
 obtain ⟨m',h1',h2',N',h3'⟩:=h'
 obtain ⟨n,hn,e1⟩:=h2 N'
 obtain ⟨n',hn',e1'⟩:=h2' N
 have a:=h3 n' hn'
 have b:=h3' n hn
 rw [e n'] at a
 rw [←e n] at b
 rw [e1'] at a
 rw [e1] at b
 have:m=m':=by omega
 rw [←h1,←h1',this]
structure Reg (G:PG V) (A:V->Prop) (p:Int) (W:V->Prop) (σ:V->V):Prop where
 sub:∀ v,W v->A v
 mine:∀ v,W v->G.own v=p->G.E v (σ v)/\W (σ v)
 theirs:∀ v,W v->G.own v≠p->∀ w,G.E v w->A w->W w
 good:∀ f:Nat->V,(∀ n,W (f n))->(∀ n,G.E (f n) (f (n+1)))->(∀ n,G.own (f n)=p->f (n+1)=σ (f n))->aDE G.pr p f
structure Att (G:PG V) (A:V->Prop) (p:Int) (S T:V->Prop) (rk:V->Nat) (σ:V->V):Prop where
 sub:∀ v,S v->T v
 inA:∀ v,T v->A v
 mine:∀ v,T v->¬ S v->G.own v=p->G.E v (σ v)/\T (σ v)/\rk (σ v) < rk v
 theirs:∀ v,T v->¬ S v->G.own v≠p->∀ w,G.E v w->A w->T w/\rk w < rk v
 outM:∀ v,A v->¬ T v->G.own v=p->∀ w,G.E v w->¬ T w
 outT:∀ v,A v->¬ T v->G.own v≠p->(∃ w,G.E v w/\A w)->∃ w,G.E v w/\A w/\¬ T w
variable {G:PG V} {A A' B W S T:V->Prop} {p:Int} {rk:V->Nat} {σ τ:V->V}
theorem Reg.stay (h:Reg G A p W σ) {f:Nat->V} (hA:∀ n,A (f n)) (hE:∀ n,G.E (f n) (f (n+1))) (hs:∀ n,W (f n)->G.own (f n)=p->f (n+1)=σ (f n)) {k:Nat} (hk:W (f k)):∀ n,W (f (n+k)):=by
 intro n
 induction n with
 |zero=>rw [Nat.zero_add];exact hk
 |succ n ih=>
  rw [show n+1+k=(n+k)+1 by omega]
  by_cases ho:G.own (f (n+k))=p
  ·rw [hs _ ih ho];exact (h.mine _ ih ho).2
  ·exact h.theirs _ ih ho _ (hE _) (hA _)
theorem Reg.win (h:Reg G A p W σ) {f:Nat->V} (hA:∀ n,A (f n)) (hE:∀ n,G.E (f n) (f (n+1))) (hs:∀ n,W (f n)->G.own (f n)=p->f (n+1)=σ (f n)) {k:Nat} (hk:W (f k)):aDE G.pr p f:=by
 have hw:=h.stay hA hE hs hk
 refine aDE.tail k (h.good _ hw (fun n=>?_) fun n ho=>?_)
 ·rw [show n+1+k=(n+k)+1 by omega];exact hE _
 ·rw [show n+1+k=(n+k)+1 by omega];exact hs _ (hw n) ho
theorem Att.hit (h:Att G A p S T rk σ) {f:Nat->V} (hA:∀ n,A (f n)) (hE:∀ n,G.E (f n) (f (n+1))) (hs:∀ n,T (f n)->¬ S (f n)->G.own (f n)=p->f (n+1)=σ (f n)):∀ r k,rk (f k)<=r->T (f k)->∃ n,k<=n/\S (f n):=by
 intro r
 induction r with
 |zero=>
  intro k hk ht
  by_cases hS:S (f k)
  ·exact ⟨k,Nat.le_refl _,hS⟩
  ·exfalso
   by_cases ho:G.own (f k)=p
   ·have:=(h.mine _ ht hS ho).2.2;omega
   ·have:=(h.theirs _ ht hS ho _ (hE k) (hA _)).2;omega
 |succ r ih=>
  intro k hk ht
  by_cases hS:S (f k)
  ·exact ⟨k,Nat.le_refl _,hS⟩
  ·have key:T (f (k+1))/\rk (f (k+1)) < rk (f k):=by
    by_cases ho:G.own (f k)=p
    ·have:=h.mine _ ht hS ho
     rw [hs k ht hS ho]
     exact this.2
    ·exact h.theirs _ ht hS ho _ (hE k) (hA _)
   obtain ⟨n,h1,h2⟩:=ih (k+1) (by omega) key.1
   exact ⟨n,by omega,h2⟩
open Classical in
theorem attReg (h:Reg G A p W τ) (ha:Att G A p W T rk σ):Reg G A p T (fun v=>if W v then τ v else σ v) where
 sub:=ha.inA
 mine:=fun v hv ho=>by
  by_cases hw:W v
  ·rw [if_pos hw];exact ⟨(h.mine v hw ho).1,ha.sub _ (h.mine v hw ho).2⟩
  ·rw [if_neg hw];exact ⟨(ha.mine v hv hw ho).1,(ha.mine v hv hw ho).2.1⟩
 theirs:=fun v hv ho w hE hA=>by
  by_cases hw:W v
  ·exact ha.sub _ (h.theirs v hw ho w hE hA)
  ·exact (ha.theirs v hv hw ho w hE hA).1
 good:=fun f hT hE hs=>by
  have hA:∀ n,A (f n):=fun n=>ha.inA _ (hT n)
  obtain ⟨k,_,hk⟩:=ha.hit hA hE (fun n _ hw ho=>by rw [hs n ho,if_neg hw]) _ 0 (Nat.le_refl _) (hT 0)
  exact h.win hA hE (fun n hw ho=>by rw [hs n ho,if_pos hw]) hk
theorem aLH (h:Reg G A' p W τ) (hs:∀ v,A' v->A v) (ho:∀ v,W v->G.own v≠p->∀ w,G.E v w->A w->A' w):Reg G A p W τ where
 sub:=fun v hv=>hs v (h.sub v hv)
 mine:=h.mine
 theirs:=fun v hv hp w hE hA=>h.theirs v hv hp w hE (ho v hv hp w hE hA)
 good:=h.good
open Classical in
theorem aLI (h:Reg G A p B τ) (h':Reg G A' p W σ) (hs:∀ v,A' v<->A v/\¬ B v):Reg G A p (fun v=>B v\/W v) (fun v=>if B v then τ v else σ v) where
 sub:=fun v hv=>hv.elim (h.sub v) fun hw=>((hs v).1 (h'.sub v hw)).1
 mine:=fun v hv ho=>by
  by_cases hb:B v
  ·rw [if_pos hb];exact ⟨(h.mine v hb ho).1,.inl (h.mine v hb ho).2⟩
  ·rw [if_neg hb]
   have hw:=hv.resolve_left hb
   exact ⟨(h'.mine v hw ho).1,.inr (h'.mine v hw ho).2⟩
 theirs:=fun v hv ho w hE hA=>by
  by_cases hb:B v
  ·exact .inl (h.theirs v hb ho w hE hA)
  ·by_cases hb':B w
   ·exact .inl hb'
   ·exact .inr (h'.theirs v (hv.resolve_left hb) ho w hE ((hs w).2 ⟨hA,hb'⟩))
 good:=fun f hW hE hg=>by
  have hA:∀ n,A (f n):=fun n=>(hW n).elim (h.sub _) fun hw=>((hs _).1 (h'.sub _ hw)).1
  by_cases hk:∃ k,B (f k)
  ·obtain ⟨k,hk⟩:=hk
   exact h.win hA hE (fun n hb ho=>by rw [hg n ho,if_pos hb]) hk
  ·have hn:∀ n,¬ B (f n):=fun n hb=>hk ⟨n,hb⟩
   exact h'.good f (fun n=>(hW n).resolve_left (hn n)) hE fun n ho=>by rw [hg n ho,if_neg (hn n)]
open Classical in
theorem allReg {m:Int} (hm:m % 2=p) (hle:∀ v,A v->m<=G.pr v) (hS:∀ v,S v<->A v/\G.pr v=m) (ha:Att G A p S T rk σ) (hA':∀ v,A' v<->A v/\¬ T v) (h:Reg G A' p A' τ) (hd:∀ v,A v->∃ w,G.E v w/\A w):
  ∃ ρ,Reg G A p A ρ:=by
 have hc:∃ c:V->V,∀ v,A v->G.E v (c v)/\A (c v):=
  ⟨fun v=>if hv:A v then (hd v hv).choose else v,fun v hv=>by simp only [hv,dite_true];exact (hd v hv).choose_spec⟩
 obtain ⟨c,hc⟩:=hc
 refine ⟨fun v=>if S v then c v else if T v then σ v else τ v,fun v hv=>hv,fun v hv ho=>?_,fun v hv ho w hE hw=>hw,fun f hA hE hs=>?_⟩
 ·by_cases h1:S v
  ·rw [if_pos h1];exact hc v hv
  ·rw [if_neg h1]
   by_cases h2:T v
   ·rw [if_pos h2];exact ⟨(ha.mine v h2 h1 ho).1,ha.inA _ (ha.mine v h2 h1 ho).2.1⟩
   ·rw [if_neg h2]
    have:=h.mine v ((hA' v).2 ⟨hv,h2⟩) ho
    exact ⟨this.1,((hA' _).1 this.2).1⟩
 ·by_cases hi:∀ N,∃ n,N<=n/\S (f n)
  ·exact ⟨m,hm,fun N=>let ⟨n,h1,h2⟩:=hi N;⟨n,h1,((hS _).1 h2).2⟩,0,fun n _=>hle _ (hA n)⟩
  ·obtain ⟨N,hN⟩:=Classical.not_forall.1 hi
   have hN':∀ n,N<=n->¬ S (f n):=fun n hn hs'=>hN ⟨n,hn,hs'⟩
   have hT:∀ n,N<=n->¬ T (f n):=fun n hn ht=>by
    obtain ⟨k,hk,hk'⟩:=ha.hit hA hE (fun n ht hw ho=>by rw [hs n ho,if_neg hw,if_pos ht]) _ n (Nat.le_refl _) ht
    exact hN' k (by omega) hk'
   refine aDE.tail N (h.good _ (fun n=>(hA' _).2 ⟨hA _,hT _ (by omega)⟩) (fun n=>?_) fun n ho=>?_)
   ·rw [show n+1+N=(n+N)+1 by omega];exact hE _
   ·rw [show n+1+N=(n+N)+1 by omega,hs _ ho,if_neg (hN' _ (by omega)),if_neg (hT _ (by omega))]
theorem lockstep {G:PG V} {H:PG U} {R:V->U->Prop} {A:V->Prop} {A':U->Prop} {W:V->Prop} {W':U->Prop} {p q:Int} {σ:V->V} {τ:U->U}
  (hR:∀ x y,R x y->W x->W' y->G.own x=H.own y/\G.pr x=H.pr y/\(G.own x=p\/G.own x=q)/\(∀ x',G.E x x'->A x'/\∃ y',H.E y y'/\R x' y')/\(∀ y',H.E y y'->A' y'/\∃ x',G.E x x'/\R x' y'))
  (h0:Reg G A p W σ) (h1:Reg H A' q W' τ) (hq:p≠q) {x:V} {y:U} (hxy:R x y) (hx:W x) (hy:W' y):False:=by
 have step:∀ s:{s:V × U // R s.1 s.2/\W s.1/\W' s.2},∃ s':{s:V × U // R s.1 s.2/\W s.1/\W' s.2},G.E s.1.1 s'.1.1/\H.E s.1.2 s'.1.2/\(G.own s.1.1=p->s'.1.1=σ s.1.1)/\(H.own s.1.2=q->s'.1.2=τ s.1.2):=by
  rintro ⟨⟨a,b⟩,hab,ha,hb⟩
  obtain ⟨e1,e2,e3,e4,e5⟩:=hR a b hab ha hb
  simp only at hab ha hb ⊢
  by_cases ho:G.own a=p
  ·obtain ⟨m1,m2⟩:=h0.mine a ha ho
   obtain ⟨g1,b',g2,g3⟩:=e4 _ m1
   have hob:H.own b≠q:=by rw [←e1,ho];exact hq
   exact ⟨⟨(σ a,b'),g3,m2,h1.theirs b hb hob b' g2 (e5 b' g2).1⟩,m1,g2,fun _=>rfl,fun h=>absurd h hob⟩
  ·have hob:H.own b=q:=by rw [←e1];exact e3.resolve_left ho
   obtain ⟨m1,m2⟩:=h1.mine b hb hob
   obtain ⟨g1,a',g2,g3⟩:=e5 _ m1
   exact ⟨⟨(a',τ b),g3,h0.theirs a ha ho a' g2 (e4 a' g2).1,m2⟩,g2,m1,fun h=>absurd h ho,fun _=>rfl⟩
 obtain ⟨nx,hnx⟩:=Classical.axiomOfChoice step
 let f:Nat->{s:V × U // R s.1 s.2/\W s.1/\W' s.2}:=fun n=>Nat.rec ⟨(x,y),hxy,hx,hy⟩ (fun _ s=>nx s) n
 have hf:∀ n,f (n+1)=nx (f n):=fun n=>rfl
 have a1:=h0.good (fun n=>(f n).1.1) (fun n=>(f n).2.2.1) (fun n=>by rw [hf];exact (hnx (f n)).1) fun n ho=>by rw [hf];exact (hnx (f n)).2.2.1 ho
 have a2:=h1.good (fun n=>(f n).1.2) (fun n=>(f n).2.2.2) (fun n=>by rw [hf];exact (hnx (f n)).2.1) fun n ho=>by rw [hf];exact (hnx (f n)).2.2.2 ho
 exact hq (aDE.one (fun n=>(hR _ _ (f n).2.1 (f n).2.2.1 (f n).2.2.2).2.1) a1 a2)
end
end Gv
set_option linter.unusedVariables false
set_option linter.unusedSimpArgs false
namespace Gv
open Go
def vx (g:List aV) (v:Int):aV:=g.getD v.toNat default
def gg (g:List aV):PG Int where
 own v:=(vx g v).Owner
 pr v:=(vx g v).Priority
 E v w:=w∈(vx g v).Next
structure GOk (g:List aV):Prop where
 len:g.length<=10000
 own:∀ v,(vx g v).Owner=0\/(vx g v).Owner=1
 pr:∀ v,0<=(vx g v).Priority/\(vx g v).Priority<=1000000
 nx:∀ v,∀ w∈(vx g v).Next,0<=w/\w < (g.length:Int)
 nd:∀ v,(vx g v).Next.Nodup
def On (m:List Bool) (v:Int):Prop:=0<=v/\m.getD v.toNat false=true
instance (m:List Bool) (v:Int):Decidable (On m v):=inferInstanceAs (Decidable (_/\_))
theorem On.lt {m:List Bool} {v:Int} (h:On m v):v.toNat < m.length:=by
 obtain ⟨h0,h1⟩:=h
 rw [List.getD_eq_getElem?_getD] at h1
 by_cases hl:v.toNat < m.length
 ·exact hl
 ·rw [List.getElem?_eq_none (by omega)] at h1
  cases h1
theorem ixOn {m:List Bool} {v:Int} (h0:0<=v) (h:v < (m.length:Int)):ix m v=some (decide (On m v)):=by
 have e:m.getD v.toNat false=m[v.toNat]'(by omega):=by rw [List.getD_eq_getElem?_getD,List.getElem?_eq_getElem (by omega)];rfl
 unfold ix
 rw [if_pos h0,List.getElem?_eq_getElem (by omega)]
 congr 1
 by_cases hb:On m v
 ·rw [decide_eq_true hb,←e];exact hb.2
 ·rw [decide_eq_false hb,←e]
  cases hx:m.getD v.toNat false with
  |false=>rfl
  |true=>exact absurd ⟨h0,hx⟩ hb
theorem ixV {g:List aV} {v:Int} (h0:0<=v) (h:v < (g.length:Int)):ix g v=some (vx g v):=by
 unfold ix vx
 rw [if_pos h0,List.getD_eq_getElem?_getD,List.getElem?_eq_getElem (by omega)]
 rfl
theorem aKS (m:List Bool) (h:m.length<=100000):aDr m=some (((List.range m.length).filter fun k=>m.getD k false).map fun k:Nat=>(k:Int)):=by
 unfold aDr
 have key:=aFn (step:=fun s:List Int × Int=>sU m s.1 s.2) (List.range m.length) (fun k=>m.getD k false) (fun k:Nat=>(k:Int)) (fun o=>o) (fun k out x hk ho hx=>?_) (fun out=>?_)
 ·rw [key];rfl
 ·rw [List.length_range] at hk
  rw [aDF,List.getElem?_eq_getElem (by simpa using hk),List.getElem_range] at hx
  cases hx
  show sU m out (k:Int)=_
  unfold sU
  rw [if_pos (bZ hk),bT hk,aA,show m.getD k false=m[k] by rw [List.getD_eq_getElem?_getD,List.getElem?_eq_getElem hk];rfl]
  unfold zZ
  rw [bN hk (by omega)]
  by_cases hb:m[k]=true
  ·rw [if_pos hb,cI (by simp only [List.length_singleton];unfold iC;omega),aA,if_pos hb]
  ·rw [if_neg hb,if_neg hb]
 ·show sU m out ((List.range m.length).length:Int)=_
  rw [List.length_range]
  unfold sU
  rw [if_neg (by simp)]
def onL (m:List Bool):List Int:=((List.range m.length).filter fun k=>m.getD k false).map fun k:Nat=>(k:Int)
theorem qS {m:List Bool} {v:Int}:v∈onL m<->On m v:=by
 unfold onL
 rw [List.mem_map]
 constructor
 ·rintro ⟨k,hk,rfl⟩
  rw [List.mem_filter] at hk
  exact ⟨Int.natCast_nonneg k,by simpa using hk.2⟩
 ·intro h
  refine ⟨v.toNat,List.mem_filter.2 ⟨List.mem_range.2 h.lt,h.2⟩,?_⟩
  have:=h.1
  omega
theorem aHM (m:List Bool):(onL m).Nodup:=by
 unfold onL
 have h1:((List.range m.length).filter fun k=>m.getD k false).Nodup:=List.nodup_range.filter _
 exact List.pairwise_map.2 (h1.imp fun h e=>h (by omega))
structure AOk (x:eS):Prop where
 g:GOk x.g
 inl:x.in_.length=x.g.length
 bl:x.back.length=x.g.length
 bk:∀ v:Int,0<=v->v < (x.g.length:Int)->∀ k:Int,k∈x.back.getD v.toNat []<->0<=k/\k < (x.g.length:Int)/\v∈(vx x.g k).Next
 bnd:∀ v:Nat,(x.back.getD v []).Nodup
def ex (x:eS) (k:Int) (P:List Int):Nat:=((vx x.g k).Next.filter fun w=>decide (On x.in_ w)&&!decide (w∈P)).length
section
variable {x:eS}
theorem aHN (h:GOk x.g) (k:Int):(vx x.g k).Next.length<=x.g.length:=by
 have:=List.Nodup.length_le_of_subset (l₂:=(List.range x.g.length).map fun (i:Nat)=>(i:Int)) (h.nd k) (fun w hw=>by
  have:=h.nx k w hw
  rw [List.mem_map]
  exact ⟨w.toNat,List.mem_range.2 (by omega),by omega⟩)
 simpa using this
theorem exits_eq (h:AOk x) {k:Int} (h0:0<=k) (h1:k < (x.g.length:Int)):uT x k=some ((ex x k []:Nat):Int):=by
 unfold uT
 rw [ixV h0 h1,aA]
 have hl:=aHN h.g k
 have hg:=h.g.len
 have hin:=h.g.nx k
 unfold ex
 generalize hv:(vx x.g k).Next=N at hl hin ⊢
 have key:=cV (step:=fun s:Int × Int=>iM x (vx x.g k) s.1 s.2) N.length (fun i (q:Int)=>(q,(i:Int))) (fun i q=>q=(((N.take i).filter fun w=>decide (On x.in_ w)&&!decide (w∈([]:List Int))).length:Nat))
  (fun r=>r=((N.filter fun w=>decide (On x.in_ w)&&!decide (w∈([]:List Int))).length:Nat)) (fun i q hi hI=>?_) (fun q hI=>?_) N.length 0 0 (by omega) (by simp)
 ·obtain ⟨r,e1,e2⟩:=key
  have e1':loop (fun s:Int × Int=>iM x (vx x.g k) s.1 s.2) (0,0)=some r:=e1
  rw [e1',aA,e2]
  rfl
 ·show ∃ q',iM x (vx x.g k) q (i:Int)=some (.inl (q',((i+1:Nat):Int)))/\_
  have hw:=hin _ (List.getElem_mem hi)
  have hc:(((N.take i).filter fun w=>decide (On x.in_ w)&&!decide (w∈([]:List Int))).length)<=i:=Nat.le_trans (List.length_filter_le _ _) (by rw [List.length_take];omega)
  unfold iM
  rw [hv,if_pos (bZ hi),bT hi,aA,ixOn hw.1 (by rw [h.inl];exact hw.2),aA]
  unfold pO
  rw [bN hi (by omega),bP (x:=q+1) (by omega) (by omega),List.take_succ_eq_append_getElem hi,List.filter_append,List.length_append,hI]
  by_cases hb:On x.in_ N[i]
  ·rw [if_pos (by simpa using hb)]
   exact ⟨_,rfl,by simp [hb]⟩
  ·rw [if_neg (by simpa using hb)]
   exact ⟨_,rfl,by simp [hb]⟩
 ·refine ⟨q,?_,by rw [hI,List.take_length]⟩
  show iM x (vx x.g k) q (N.length:Int)=_
  unfold iM
  rw [hv,if_neg (by simp)]
structure AI (x:eS) (player:Int) (set:List Bool) (ord:List Int) (pr:Int->List Int) (out:List Bool) (left:List (Int × Int)):Prop where
 ol:out.length=x.g.length
 nd:ord.Nodup
 mem:∀ v,v∈ord<->On out v
 ina:∀ v∈ord,On x.in_ v
 sub:∀ v,On set v->v∈ord
 jm:∀ v∈ord,¬ On set v->(vx x.g v).Owner=player->∃ w∈(vx x.g v).Next,w∈ord/\ord.idxOf w < ord.idxOf v
 jt:∀ v∈ord,¬ On set v->(vx x.g v).Owner≠player->∀ w∈(vx x.g v).Next,On x.in_ w->w∈ord/\ord.idxOf w < ord.idxOf v
 cl:∀ k,On x.in_ k->(vx x.g k).Owner=player->(∃ w∈(vx x.g k).Next,w∈pr k)->k∈ord
 ct:∀ k,On x.in_ k->(vx x.g k).Owner≠player->k∉ord->(kF left k=none/\∀ w∈(vx x.g k).Next,w∉pr k)\/(kF left k=some ((ex x k (pr k):Nat):Int)/\0 < ex x k (pr k))
theorem AI.len {player:Int} {set:List Bool} {ord:List Int} {pr:Int->List Int} {out:List Bool} {left:List (Int × Int)} (h:AI x player set ord pr out left) (hx:AOk x):ord.length<=x.g.length:=by
 have:=List.Nodup.length_le_of_subset (l₂:=(List.range x.g.length).map fun (i:Nat)=>(i:Int)) h.nd (fun w hw=>by
  have h1:=(h.mem w).1 hw
  have h2:=h1.lt
  have h3:=h1.1
  rw [h.ol] at h2
  rw [List.mem_map]
  exact ⟨w.toNat,List.mem_range.2 h2,by omega⟩)
 simpa using this
theorem AI.see {player:Int} {set:List Bool} {ord:List Int} {pr pr':Int->List Int} {out:List Bool} {left:List (Int × Int)} (h:AI x player set ord pr out left) (e:∀ k,On x.in_ k->∀ w∈(vx x.g k).Next,w∈pr' k<->w∈pr k):AI x player set ord pr' out left where
 ol:=h.ol
 nd:=h.nd
 mem:=h.mem
 ina:=h.ina
 sub:=h.sub
 jm:=h.jm
 jt:=h.jt
 cl:=fun k hk ho ⟨w,hw,hp⟩=>h.cl k hk ho ⟨w,hw,(e k hk w hw).1 hp⟩
 ct:=fun k hk ho hn=>by
  have hex:ex x k (pr' k)=ex x k (pr k):=by
   unfold ex
   congr 1
   refine List.filter_congr fun w hw=>?_
   rw [decide_eq_decide.2 (e k hk w hw)]
  rcases h.ct k hk ho hn with ⟨a,b⟩|⟨a,b⟩
  ·exact .inl ⟨a,fun w hw hp=>b w hw ((e k hk w hw).1 hp)⟩
  ·rw [hex];exact .inr ⟨a,b⟩
theorem aFE {l:List Int} {w k:Int} (h:w∈l):(l++[k]).idxOf w=l.idxOf w:=by rw [List.idxOf_append,if_pos h]
theorem idx_new {l:List Int} {k:Int} (h:k∉l):(l++[k]).idxOf k=l.length:=by
 rw [List.idxOf_append,if_neg h]
 simp
theorem set_on {m:List Bool} {k v:Int} (h0:0<=k) (h1:k.toNat < m.length):On (m.set k.toNat true) v<->On m v\/v=k:=by
 unfold On
 rw [List.getD_eq_getElem?_getD,List.getD_eq_getElem?_getD,List.getElem?_set]
 by_cases e:v=k
 ·subst e
  simp [h0,h1]
 ·by_cases hv:0<=v
  ·rw [if_neg (by omega)]
   simp [e]
  ·simp [hv,e]
theorem AI.add {player:Int} {set:List Bool} {ord:List Int} {pr:Int->List Int} {out:List Bool} {left left':List (Int × Int)} {k:Int} (h:AI x player set ord pr out left) (hx:AOk x) (hk:On x.in_ k) (hn:k∉ord)
  (hm:(vx x.g k).Owner=player->∃ w∈(vx x.g k).Next,w∈ord) (ht:(vx x.g k).Owner≠player->∀ w∈(vx x.g k).Next,On x.in_ w->w∈ord) (hl:∀ j,j≠k->kF left' j=kF left j) {pr':Int->List Int} (hp:∀ j,j≠k->pr' j=pr j):AI x player set (ord++[k]) pr' (out.set k.toNat true) left':=by
 have hk1:=hk.lt
 have hk0:=hk.1
 have hlk:k.toNat < out.length:=by rw [h.ol,←hx.inl];exact hk1
 have hlt:∀ w∈ord,ord.idxOf w < ord.length:=fun w hw=>List.idxOf_lt_length_iff.2 hw
 refine ⟨by rw [List.length_set];exact h.ol,?_,fun v=>?_,fun v hv=>?_,fun v hv=>List.mem_append_left _ (h.sub v hv),fun v hv hs ho=>?_,fun v hv hs ho w hw hi=>?_,fun j hj ho hw=>?_,fun j hj ho hnj=>?_⟩
 ·rw [List.nodup_append]
  exact ⟨h.nd,by simp,fun a ha b hb e=>by simp at hb;subst hb;subst e;exact hn ha⟩
 ·rw [set_on hk0 hlk,←h.mem v,List.mem_append,List.mem_singleton]
 ·rcases List.mem_append.1 hv with hv|hv
  ·exact h.ina v hv
  ·rw [List.mem_singleton] at hv;rw [hv];exact hk
 ·rcases List.mem_append.1 hv with hv|hv
  ·obtain ⟨w,h1,h2,h3⟩:=h.jm v hv hs ho
   exact ⟨w,h1,List.mem_append_left _ h2,by rw [aFE h2,aFE hv];exact h3⟩
  ·rw [List.mem_singleton] at hv
   subst hv
   obtain ⟨w,h1,h2⟩:=hm ho
   exact ⟨w,h1,List.mem_append_left _ h2,by rw [aFE h2,idx_new hn];exact hlt w h2⟩
 ·rcases List.mem_append.1 hv with hv|hv
  ·obtain ⟨h2,h3⟩:=h.jt v hv hs ho w hw hi
   exact ⟨List.mem_append_left _ h2,by rw [aFE h2,aFE hv];exact h3⟩
  ·rw [List.mem_singleton] at hv
   subst hv
   have h2:=ht ho w hw hi
   exact ⟨List.mem_append_left _ h2,by rw [aFE h2,idx_new hn];exact hlt w h2⟩
 ·by_cases e:j=k
  ·rw [e];simp
  ·rw [hp j e] at hw
   exact List.mem_append_left _ (h.cl j hj ho hw)
 ·have e:j≠k:=fun e=>hnj (by rw [e];simp)
  rw [hp j e,hl j e]
  exact h.ct j hj ho fun hj'=>hnj (List.mem_append_left _ hj')
end
end Gv
set_option linter.unusedVariables false
set_option linter.unusedSimpArgs false
namespace Gv
open Go
theorem fil_one {α:Type} [DecidableEq α] {p q:α->Bool} {e:α}:∀ {N:List α},N.Nodup->e∈N->p e=true->q e=false->(∀ w∈N,w≠e->q w=p w)->(N.filter p).length=(N.filter q).length+1
 |[],_,h,_,_,_=>by cases h
 |a::N,hn,h,h1,h2,h3=>by
  obtain ⟨n1,n2⟩:=List.nodup_cons.1 hn
  by_cases ha:a=e
  ·subst ha
   rw [List.filter_cons,if_pos h1,List.filter_cons,if_neg (by rw [h2];simp),List.length_cons]
   have:N.filter q=N.filter p:=List.filter_congr fun w hw=>h3 w (List.mem_cons_of_mem _ hw) fun e=>n1 (by rw [←e];exact hw)
   rw [this]
  ·have hN:e∈N:=(List.mem_cons.1 h).resolve_left fun e=>ha e.symm
   have ih:=fil_one n2 hN h1 h2 fun w hw=>h3 w (List.mem_cons_of_mem _ hw)
   have ea:=h3 a List.mem_cons_self ha
   rw [List.filter_cons,List.filter_cons,ea]
   by_cases hp:p a=true
   ·rw [if_pos hp,if_pos hp,List.length_cons,List.length_cons,ih]
   ·rw [if_neg hp,if_neg hp,ih]
section
variable {x:eS} {pl:Int} {set:List Bool}
theorem AI.skip {ord:List Int} {pr pr':Int->List Int} {out:List Bool} {left:List (Int × Int)} {k:Int} (h:AI x pl set ord pr out left) (hk:¬ On x.in_ k\/k∈ord) (hp:∀ j,j≠k->pr' j=pr j):AI x pl set ord pr' out left where
 ol:=h.ol
 nd:=h.nd
 mem:=h.mem
 ina:=h.ina
 sub:=h.sub
 jm:=h.jm
 jt:=h.jt
 cl:=fun j hj ho hw=>by
  by_cases e:j=k
  ·subst e;exact hk.resolve_left fun hn=>hn hj
  ·rw [hp j e] at hw;exact h.cl j hj ho hw
 ct:=fun j hj ho hn=>by
  by_cases e:j=k
  ·subst e;exact absurd (hk.resolve_left fun hn=>hn hj) hn
  ·rw [hp j e];exact h.ct j hj ho hn
theorem AI.down {ord:List Int} {pr pr':Int->List Int} {out:List Bool} {left left':List (Int × Int)} {k:Int} (h:AI x pl set ord pr out left) (ho:(vx x.g k).Owner≠pl) (hp:∀ j,j≠k->pr' j=pr j) (hl:∀ j,j≠k->kF left' j=kF left j) (h1:kF left' k=some ((ex x k (pr' k):Nat):Int)) (h2:0 < ex x k (pr' k)):AI x pl set ord pr' out left' where
 ol:=h.ol
 nd:=h.nd
 mem:=h.mem
 ina:=h.ina
 sub:=h.sub
 jm:=h.jm
 jt:=h.jt
 cl:=fun j hj hj' hw=>by
  by_cases e:j=k
  ·subst e;exact absurd hj' ho
  ·rw [hp j e] at hw;exact h.cl j hj hj' hw
 ct:=fun j hj hj' hn=>by
  by_cases e:j=k
  ·subst e;exact .inr ⟨h1,h2⟩
  ·rw [hp j e,hl j e];exact h.ct j hj hj' hn
theorem attr_row (hx:AOk x) {e:Int} {P todo:List Int} {out:List Bool} {left:List (Int × Int)} (h:AI x pl set (P++e::todo) (fun _=>P) out left):
  ∃ r:List Bool × List (Int × Int) × List Int,loop (fun s:List Bool × List (Int × Int) × List Int × Int=>gA x pl (x.back.getD e.toNat []) s.1 s.2.1 s.2.2.1 s.2.2.2) (out,left,todo,0)=some r/\AI x pl set (P++e::r.2.2) (fun _=>P++[e]) r.1 r.2.1:=by
 have heo:e∈P++e::todo:=by simp
 have hei:=h.ina e heo
 have he0:=hei.1
 have he1:e < (x.g.length:Int):=by have:=hei.lt;rw [hx.inl] at this;omega
 have hbk:=hx.bk e he0 he1
 have hbn:=hx.bnd e.toNat
 have hgl:=hx.g.len
 have heP:e∉P:=fun hP=>by
  have hn:=h.nd
  rw [List.nodup_append] at hn
  exact hn.2.2 e hP e List.mem_cons_self rfl
 generalize hB:x.back.getD e.toNat []=B at hbk hbn ⊢
 have hBl:B.length<=10000:=by
  have:=List.Nodup.length_le_of_subset (l₂:=(List.range x.g.length).map fun (i:Nat)=>(i:Int)) hbn (fun w hw=>by
   have:=(hbk w).1 hw
   rw [List.mem_map]
   exact ⟨w.toNat,List.mem_range.2 (by omega),by omega⟩)
  rw [List.length_map,List.length_range] at this
  omega
 have key:=cV (step:=fun s:List Bool × List (Int × Int) × List Int × Int=>gA x pl B s.1 s.2.1 s.2.2.1 s.2.2.2) B.length (fun i (q:List Bool × List (Int × Int) × List Int)=>(q.1,q.2.1,q.2.2,(i:Int)))
  (fun i q=>AI x pl set (P++e::q.2.2) (fun k=>if k∈B.take i then P++[e] else P) q.1 q.2.1)
  (fun r=>AI x pl set (P++e::r.2.2) (fun _=>P++[e]) r.1 r.2.1) (fun i q hi hI=>?_) (fun q hI=>?_) B.length 0 (out,left,todo) (by omega) (h.see fun k _ w _=>by simp)
 ·exact key
 ·obtain ⟨o,l,t⟩:=q
  simp only at hI ⊢
  have hk:=(hbk B[i]).1 (List.getElem_mem hi)
  have hnt:B[i]∉B.take i:=fun hm=>by
   obtain ⟨j,hj,e⟩:=List.mem_take_iff_getElem.1 hm
   exact List.pairwise_iff_getElem.1 hbn j i (by omega) hi (by omega) e
  have hpr:∀ j,j≠B[i]->(if j∈B.take (i+1) then P++[e] else P)=if j∈B.take i then P++[e] else P:=fun j hj=>by
   rw [List.take_succ_eq_append_getElem hi]
   by_cases hm:j∈B.take i
   ·rw [if_pos hm,if_pos (List.mem_append_left _ hm)]
   ·rw [if_neg hm,if_neg (by rw [List.mem_append];rintro (h|h);exact hm h;rw [List.mem_singleton] at h;exact hj h)]
  have hprk:(if B[i]∈B.take (i+1) then P++[e] else P)=P++[e]:=if_pos (by rw [List.take_succ_eq_append_getElem hi];exact List.mem_append_right _ (List.mem_singleton.2 rfl))
  show ∃ q:List Bool × List (Int × Int) × List Int,gA x pl B o l t (i:Int)=some (.inl (q.1,q.2.1,q.2.2,((i+1:Nat):Int)))/\_
  generalize hkk:B[i]=k at hk hnt hpr hprk
  obtain ⟨hk0,hk1,hek⟩:=hk
  have hol:=hI.ol
  have htl:t.length+1<=x.g.length:=by
   have:=hI.len hx
   rw [List.length_append,List.length_cons] at this
   omega
  have hj4:∀ o' l' t',iE (i:Int) o' l' t'=some (.inl (o',l',t',((i+1:Nat):Int))):=fun o' l' t'=>by
   unfold iE
   rw [bN hi (by omega)]
  have hadd:On x.in_ k->k∉P++e::t->∀ l',(∀ j,j≠k->kF l' j=kF l j)->((vx x.g k).Owner=pl->∃ w∈(vx x.g k).Next,w∈P++e::t)->((vx x.g k).Owner≠pl->∀ w∈(vx x.g k).Next,On x.in_ w->w∈P++e::t)->
    ∃ q:List Bool × List (Int × Int) × List Int,kA o t (i:Int) k l'=some (.inl (q.1,q.2.1,q.2.2,((i+1:Nat):Int)))/\AI x pl set (P++e::q.2.2) (fun k=>if k∈B.take (i+1) then P++[e] else P) q.1 q.2.1:=by
   intro hik hko l' hl' hm ht
   refine ⟨(o.set k.toNat true,l',t++[k]),?_,?_⟩
   ·unfold kA
    rw [ixOn hk0 (by rw [hol];exact hk1),aA]
    unfold st
    rw [if_pos ⟨hk0,by omega⟩,aA,cI (by simp only [List.length_singleton];unfold iC;omega),aA,hj4]
   ·have:=hI.add hx hik hko hm ht hl' (pr':=fun k=>if k∈B.take (i+1) then P++[e] else P) hpr
    simpa using this
  unfold gA
  rw [if_pos (bZ hi),bT hi,hkk,aA,ixOn hk0 (by rw [hx.inl];exact hk1),aA]
  by_cases hik:On x.in_ k
  ·rw [if_neg (by simpa using hik),ixOn hk0 (by rw [hol];exact hk1),aA]
   unfold kC
   by_cases hok:On o k
   ·rw [if_pos (by simpa using hok),hj4]
    exact ⟨(o,l,t),rfl,hI.skip (.inr ((hI.mem k).2 hok)) hpr⟩
   ·have hko:k∉P++e::t:=fun h=>hok ((hI.mem k).1 h)
    rw [if_neg (by simpa using hok),ixV hk0 hk1,aA]
    by_cases how:(vx x.g k).Owner=pl
    ·rw [if_neg (by simp [how])]
     exact hadd hik hko l (fun _ _=>rfl) (fun _=>⟨e,hek,by simp⟩) fun h=>absurd how h
    ·rw [if_pos (by simpa using how)]
     have hct:=hI.ct k hik how hko
     rw [if_neg hnt] at hct
     have hone:ex x k P=ex x k (P++[e])+1:=by
      unfold ex
      refine fil_one (hx.g.nd k) hek (by simp [hei,heP]) (by simp) fun w hw hne=>by simp [hne]
     have hex:∀ m,(∀ j,j≠k->kF m j=kF l j)->kF m k=some ((ex x k P:Nat):Int)->∃ q:List Bool × List (Int × Int) × List Int,kB o t (i:Int) k m=some (.inl (q.1,q.2.1,q.2.2,((i+1:Nat):Int)))/\AI x pl set (P++e::q.2.2) (fun k=>if k∈B.take (i+1) then P++[e] else P) q.1 q.2.1:=by
      intro m hm hmk
      have hnl:=aHN hx.g k
      have hle:ex x k P<=x.g.length:=Nat.le_trans (List.length_filter_le _ _) hnl
      unfold kB
      rw [aA,hmk,Option.getD_some,bP (x:=((ex x k P:Nat):Int) - 1) (by omega) (by omega),aBh,if_pos rfl,Option.getD_some]
      have hm':∀ j,j≠k->kF (tF m k (((ex x k P:Nat):Int) - 1)) j=kF l j:=fun j hj=>by rw [aBh,if_neg hj,hm j hj]
      by_cases hz:0 < ex x k (P++[e])
      ·rw [if_pos (by simp;omega),hj4]
       refine ⟨(o,_,t),rfl,hI.down how hpr hm' ?_ (by rw [hprk];exact hz)⟩
       rw [aBh,if_pos rfl,hprk]
       congr 1
       omega
      ·rw [if_neg (by simp;omega)]
       refine hadd hik hko _ hm' (fun h=>absurd h how) fun _ w hw hiw=>?_
       have h0:ex x k (P++[e])=0:=by omega
       unfold ex at h0
       have:=List.filter_eq_nil_iff.1 (List.eq_nil_of_length_eq_zero h0) w hw
       have hwp:w∈P++[e]:=by
        rw [decide_eq_true hiw,Bool.true_and,Bool.not_eq_true',decide_eq_false_iff_not] at this
        exact Classical.not_not.1 this
       rcases List.mem_append.1 hwp with h|h
       ·exact List.mem_append_left _ h
       ·rw [List.mem_singleton] at h;rw [h];simp
     rcases hct with ⟨c1,c2⟩|⟨c1,c2⟩
     ·rw [c1]
      have he0':ex x k []=ex x k P:=by
       unfold ex
       congr 1
       exact List.filter_congr fun w hw=>by simp [c2 w hw]
      rw [if_pos (by rfl),exits_eq hx hk0 hk1,aA,aA,he0']
      exact hex _ (fun j hj=>by rw [aBh,if_neg hj]) (by rw [aBh,if_pos rfl])
     ·rw [c1,if_neg (by simp)]
      exact hex _ (fun j hj=>rfl) c1
  ·rw [if_pos (by simpa using hik)]
   unfold kC
   rw [if_pos rfl,hj4]
   exact ⟨(o,l,t),rfl,hI.skip (.inl hik) hpr⟩
 ·obtain ⟨o,l,t⟩:=q
  refine ⟨(o,l,t),?_,?_⟩
  ·show gA x pl B o l t (B.length:Int)=_
   unfold gA
   rw [if_neg (by simp)]
  ·simp only at hI ⊢
   refine hI.see fun k hk w hw=>?_
   rw [List.take_length]
   by_cases hkB:k∈B
   ·rw [if_pos hkB]
   ·rw [if_neg hkB,List.mem_append,List.mem_singleton]
    constructor
    ·rintro (h|h)
     ·exact h
     ·subst h
      have hk1:=hk.lt
      rw [hx.inl] at hk1
      exact absurd ((hbk k).2 ⟨hk.1,by have:=hk.1;omega,hw⟩) hkB
    ·exact .inl
theorem aKU (hx:AOk x):∀ (f:Nat) (P todo:List Int) (out:List Bool) (left:List (Int × Int)),x.g.length - P.length<=f->AI x pl set (P++todo) (fun _=>P) out left->
  ∃ r,loop (fun s:List Bool × List (Int × Int) × List Int=>gB x pl s.1 s.2.1 s.2.2) (out,left,todo)=some r/\∃ ord left',AI x pl set ord (fun _=>ord) r left'
 |f,P,[],out,left,hf,h=>by
  refine ⟨out,?_,P,left,by simpa using h⟩
  have hst:gB x pl out left []=some (.inr out):=by
   unfold gB
   rw [if_neg (by simp)]
  rw [cF]
  simp only [hst]
 |f,P,e::t,out,left,hf,h=>by
  have hl:=h.len hx
  rw [List.length_append,List.length_cons] at hl
  have hgl:=hx.g.len
  obtain ⟨r,e1,h1⟩:=attr_row hx h
  have hei:=h.ina e (by simp)
  have he1:e.toNat < x.g.length:=by have:=hei.lt;rwa [hx.inl] at this
  have hsl:slc (e::t) 1 ((e::t).length:Int)=some t:=by
   unfold slc
   rw [if_pos ⟨by omega,by rw [List.length_cons];omega,by omega⟩]
   simp
  have hbk:ix x.back e=some (x.back.getD e.toNat []):=by
   unfold ix
   rw [if_pos hei.1,List.getD_eq_getElem?_getD,List.getElem?_eq_getElem (by rw [hx.bl];exact he1)]
   rfl
  have hst:gB x pl out left (e::t)=some (.inl (r.1,r.2.1,r.2.2)):=by
   unfold gB
   rw [if_pos (by simp),show ix (e::t) 0=some e from rfl,aA,hsl,aA,hbk,aA,e1,aA]
   rfl
  match f,hf with
  |0,hf=>omega
  |f+1,hf=>
   obtain ⟨q,e2,h2⟩:=aKU hx f (P++[e]) r.2.2 r.1 r.2.1 (by rw [List.length_append,List.length_singleton];omega) (by simpa using h1)
   refine ⟨q,?_,h2⟩
   rw [cF]
   simp only [hst]
   exact e2
theorem aEg (hx:AOk x) (hs:set.length=x.g.length) (hi:∀ v,On set v->On x.in_ v):∃ r,jN x pl set=some r/\r.length=x.g.length/\∃ rk σ,Att (gg x.g) (On x.in_) pl (On set) (On r) rk σ:=by
 have hgl:=hx.g.len
 have h0:AI x pl set ([]++onL set) (fun _=>[]) set []:=by
  rw [List.nil_append]
  refine ⟨hs,aHM _,fun v=>qS,fun v hv=>hi v (qS.1 hv),fun v hv=>qS.2 hv,fun v hv hn=>absurd (qS.1 hv) hn,fun v hv hn=>absurd (qS.1 hv) hn,fun k _ _ hw=>?_,fun k _ _ _=>.inl ⟨rfl,fun w _ hw=>by cases hw⟩⟩
  obtain ⟨w,_,hw⟩:=hw
  cases hw
 obtain ⟨r,e1,ord,left,h⟩:=aKU (pl:=pl) hx _ _ _ _ _ (Nat.le_refl _) h0
 refine ⟨r,?_,h.ol,fun v=>ord.idxOf v,?_⟩
 ·unfold jN eH
  rw [cI (by simp only [List.length_nil];unfold iC;omega),aA,aA,List.nil_append,aKS _ (by omega),aA]
  show (ob (loop (fun s:List Bool × List (Int × Int) × List Int=>gB x pl s.1 s.2.1 s.2.2) (set,[],onL set)) fun r=>vM r)=_
  rw [e1,aA]
  rfl
 ·have hc:∃ σ:Int->Int,∀ v,v∈ord->¬ On set v->(vx x.g v).Owner=pl->σ v∈(vx x.g v).Next/\σ v∈ord/\ord.idxOf (σ v) < ord.idxOf v:=by
   have:∀ v,∃ w,v∈ord->¬ On set v->(vx x.g v).Owner=pl->w∈(vx x.g v).Next/\w∈ord/\ord.idxOf w < ord.idxOf v:=fun v=>by
    by_cases hc:v∈ord/\¬ On set v/\(vx x.g v).Owner=pl
    ·obtain ⟨w,h1,h2⟩:=h.jm v hc.1 hc.2.1 hc.2.2
     exact ⟨w,fun _ _ _=>⟨h1,h2⟩⟩
    ·exact ⟨v,fun a b c=>absurd ⟨a,b,c⟩ hc⟩
   exact Classical.axiomOfChoice this
  obtain ⟨σ,hσ⟩:=hc
  refine ⟨σ,fun v hv=>(h.mem v).1 (h.sub v hv),fun v hv=>h.ina v ((h.mem v).2 hv),fun v hv hn ho=>?_,fun v hv hn ho w hE hA=>?_,fun v hv hn ho w hE ht=>?_,fun v hv hn ho hw=>?_⟩
  ·obtain ⟨a,b,c⟩:=hσ v ((h.mem v).2 hv) hn ho
   exact ⟨a,(h.mem _).1 b,c⟩
  ·obtain ⟨a,b⟩:=h.jt v ((h.mem v).2 hv) hn ho w hE hA
   exact ⟨(h.mem _).1 a,b⟩
  ·exact hn ((h.mem v).1 (h.cl v hv ho ⟨w,hE,(h.mem w).2 ht⟩))
  ·have hno:v∉ord:=fun h'=>hn ((h.mem v).1 h')
   rcases h.ct v hv ho hno with ⟨_,a⟩|⟨_,a⟩
   ·obtain ⟨w,h1,h2⟩:=hw
    exact ⟨w,h1,h2,fun ht=>a w h1 ((h.mem w).2 ht)⟩
   ·unfold ex at a
    obtain ⟨w,hw'⟩:=List.exists_mem_of_length_pos a
    rw [List.mem_filter] at hw'
    simp only [Bool.and_eq_true,decide_eq_true_eq,Bool.not_eq_true',decide_eq_false_iff_not] at hw'
    exact ⟨w,hw'.1,hw'.2.1,fun ht=>hw'.2.2 ((h.mem w).2 ht)⟩
end
end Gv
set_option linter.unusedVariables false
set_option linter.unusedSimpArgs false
namespace Gv
open Go
theorem getB {m:List Bool} {j:Nat} (h:j < m.length):m.getD j false=m[j]:=by rw [List.getD_eq_getElem?_getD,List.getElem?_eq_getElem h];rfl
theorem vS {step:List Bool × Int->Option ((List Bool × Int) ⊕ List Bool)} {n:Nat} (m0:List Bool) (hl:m0.length=n) (f:Nat->Bool)
  (h:∀ (k:Nat) (o:List Bool),k < n->o.length=n->(∀ j,k<=j->o.getD j false=m0.getD j false)->step (o,(k:Int))=some (.inl (o.set k (f k),((k+1:Nat):Int))))
  (h':∀ o:List Bool,o.length=n->step (o,(n:Int))=some (.inr o)):∃ r,loop step (m0,0)=some r/\r.length=n/\∀ v,On r v<->0<=v/\v < (n:Int)/\f v.toNat=true:=by
 have key:=cV (step:=step) n (fun i (q:List Bool)=>(q,(i:Int))) (fun i q=>q.length=n/\(∀ j,j < i->j < n->q.getD j false=f j)/\∀ j,i<=j->q.getD j false=m0.getD j false)
  (fun r=>r.length=n/\∀ j,j < n->r.getD j false=f j) (fun i q hi hI=>?_) (fun q hI=>?_) n 0 m0 (by omega) ⟨hl,fun j hj=>by omega,fun j _=>rfl⟩
 ·obtain ⟨r,e1,e2,e3⟩:=key
  refine ⟨r,e1,e2,fun v=>⟨fun hv=>?_,fun ⟨h0,h1,h2⟩=>⟨h0,by rw [e3 _ (by omega)];exact h2⟩⟩⟩
  have hlt:=hv.lt
  rw [e2] at hlt
  exact ⟨hv.1,by have:=hv.1;omega,by rw [←e3 _ hlt];exact hv.2⟩
 ·obtain ⟨a,b,c⟩:=hI
  refine ⟨q.set i (f i),h i q hi a c,by rw [List.length_set];exact a,fun j hj hjn=>?_,fun j hj=>?_⟩
  ·rw [List.getD_eq_getElem?_getD,List.getElem?_set]
   by_cases e:i=j
   ·subst e
    rw [if_pos rfl,if_pos (by omega)]
    rfl
   ·rw [if_neg e,←List.getD_eq_getElem?_getD]
    exact b j (by omega) hjn
  ·rw [List.getD_eq_getElem?_getD,List.getElem?_set,if_neg (by omega),←List.getD_eq_getElem?_getD]
   exact c j (by omega)
 ·exact ⟨q,h' q hI.1,hI.1,fun j hj=>hI.2.1 j hj hj⟩
section
variable {x:eS}
theorem aIi (h:AOk x) {v:Int} (hv:On x.in_ v):0<=v/\v < (x.g.length:Int):=by
 have:=hv.lt
 rw [h.inl] at this
 have:=hv.1
 omega
theorem ixO {m:List Bool} {k:Nat} (h:k < m.length):ix m (k:Int)=some (decide (On m (k:Int))):=ixOn (Int.natCast_nonneg k) (by omega)
theorem ixG {g:List aV} {k:Nat} (h:k < g.length):ix g (k:Int)=some (vx g (k:Int)):=ixV (Int.natCast_nonneg k) (by omega)
theorem marked_eq (h:AOk x) (p:Int):∃ r,sV x x p=some r/\r.length=x.g.length/\∀ v,On r v<->On x.in_ v/\(vx x.g v).Priority=p:=by
 have hg:=h.g.len
 have hi:=h.inl
 have key:=vS (step:=fun s:List Bool × Int=>iY x x p s.1 s.2) (n:=x.g.length) (List.replicate x.g.length false) (by simp) (fun k=>decide (On x.in_ (k:Int))&&((vx x.g (k:Int)).Priority == p)) (fun k o hk ho _=>?_) fun o ho=>?_
 ·obtain ⟨r,e1,e2,e3⟩:=key
  refine ⟨r,?_,e2,fun v=>?_⟩
  ·unfold sV
   rw [aAp _ (by unfold iC;omega),aA,e1,aA]
   rfl
  ·rw [e3 v]
   constructor
   ·rintro ⟨h0,h1,h2⟩
    rw [show ((v.toNat:Nat):Int)=v by omega] at h2
    simpa using h2
   ·rintro ⟨h1,h2⟩
    have:=aIi h h1
    refine ⟨this.1,this.2,?_⟩
    rw [show ((v.toNat:Nat):Int)=v by omega]
    simp [h1,h2]
 ·show iY x x p o (k:Int)=_
  unfold iY aBK oB
  rw [if_pos (by rw [hi];exact bZ hk),ixO (by omega),aA,ixG hk,aA,aA,bT (by omega),aA,aA,pY _ (by omega),pY _ (by omega),aA,aA,bN hk (by omega)]
  by_cases hb:On x.in_ (k:Int)
  ·simp [hb]
  ·simp [hb]
 ·show iY x x p o (x.g.length:Int)=_
  unfold iY
  rw [if_neg (by rw [hi];simp)]
theorem aNQ (h:AOk x) {w:List Bool} (hw:w.length=x.g.length) (p:Int):∃ r,oC x w p=some r/\r.length=x.g.length/\∀ v,On r v<->On x.in_ v/\(On w v<->¬ p=1):=by
 have hg:=h.g.len
 have hi:=h.inl
 have key:=vS (step:=fun s:List Bool × Int=>gC x w p s.1 s.2) (n:=x.g.length) (List.replicate x.g.length false) (by simp) (fun k=>decide (On x.in_ (k:Int))&&(decide (On w (k:Int)) != (p == 1))) (fun k o hk ho _=>?_) fun o ho=>?_
 ·obtain ⟨r,e1,e2,e3⟩:=key
  refine ⟨r,?_,e2,fun v=>?_⟩
  ·unfold oC
   rw [aAp _ (by unfold iC;omega),aA,e1,aA]
   rfl
  ·rw [e3 v]
   have hb:∀ {P:Prop} [Decidable P],(decide P != (p == 1))=true<->(P<->¬ p=1):=fun {P} _=>by
    by_cases h1:P<;>by_cases h2:p=1<;>simp [h1,h2]
   constructor
   ·rintro ⟨h0,h1,h2⟩
    rw [show ((v.toNat:Nat):Int)=v by omega,Bool.and_eq_true,decide_eq_true_iff,hb] at h2
    exact h2
   ·rintro ⟨h1,h2⟩
    have:=aIi h h1
    refine ⟨this.1,this.2,?_⟩
    rw [show ((v.toNat:Nat):Int)=v by omega,Bool.and_eq_true,decide_eq_true_iff,hb]
    exact ⟨h1,h2⟩
 ·show gC x w p o (k:Int)=_
  unfold gC aBL kR
  rw [if_pos (by rw [hi];exact bZ hk),ixO (by omega),aA,ixO (by omega),aA,aA,bT (by omega),aA,aA,pY _ (by omega),pY _ (by omega),aA,aA,bN hk (by omega)]
  by_cases hb:On x.in_ (k:Int)
  ·simp [hb]
  ·simp [hb]
 ·show gC x w p o (x.g.length:Int)=_
  unfold gC
  rw [if_neg (by rw [hi];simp)]
theorem aNR (h:AOk x) (p:Int):∃ r,oD x p=some r/\r.length=x.g.length/\∀ v,On r v<->On x.in_ v/\p=1:=by
 have hg:=h.g.len
 have hi:=h.inl
 have key:=vS (step:=fun s:List Bool × Int=>gD x p s.1 s.2) (n:=x.g.length) (List.replicate x.g.length false) (by simp) (fun k=>decide (On x.in_ (k:Int))&&(p == 1)) (fun k o hk ho _=>?_) fun o ho=>?_
 ·obtain ⟨r,e1,e2,e3⟩:=key
  refine ⟨r,?_,e2,fun v=>?_⟩
  ·unfold oD
   rw [aAp _ (by unfold iC;omega),aA,e1,aA]
   rfl
  ·rw [e3 v]
   constructor
   ·rintro ⟨h0,h1,h2⟩
    rw [show ((v.toNat:Nat):Int)=v by omega] at h2
    simpa using h2
   ·rintro ⟨h1,h2⟩
    have:=aIi h h1
    refine ⟨this.1,this.2,?_⟩
    rw [show ((v.toNat:Nat):Int)=v by omega]
    simp [h1,h2]
 ·show gD x p o (k:Int)=_
  unfold gD aBM kS
  rw [if_pos (by rw [hi];exact bZ hk),ixO (by omega),aA,aA,bT (by omega),aA,aA,pY _ (by omega),pY _ (by omega),aA,aA,bN hk (by omega)]
  by_cases hb:On x.in_ (k:Int)
  ·simp [hb]
  ·simp [hb]
 ·show gD x p o (x.g.length:Int)=_
  unfold gD
  rw [if_neg (by rw [hi];simp)]
theorem aNS (h:AOk x) {b w:List Bool} (hb:b.length=x.g.length) (hw:w.length=x.g.length) (p:Int):∃ r,oF x b p w=some r/\r.length=x.g.length/\∀ v,On r v<->On x.in_ v/\((On b v/\p=0)\/(¬ On b v/\On w v)):=by
 have hg:=h.g.len
 have hi:=h.inl
 have key:=vS (step:=fun s:List Bool × Int=>gE x b p w s.1 s.2) (n:=x.g.length) (List.replicate x.g.length false) (by simp) (fun k=>decide (On x.in_ (k:Int))&&(if On b (k:Int) then (p == 0) else decide (On w (k:Int)))) (fun k o hk ho _=>?_) fun o ho=>?_
 ·obtain ⟨r,e1,e2,e3⟩:=key
  refine ⟨r,?_,e2,fun v=>?_⟩
  ·unfold oF
   rw [aAp _ (by unfold iC;omega),aA,e1,aA]
   rfl
  ·rw [e3 v]
   have hbb:(if On b v then (p == 0) else decide (On w v))=true<->((On b v/\p=0)\/(¬ On b v/\On w v)):=by
    by_cases h1:On b v<;>simp [h1]
   constructor
   ·rintro ⟨h0,h1,h2⟩
    rw [show ((v.toNat:Nat):Int)=v by omega,Bool.and_eq_true,decide_eq_true_iff,hbb] at h2
    exact h2
   ·rintro ⟨h1,h2⟩
    have:=aIi h h1
    refine ⟨this.1,this.2,?_⟩
    rw [show ((v.toNat:Nat):Int)=v by omega,Bool.and_eq_true,decide_eq_true_iff,hbb]
    exact ⟨h1,h2⟩
 ·show gE x b p w o (k:Int)=_
  have hc:sW (k:Int) b p w=some (if On b (k:Int) then (p == 0) else decide (On w (k:Int))):=by
   unfold sW oE
   rw [ixO (by omega),aA,ixO (by omega),aA]
   by_cases h1:On b (k:Int)<;>by_cases h2:p=0<;>simp [h1,h2]
  unfold gE kT
  rw [if_pos (by rw [hi];exact bZ hk),ixO (by omega),aA,hc,aA,bT (by omega),aA,aA,pY _ (by omega),pY _ (by omega),aA,aA,bN hk (by omega)]
  by_cases hb:On x.in_ (k:Int)
  ·simp [hb]
  ·simp [hb]
 ·show gE x b p w o (x.g.length:Int)=_
  unfold gE
  rw [if_neg (by rw [hi];simp)]
theorem aJK (h:AOk x) (p:Int):∃ r,jA x x.g p=some r/\r.length=x.g.length/\∀ v,On r v<->On x.in_ v/\(vx x.g v).Owner=p/\(vx x.g v).Next=[]:=by
 have hg:=h.g.len
 have hi:=h.inl
 have key:=vS (step:=fun s:List Bool × Int=>gF x x.g p s.1 s.2) (n:=x.g.length) (List.replicate x.g.length false) (by simp) (fun k=>decide (On x.in_ (k:Int))&&(decide ((vx x.g (k:Int)).Owner=p/\(vx x.g (k:Int)).Next=[]))) (fun k o hk ho _=>?_) fun o ho=>?_
 ·obtain ⟨r,e1,e2,e3⟩:=key
  refine ⟨r,?_,e2,fun v=>?_⟩
  ·unfold jA
   rw [aAp _ (by unfold iC;omega),aA,e1,aA]
   rfl
  ·rw [e3 v]
   constructor
   ·rintro ⟨h0,h1,h2⟩
    rw [show ((v.toNat:Nat):Int)=v by omega] at h2
    simpa using h2
   ·rintro ⟨h1,h2⟩
    have:=aIi h h1
    refine ⟨this.1,this.2,?_⟩
    rw [show ((v.toNat:Nat):Int)=v by omega]
    simp [h1,h2]
 ·show gF x x.g p o (k:Int)=_
  have hc:qZ (k:Int) x.g p=some (decide ((vx x.g (k:Int)).Owner=p/\(vx x.g (k:Int)).Next=[])):=by
   unfold qZ qP
   rw [ixG hk,aA]
   by_cases h1:(vx x.g (k:Int)).Owner=p
   ·rw [if_pos (by simpa using h1)]
    cases hn:(vx x.g (k:Int)).Next with
    |nil=>simp [h1]
    |cons a l=>simp;omega
   ·rw [if_neg (by simpa using h1)]
    simp [h1]
  unfold gF kU
  rw [if_pos (by rw [hi];exact bZ hk),ixO (by omega),aA,hc,aA,bT (by omega),aA,aA,pY _ (by omega),pY _ (by omega),aA,aA,bN hk (by omega)]
  by_cases hb:On x.in_ (k:Int)
  ·simp [hb]
  ·simp [hb]
 ·show gF x x.g p o (x.g.length:Int)=_
  unfold gF
  rw [if_neg (by rw [hi];simp)]
theorem aEh (h:AOk x) {b:List Bool} (hb:b.length=x.g.length):∃ r,jO x b=some r/\r.length=x.g.length/\∀ v,On r v<->On x.in_ v/\¬ On b v:=by
 have hg:=h.g.len
 have hi:=h.inl
 have key:=vS (step:=fun s:List Bool × Int=>iF b s.1 s.2) (n:=x.g.length) x.in_ hi (fun k=>decide (On x.in_ (k:Int))&&!decide (On b (k:Int))) (fun k o hk ho hm=>?_) fun o ho=>?_
 ·obtain ⟨r,e1,e2,e3⟩:=key
  refine ⟨r,?_,e2,fun v=>?_⟩
  ·unfold jO eH
   rw [cI (by simp only [List.length_nil];unfold iC;omega),aA,aA,List.nil_append,e1,aA]
   rfl
  ·rw [e3 v]
   constructor
   ·rintro ⟨h0,h1,h2⟩
    rw [show ((v.toNat:Nat):Int)=v by omega] at h2
    simpa using h2
   ·rintro ⟨h1,h2⟩
    have:=aIi h h1
    refine ⟨this.1,this.2,?_⟩
    rw [show ((v.toNat:Nat):Int)=v by omega]
    simp [h1,h2]
 ·show iF b o (k:Int)=_
  have hok:On o (k:Int)<->On x.in_ (k:Int):=by
   unfold On
   rw [show ((k:Int)).toNat=k by omega,hm k (Nat.le_refl _)]
  unfold iF mW
  rw [if_pos (by rw [hb];exact bZ hk),ixO (by omega),aA,ixO (by omega),aA,pY _ (by omega),pY _ (by omega),aA,aA,bN hk (by omega)]
  by_cases hb:On x.in_ (k:Int)
  ·simp [hb,hok.2 hb]
  ·have:¬ On o (k:Int):=fun h=>hb (hok.1 h)
   simp [hb,this]
 ·show iF b o (x.g.length:Int)=_
  unfold iF
  rw [if_neg (by rw [hb];simp)]
theorem aMT (m:List Bool) (h:m.length<=100000):gJ m true=some (m.any fun b=>true == b):=by
 unfold gJ
 have hi:fO m true=some (pos m true):=by
  unfold fO
  have key:=aBg (step:=fun s:Int=>gI m true s) m (fun b=>true == b) (fun k b hk hb=>?_) ?_
  ·rw [key,aA]
   unfold pos
   cases hx:m.findIdx? fun b=>true == b<;>rfl
  ·unfold gI
   rw [if_pos (bZ hk),hb,aA,bN hk (by omega)]
  ·unfold gI
   rw [if_neg (by simp)]
 rw [hi,aA,pos_any]
theorem any_on {m:List Bool}:(m.any fun b=>true == b)=true<->∃ v,On m v:=by
 rw [List.any_eq_true]
 constructor
 ·rintro ⟨b,hb,e⟩
  obtain ⟨j,hj,rfl⟩:=List.getElem_of_mem hb
  refine ⟨(j:Int),Int.natCast_nonneg j,?_⟩
  rw [show ((j:Int)).toNat=j by omega,getB hj]
  simpa using e.symm
 ·rintro ⟨v,hv⟩
  refine ⟨m[v.toNat]'hv.lt,List.getElem_mem _,?_⟩
  rw [←getB hv.lt,hv.2]
  rfl
end
end Gv
set_option linter.unusedVariables false
set_option linter.unusedSimpArgs false
namespace Gv
open Go
section
variable {x:eS} {p q:Int}
theorem aMU {G:PG Int} {A W:Int->Prop} (h:∀ v,¬ W v):∃ σ,Reg G A p W σ:=
 ⟨id,fun v hv=>absurd hv (h v),fun v hv=>absurd hv (h v),fun v hv=>absurd hv (h v),fun f hf=>absurd (hf 0) (h _)⟩
theorem Reg.of {G:PG Int} {A A' W W':Int->Prop} (hA:∀ v,A' v<->A v) (hW:∀ v,W' v<->W v) (h:∃ σ,Reg G A p W σ):∃ σ,Reg G A' p W' σ:=by
 have e1:A'=A:=funext fun v=>propext (hA v)
 have e2:W'=W:=funext fun v=>propext (hW v)
 rw [e1,e2]
 exact h
def Won (A:Int->Prop) (r:List Bool) (q:Int) (v:Int):Prop:=A v/\(On r v<->q=1)
structure WinOk (x:eS) (r:List Bool):Prop where
 len:r.length=x.g.length
 reg:∀ q,q=0\/q=1->∃ σ,Reg (gg x.g) (On x.in_) q (Won (On x.in_) r q) σ
def Live (x:eS):Prop:=∀ v,On x.in_ v->∃ w,(gg x.g).E v w/\On x.in_ w
theorem AOk.sub (h:AOk x) {m:List Bool} (hm:m.length=x.g.length):AOk ⟨x.g,x.back,m⟩:=⟨h.g,hm,h.bl,h.bk,h.bnd⟩
theorem Live.sub (h:AOk x) (hl:Live x) {S:Int->Prop} {b m:List Bool} {rk:Int->Nat} {σ:Int->Int} (ha:Att (gg x.g) (On x.in_) p S (On b) rk σ) (hm:∀ v,On m v<->On x.in_ v/\¬ On b v):Live ⟨x.g,x.back,m⟩:=by
 intro v hv
 obtain ⟨h1,h2⟩:=(hm v).1 hv
 by_cases ho:(gg x.g).own v=p
 ·obtain ⟨w,h3,h4⟩:=hl v h1
  exact ⟨w,h3,(hm w).2 ⟨h4,ha.outM v h1 h2 ho w h3⟩⟩
 ·obtain ⟨w,h3,h4,h5⟩:=ha.outT v h1 h2 ho (hl v h1)
  exact ⟨w,h3,(hm w).2 ⟨h4,h5⟩⟩
theorem aMV {m m':List Bool} (h:∀ v,On m' v->On m v) {u:Int} (hu:On m u) (hu':¬ On m' u):(onL m').length < (onL m).length:=by
 have:=List.Nodup.length_le_of_subset (l₁:=u::onL m') (l₂:=onL m) (List.nodup_cons.2 ⟨fun h=>hu' (qS.1 h),aHM _⟩) (fun v hv=>by
  rcases List.mem_cons.1 hv with rfl|hv
  ·exact qS.2 hu
  ·exact qS.2 (h v (qS.1 hv)))
 rw [List.length_cons] at this
 exact this
theorem least_eq (h:AOk x) {L:List Int} (hL:∀ v∈L,On x.in_ v) (hl:L.length<=100000) (m0:Int):
  ∃ m,loop (fun s:Int × Int=>iZ x L s.1 s.2) (m0,0)=some m/\(m=m0\/∃ v∈L,(vx x.g v).Priority=m)/\m<=m0/\∀ v∈L,m<=(vx x.g v).Priority:=by
 have key:=cV (step:=fun s:Int × Int=>iZ x L s.1 s.2) L.length (fun i (q:Int)=>(q,(i:Int))) (fun i q=>(q=m0\/∃ v∈L,(vx x.g v).Priority=q)/\q<=m0/\∀ v∈L.take i,q<=(vx x.g v).Priority)
  (fun m=>(m=m0\/∃ v∈L,(vx x.g v).Priority=m)/\m<=m0/\∀ v∈L,m<=(vx x.g v).Priority) (fun i q hi hI=>?_) (fun q hI=>?_) L.length 0 m0 (by omega) ⟨.inl rfl,Int.le_refl _,fun v hv=>by cases hv⟩
 ·exact key
 ·obtain ⟨a,b,c⟩:=hI
  have hv:=aIi h (hL _ (List.getElem_mem hi))
  refine ⟨mnI q (vx x.g L[i]).Priority,?_,?_⟩
  ·show iZ x L q (i:Int)=_
   unfold iZ
   rw [if_pos (bZ hi),bT hi,aA,ixV hv.1 hv.2,aA,bN hi (by omega)]
  ·unfold mnI
   rw [List.take_succ_eq_append_getElem hi]
   split
   ·rename_i hlt
    refine ⟨.inr ⟨_,List.getElem_mem hi,rfl⟩,by omega,fun v hv=>?_⟩
    rcases List.mem_append.1 hv with hv|hv
    ·have:=c v hv;omega
    ·rw [List.mem_singleton] at hv;rw [hv];exact Int.le_refl _
   ·rename_i hlt
    refine ⟨a,b,fun v hv=>?_⟩
    rcases List.mem_append.1 hv with hv|hv
    ·exact c v hv
    ·rw [List.mem_singleton] at hv;rw [hv];omega
 ·refine ⟨q,?_,hI.1,hI.2.1,fun v hv=>hI.2.2 v (by rw [List.take_length];exact hv)⟩
  show iZ x L q (L.length:Int)=_
  unfold iZ
  rw [if_neg (by simp)]
theorem win_ok:∀ (n:Nat) (x:eS),AOk x->Live x->(onL x.in_).length < n->∃ r,oQ n x=some r/\WinOk x r
 |0,x,_,_,h=>by omega
 |n+1,x,hx,hlive,hn=>by
  have hg:=hx.g.len
  have hil:=hx.inl
  show ∃ r,uU (oQ n) x=some r/\_
  unfold uU
  rw [aKS _ (by omega),aA]
  show ∃ r,(if ((onL x.in_).length:Int) == 0 then _ else _)=some r/\_
  by_cases h0:(onL x.in_).length=0
  ·rw [if_pos (by simp [h0]),aAp _ (by unfold iC;omega),aA]
   refine ⟨_,rfl,by simp,fun q _=>aMU fun v hv=>?_⟩
   have:=qS.2 hv.1
   rw [List.eq_nil_of_length_eq_zero h0] at this
   cases this
  ·rw [if_neg (by simpa using h0)]
   have hu:On x.in_ ((onL x.in_)[0]'(by omega)):=qS.1 (List.getElem_mem _)
   have hur:=aIi hx hu
   have hll:(onL x.in_).length<=10000:=by
    unfold onL
    rw [List.length_map]
    exact Nat.le_trans (List.length_filter_le _ _) (by rw [List.length_range];omega)
   show ∃ r,(ob (ix (onL x.in_) ((0:Nat):Int)) _)=some r/\_
   rw [bT (by omega),aA,ixV hur.1 hur.2,aA]
   obtain ⟨m,e1,hm1,hm2,hm3⟩:=least_eq hx (L:=onL x.in_) (fun v hv=>qS.1 hv) (by omega) (vx x.g ((onL x.in_)[0]'(by omega))).Priority
   show ∃ r,ob (loop (fun s:Int × Int=>iZ x (onL x.in_) s.1 s.2) _) _=some r/\_
   rw [e1,aA]
   have hmw:∃ v,On x.in_ v/\(vx x.g v).Priority=m:=by
    rcases hm1 with e|⟨v,hv,e⟩
    ·exact ⟨_,hu,e.symm⟩
    ·exact ⟨v,qS.1 hv,e⟩
   have hmle:∀ v,On x.in_ v->m<=(vx x.g v).Priority:=fun v hv=>hm3 v (qS.2 hv)
   have hm0:0<=m:=by
    obtain ⟨v,_,e⟩:=hmw
    rw [←e]
    exact (hx.g.pr v).1
   have hp:m % 2=0\/m % 2=1:=by omega
   unfold sX
   rw [show rm m 2=some (m % 2) by unfold rm;rw [if_neg (by omega),Int.tmod_eq_emod_of_nonneg hm0],aA]
   generalize hpe:m % 2=p at hp ⊢
   have hpo:1 - p=0\/1 - p=1:=by omega
   have hw1:wr (1 - p)=1 - p:=bP (by omega) (by omega)
   rw [hw1]
   obtain ⟨S,e2,hS1,hS2⟩:=marked_eq hx m
   rw [e2,aA]
   obtain ⟨At,e3,hA1,rk,σ,hA2⟩:=aEg hx (pl:=p) hS1 fun v hv=>((hS2 v).1 hv).1
   rw [e3,aA]
   obtain ⟨N1,e4,hN1,hN2⟩:=aEh hx hA1
   rw [e4,aA]
   have hx1:=hx.sub hN1
   have hl1:Live ⟨x.g,x.back,N1⟩:=hlive.sub hx hA2 hN2
   obtain ⟨v0,hv0,hv0'⟩:=hmw
   have hlt1:(onL N1).length < (onL x.in_).length:=aMV (fun v hv=>((hN2 v).1 hv).1) hv0 fun h=>((hN2 v0).1 h).2 (hA2.sub v0 ((hS2 v0).2 ⟨hv0,hv0'⟩))
   obtain ⟨R1,e5,hR1⟩:=win_ok n ⟨x.g,x.back,N1⟩ hx1 hl1 (by simp only;omega)
   rw [e5,aA]
   obtain ⟨L,e6,hL1,hL2⟩:=aNQ hx1 (w:=R1) hR1.len p
   rw [e6,aA,aMT _ (by simp only at hL1;omega),aA]
   have hown:∀ v,(gg x.g).own v=0\/(gg x.g).own v=1:=hx.g.own
   simp only at hL1 hL2
   by_cases hany:∃ v,On L v
   ·rw [if_neg (by rw [any_on.2 hany];simp)]
    have hLi:∀ v,On L v->On x.in_ v:=fun v hv=>((hN2 v).1 ((hL2 v).1 hv).1).1
    obtain ⟨Bt,e7,hB1,rk',σ',hB2⟩:=aEg hx (pl:=1 - p) hL1 hLi
    rw [e7,aA]
    obtain ⟨N2,e8,hM1,hM2⟩:=aEh hx hB1
    rw [e8,aA]
    have hx2:=hx.sub hM1
    have hl2:Live ⟨x.g,x.back,N2⟩:=hlive.sub hx hB2 hM2
    obtain ⟨u,hu1⟩:=hany
    have hlt2:(onL N2).length < (onL x.in_).length:=aMV (fun v hv=>((hM2 v).1 hv).1) (hLi u hu1) fun h=>((hM2 u).1 h).2 (hB2.sub u hu1)
    obtain ⟨R2,e9,hR2⟩:=win_ok n ⟨x.g,x.back,N2⟩ hx2 hl2 (by simp only;omega)
    rw [e9,aA]
    obtain ⟨r,e10,hr1,hr2⟩:=aNS hx (b:=Bt) (w:=R2) hB1 hR2.len p
    rw [e10,aA]
    refine ⟨r,rfl,hr1,?_⟩
    have hLreg:∃ σ,Reg (gg x.g) (On N1) (1 - p) (On L) σ:=Reg.of (fun v=>Iff.rfl) (fun v=>by
     show _<->On N1 v/\(On R1 v<->1 - p=1)
     rw [hL2]
     exact and_congr_right fun _=>by rw [show (1 - p=1)<->¬ p=1 by omega]) (hR1.reg (1 - p) hpo)
    obtain ⟨τ,hτ⟩:=hLreg
    have hLA:=aLH (A:=On x.in_) hτ (fun v hv=>((hN2 v).1 hv).1) fun v hv ho w hE hA=>by
     have h1:=(hN2 v).1 (hτ.sub v hv)
     have h2:(gg x.g).own v=p:=by have:=hown v;have ho':(gg x.g).own v≠1 - p:=ho;omega
     exact (hN2 w).2 ⟨hA,hA2.outM v h1.1 h1.2 h2 w hE⟩
    have hBreg:=attReg hLA hB2
    have hside:∀ q,q=0\/q=1->q=p\/q=1 - p:=fun q hq=>by omega
    intro q hq
    rcases hside q hq with rfl|rfl
    ·
     obtain ⟨ρ,hρ⟩:=hR2.reg q hq
     have:=aLH (A:=On x.in_) hρ (fun v hv=>((hM2 v).1 hv).1) fun v hv ho w hE hA=>by
      have h1:=(hM2 v).1 (hρ.sub v hv)
      have h2:(gg x.g).own v=1 - q:=by have:=hown v;have ho':(gg x.g).own v≠q:=ho;omega
      exact (hM2 w).2 ⟨hA,hB2.outM v h1.1 h1.2 h2 w hE⟩
     refine Reg.of (fun v=>Iff.rfl) (fun v=>?_) ⟨ρ,this⟩
     show On x.in_ v/\(On r v<->q=1)<->On N2 v/\(On R2 v<->q=1)
     rw [hr2,hM2]
     by_cases hb:On Bt v
     ·simp only [hb,true_and,not_true,false_and,or_false,and_false,false_and]
      by_cases hi:On x.in_ v
      ·simp only [hi,true_and,iff_false];omega
      ·simp [hi]
     ·by_cases hi:On x.in_ v<;>simp [hb,hi]
    ·
     obtain ⟨ρ,hρ⟩:=hR2.reg (1 - p) hq
     have:=aLI hBreg hρ fun v=>hM2 v
     refine Reg.of (fun v=>Iff.rfl) (fun v=>?_) ⟨_,this⟩
     show On x.in_ v/\(On r v<->1 - p=1)<->On Bt v\/(On N2 v/\(On R2 v<->1 - p=1))
     rw [hr2,hM2]
     by_cases hb:On Bt v
     ·have hi:=hB2.inA v hb
      simp only [hb,hi,true_and,not_true,false_and,or_false,true_or,iff_true]
      omega
     ·by_cases hi:On x.in_ v<;>simp [hb,hi]
   ·rw [if_pos (by
     cases hc:L.any fun b=>true == b with
     |true=>exact absurd (any_on.1 hc) hany
     |false=>rfl)]
    obtain ⟨r,e7,hr1,hr2⟩:=aNR hx p
    rw [e7,aA]
    refine ⟨r,rfl,hr1,?_⟩
    have hall:∃ σ,Reg (gg x.g) (On N1) p (On N1) σ:=Reg.of (fun v=>Iff.rfl) (fun v=>by
     show On N1 v<->On N1 v/\(On R1 v<->p=1)
     constructor
     ·intro hv
      refine ⟨hv,?_⟩
      have:¬ On L v:=fun h=>hany ⟨v,h⟩
      rw [hL2] at this
      have h2:¬ (On R1 v<->¬ p=1):=fun h=>this ⟨hv,h⟩
      by_cases h3:On R1 v<;>by_cases h4:p=1<;>simp [h3,h4] at h2 ⊢
     ·exact fun h=>h.1) (hR1.reg p hp)
    obtain ⟨τ,hτ⟩:=hall
    obtain ⟨ρ,hρ⟩:=allReg hpe hmle hS2 hA2 hN2 hτ hlive
    have hside:∀ q,q=0\/q=1->q=p\/q=1 - p:=fun q hq=>by omega
    intro q hq
    rcases hside q hq with rfl|rfl
    ·refine Reg.of (fun v=>Iff.rfl) (fun v=>?_) ⟨ρ,hρ⟩
     show On x.in_ v/\(On r v<->q=1)<->On x.in_ v
     rw [hr2]
     by_cases hi:On x.in_ v<;>simp [hi]
    ·refine aMU fun v hv=>?_
     obtain ⟨h1,h2⟩:=hv
     rw [hr2] at h2
     simp only [h1,true_and] at h2
     omega
end
end Gv
set_option linter.unusedVariables false
set_option linter.unusedSimpArgs false
namespace Gv
open Go
section
variable {g:List aV}
def xT (g:List aV) (v:Int):Prop:=0<=v/\v < (g.length:Int)
def bkL (g:List aV) (k w:Nat):List Int:=((List.range k).filter fun v:Nat=>decide ((w:Int)∈(vx g (v:Int)).Next)).map fun v:Nat=>(v:Int)
theorem bkL_succ (g:List aV) (k w:Nat):bkL g (k+1) w=bkL g k w++(if (w:Int)∈(vx g (k:Int)).Next then [(k:Int)] else []):=by
 unfold bkL
 rw [List.range_succ,List.filter_append,List.map_append]
 by_cases h:(w:Int)∈(vx g (k:Int)).Next<;>simp [h]
theorem bkL_len (g:List aV) (k w:Nat):(bkL g k w).length<=k:=by
 unfold bkL
 rw [List.length_map]
 exact Nat.le_trans (List.length_filter_le _ _) (Nat.le_of_eq List.length_range)
theorem back_row (hg:GOk g) {k:Nat} (hk:k < g.length) {B:List (List Int)} (hB:B.length=g.length) (hb:∀ w,w < g.length->B.getD w []=bkL g k w):
  ∃ B',loop (fun s:List (List Int) × Int=>mD (k:Int) (vx g (k:Int)) s.1 s.2) (B,0)=some B'/\B'.length=g.length/\∀ w,w < g.length->B'.getD w []=bkL g (k+1) w:=by
 have hl:(vx g (k:Int)).Next.length<=g.length:=aHN (x:=⟨g,[],[]⟩) hg (k:Int)
 have hgl:=hg.len
 have hin:=hg.nx (k:Int)
 have hnd:=hg.nd (k:Int)
 have key:=cV (step:=fun s:List (List Int) × Int=>mD (k:Int) (vx g (k:Int)) s.1 s.2) (vx g (k:Int)).Next.length (fun i (q:List (List Int))=>(q,(i:Int)))
  (fun i q=>q.length=g.length/\∀ w,w < g.length->q.getD w []=bkL g k w++(if (w:Int)∈(vx g (k:Int)).Next.take i then [(k:Int)] else []))
  (fun r=>r.length=g.length/\∀ w,w < g.length->r.getD w []=bkL g (k+1) w) (fun i q hi hI=>?_) (fun q hI=>?_) (vx g (k:Int)).Next.length 0 B (by omega) ⟨hB,fun w hw=>by rw [hb w hw];simp⟩
 ·exact key
 ·obtain ⟨a,b⟩:=hI
  have he:=hin _ (List.getElem_mem hi)
  have hnt:(vx g (k:Int)).Next[i]∉(vx g (k:Int)).Next.take i:=fun hm=>by
   obtain ⟨j,hj,e⟩:=List.mem_take_iff_getElem.1 hm
   exact List.pairwise_iff_getElem.1 hnd j i (by omega) hi (by omega) e
  show ∃ q',mD (k:Int) (vx g (k:Int)) q (i:Int)=some (.inl (q',((i+1:Nat):Int)))/\_
  unfold mD yY
  rw [if_pos (bZ hi),bT hi,aA]
  generalize hee:(vx g (k:Int)).Next[i]=e at he hnt ⊢
  have hex:ix q e=some (bkL g k e.toNat):=by
   have:=b e.toNat (by omega)
   rw [show ((e.toNat:Nat):Int)=e by omega,if_neg hnt,List.append_nil] at this
   rw [←this]
   unfold ix
   rw [if_pos he.1,List.getD_eq_getElem?_getD,List.getElem?_eq_getElem (by omega)]
   rfl
  have hbl:=bkL_len g k e.toNat
  rw [hex,aA,cI (by simp only [List.length_singleton];unfold iC;omega),aA]
  unfold st
  rw [if_pos ⟨he.1,by omega⟩,aA,bN hi (by omega)]
  refine ⟨_,rfl,by rw [List.length_set];exact a,fun w hw=>?_⟩
  rw [List.getD_eq_getElem?_getD,List.getElem?_set,List.take_succ_eq_append_getElem hi,hee]
  by_cases hwe:e.toNat=w
  ·subst hwe
   rw [if_pos rfl,if_pos (by omega),if_pos (by rw [show ((e.toNat:Nat):Int)=e by omega];simp)]
   rfl
  ·rw [if_neg hwe,←List.getD_eq_getElem?_getD,b w hw]
   congr 1
   have:(w:Int)∉[e]:=by rw [List.mem_singleton];omega
   simp only [List.mem_append,this,or_false]
 ·refine ⟨q,?_,hI.1,fun w hw=>?_⟩
  ·show mD (k:Int) (vx g (k:Int)) q ((vx g (k:Int)).Next.length:Int)=_
   unfold mD
   rw [if_neg (by simp)]
  ·rw [hI.2 w hw,List.take_length,bkL_succ]
theorem on_true {n:Nat} {v:Int}:On (List.replicate n true) v<->0<=v/\v < (n:Int):=by
 constructor
 ·intro h
  have:=h.lt
  rw [List.length_replicate] at this
  have:=h.1
  omega
 ·intro h
  refine ⟨h.1,?_⟩
  rw [getB (by rw [List.length_replicate];omega),List.getElem_replicate]
theorem aMW (hg:GOk g) (h1:1<=g.length):∃ B,aBH g=some (B,List.replicate g.length true)/\AOk ⟨g,B,List.replicate g.length true⟩:=by
 have hgl:=hg.len
 have key:=cV (step:=fun s:List (List Int) × Int=>mE g s.1 s.2) g.length (fun i (q:List (List Int))=>(q,(i:Int)))
  (fun i q=>q.length=g.length/\∀ w,w < g.length->q.getD w []=bkL g i w)
  (fun r=>r.length=g.length/\∀ w,w < g.length->r.getD w []=bkL g g.length w) (fun i q hi hI=>?_) (fun q hI=>?_) g.length 0 (List.replicate g.length []) (by omega) ⟨by simp,fun w hw=>by
   rw [List.getD_eq_getElem?_getD,List.getElem?_replicate,if_pos hw]
   rfl⟩
 ·obtain ⟨B,e1,e2,e3⟩:=key
  refine ⟨B,?_,hg,by simp,e2,fun v h0 hv k=>?_,fun v=>?_⟩
  ·unfold aBH yZ
   rw [aAp _ (by unfold iC;omega),aA,Repeat_eq true g.length h1 (by omega),aA]
   have e1':loop (fun s:List (List Int) × Int=>mE g s.1 s.2) (List.replicate g.length [],0)=some B:=e1
   rw [e1',aA]
   rfl
  ·show k∈B.getD v.toNat []<->0<=k/\k < (g.length:Int)/\v∈(vx g k).Next
   rw [e3 _ (show v.toNat < g.length by have:v < (g.length:Int):=hv;omega)]
   unfold bkL
   rw [List.mem_map]
   rw [show ((v.toNat:Nat):Int)=v by omega]
   constructor
   ·rintro ⟨j,hj,rfl⟩
    rw [List.mem_filter,List.mem_range,decide_eq_true_iff] at hj
    exact ⟨Int.natCast_nonneg j,by omega,hj.2⟩
   ·rintro ⟨a,b,c⟩
    refine ⟨k.toNat,List.mem_filter.2 ⟨List.mem_range.2 (by omega),?_⟩,by omega⟩
    rw [show ((k.toNat:Nat):Int)=k by omega]
    simpa using c
  ·show (B.getD v []).Nodup
   by_cases hv:v < g.length
   ·rw [e3 v hv]
    unfold bkL
    have hn:((List.range g.length).filter fun j:Nat=>decide ((v:Int)∈(vx g (j:Int)).Next)).Nodup:=List.nodup_range.filter _
    exact List.pairwise_map.2 (hn.imp fun h e=>h (by omega))
   ·rw [List.getD_eq_getElem?_getD,List.getElem?_eq_none (by omega)]
    exact List.nodup_nil
 ·show ∃ q',mE g q (i:Int)=some (.inl (q',((i+1:Nat):Int)))/\_
  obtain ⟨B',e1,e2,e3⟩:=back_row hg hi hI.1 hI.2
  refine ⟨B',?_,e2,e3⟩
  unfold mE aCW yX
  rw [if_pos (bZ hi),ixG hi,aA,e1,aA,bN hi (by omega)]
 ·refine ⟨q,?_,hI⟩
  show mE g q (g.length:Int)=_
  unfold mE
  rw [if_neg (by simp)]
theorem xO (b:Bool):vB b=some (if b=true then 1 else 0):=by
 unfold vB
 cases b<;>rfl
theorem aJL (hg:GOk g) (h1:1<=g.length):∃ out,wE g=some out/\out.length=g.length/\∀ v,xT g v->∃ q,(q=0\/q=1)/\out.getD v.toNat 0=q/\∃ W σ,Reg (gg g) (xT g) q W σ/\W v:=by
 have hgl:=hg.len
 obtain ⟨B,e1,hx⟩:=aMW hg h1
 have hin:∀ v,On (List.replicate g.length true) v<->xT g v:=fun v=>on_true
 have hown:∀ v,(gg g).own v=0\/(gg g).own v=1:=hg.own
 obtain ⟨S0,f1,g1,g2⟩:=aJK hx 0
 obtain ⟨T0,f2,g3,rk0,σ0,g4⟩:=aEg hx (pl:=1) g1 fun v hv=>((g2 v).1 hv).1
 obtain ⟨S1,f3,g5,g6⟩:=aJK hx 1
 obtain ⟨T1,f4,g7,rk1,σ1,g8⟩:=aEg hx (pl:=0) g5 fun v hv=>((g6 v).1 hv).1
 obtain ⟨M0,f5,g9,g10⟩:=aEh hx g3
 have hx0:=hx.sub g9
 obtain ⟨M1,f6,g11,g12⟩:=aEh hx0 g7
 have hx1:=hx.sub g11
 simp only at g1 g2 g3 g4 g5 g6 g7 g8 g9 g10 g11 g12
 have hM:∀ v,On M1 v<->xT g v/\¬ On T0 v/\¬ On T1 v:=fun v=>by rw [g12,g10,hin,and_assoc]
 have hlive:Live ⟨g,B,M1⟩:=by
  intro v hv
  have hv:On M1 v:=hv
  obtain ⟨a,b,c⟩:=(hM v).1 hv
  have hne:(vx g v).Next≠[]:=fun hn=>by
   rcases hown v with ho|ho
   ·exact b (g4.sub v ((g2 v).2 ⟨(hin v).2 a,ho,hn⟩))
   ·exact c (g8.sub v ((g6 v).2 ⟨(hin v).2 a,ho,hn⟩))
  obtain ⟨w0,hw0⟩:=List.exists_mem_of_ne_nil _ hne
  have hw0':∃ w,(gg g).E v w/\On (List.replicate g.length true) w:=⟨w0,hw0,(hin _).2 (hg.nx v w0 hw0)⟩
  rcases hown v with ho|ho
  ·obtain ⟨w,h2,h3,h4⟩:=g4.outT v ((hin v).2 a) b (by rw [ho];decide) hw0'
   exact ⟨w,h2,(hM w).2 ⟨(hin w).1 h3,h4,g8.outM v ((hin v).2 a) c ho w h2⟩⟩
  ·obtain ⟨w,h2,h3,h4⟩:=g8.outT v ((hin v).2 a) c (by rw [ho];decide) hw0'
   exact ⟨w,h2,(hM w).2 ⟨(hin w).1 h3,g4.outM v ((hin v).2 a) b ho w h2,h4⟩⟩
 have hcnt:(onL M1).length < 100000:=by
  unfold onL
  rw [List.length_map]
  refine Nat.lt_of_le_of_lt (List.length_filter_le _ _) ?_
  rw [List.length_range]
  omega
 obtain ⟨R,f7,hR⟩:=win_ok 100000 ⟨g,B,M1⟩ hx1 hlive hcnt
 have hRl:R.length=g.length:=hR.len
 have hdead:∀ {p o:Int} {S:List Bool},p≠o->(∀ v,On S v<->On (List.replicate g.length true) v/\(vx g v).Owner=o/\(vx g v).Next=[])->Reg (gg g) (On (List.replicate g.length true)) p (On S) id:=fun {p o S} hpo hS=>
  ⟨fun v hv=>((hS v).1 hv).1,
   fun v hv ho=>absurd (ho.symm.trans ((hS v).1 hv).2.1) hpo,
   fun v hv _ w hE _=>(by
    have h2:w∈(vx g v).Next:=hE
    rw [((hS v).1 hv).2.2] at h2
    cases h2),
   fun f hf hE _=>by
    have h2:f 1∈(vx g (f 0)).Next:=hE 0
    rw [((hS _).1 (hf 0)).2.2] at h2
    cases h2⟩
 have hT0:=attReg (hdead (by decide) g2) g4
 have hT1:=attReg (hdead (by decide) g6) g8
 have hfull:∀ {q:Int} {W:Int->Prop},(∃ σ,Reg (gg g) (On (List.replicate g.length true)) q W σ)->∃ σ,Reg (gg g) (xT g) q W σ:=fun h=>Reg.of (fun v=>(hin v).symm) (fun _=>Iff.rfl) h
 have hW:∀ q,q=0\/q=1->∃ W,(∃ σ,Reg (gg g) (On (List.replicate g.length true)) q W σ)/\∀ v,On M1 v->(On R v<->q=1)->W v:=by
  intro q hq
  obtain ⟨ρ,hρ⟩:=hR.reg q hq
  rcases hq with rfl|rfl
  ·have h5:=aLH (A:=fun v=>On (List.replicate g.length true) v/\¬ On T1 v) hρ (fun v hv=>⟨(hin v).2 ((hM v).1 hv).1,((hM v).1 hv).2.2⟩) fun v hv ho w hE hA=>by
    obtain ⟨a,b,c⟩:=(hM v).1 (hρ.sub v hv)
    have ho':(gg g).own v=1:=by have:=hown v;have:(gg g).own v≠0:=ho;omega
    exact (hM w).2 ⟨(hin w).1 hA.1,g4.outM v ((hin v).2 a) b ho' w hE,hA.2⟩
   exact ⟨_,⟨_,aLI hT1 h5 fun v=>Iff.rfl⟩,fun v h6 h7=>.inr ⟨h6,h7⟩⟩
  ·have h5:=aLH (A:=fun v=>On (List.replicate g.length true) v/\¬ On T0 v) hρ (fun v hv=>⟨(hin v).2 ((hM v).1 hv).1,((hM v).1 hv).2.1⟩) fun v hv ho w hE hA=>by
    obtain ⟨a,b,c⟩:=(hM v).1 (hρ.sub v hv)
    have ho':(gg g).own v=0:=by have:=hown v;have:(gg g).own v≠1:=ho;omega
    exact (hM w).2 ⟨(hin w).1 hA.1,hA.2,g8.outM v ((hin v).2 a) c ho' w hE⟩
   exact ⟨_,⟨_,aLI hT0 h5 fun v=>Iff.rfl⟩,fun v h6 h7=>.inr ⟨h6,h7⟩⟩
 let F:Nat->Int:=fun k=>if On T0 (k:Int) then 1 else if On T1 (k:Int) then 0 else if On R (k:Int) then 1 else 0
 have key:=cV (step:=fun s:List Int × Int=>oG g T0 T1 R s.1 s.2) g.length (fun i (q:List Int)=>(q,(i:Int))) (fun i q=>q.length=g.length/\∀ j,j < i->j < g.length->q.getD j 0=F j)
  (fun r=>r.length=g.length/\∀ j,j < g.length->r.getD j 0=F j) (fun i q hi hI=>?_) (fun q hI=>?_) g.length 0 (List.replicate g.length 0) (by omega) ⟨by simp,fun j hj=>by omega⟩
 ·obtain ⟨out,e2,e3,e4⟩:=key
  refine ⟨out,?_,e3,fun v hv=>?_⟩
  ·have e2':loop (fun s:List Int × Int=>oG g T0 T1 R s.1 s.2) (List.replicate g.length 0,0)=some out:=e2
   have f1':jA ⟨g,B,List.replicate g.length true⟩ g 0=some S0:=f1
   have f3':jA ⟨g,B,List.replicate g.length true⟩ g 1=some S1:=f3
   have f7':aEV ⟨g,B,M1⟩=some R:=f7
   unfold wE wZ
   rw [e1,aA,f1',aA,aA,f2,aA,f3',aA,aA,f4,aA,f5,aA,f6,aA,f7',aA,aAp _ (by unfold iC;omega),aA,e2',aA]
   rfl
  ·have hv2:v.toNat < g.length:=by have:=hv.1;have:=hv.2;omega
   have hvv:((v.toNat:Nat):Int)=v:=by have:=hv.1;omega
   have e5:=e4 _ hv2
   have hF:F v.toNat=if On T0 v then 1 else if On T1 v then 0 else if On R v then 1 else 0:=by
    show (if On T0 ((v.toNat:Nat):Int) then (1:Int) else if On T1 ((v.toNat:Nat):Int) then 0 else if On R ((v.toNat:Nat):Int) then 1 else 0)=_
    rw [hvv]
   rw [hF] at e5
   by_cases c0:On T0 v
   ·rw [if_pos c0] at e5
    obtain ⟨σ,h2⟩:=hfull ⟨_,hT0⟩
    exact ⟨1,.inr rfl,e5,_,σ,h2,c0⟩
   ·rw [if_neg c0] at e5
    by_cases c1:On T1 v
    ·rw [if_pos c1] at e5
     obtain ⟨σ,h2⟩:=hfull ⟨_,hT1⟩
     exact ⟨0,.inl rfl,e5,_,σ,h2,c1⟩
    ·rw [if_neg c1] at e5
     have hm:=(hM v).2 ⟨hv,c0,c1⟩
     by_cases c2:On R v
     ·rw [if_pos c2] at e5
      obtain ⟨W,h2,h3⟩:=hW 1 (.inr rfl)
      obtain ⟨σ,h4⟩:=hfull h2
      exact ⟨1,.inr rfl,e5,W,σ,h4,h3 v hm (by simp [c2])⟩
     ·rw [if_neg c2] at e5
      obtain ⟨W,h2,h3⟩:=hW 0 (.inl rfl)
      obtain ⟨σ,h4⟩:=hfull h2
      exact ⟨0,.inl rfl,e5,W,σ,h4,h3 v hm (by simp [c2])⟩
 ·refine ⟨q.set i (F i),?_,by rw [List.length_set];exact hI.1,fun j hj hjn=>?_⟩
  ·show oG g T0 T1 R q (i:Int)=some (.inl (q.set i (F i),((i+1:Nat):Int)))
   have hql:=hI.1
   unfold oG tS
   rw [if_pos (bZ hi),ixO (by omega),aA,ixO (by omega),aA,ixO (by omega),aA,xO,xO,xO,aA,aA,aA,bT (by omega),aA,aA,aA,pY _ (by omega),pY _ (by omega),pY _ (by omega),aA,aA,aA,bN hi (by omega)]
   show _=some (Sum.inl (q.set i (if On T0 (i:Int) then (1:Int) else if On T1 (i:Int) then 0 else if On R (i:Int) then 1 else 0),((i+1:Nat):Int)))
   by_cases c0:On T0 (i:Int)
   ·simp [c0]
   ·by_cases c1:On T1 (i:Int)
    ·simp [c0,c1]
    ·by_cases c2:On R (i:Int)<;>simp [c0,c1,c2]
  ·rw [List.getD_eq_getElem?_getD,List.getElem?_set]
   by_cases e:i=j
   ·subst e
    rw [if_pos rfl,if_pos (by rw [hI.1];exact hi)]
    rfl
   ·rw [if_neg e,←List.getD_eq_getElem?_getD]
    exact hI.2 j (by omega) hjn
 ·refine ⟨q,?_,hI.1,fun j hj=>hI.2 j hj hj⟩
  show oG g T0 T1 R q (g.length:Int)=_
  unfold oG
  rw [if_neg (by simp)]
end
end Gv
set_option linter.unusedVariables false
set_option linter.unusedSimpArgs false
namespace Gv
open Go
theorem tW (s:aF) (c0:UInt8) (h:s.length < 1000000000):gR s [c0]=some (if (s.getLast? == some c0)=true then (s.dropLast,true) else (s,false)):=by
 unfold gR iV cZ
 rcases List.eq_nil_or_concat s with rfl|⟨l,c,rfl⟩
 ·rfl
 ·have hl:(l.concat c).length=l.length+1:=by simp
  have w:wr (((l.concat c).length:Int) - (([c0]:aF).length:Int))=(l.length:Int):=by
   rw [hl] at h ⊢
   show wr (((l.length+1:Nat):Int) - 1)=_
   rw [bP (by omega) (by omega)];omega
  have s1:slc (l.concat c) (l.length:Int) ((l.concat c).length:Int)=some [c]:=by
   unfold slc;rw [if_pos ⟨by omega,by omega,by simp⟩];simp
  have s2:slc (l.concat c) 0 (l.length:Int)=some l:=by
   unfold slc;rw [if_pos ⟨by omega,by omega,by simp⟩];simp
  rw [if_pos (by simp;omega),w,s1,aA,dK,aA]
  have hg:(l.concat c).getLast?=some c:=by simp
  have hd:(l.concat c).dropLast=l:=by simp
  rw [hg,hd]
  by_cases hc:c=c0
  ·subst hc
   rw [s2];simp
  ·have hc':¬ ([c]:aF)=[c0]:=fun e=>hc (by simpa using e)
   simp [hc]
theorem rdI_name {s nm:aF} {vs:List Int} (h:s.length < 1000000000) (e:sF s=some (nm,vs,true)):nm=(gG 40 s).1:=by
 have j2:∀ r1 v,kO s r1 v=some (nm,vs,true)->nm=r1.1:=fun r1 v e=>by
  have j1:∀ b,mO r1 v b=some (nm,vs,true)->nm=r1.1:=fun b e=>by
   unfold mO at e
   split at e
   ·simp at e
   ·simp at e;exact e.1.symm
  unfold kO at e
  obtain ⟨r,_,e⟩:=aB e
  split at e<;>exact j1 _ e
 unfold sF l_Cut at e
 rw [if_pos (by omega),aA,cut_eq] at e
 simp only at e
 split at e
 ·obtain ⟨x,_,e⟩:=aB e
  obtain ⟨y,_,e⟩:=aB e
  obtain ⟨z,_,e⟩:=aB e
  split at e
  ·simp at e
  ·exact j2 _ _ e
 ·exact j2 _ _ e
theorem aKV {s:aF} (h:s.length < 1000000000) (hl:oU s=true):aCt s=some (gG 40 s).1:=by
 have e:=aEb s h
 unfold aAZ at e
 obtain ⟨x,hx,e⟩:=aB e
 obtain ⟨nm,vs,b⟩:=x
 rw [hl] at e
 simp at e
 subst e
 unfold aCt
 rw [hx,aA,rdI_name h hx]
noncomputable def selN (n:aO) (l:aF):Bool:=(gY n l).getD false
theorem aJM {n:aO} {l:aF} (hn:n.B.length < 1000000) (hl:l.length < 1000000) (hb:oU l=true):gY n l=some (selN n l):=by
 have key:∃ b,gY n l=some b:=by
  unfold gY iX
  rw [tW _ _ (by omega),aA,aKV (by omega) hb,aA]
  split
  ·exact ⟨_,rfl⟩
  ·split
   ·exact ⟨_,rfl⟩
   ·split<;>exact ⟨_,rfl⟩
 obtain ⟨b,e⟩:=key
 unfold selN
 rw [e]
 rfl
def dC (f:List aO) (k:Nat):aO:=f.getD k default
noncomputable def rE (f:List aO) (k:Nat):List Int:=(hX f (k:Int)).getD []
noncomputable def bndF (f:List aO) (k:Nat):Int:=(pL f (k:Int)).getD 0
noncomputable def aIw (f:List aO) (k:Nat):Int:=(wB f (k:Int)).getD 0
structure FOk (f:List aO):Prop where
 len:1<=f.length/\f.length<=30
 ops:∀ k,k < f.length->hX f (k:Int)=some (rE f k)/\(rE f k).length<=2/\∀ o∈rE f k,0<=o/\o < (f.length:Int)
 one:∀ k,k < f.length->((dC f k).Kind=4\/(dC f k).Kind=5)->(rE f k).length=1
 lab:∀ k,k < f.length->(dC f k).B.length < 1000
 bnd:∀ k,k < f.length->(dC f k).Kind=6->pL f (k:Int)=some (bndF f k)/\0<=bndF f k/\bndF f k < (f.length:Int)
 nst:∀ k,k < f.length->wB f (k:Int)=some (aIw f k)/\0<=aIw f k/\aIw f k<=30
def aIx (n:aO):Int:=if n.Kind=0\/n.Kind=2\/n.Kind=5 then 1 else 0
noncomputable def prF (f:List aO) (k:Nat):Int:=if (dC f k).Kind=7\/(dC f k).Kind=8 then 2 * aIw f k+(if (dC f k).Kind=7 then 1 else 0) else 1000
noncomputable def nxF (f:List aO) (t:cR) (k:Nat) (x:Int):List Int:=
 if (dC f k).Kind=4\/(dC f k).Kind=5 then ((t.E.filter fun e=>e.F == x).filter fun e=>selN (dC f k) (txt t e)).map fun e=>(rE f k).getD 0 0 * t.N+e.To
 else if (dC f k).Kind=6 then [bndF f k * t.N+x] else (rE f k).map fun o=>o * t.N+x
noncomputable def verF (f:List aO) (t:cR) (k:Nat) (x:Int):aV:=⟨aIx (dC f k),prF f k,iQ (srt iLt (nxF f t k x))⟩
noncomputable def rowF (f:List aO) (t:cR) (k:Nat):List aV:=(List.range t.N.toNat).map fun x:Nat=>verF f t k (x:Int)
noncomputable def jE (f:List aO) (t:cR) (k:Nat):List aV:=(List.range k).flatMap (rowF f t)
section
variable {f:List aO} {t:cR}
theorem aJO (f:List aO) (t:cR) (k:Nat):jE f t (k+1)=jE f t k++rowF f t k:=by
 unfold jE
 rw [List.range_succ,List.flatMap_append]
 simp
theorem aJP (f:List aO) (t:cR) (k:Nat):(rowF f t k).length=t.N.toNat:=by unfold rowF;simp
theorem zD (f:List aO) (t:cR):∀ k,(jE f t k).length=k * t.N.toNat
 |0=>by simp [jE]
 |k+1=>by rw [aJO,List.length_append,zD f t k,aJP,Nat.succ_mul]
theorem aLK (f:List aO) (t:cR):∀ (m k x:Nat),k < m->x < t.N.toNat->(jE f t m)[k * t.N.toNat+x]?=some (verF f t k (x:Int))
 |0,k,x,h,_=>by omega
 |m+1,k,x,h,hx=>by
  rw [aJO]
  by_cases hk:k < m
  ·have hlt:k * t.N.toNat+x < (jE f t m).length:=by
    rw [zD]
    have h1:=Nat.mul_le_mul_right t.N.toNat (show k+1<=m by omega)
    rw [Nat.succ_mul] at h1
    omega
   rw [List.getElem?_append_left hlt,aLK f t m k x hk hx]
  ·obtain rfl:k=m:=by omega
   rw [List.getElem?_append_right (by rw [zD];omega),zD,show k * t.N.toNat+x - k * t.N.toNat=x by omega]
   unfold rowF
   rw [List.getElem?_map,List.getElem?_range hx]
   rfl
theorem nx_some (hf:FOk f) (ht:cS t) (hlab:∀ s∈t.L,oU s=true/\s.length < 1000) {k:Nat} (hk:k < f.length) {x:Int} (hx:0<=x/\x < t.N):∀ w∈nxF f t k x,0<=w/\w < ((f.length * t.N.toNat:Nat):Int):=by
 intro w hw
 have hS:=ht.1
 have key:∀ o y:Int,0<=o->o < (f.length:Int)->0<=y->y < t.N->0<=o * t.N+y/\o * t.N+y < ((f.length * t.N.toNat:Nat):Int):=fun o y h1 h2 h3 h4=>by
  have a1:0<=o * t.N:=Int.mul_nonneg h1 (by omega)
  have a2:(o+1) * t.N<=(f.length:Int) * t.N:=Int.mul_le_mul_of_nonneg_right (by omega) (by omega)
  rw [Int.add_mul,Int.one_mul] at a2
  rw [Int.natCast_mul,show ((t.N.toNat:Nat):Int)=t.N by omega]
  omega
 unfold nxF at hw
 split at hw
 ·rename_i hm
  obtain ⟨e,he,rfl⟩:=List.mem_map.1 hw
  have he1:=(List.mem_filter.1 (List.mem_filter.1 he).1).1
  have h1:=aHK ht he1
  have ho:=hf.one k hk hm
  have h2:=(hf.ops k hk).2.2 ((rE f k).getD 0 0) (by rw [List.getD_eq_getElem?_getD,List.getElem?_eq_getElem (by omega)];exact List.getElem_mem _)
  exact key _ _ h2.1 h2.2 h1.2.1.1 h1.2.1.2
 ·split at hw
  ·rename_i h6
   rw [List.mem_singleton] at hw
   subst hw
   have:=hf.bnd k hk h6
   exact key _ _ this.2.1 this.2.2 hx.1 hx.2
  ·obtain ⟨o,ho,rfl⟩:=List.mem_map.1 hw
   have:=(hf.ops k hk).2.2 o ho
   exact key _ _ this.1 this.2 hx.1 hx.2
theorem prF_in (hf:FOk f) {k:Nat} (hk:k < f.length):0<=prF f k/\prF f k<=1000:=by
 have:=(hf.nst k hk).2
 unfold prF
 split
 ·split<;>omega
 ·omega
theorem aLL (hf:FOk f) (ht:cS t) (hS:t.N<=40) (hlab:∀ s∈t.L,oU s=true/\s.length < 1000):GOk (jE f t f.length)/\1<=(jE f t f.length).length:=by
 have h1:=ht.1
 have hl:=hf.len
 have hlen:=zD f t f.length
 have hm:f.length * t.N.toNat<=30 * 40:=Nat.mul_le_mul hl.2 (by omega)
 have hm1:1 * 1<=f.length * t.N.toNat:=Nat.mul_le_mul hl.1 (by omega)
 have hdef:∀ v:Int,vx (jE f t f.length) v=default\/∃ k x,k < f.length/\x < t.N.toNat/\vx (jE f t f.length) v=verF f t k ((x:Nat):Int):=by
  intro v
  unfold vx
  rw [List.getD_eq_getElem?_getD]
  by_cases hv:v.toNat < f.length * t.N.toNat
  ·refine .inr ⟨v.toNat / t.N.toNat,v.toNat % t.N.toNat,(Nat.div_lt_iff_lt_mul (by omega)).2 hv,Nat.mod_lt _ (by omega),?_⟩
   have e:=aLK f t f.length (v.toNat / t.N.toNat) (v.toNat % t.N.toNat) ((Nat.div_lt_iff_lt_mul (by omega)).2 hv) (Nat.mod_lt _ (by omega))
   rw [Nat.mul_comm,Nat.div_add_mod] at e
   rw [e]
   rfl
  ·exact .inl (by rw [List.getElem?_eq_none (by rw [hlen];omega)];rfl)
 refine ⟨⟨by omega,fun v=>?_,fun v=>?_,fun v=>?_,fun v=>?_⟩,by omega⟩
 ·rcases hdef v with e|⟨k,x,_,_,e⟩<;>rw [e]
  ·exact .inl rfl
  ·show aIx _=0\/aIx _=1
   unfold aIx
   split<;>simp
 ·rcases hdef v with e|⟨k,x,hk,_,e⟩<;>rw [e]
  ·exact ⟨Int.le_refl _,by decide⟩
  ·show 0<=prF f k/\prF f k<=1000000
   have:=prF_in hf hk
   omega
 ·rcases hdef v with e|⟨k,x,hk,hx,e⟩<;>rw [e]
  ·intro w hw;cases hw
  ·intro w hw
   have hw:w∈iQ (srt iLt (nxF f t k (x:Int))):=hw
   rw [aFD.2] at hw
   rw [hlen]
   exact nx_some hf ht hlab hk (by omega) w hw
 ·rcases hdef v with e|⟨k,x,hk,_,e⟩<;>rw [e]
  ·exact List.nodup_nil
  ·exact (aFD (xs:=nxF f t k (x:Int))).1.imp fun h=>by omega
end
end Gv
set_option linter.unusedVariables false
set_option linter.unusedSimpArgs false
namespace Gv
open Go
section
variable {f:List aO} {t:cR}
theorem oT (n:aO):iW n=some (decide (n.Kind=7\/n.Kind=8)):=by
 unfold iW sD
 by_cases h:n.Kind=7
 ·simp [h]
 ·by_cases h':n.Kind=8<;>simp [h,h']
theorem aCZ (n:aO):lD n=some (decide (n.Kind=4\/n.Kind=5)):=by
 unfold lD nW
 by_cases h:n.Kind=4
 ·simp [h]
 ·by_cases h':n.Kind=5<;>simp [h,h']
theorem sset_eq (l:List Int) (h:l.length < 100000):wC l=some (iQ (srt iLt l)):=by
 unfold wC dT
 rw [cI (by simp only [List.length_nil];unfold iC;omega),aA,aA,List.nil_append,aLD (by omega),aA,aMK _ (by unfold srt;rw [List.length_mergeSort];omega),aA]
theorem gc1 {o y p0 p1:Int} {L:List Int} (ho:0<=o/\o < 1000) (hy:0<=y/\y < 1000) (hS:0<=t.N/\t.N<=1000) (hl:L.length<=10000):mJ o y p0 p1 L t=some (L++[o * t.N+y]):=by
 have h1:0<=o * t.N:=Int.mul_nonneg ho.1 hS.1
 have h2:o * t.N<=1000 * 1000:=Int.mul_le_mul (by omega) hS.2 hS.1 (by omega)
 unfold mJ
 rw [bP (x:=o * t.N) (by omega) (by omega),bP (by omega) (by omega),cI (by simp only [List.length_singleton];unfold iC;omega),aA]
theorem aLM {α:Type} {xs:List α} {k:Nat} {x:α} (h:ix xs (k:Int)=some x):x∈xs:=by
 rw [aDF] at h
 exact List.mem_of_getElem? h
theorem aJQ (hf:FOk f) {k x:Nat} (hk:k < f.length) (hx:x < 10000) {out:List aV} (hout:out.length<=100000) {o:Int} (ho:o=aIx (dC f k)) {N:List Int} (hN:N=nxF f t k (x:Int)) (hl:N.length<=10000):
  gS f (k:Int) (dC f k) out (x:Int) o N=some (.inl (out++[verF f t k (x:Int)],((x+1:Nat):Int))):=by
 have hns:=hf.nst k hk
 have hj5:∀ p:Int,p=prF f k->jH out (x:Int) o N p=some (.inl (out++[verF f t k (x:Int)],((x+1:Nat):Int))):=fun p hp=>by
  unfold jH pA
  rw [sset_eq _ (by omega),aA,cI (by simp only [List.length_singleton];unfold iC;omega),aA,bN (n:=10000) hx (by omega)]
  unfold verF
  rw [hp,ho,hN]
 unfold gS
 rw [oT,aA]
 by_cases h:(dC f k).Kind=7\/(dC f k).Kind=8
 ·rw [if_pos (by simpa using h),hns.1,aA,xO,aA,bP (x:=2 * aIw f k) (by omega) (by omega)]
  refine hj5 _ ?_
  unfold prF
  rw [if_pos h]
  by_cases h7:(dC f k).Kind=7
  ·simp only [h7,beq_self_eq_true,if_true]
   rw [bP (by omega) (by omega)]
  ·rw [if_neg h7,if_neg (by simpa using h7),bP (by omega) (by omega)]
 ·rw [if_neg (by simpa using h)]
  refine hj5 _ ?_
  unfold prF
  rw [if_neg h]
theorem game_step (hf:FOk f) (ht:cS t) (hS:t.N<=40) (hlab:∀ s∈t.L,oU s=true/\s.length < 1000) {k x:Nat} (hk:k < f.length) (hx:x < t.N.toNat) {out:List aV} (hout:out.length<=100000):
  eG f t (k:Int) (dC f k) (rE f k) out (x:Int)=some (.inl (out++[verF f t k (x:Int)],((x+1:Nat):Int))):=by
 have h300:=ht.2.2.2.1
 have hlen:=hf.len
 have hop:=hf.ops k hk
 have hb:=hf.bnd k hk
 have hj13:∀ o,o=aIx (dC f k)->fX f t (k:Int) (dC f k) (rE f k) out (x:Int) o=some (.inl (out++[verF f t k (x:Int)],((x+1:Nat):Int))):=by
  intro o ho
  have hj12:¬ ((dC f k).Kind=4\/(dC f k).Kind=5)->iK f t (k:Int) (dC f k) (rE f k) out (x:Int) o=some (.inl (out++[verF f t k (x:Int)],((x+1:Nat):Int))):=by
   intro hm
   unfold iK
   by_cases h6:(dC f k).Kind=6
   ·have hb:=hb h6
    rw [if_pos (by simpa using h6),hb.1,aA,gc1 ⟨hb.2.1,by omega⟩ ⟨by omega,by omega⟩ (by omega) (by simp),aA]
    refine aJQ hf hk (by omega) hout ho ?_ (by simp)
    unfold nxF
    rw [if_neg hm,if_pos h6]
    rfl
   ·rw [if_neg (by simpa using h6)]
    have key:=aDC (step:=fun s:List Int × Int=>fW t (rE f k) (x:Int) o s.1 s.2) (rE f k) (fun o=>o * t.N+(x:Int)) (fun r=>r) (fun j q a hj hq ha=>by
     show fW t (rE f k) (x:Int) o q (j:Int)=_
     have:=hop.2.2 a (aLM ha)
     unfold fW
     rw [if_pos (bZ hj),ha,aA,gc1 ⟨this.1,by omega⟩ ⟨by omega,by omega⟩ (by omega) (by omega),aA,bN hj (by omega)]) (fun q=>by
     show fW t (rE f k) (x:Int) o q ((rE f k).length:Int)=_
     unfold fW
     rw [if_neg (by simp)])
    rw [key,aA]
    unfold sT
    refine aJQ hf hk (by omega) hout ho ?_ (by rw [List.length_map];omega)
    unfold nxF
    rw [if_neg hm,if_neg h6]
  unfold fX
  rw [aCZ,aA]
  by_cases hm:(dC f k).Kind=4\/(dC f k).Kind=5
  ·have h1:=hf.one k hk hm
   have ho0:ix (rE f k) 0=some ((rE f k).getD 0 0):=by
    show ix (rE f k) ((0:Nat):Int)=_
    rw [bT (by omega),List.getD_eq_getElem?_getD,List.getElem?_eq_getElem (by omega)]
    rfl
   have hor:=hop.2.2 ((rE f k).getD 0 0) (by rw [List.getD_eq_getElem?_getD,List.getElem?_eq_getElem (by omega)];exact List.getElem_mem _)
   rw [if_pos (by simpa using hm),out_eq _ _ (by omega),aA]
   have hfl:(t.E.filter fun e=>e.F == (x:Int)).length<=300:=Nat.le_trans (List.length_filter_le _ _) h300
   have key:=aFn (step:=fun s:List Int × Int=>gT t (dC f k) (rE f k) o (t.E.filter fun e=>e.F == (x:Int)) s.1 s.2) (t.E.filter fun e=>e.F == (x:Int)) (fun e=>selN (dC f k) (txt t e)) (fun e=>(rE f k).getD 0 0 * t.N+e.To) (fun r=>r) (fun j q e hj hq he=>by
    show gT t (dC f k) (rE f k) o _ q (j:Int)=_
    have he1:=(List.mem_filter.1 (aLM he)).1
    have hbd:=aHK ht he1
    have hl:=hlab _ (txt_in ht he1)
    have hnl:=hf.lab k hk
    unfold gT lR
    rw [if_pos (bZ hj),he,aA,aMG (aHi ht he1),aA,aJM (by omega) (by omega) hl.1,aA,ho0,aA,gc1 ⟨hor.1,by omega⟩ ⟨by omega,by omega⟩ (by omega) (by omega),aA,bN hj (by omega)]
    cases selN (dC f k) (txt t e)<;>simp) (fun q=>by
    show gT t (dC f k) (rE f k) o _ q _=_
    unfold gT
    rw [if_neg (by simp)])
   rw [key,aA]
   unfold uC
   refine aJQ hf hk (by omega) hout ho ?_ (by rw [List.length_map];exact Nat.le_trans (List.length_filter_le _ _) (by omega))
   unfold nxF
   rw [if_pos hm]
  ·rw [if_neg (by simpa using hm)]
   split<;>exact hj12 hm
 unfold eG
 rw [if_pos (by simp;omega)]
 by_cases h0:(dC f k).Kind=0
 ·rw [if_pos (by simpa using h0),xO,aA]
  exact hj13 _ (by rw [if_pos rfl];unfold aIx;rw [if_pos (Or.inl h0)])
 ·rw [if_neg (by simpa using h0)]
  by_cases h2:(dC f k).Kind=2
  ·rw [if_pos (by simpa using h2),xO,aA]
   exact hj13 _ (by rw [if_pos rfl];unfold aIx;rw [if_pos (Or.inr (Or.inl h2))])
  ·rw [if_neg (by simpa using h2),xO,aA]
   refine hj13 _ ?_
   unfold aIx
   by_cases h5:(dC f k).Kind=5
   ·rw [if_pos (by simpa using h5),if_pos (.inr (.inr h5))]
   ·rw [if_neg (by simpa using h5),if_neg (by rintro (h|h|h);exact h0 h;exact h2 h;exact h5 h)]
theorem game_eq (hf:FOk f) (ht:cS t) (hS:t.N<=40) (hlab:∀ s∈t.L,oU s=true/\s.length < 1000):mL f t=some (jE f t f.length):=by
 have hS1:=ht.1
 have hlen:=hf.len
 have hgl:∀ k,k<=f.length->(jE f t k).length<=1200:=fun k hk=>by
  rw [zD]
  exact Nat.le_trans (Nat.mul_le_mul (show k<=30 by omega) (show t.N.toNat<=40 by omega)) (Nat.le_refl _)
 have key:=cV (step:=fun s:List aV × Int=>eV f t s.1 s.2) f.length (fun i (q:List aV)=>(q,(i:Int))) (fun i q=>q=jE f t i) (fun r=>r=jE f t f.length) (fun k q hk hI=>?_) (fun q hI=>?_) f.length 0 [] (by omega) rfl
 ·obtain ⟨r,e1,e2⟩:=key
  have e1':loop (fun s:List aV × Int=>eV f t s.1 s.2) ([],0)=some r:=e1
  unfold mL
  rw [e1',aA,e2]
  rfl
 ·subst hI
  refine ⟨jE f t (k+1),?_,rfl⟩
  show eV f t (jE f t k) (k:Int)=_
  have hg:=hgl k (by omega)
  have hnd:f[k]=dC f k:=by unfold dC;rw [List.getD_eq_getElem?_getD,List.getElem?_eq_getElem hk];rfl
  have inner:=cV (step:=fun s:List aV × Int=>eG f t (k:Int) (dC f k) (rE f k) s.1 s.2) t.N.toNat (fun i (q:List aV)=>(q,(i:Int))) (fun i q=>q=jE f t k++(rowF f t k).take i) (fun r=>r=jE f t (k+1)) (fun x q hx hI=>?_) (fun q hI=>?_) t.N.toNat 0 (jE f t k) (by omega) (by simp)
  ·obtain ⟨r,e1,e2⟩:=inner
   have e1':loop (fun s:List aV × Int=>eG f t (k:Int) (dC f k) (rE f k) s.1 s.2) (jE f t k,0)=some r:=e1
   unfold eV oZ oY
   rw [if_pos (bZ hk),bT hk,aA,hnd,(hf.ops k hk).1,aA,e1',aA,e2,bN hk (by omega)]
  ·subst hI
   refine ⟨jE f t k++(rowF f t k).take (x+1),?_,rfl⟩
   show eG f t (k:Int) (dC f k) (rE f k) (jE f t k++(rowF f t k).take x) (x:Int)=_
   have hr:=aJP f t k
   rw [game_step hf ht hS hlab hk hx (by rw [List.length_append,List.length_take];omega),List.take_succ_eq_append_getElem (by omega),List.append_assoc]
   unfold rowF
   rw [List.getElem_map,List.getElem_range]
  ·refine ⟨q,?_,?_⟩
   ·show eG f t (k:Int) (dC f k) (rE f k) q ((t.N.toNat:Nat):Int)=_
    unfold eG
    rw [if_neg (by simp;omega)]
   ·rw [hI,aJO,List.take_of_length_le (by rw [aJP];exact Nat.le_refl _)]
 ·refine ⟨q,?_,hI⟩
  show eV f t q (f.length:Int)=_
  unfold eV
  rw [if_neg (by simp)]
end
end Gv
set_option linter.unusedVariables false
set_option linter.unusedSimpArgs false
namespace Gv
open Go
theorem eJ {σ ρ:Type} {step:σ->Option (σ ⊕ ρ)} {s s':σ} (h:step s=some (.inl s')):loop step s=loop step s':=by rw [cF,h]
theorem eC {σ ρ:Type} {step:σ->Option (σ ⊕ ρ)} {s:σ} {r:ρ} (h:step s=some (.inr r)):loop step s=some r:=by rw [cF,h]
def Pats:List aF:=[[],[97],[98],[116,97,117],[103,101,116,42],[103,101,116,40,48,41],[99]]
def PatOk (l:aF):Prop:=pW l=some true/\l.length < 1000
inductive Tm:List Int->List aO->Prop
 |leaf {b:List Int} {k:Int}:k=0\/k=1->Tm b [⟨k,0,[],false⟩]
 |var {b:List Int} {v:Int}:v∈b->0<=v/\v<=2->Tm b [⟨6,v,[],false⟩]
 |bin {b:List Int} {k:Int} {L M:List aO}:k=2\/k=3->Tm b L->Tm b M->Tm b (⟨k,0,[],false⟩::(L++M))
 |mod {b:List Int} {k:Int} {l:aF} {n:Bool} {L:List aO}:k=4\/k=5->PatOk l->Tm b L->Tm b (⟨k,0,l,n⟩::L)
 |fix {b:List Int} {k v:Int} {L:List aO}:k=7\/k=8->0<=v/\v<=2->Tm (b++[v]) L->Tm b (⟨k,v,[],false⟩::L)
theorem Tm.pos {b:List Int} {L:List aO} (h:Tm b L):1<=L.length:=by
 cases h<;>simp
def xR (n:aO):Nat:=if n.Kind=2\/n.Kind=3 then 2 else if n.Kind=4\/n.Kind=5\/n.Kind=7\/n.Kind=8 then 1 else 0
theorem wG (n:aO):lG n=some ((xR n:Nat):Int):=by
 unfold lG mS jW xR
 by_cases h2:n.Kind=2
 ·simp [h2]
 ·by_cases h3:n.Kind=3
  ·simp [h2,h3]
  ·by_cases h4:n.Kind=4
   ·simp [h2,h3,h4]
   ·by_cases h5:n.Kind=5
    ·simp [h2,h3,h4,h5]
    ·by_cases h7:n.Kind=7
     ·simp [h2,h3,h4,h5,h7]
     ·by_cases h8:n.Kind=8
      ·simp [h2,h3,h4,h5,h7,h8]
      ·simp [h2,h3,h4,h5,h7,h8]
section
variable {f:List aO}
theorem dH {o:Nat} {n:aO} {l:List aO} (h:f.drop o=n::l):o < f.length/\dC f o=n/\f.drop (o+1)=l:=by
 have hl:o < f.length:=by
  by_cases hl:o < f.length
  ·exact hl
  ·rw [List.drop_eq_nil_of_le (by omega)] at h;cases h
 rw [List.drop_eq_getElem_cons hl] at h
 obtain ⟨h1,h2⟩:=List.cons.inj h
 refine ⟨hl,?_,h2⟩
 unfold dC
 rw [List.getD_eq_getElem?_getD,List.getElem?_eq_getElem hl]
 exact h1
theorem jF {k:Nat} (h:k < f.length):ix f (k:Int)=some (dC f k):=by
 rw [bT h]
 unfold dC
 rw [List.getD_eq_getElem?_getD,List.getElem?_eq_getElem h]
 rfl
theorem aLN {σ ρ:Type} {step:σ->Option (σ ⊕ ρ)} (g:Nat->Nat->σ)
  (hs:∀ k need,k < f.length->1<=need->need<=1000->step (g k need)=some (.inl (g (k+1) (need+xR (dC f k) - 1)))) {b:List Int} {L:List aO} (h:Tm b L):
  ∀ (o:Nat) (post:List aO) (need:Nat),f.drop o=L++post->1<=need->need+L.length<=1000->loop step (g o need)=loop step (g (o+L.length) (need - 1)):=by
 induction h with
 |@leaf b k hk=>
  intro o post need hd h1 h2
  obtain ⟨a,c,d⟩:=dH hd
  rw [eJ (hs o need a h1 (by simp only [List.length_singleton] at h2;omega)),c]
  have:xR ⟨k,0,[],false⟩=0:=by unfold xR;rw [if_neg (by simp only;omega),if_neg (by simp only;omega)]
  rw [this]
  rfl
 |@var b v hv hr=>
  intro o post need hd h1 h2
  obtain ⟨a,c,d⟩:=dH hd
  rw [eJ (hs o need a h1 (by simp only [List.length_singleton] at h2;omega)),c]
  rfl
 |@bin b k L M hk hL hM ihL ihM=>
  intro o post need hd h1 h2
  rw [List.length_cons,List.length_append] at h2
  obtain ⟨a,c,d⟩:=dH hd
  rw [eJ (hs o need a h1 (by omega)),c]
  have:xR ⟨k,0,[],false⟩=2:=by unfold xR;rw [if_pos hk]
  rw [this,ihL (o+1) (M++post) _ (d.trans (List.append_assoc L M post)) (by omega) (by omega),ihM (o+1+L.length) post _ (by rw [←List.drop_drop,d.trans (List.append_assoc L M post),List.drop_left]) (by omega) (by omega),List.length_cons,List.length_append]
  congr 2<;>omega
 |@mod b k l n L hk hl hL ih=>
  intro o post need hd h1 h2
  rw [List.length_cons] at h2
  obtain ⟨a,c,d⟩:=dH hd
  rw [eJ (hs o need a h1 (by omega)),c]
  have:xR ⟨k,0,l,n⟩=1:=by unfold xR;rw [if_neg (by simp only;omega),if_pos (by simp only;omega)]
  rw [this,ih (o+1) post _ d (by omega) (by omega),List.length_cons]
  congr 2;omega
 |@fix b k v L hk hv hL ih=>
  intro o post need hd h1 h2
  rw [List.length_cons] at h2
  obtain ⟨a,c,d⟩:=dH hd
  rw [eJ (hs o need a h1 (by omega)),c]
  have:xR ⟨k,v,[],false⟩=1:=by unfold xR;rw [if_neg (by simp only;omega),if_pos (by simp only;omega)]
  rw [this,ih (o+1) post _ d (by omega) (by omega),List.length_cons]
  congr 2;omega
def At (f:List aO) (o:Nat) (b:List Int) (L:List aO):Prop:=Tm b L/\∃ post,f.drop o=L++post
theorem At.len {o:Nat} {b:List Int} {L:List aO} (h:At f o b L):o+L.length<=f.length:=by
 obtain ⟨h1,post,h2⟩:=h
 have:=congrArg List.length h2
 rw [List.length_drop,List.length_append] at this
 have:=h1.pos
 omega
theorem aHO (hf:f.length<=100) {o:Nat} {b:List Int} {L:List aO} (h:At f o b L):kI f (o:Int)=some ((o+L.length:Nat):Int):=by
 have hl:=h.len
 obtain ⟨h1,post,h2⟩:=h
 have key:=aLN (f:=f) (step:=fun s:Int × Int=>lI f s.1 s.2) (fun k need=>((k:Int),(need:Int))) (fun k need hk h1 h3=>by
  show lI f (k:Int) (need:Int)=_
  have ha:xR (dC f k)<=2:=by unfold xR;split;omega;split<;>omega
  unfold lI
  rw [if_pos (by simp;omega),jF hk,aA,wG,aA,bN hk (by omega),bP (x:=((xR (dC f k):Nat):Int) - 1) (by omega) (by omega),bP (by omega) (by omega)]
  congr 3
  omega) h1 o post 1 h2 (by omega) (by omega)
 unfold kI
 show (ob (loop (fun s:Int × Int=>lI f s.1 s.2) ((o:Int),((1:Nat):Int))) fun r=>aAn r)=_
 rw [key,eC (r:=((o+L.length:Nat):Int)) (by
  show lI f _ ((1 - 1:Nat):Int)=_
  unfold lI
  rw [if_neg (by simp)]),aA]
 rfl
theorem shape_eq {b:List Int} (hf:f.length<=100) (h:Tm b f):aDn f=some true:=by
 have key:=aLN (f:=f) (step:=fun s:Int × Int=>qF f s.1 s.2) (fun k need=>((need:Int),(k:Int))) (fun k need hk h1 h3=>by
  show qF f (need:Int) (k:Int)=_
  have ha:xR (dC f k)<=2:=by unfold xR;split;omega;split<;>omega
  unfold qF
  rw [if_pos (bZ hk),jF hk,aA,if_neg (by simp;omega),wG,aA,bN hk (by omega),bP (x:=((xR (dC f k):Nat):Int) - 1) (by omega) (by omega),bP (by omega) (by omega)]
  congr 3
  omega) h 0 [] 1 (by simp) (by omega) (by omega)
 unfold aDn
 show (ob (loop (fun s:Int × Int=>qF f s.1 s.2) (((1:Nat):Int),((0:Nat):Int))) _)=_
 rw [key,eC (r:=.inl 0) (by
  show qF f ((1 - 1:Nat):Int) ((0+f.length:Nat):Int)=_
  unfold qF
  rw [if_neg (by simp)]
  rfl),aA]
 rfl
def Cov (f:List aO) (b:List Int) (s e:Nat):Prop:=∀ v∈b,∃ i,i < s/\((dC f i).Kind=7\/(dC f i).Kind=8)/\(dC f i).Variable=v/\∃ c M,At f i c M/\e<=i+M.length
theorem Cov.mono {b:List Int} {s e s' e':Nat} (h:Cov f b s e) (hs:s<=s') (he:e'<=e):Cov f b s' e':=fun v hv=>by
 obtain ⟨i,h1,h2,h3,c,M,h4,h5⟩:=h v hv
 exact ⟨i,by omega,h2,h3,c,M,h4,by omega⟩
theorem parts2 {b:List Int} {L:List aO} (h:Tm b L):∀ (o:Nat) (post:List aO),f.drop o=L++post->∀ k,o<=k->k < o+L.length->∃ c M,At f k c M/\k+M.length<=o+L.length:=by
 induction h with
 |@leaf b k hk=>
  intro o post hd j h1 h2
  rw [List.length_singleton] at h2
  obtain rfl:j=o:=by omega
  exact ⟨b,_,⟨.leaf hk,post,hd⟩,Nat.le_refl _⟩
 |@var b v hv hr=>
  intro o post hd j h1 h2
  rw [List.length_singleton] at h2
  obtain rfl:j=o:=by omega
  exact ⟨b,_,⟨.var hv hr,post,hd⟩,Nat.le_refl _⟩
 |@bin b k L M hk hL hM ihL ihM=>
  intro o post hd j h1 h2
  obtain ⟨a,c,d⟩:=dH hd
  by_cases e:j=o
  ·subst e
   exact ⟨b,_,⟨.bin hk hL hM,post,hd⟩,Nat.le_refl _⟩
  ·rw [List.length_cons,List.length_append] at h2 ⊢
   by_cases e2:j < o+1+L.length
   ·obtain ⟨c',M',g1,g2⟩:=ihL (o+1) (M++post) (d.trans (List.append_assoc L M post)) j (by omega) e2
    exact ⟨c',M',g1,by omega⟩
   ·obtain ⟨c',M',g1,g2⟩:=ihM (o+1+L.length) post (by rw [←List.drop_drop,d.trans (List.append_assoc L M post),List.drop_left]) j (by omega) (by omega)
    exact ⟨c',M',g1,by omega⟩
 |@mod b k l n L hk hl hL ih=>
  intro o post hd j h1 h2
  obtain ⟨a,c,d⟩:=dH hd
  by_cases e:j=o
  ·subst e
   exact ⟨b,_,⟨.mod hk hl hL,post,hd⟩,Nat.le_refl _⟩
  ·rw [List.length_cons] at h2 ⊢
   obtain ⟨c',M',g1,g2⟩:=ih (o+1) post d j (by omega) (by omega)
   exact ⟨c',M',g1,by omega⟩
 |@fix b k v L hk hv hL ih=>
  intro o post hd j h1 h2
  obtain ⟨a,c,d⟩:=dH hd
  by_cases e:j=o
  ·subst e
   exact ⟨b,_,⟨.fix hk hv hL,post,hd⟩,Nat.le_refl _⟩
  ·rw [List.length_cons] at h2 ⊢
   obtain ⟨c',M',g1,g2⟩:=ih (o+1) post d j (by omega) (by omega)
   exact ⟨c',M',g1,by omega⟩
theorem xP {b:List Int} (h:Tm b f) {k:Nat} (hk:k < f.length):∃ c M,At f k c M:=by
 obtain ⟨c,M,h1,_⟩:=parts2 (f:=f) h 0 [] (by rw [List.drop_zero,List.append_nil]) k (by omega) (by omega)
 exact ⟨c,M,h1⟩
theorem ops_of (hf:f.length<=100) {k:Nat} {b:List Int} {L:List aO} (h:At f k b L):∃ os,hX f (k:Int)=some os/\os.length<=2/\(∀ o∈os,(k:Int) < o/\o < ((k+L.length:Nat):Int))/\((dC f k).Kind=4\/(dC f k).Kind=5->os.length=1):=by
 obtain ⟨hT,post,hd⟩:=h
 have hk:k < f.length:=by
  have:=At.len ⟨hT,post,hd⟩
  have:=hT.pos
  omega
 have hno:xR (dC f k)=0->hX f (k:Int)=some []:=fun h0=>by
  unfold hX
  rw [jF hk,aA,wG,aA,h0,eC (r:=[]) (by
   show bO f ((0:Nat):Int) [] _ 0=_
   unfold bO
   rw [if_neg (by simp)]),aA]
  rfl
 have hone:∀ {c M},xR (dC f k)=1->At f (k+1) c M->hX f (k:Int)=some [((k+1:Nat):Int)]:=fun {c M} h1 hM=>by
  have e1:=aHO hf hM
  unfold hX
  rw [jF hk,aA,wG,aA,h1,bN hk (by omega),eJ (s':=([((k+1:Nat):Int)],((k+1+M.length:Nat):Int),1)) (by
   show bO f ((1:Nat):Int) [] _ 0=_
   unfold bO
   rw [if_pos (by simp),cI (by simp [iC]),aA,e1,aA,bP (by omega) (by omega)]
   rfl),eC (r:=[((k+1:Nat):Int)]) (by
   show bO f ((1:Nat):Int) _ _ 1=_
   unfold bO
   rw [if_neg (by simp)]),aA]
  rfl
 cases hT with
 |leaf hkd=>
  obtain ⟨a,c,d⟩:=dH hd
  refine ⟨[],hno (by rw [c];unfold xR;rw [if_neg (by simp only;omega),if_neg (by simp only;omega)]),by simp,fun o ho=>(by cases ho),fun h=>?_⟩
  rw [c] at h;simp only at h;omega
 |var hv hr=>
  obtain ⟨a,c,d⟩:=dH hd
  refine ⟨[],hno (by rw [c];rfl),by simp,fun o ho=>(by cases ho),fun h=>?_⟩
  rw [c] at h;simp only at h;omega
 |@bin _ kd L M hkd hL hM=>
  obtain ⟨a,c,d⟩:=dH hd
  have hL':At f (k+1) b L:=⟨hL,M++post,d.trans (List.append_assoc L M post)⟩
  have hM':At f (k+1+L.length) b M:=⟨hM,post,by rw [←List.drop_drop,d.trans (List.append_assoc L M post),List.drop_left]⟩
  have e1:=aHO hf hL'
  have e2:=aHO hf hM'
  have l1:=hL'.len
  have l2:=hM'.len
  have p1:=hL.pos
  have p2:=hM.pos
  have ha:xR (dC f k)=2:=by rw [c];unfold xR;rw [if_pos hkd]
  refine ⟨[((k+1:Nat):Int),((k+1+L.length:Nat):Int)],?_,by simp,fun o ho=>?_,fun h=>?_⟩
  ·unfold hX
   rw [jF hk,aA,wG,aA,ha,bN hk (by omega),eJ (s':=([((k+1:Nat):Int)],((k+1+L.length:Nat):Int),1)) (by
    show bO f ((2:Nat):Int) [] _ 0=_
    unfold bO
    rw [if_pos (by simp),cI (by simp [iC]),aA,e1,aA,bP (by omega) (by omega)]
    rfl),eJ (s':=([((k+1:Nat):Int),((k+1+L.length:Nat):Int)],((k+1+L.length+M.length:Nat):Int),2)) (by
    show bO f ((2:Nat):Int) [((k+1:Nat):Int)] _ 1=_
    unfold bO
    rw [if_pos (by simp),cI (by simp [iC]),aA,e2,aA,bP (by omega) (by omega)]
    rfl),eC (r:=[((k+1:Nat):Int),((k+1+L.length:Nat):Int)]) (by
    show bO f ((2:Nat):Int) _ _ 2=_
    unfold bO
    rw [if_neg (by simp)]),aA]
   rfl
  ·simp only [List.mem_cons,List.not_mem_nil,or_false] at ho
   rw [List.length_cons,List.length_append]
   rcases ho with rfl|rfl<;>omega
  ·rw [c] at h;simp only at h;omega
 |@mod _ kd l n L hkd hl hL=>
  obtain ⟨a,c,d⟩:=dH hd
  have hL':At f (k+1) b L:=⟨hL,post,d⟩
  have l1:=hL'.len
  have p1:=hL.pos
  refine ⟨_,hone (by rw [c];unfold xR;rw [if_neg (by simp only;omega),if_pos (by simp only;omega)]) hL',by simp,fun o ho=>?_,fun _=>rfl⟩
  rw [List.mem_singleton] at ho;subst ho;rw [List.length_cons];omega
 |@fix _ kd v L hkd hv hL=>
  obtain ⟨a,c,d⟩:=dH hd
  have hL':At f (k+1) (b++[v]) L:=⟨hL,post,d⟩
  have l1:=hL'.len
  have p1:=hL.pos
  refine ⟨_,hone (by rw [c];unfold xR;rw [if_neg (by simp only;omega),if_pos (by simp only;omega)]) hL',by simp,fun o ho=>?_,fun _=>rfl⟩
  rw [List.mem_singleton] at ho;subst ho;rw [List.length_cons];omega
theorem nest_of {b:List Int} (hf:f.length<=30) (h:Tm b f) {k:Nat} (hk:k < f.length):∃ n,wB f (k:Int)=some n/\0<=n/\n<=30:=by
 have key:=cV (step:=fun s:Int × Int=>fL f (k:Int) s.1 s.2) k (fun i (q:Int)=>(q,(i:Int))) (fun i q=>0<=q/\q<=(i:Int)) (fun r=>0<=r/\r<=(k:Int)) (fun i q hi hI=>?_) (fun q hI=>?_) k 0 0 (by omega) ⟨by omega,by omega⟩
 ·obtain ⟨r,e1,e2⟩:=key
  have e1':loop (fun s:Int × Int=>fL f (k:Int) s.1 s.2) (0,0)=some r:=e1
  refine ⟨r,?_,by omega,by omega⟩
  unfold wB
  rw [e1',aA]
  rfl
 ·obtain ⟨c,M,hM⟩:=xP h (show i < f.length by omega)
  have e1:=aHO (by omega) hM
  have hj3:∀ v:Bool,∃ q',qH q (i:Int) v=some (.inl (q',((i+1:Nat):Int)))/\0<=q'/\q'<=((i+1:Nat):Int):=fun v=>by
   unfold qH tR
   rw [bN hi (by omega),bP (x:=q+1) (by omega) (by omega)]
   cases v
   ·exact ⟨q,rfl,by omega,by omega⟩
   ·exact ⟨q+1,rfl,by omega,by omega⟩
  show ∃ q',fL f (k:Int) q (i:Int)=some (.inl (q',((i+1:Nat):Int)))/\_
  unfold fL
  rw [if_pos (bZ hi),jF (by omega),aA,oT,aA,e1,aA]
  split<;>exact hj3 _
 ·refine ⟨q,?_,hI⟩
  show fL f (k:Int) q (k:Int)=_
  unfold fL
  rw [if_neg (by simp)]
end
end Gv
set_option linter.unusedVariables false
set_option linter.unusedSimpArgs false
namespace Gv
open Go
theorem pat_ok:∀ l∈Pats,pW l=some true:=by
 intro l hl
 have hlen:∀ l∈Pats,l.length < 100:=by decide
 have h1:=hlen l hl
 have h2:∀ l∈Pats,(if (l == ([]:aF))=true then true else if oU l=true then true else if (if (l.getLast? == some (42:UInt8))=true then (l.dropLast,true) else (l,false)).2=true then yB (if (l.getLast? == some (42:UInt8))=true then (l.dropLast,true) else (l,false)).1 else false)=true:=by decide
 have h3:=h2 l hl
 have h4:((if (l.getLast? == some (42:UInt8))=true then (l.dropLast,true) else (l,false)).1:aF).length < 1000:=by
  split
  ·show l.dropLast.length < 1000
   rw [List.length_dropLast];omega
  ·show l.length < 1000
   omega
 unfold pW mT
 rw [tW _ _ (by omega),aA,aEb _ (by omega),aA,aFm _ (by omega),aA]
 revert h3
 split
 ·intro;rfl
 ·split
  ·intro;rfl
  ·split
   ·intro h;simpa using h
   ·intro h;simpa using h
theorem aLO {l:aF} (h:l∈Pats):PatOk l:=by
 have hlen:∀ l∈Pats,l.length < 100:=by decide
 exact ⟨pat_ok l h,by have:=hlen l h;omega⟩
section
variable {f:List aO}
theorem nd_ok {k:Nat} {b:List Int} {L:List aO} (h:At f k b L):(0<=(dC f k).Kind/\(dC f k).Kind<=8)/\lH (dC f k)=some true/\pK (dC f k)=some true/\(dC f k).B.length < 1000:=by
 obtain ⟨hT,post,hd⟩:=h
 have hb:∀ n:aO,pK n=some (if n.Kind=7\/n.Kind=8\/n.Kind=6 then decide (0<=n.Variable)&&decide (n.Variable<=2) else (n.Variable == 0)):=fun n=>by
  unfold pK
  have hj:∀ v:Bool,nX n v=some (if v=true then decide (0<=n.Variable)&&decide (n.Variable<=2) else (n.Variable == 0)):=fun v=>by
   unfold nX
   cases v
   ·rfl
   ·rw [if_pos rfl,nK,aA,if_pos rfl]
  rw [oT,aA,hj,hj]
  by_cases h7:n.Kind=7
  ·simp [h7]
  ·by_cases h8:n.Kind=8
   ·simp [h7,h8]
   ·by_cases h6:n.Kind=6<;>simp [h7,h8,h6]
 have hf:∀ n:aO,¬ (n.Kind=4\/n.Kind=5)->n.B=[]->n.Not=false->lH n=some true:=fun n h1 h2 h3=>by
  unfold lH qG
  rw [aCZ,aA,if_neg (by simpa using h1),h2,h3]
  rfl
 cases hT with
 |@leaf _ kd hkd=>
  obtain ⟨_,c,_⟩:=dH hd
  rw [c]
  refine ⟨by simp only;omega,hf _ (by simp only;omega) rfl rfl,?_,by simp⟩
  rw [hb,if_neg (by simp only;omega)]
  rfl
 |@var _ v hv hr=>
  obtain ⟨_,c,_⟩:=dH hd
  rw [c]
  refine ⟨by simp only;omega,hf _ (by simp only;omega) rfl rfl,?_,by simp⟩
  rw [hb,if_pos (Or.inr (Or.inr rfl))]
  simp only [Option.some.injEq,Bool.and_eq_true,decide_eq_true_eq]
  exact hr
 |@bin _ kd L M hkd hL hM=>
  obtain ⟨_,c,_⟩:=dH hd
  rw [c]
  refine ⟨by simp only;omega,hf _ (by simp only;omega) rfl rfl,?_,by simp⟩
  rw [hb,if_neg (by simp only;omega)]
  rfl
 |@mod _ kd l n L hkd hl hL=>
  obtain ⟨_,c,_⟩:=dH hd
  rw [c]
  refine ⟨by simp only;omega,?_,?_,hl.2⟩
  ·unfold lH
   rw [aCZ,aA,if_pos (by simpa using hkd)]
   simp only
   rw [hl.1,aA]
  ·rw [hb,if_neg (by simp only;omega)]
   rfl
 |@fix _ kd v L hkd hv hL=>
  obtain ⟨_,c,_⟩:=dH hd
  rw [c]
  refine ⟨by simp only;omega,hf _ (by simp only;omega) rfl rfl,?_,by simp⟩
  rw [hb,if_pos (by simp only;omega)]
  simp only [Option.some.injEq,Bool.and_eq_true,decide_eq_true_eq]
  exact hv
theorem fok_any {b:List Int} (hf:f.length<=30) (h:Tm b f) (hb:∀ k,k < f.length->(dC f k).Kind=6->∃ n,pL f (k:Int)=some n/\0<=n/\n < (f.length:Int)):FOk f where
 len:=⟨h.pos,hf⟩
 ops:=fun k hk=>by
  obtain ⟨c,M,hM⟩:=xP h hk
  obtain ⟨os,e,h1,h2,_⟩:=ops_of (by omega) hM
  have:rE f k=os:=by unfold rE;rw [e];rfl
  rw [this]
  have hl:=hM.len
  exact ⟨e,h1,fun o ho=>by have:=h2 o ho;omega⟩
 one:=fun k hk hm=>by
  obtain ⟨c,M,hM⟩:=xP h hk
  obtain ⟨os,e,_,_,h3⟩:=ops_of (by omega) hM
  have:rE f k=os:=by unfold rE;rw [e];rfl
  rw [this]
  exact h3 hm
 lab:=fun k hk=>by
  obtain ⟨c,M,hM⟩:=xP h hk
  exact (nd_ok hM).2.2.2
 bnd:=fun k hk h6=>by
  obtain ⟨n,e,h1,h2⟩:=hb k hk h6
  have:bndF f k=n:=by unfold bndF;rw [e];rfl
  rw [this]
  exact ⟨e,h1,h2⟩
 nst:=fun k hk=>by
  obtain ⟨n,e,h1,h2⟩:=nest_of hf h hk
  have:aIw f k=n:=by unfold aIw;rw [e];rfl
  rw [this]
  exact ⟨e,h1,h2⟩
theorem valid_any {b:List Int} (hf:f.length<=30) (h:Tm b f) (hb:∀ k,k < f.length->(dC f k).Kind=6->∃ n,pL f (k:Int)=some n/\0<=n/\n < (f.length:Int)):mU f=some true:=by
 have hp:=h.pos
 have key:=cV (step:=fun s:Int=>gV f s) f.length (fun i (_:Unit)=>(i:Int)) (fun _ _=>True) (fun r=>r=.inl ()) (fun k _ hk _=>?_) (fun _ _=>?_) f.length 0 () (by omega) trivial
 ·obtain ⟨r,e1,e2⟩:=key
  have e1':loop (fun s:Int=>gV f s) 0=some r:=e1
  unfold mU nY
  rw [nK,aA,if_neg (by simp;omega),shape_eq (by omega) h,aA,if_neg (by simp),e1',aA,e2]
  rfl
 ·refine ⟨(),?_,trivial⟩
  show gV f (k:Int)=some (.inl ((k+1:Nat):Int))
  obtain ⟨c,M,hM⟩:=xP h hk
  obtain ⟨h1,h2,h3,_⟩:=nd_ok hM
  unfold gV
  rw [if_pos (bZ hk),jF hk,aA,nK,aA,if_neg (by simp;omega),h2,aA,if_neg (by simp),h3,aA,if_neg (by simp)]
  have hj:gU (k:Int) false=some (.inl ((k+1:Nat):Int)):=by
   unfold gU
   rw [if_neg (by simp),bN hk (by omega)]
  by_cases h6:(dC f k).Kind=6
  ·obtain ⟨n,e,g1,g2⟩:=hb k hk h6
   rw [if_pos (by simpa using h6),e,aA,decide_eq_false (by omega)]
   exact hj
  ·rw [if_neg (by simpa using h6)]
   exact hj
 ·refine ⟨.inl (),?_,rfl⟩
  show gV f (f.length:Int)=_
  unfold gV
  rw [if_neg (by simp)]
theorem code_of {t:cR} (ft:iO 999999999 t) (ht:cS t) (hv:mU f=some true):oN t [f]=some 0:=by
 have hi:cJ [f]=some (-1):=by
  unfold cJ
  rw [eJ (s':=1) (by
   show bR [f] 0=_
   unfold bR yK
   rw [if_pos (by simp),show ix [f] 0=some f from rfl,aA,hv,aA,aA,if_neg (by simp)]
   rfl),eC (r:=.inl ()) (by
   show bR [f] 1=_
   unfold bR
   rw [if_neg (by simp)]),aA]
  rfl
 unfold oN eA
 rw [aMF t ft,aFN ht,aA,if_neg (by simp),hi,aA,aA]
 rfl
end
end Gv
set_option linter.unusedVariables false
set_option linter.unusedSimpArgs false
namespace Gv
open Go
def LabF (t:cR):Prop:=∀ s∈t.L,oU s=true/\s.length < 1000
section
variable {f:List aO} {a b:cR} {R:Int->Int->Prop}
theorem aLP {t:cR} (ht:cS t) {k:Nat} (hk:k < f.length) {x:Int} (hx:inT t x):vx (jE f t f.length) ((k:Int) * t.N+x)=verF f t k x:=by
 have h1:=ht.1
 unfold inT at hx
 have e:((k:Int) * t.N+x).toNat=k * t.N.toNat+x.toNat:=by
  have:((k * t.N.toNat:Nat):Int)=(k:Int) * t.N:=by rw [Int.natCast_mul,show ((t.N.toNat:Nat):Int)=t.N by omega]
  omega
 unfold vx
 rw [e,List.getD_eq_getElem?_getD,aLK f t f.length k x.toNat hk (by omega),show ((x.toNat:Nat):Int)=x by omega]
 rfl
theorem aJR {l:List Int} {w:Int}:w∈iQ (srt iLt l)<->w∈l:=aFD.2 w
theorem aLQ {t:cR} (ht:cS t) {k:Nat} (hk:k < f.length) {x:Int} (hx:inT t x):xT (jE f t f.length) ((k:Int) * t.N+x):=by
 have h1:=ht.1
 unfold inT at hx
 have a1:0<=(k:Int) * t.N:=Int.mul_nonneg (by omega) (by omega)
 have a2:((k:Int)+1) * t.N<=(f.length:Int) * t.N:=Int.mul_le_mul_of_nonneg_right (by omega) (by omega)
 rw [Int.add_mul,Int.one_mul] at a2
 unfold xT
 rw [zD,Int.natCast_mul,show ((t.N.toNat:Nat):Int)=t.N by omega]
 omega
theorem sem_ok {t:cR} (hf:FOk f) (ht:cS t) (hl:LabF t):∃ m,sZ f t 0=some m/\m.length=t.N.toNat/\∀ x,inT t x->∃ q,(q=0\/q=1)/\(On m x<->q=0)/\∃ W σ,Reg (gg (jE f t f.length)) (xT (jE f t f.length)) q W σ/\W (((0:Nat):Int) * t.N+x):=by
 have h1:=ht.1
 have hlen:=hf.len
 obtain ⟨hg,hg1⟩:=aLL hf ht (by omega) hl
 obtain ⟨out,e1,e2,e3⟩:=aJL hg hg1
 have hol:t.N.toNat<=out.length:=by
  rw [e2,zD]
  have:=Nat.mul_le_mul_right t.N.toNat hlen.1
  omega
 have key:=vS (step:=fun s:List Bool × Int=>jB t 0 (List.replicate t.N.toNat false) out s.1 s.2) (n:=t.N.toNat) (List.replicate t.N.toNat false) (by simp) (fun k=>out.getD k 0 == 0) (fun k o hk ho _=>?_) fun o ho=>?_
 ·obtain ⟨m,f1,f2,f3⟩:=key
  refine ⟨m,?_,f2,fun x hx=>?_⟩
  ·unfold sZ
   rw [show mkz t.N false=mkz ((t.N.toNat:Nat):Int) false by rw [show ((t.N.toNat:Nat):Int)=t.N by omega],aAp _ (by unfold iC;omega),aA,game_eq hf ht (by omega) hl,aA,e1,aA,f1,aA]
   rfl
  ·unfold inT at hx
   obtain ⟨q,g1,g2,W,σ,g3,g4⟩:=e3 (((0:Nat):Int) * t.N+x) (aLQ ht hlen.1 hx)
   rw [show ((0:Nat):Int) * t.N+x=x by rw [show ((0:Nat):Int)=0 from rfl,Int.zero_mul,Int.zero_add]] at g2
   refine ⟨q,g1,?_,W,σ,g3,g4⟩
   rw [f3 x,g2,beq_iff_eq]
   constructor
   ·exact fun h=>h.2.2
   ·exact fun h=>⟨hx.1,by omega,h⟩
 ·show jB t 0 _ out o (k:Int)=_
  unfold jB
  rw [List.length_replicate,if_pos (bZ hk),show wr (wr (0 * t.N)+(k:Int))=(k:Int) by rw [Int.zero_mul,bP (x:=0) (by omega) (by omega),bP (by omega) (by omega)];omega,bT (by omega),aA,bT (by omega),aA,pY _ (by omega),aA,bN hk (by omega),List.getD_eq_getElem?_getD,List.getElem?_eq_getElem (by omega)]
  rfl
 ·show jB t 0 _ out o ((t.N.toNat:Nat):Int)=_
  unfold jB
  rw [List.length_replicate,if_neg (by simp)]
end
end Gv
set_option linter.unusedVariables false
namespace Gv
section
variable {V U:Type}
theorem lockG {G:PG V} {H:PG U} {R:V->U->Prop} {A:V->Prop} {A':U->Prop} {W:V->Prop} {W':U->Prop} {p q:Int} {σ:V->V} {τ:U->U}
  (hR:∀ x y,R x y->G.own x=H.own y/\(G.own x=p\/G.own x=q)/\(∀ x',G.E x x'->A x'/\∃ y',H.E y y'/\R x' y')/\(∀ y',H.E y y'->A' y'/\∃ x',G.E x x'/\R x' y'))
  (hG:∀ (f:Nat->V) (g:Nat->U),(∀ n,R (f n) (g n))->(∀ n,G.E (f n) (f (n+1)))->(∀ n,H.E (g n) (g (n+1)))->aDE G.pr p f->aDE H.pr p g)
  (h0:Reg G A p W σ) (h1:Reg H A' q W' τ) (hq:p≠q) {x:V} {y:U} (hxy:R x y) (hx:W x) (hy:W' y):False:=by
 have step:∀ s:{s:V × U // R s.1 s.2/\W s.1/\W' s.2},∃ s':{s:V × U // R s.1 s.2/\W s.1/\W' s.2},G.E s.1.1 s'.1.1/\H.E s.1.2 s'.1.2/\(G.own s.1.1=p->s'.1.1=σ s.1.1)/\(H.own s.1.2=q->s'.1.2=τ s.1.2):=by
  rintro ⟨⟨a,b⟩,hab,ha,hb⟩
  obtain ⟨e1,e3,e4,e5⟩:=hR a b hab
  simp only at hab ha hb ⊢
  by_cases ho:G.own a=p
  ·obtain ⟨m1,m2⟩:=h0.mine a ha ho
   obtain ⟨g1,b',g2,g3⟩:=e4 _ m1
   have hob:H.own b≠q:=by rw [←e1,ho];exact hq
   exact ⟨⟨(σ a,b'),g3,m2,h1.theirs b hb hob b' g2 (e5 b' g2).1⟩,m1,g2,fun _=>rfl,fun h=>absurd h hob⟩
  ·have hob:H.own b=q:=by rw [←e1];exact e3.resolve_left ho
   obtain ⟨m1,m2⟩:=h1.mine b hb hob
   obtain ⟨g1,a',g2,g3⟩:=e5 _ m1
   exact ⟨⟨(a',τ b),g3,h0.theirs a ha ho a' g2 (e4 a' g2).1,m2⟩,g2,m1,fun h=>absurd h ho,fun _=>rfl⟩
 obtain ⟨nx,hnx⟩:=Classical.axiomOfChoice step
 let f:Nat->{s:V × U // R s.1 s.2/\W s.1/\W' s.2}:=fun n=>Nat.rec ⟨(x,y),hxy,hx,hy⟩ (fun _ s=>nx s) n
 have hf:∀ n,f (n+1)=nx (f n):=fun n=>rfl
 have c1:∀ n,G.E (f n).1.1 (f (n+1)).1.1:=fun n=>by rw [hf];exact (hnx (f n)).1
 have c2:∀ n,H.E (f n).1.2 (f (n+1)).1.2:=fun n=>by rw [hf];exact (hnx (f n)).2.1
 have a1:=h0.good (fun n=>(f n).1.1) (fun n=>(f n).2.2.1) c1 fun n ho=>by rw [hf];exact (hnx (f n)).2.2.1 ho
 have a2:=h1.good (fun n=>(f n).1.2) (fun n=>(f n).2.2.2) c2 fun n ho=>by rw [hf];exact (hnx (f n)).2.2.2 ho
 exact hq (aDE.one (fun n=>rfl) (hG _ _ (fun n=>(f n).2.1) c1 c2 a1) a2)
end
theorem aMZ (k:Nat->Nat):∀ B,(∃ N,∀ n,N<=n->k n < B)->∃ m,(∀ N,∃ n,N<=n/\k n=m)/\∃ N,∀ n,N<=n->m<=k n:=by
 intro B hB
 have key:∀ d b,b+d=B->(∃ N,∀ n,N<=n->b<=k n)->∃ m,(∀ N,∃ n,N<=n/\k n=m)/\∃ N,∀ n,N<=n->m<=k n:=by
  intro d
  induction d with
  |zero=>
   intro b hb ⟨N,hN⟩
   obtain ⟨N',hN'⟩:=hB
   have h1:=hN (max N N') (Nat.le_max_left _ _)
   have h2:=hN' (max N N') (Nat.le_max_right _ _)
   omega
  |succ d ih=>
   intro b hb hN
   by_cases h:∃ N,∀ n,N<=n->b+1<=k n
   ·exact ih (b+1) (by omega) h
   ·refine ⟨b,fun N=>?_,hN⟩
    obtain ⟨N0,h0⟩:=hN
    have h':=fun N=>Classical.not_forall.1 (fun h2=>h ⟨N,h2⟩)
    obtain ⟨n,hn⟩:=h' (max N N0)
    have hn1:max N N0<=n:=Classical.byContradiction fun hc=>hn fun hd=>absurd hd hc
    have hn2:¬ b+1<=k n:=fun hc=>hn fun _=>hc
    have:=h0 n (Nat.le_trans (Nat.le_max_right _ _) hn1)
    exact ⟨n,Nat.le_trans (Nat.le_max_left _ _) hn1,by omega⟩
 exact key B 0 (by omega) ⟨0,fun n _=>Nat.zero_le _⟩
end Gv
set_option linter.unusedVariables false
set_option linter.unusedSimpArgs false
namespace Gv
open Go
section
variable {f:List aO} {b:List Int}
def oW (n:aO):Bool:=decide (n.Kind=7\/n.Kind=8)
noncomputable def nA (f:List aO) (k:Nat):Nat:=((kI f (k:Int)).getD 0).toNat
theorem aEi (hf:f.length<=100) {k:Nat} {c:List Int} {M:List aO} (h:At f k c M):nA f k=k+M.length:=by
 unfold nA
 rw [aHO hf h]
 rfl
theorem pR (hf:f.length<=100) (h:Tm b f) {k:Nat} (hk:k < f.length):kI f (k:Int)=some (nA f k:Int)/\k < nA f k/\nA f k<=f.length:=by
 obtain ⟨c,M,hM⟩:=xP h hk
 have h1:=aEi hf hM
 have h2:=hM.len
 have h3:=hM.1.pos
 rw [h1,aHO hf hM]
 exact ⟨rfl,by omega,h2⟩
theorem end_in (hf:f.length<=100) (h:Tm b f) {m k:Nat} (hm:m < f.length) (h1:m<=k) (h2:k < nA f m):nA f k<=nA f m:=by
 obtain ⟨c,M,hM⟩:=xP h hm
 have e:=aEi hf hM
 obtain ⟨hT,post,hd⟩:=hM
 obtain ⟨c',M',g1,g2⟩:=parts2 hT m post hd k h1 (by omega)
 rw [aEi hf g1,e]
 exact g2
theorem ops_in (hf:f.length<=30) (h:Tm b f) {k:Nat} (hk:k < f.length):∀ o∈rE f k,(k:Int) < o/\o < (nA f k:Int):=by
 obtain ⟨c,M,hM⟩:=xP h hk
 obtain ⟨os,e,_,h2,_⟩:=ops_of (by omega) hM
 have:rE f k=os:=by unfold rE;rw [e];rfl
 rw [this,aEi (by omega) hM]
 exact h2
theorem aIj (hf:f.length<=30) (h:Tm b f) {k:Nat} (hk:k < f.length):∃ r,pL f (k:Int)=some r/\(r=-1\/0<=r/\r < (k:Int)/\oW (dC f r.toNat)=true/\k < nA f r.toNat):=by
 have key:=mM (step:=fun s:Int=>eF f (k:Int) s) (fun s=>-1<=s/\s < (k:Int)) (fun s=>(s+1).toNat) (fun r=>r=.inl ()\/∃ n:Int,r=.inr n/\0<=n/\n < (k:Int)/\oW (dC f n.toNat)=true/\k < nA f n.toNat) (fun s hs=>?_) (s:=(k:Int) - 1) (by omega)
 ·obtain ⟨r,e1,h1⟩:=key
  unfold pL
  rw [bP (x:=(k:Int) - 1) (by omega) (by omega),e1,aA]
  rcases h1 with rfl|⟨n,rfl,h2⟩
  ·exact ⟨-1,rfl,.inl rfl⟩
  ·exact ⟨n,rfl,.inr h2⟩
 ·by_cases h0:s=-1
  ·subst h0
   right
   refine ⟨.inl (),?_,.inl rfl⟩
   unfold eF
   rw [if_neg (by simp)]
  ·obtain ⟨i,rfl⟩:∃ i:Nat,s=(i:Int):=⟨s.toNat,by omega⟩
   have e1:=(pR (by omega) h (show i < f.length by omega)).1
   have hj:∀ v:Bool,(v=true->oW (dC f i)=true/\k < nA f i)->(∃ s',lZ (i:Int) v=some (.inl s')/\(-1<=s'/\s' < (k:Int))/\(s'+1).toNat < ((i:Int)+1).toNat)\/∃ r,lZ (i:Int) v=some (.inr r)/\(r=.inl ()\/∃ n:Int,r=.inr n/\0<=n/\n < (k:Int)/\oW (dC f n.toNat)=true/\k < nA f n.toNat):=fun v hv=>by
    unfold lZ
    cases v with
    |true=>
     right
     obtain ⟨g1,g2⟩:=hv rfl
     exact ⟨.inr (i:Int),rfl,.inr ⟨_,rfl,by omega,by omega,by rw [Int.toNat_natCast];exact g1,by rw [Int.toNat_natCast];exact g2⟩⟩
    |false=>
     left
     rw [bP (x:=(i:Int) - 1) (by omega) (by omega)]
     exact ⟨(i:Int) - 1,rfl,⟨by omega,by omega⟩,by omega⟩
   show (∃ s',eF f (k:Int) (i:Int)=some (.inl s')/\_)\/∃ r,eF f (k:Int) (i:Int)=some (.inr r)/\_
   unfold eF
   rw [if_pos (by simp),jF (by omega),aA,oT,aA,jF hk,aA,e1,aA]
   by_cases hfx:(dC f i).Kind=7\/(dC f i).Kind=8
   ·rw [if_pos (by simpa using hfx)]
    split
    ·exact hj _ fun hv=>⟨by unfold oW;simpa using hfx,by simp at hv;omega⟩
    ·exact hj _ fun hv=>by cases hv
   ·rw [if_neg (by simpa using hfx)]
    exact hj _ fun hv=>by cases hv
theorem nst_eq (hf:f.length<=30) (h:Tm b f) {k:Nat} (hk:k < f.length):aIw f k=(((List.range k).filter fun i=>oW (dC f i)&&decide (k < nA f i)).length:Nat):=by
 have key:=cV (step:=fun s:Int × Int=>fL f (k:Int) s.1 s.2) k (fun i (q:Int)=>(q,(i:Int))) (fun i q=>q=(((List.range i).filter fun i=>oW (dC f i)&&decide (k < nA f i)).length:Nat)) (fun r=>r=(((List.range k).filter fun i=>oW (dC f i)&&decide (k < nA f i)).length:Nat)) (fun i q hi hI=>?_) (fun q hI=>?_) k 0 0 (by omega) rfl
 ·obtain ⟨r,e1,e2⟩:=key
  have e1':loop (fun s:Int × Int=>fL f (k:Int) s.1 s.2) (0,0)=some r:=e1
  unfold aIw wB
  rw [e1',aA,←e2]
  rfl
 ·have e1:=(pR (by omega) h (show i < f.length by omega)).1
  have hc:((List.range i).filter fun i=>oW (dC f i)&&decide (k < nA f i)).length<=i:=Nat.le_trans (List.length_filter_le _ _) (Nat.le_of_eq List.length_range)
  have hj3:∀ v:Bool,v=(oW (dC f i)&&decide (k < nA f i))->∃ q',qH q (i:Int) v=some (.inl (q',((i+1:Nat):Int)))/\q'=(((List.range (i+1)).filter fun i=>oW (dC f i)&&decide (k < nA f i)).length:Nat):=fun v hv=>by
   unfold qH tR
   rw [bN hi (by omega),bP (x:=q+1) (by omega) (by omega),List.range_succ,List.filter_append,List.length_append]
   cases v with
   |false=>rw [if_neg (by simp)];exact ⟨q,rfl,by simp [←hv,hI]⟩
   |true=>rw [if_pos rfl];exact ⟨q+1,rfl,by simp [←hv,hI]⟩
  show ∃ q',fL f (k:Int) q (i:Int)=some (.inl (q',((i+1:Nat):Int)))/\_
  unfold fL
  rw [if_pos (bZ hi),jF (by omega),aA,oT,aA,e1,aA]
  by_cases hfx:(dC f i).Kind=7\/(dC f i).Kind=8
  ·rw [if_pos (by simpa using hfx)]
   refine hj3 _ ?_
   unfold oW
   rw [decide_eq_true hfx,Bool.true_and]
   exact decide_eq_decide.2 (by omega)
  ·rw [if_neg (by simpa using hfx)]
   refine hj3 _ ?_
   unfold oW
   rw [decide_eq_false hfx,Bool.false_and]
 ·refine ⟨q,?_,hI⟩
  show fL f (k:Int) q (k:Int)=_
  unfold fL
  rw [if_neg (by simp)]
theorem aKW {p q:Nat->Bool}:∀ l:List Nat,(∀ x∈l,p x=true->q x=true)->(l.filter p).length<=(l.filter q).length
 |[],_=>Nat.le_refl _
 |x::l,h=>by
  have ih:=aKW l fun y hy=>h y (List.mem_cons_of_mem _ hy)
  have hx:=h x List.mem_cons_self
  rw [List.filter_cons,List.filter_cons]
  by_cases hp:p x=true
  ·rw [if_pos hp,if_pos (hx hp),List.length_cons,List.length_cons];omega
  ·rw [if_neg hp]
   split
   ·rw [List.length_cons];omega
   ·exact ih
theorem nst_lt (hf:f.length<=30) (h:Tm b f) {m k:Nat} (hm:oW (dC f m)=true) (h1:m < k) (h2:k < nA f m) (hk:k < f.length):aIw f m+1<=aIw f k:=by
 rw [nst_eq hf h (show m < f.length by omega),nst_eq hf h hk]
 have e1:List.range k=List.range m++(List.range (k - m)).map (m+·):=by
  rw [←List.range_add];congr 1;omega
 rw [e1,List.filter_append,List.length_append]
 have a1:((List.range m).filter fun i=>oW (dC f i)&&decide (m < nA f i)).length<=((List.range m).filter fun i=>oW (dC f i)&&decide (k < nA f i)).length:=by
  refine aKW _ fun i hi hp=>?_
  rw [List.mem_range] at hi
  simp only [Bool.and_eq_true,decide_eq_true_eq] at hp ⊢
  have:=end_in (by omega) h (show i < f.length by omega) (Nat.le_of_lt hi) hp.2
  exact ⟨hp.1,by omega⟩
 have a2:1<=(((List.range (k - m)).map (m+·)).filter fun i=>oW (dC f i)&&decide (k < nA f i)).length:=by
  refine List.length_pos_of_mem (a:=m) (List.mem_filter.2 ⟨List.mem_map.2 ⟨0,List.mem_range.2 (by omega),rfl⟩,?_⟩)
  simp [hm,h2]
 omega
end
end Gv
set_option linter.unusedVariables false
set_option linter.unusedSimpArgs false
namespace Gv
open Go
section
variable {f:List aO} {b:List Int} {t:cR}
def dI (t:cR) (v:Int):Nat:=v.toNat / t.N.toNat
theorem aNa (ht:cS t) {k:Nat} {x:Int} (hx:inT t x):dI t ((k:Int) * t.N+x)=k:=by
 have h1:=ht.1
 unfold inT at hx
 have e:((k:Int) * t.N+x).toNat=t.N.toNat * k+x.toNat:=by
  have:((t.N.toNat * k:Nat):Int)=(k:Int) * t.N:=by rw [Int.natCast_mul,show ((t.N.toNat:Nat):Int)=t.N by omega,Int.mul_comm]
  omega
 unfold dI
 rw [e,Nat.mul_add_div (by omega),Nat.div_eq_of_lt (by omega)]
 omega
theorem tX (ht:cS t) {v:Int} (hv:xT (jE f t f.length) v):∃ x,inT t x/\dI t v < f.length/\v=(dI t v:Int) * t.N+x:=by
 have h1:=ht.1
 obtain ⟨h2,h3⟩:=hv
 rw [zD] at h3
 have h4:=Nat.div_add_mod v.toNat t.N.toNat
 have h5:=Nat.mod_lt v.toNat (show t.N.toNat > 0 by omega)
 have h6:v.toNat / t.N.toNat < f.length:=(Nat.div_lt_iff_lt_mul (by omega)).2 (by omega)
 refine ⟨((v.toNat % t.N.toNat:Nat):Int),⟨by omega,by omega⟩,h6,?_⟩
 have:((t.N.toNat * (v.toNat / t.N.toNat):Nat):Int)=((dI t v:Nat):Int) * t.N:=by
  unfold dI
  rw [Int.natCast_mul,show ((t.N.toNat:Nat):Int)=t.N by omega,Int.mul_comm]
 rw [←this]
 omega
theorem aHP (hf:FOk f) (h:Tm b f) (ht:cS t) {v w:Int} (hv:xT (jE f t f.length) v) (hE:(gg (jE f t f.length)).E v w):
  xT (jE f t f.length) w/\((dI t v < dI t w/\dI t w < nA f (dI t v))\/(dI t w < dI t v/\oW (dC f (dI t w))=true/\dI t v < nA f (dI t w))):=by
 have hlen:=hf.len
 obtain ⟨x,hx,hk,e⟩:=tX ht hv
 generalize dI t v=k at hk e ⊢
 subst e
 have hE:w∈(vx (jE f t f.length) ((k:Int) * t.N+x)).Next:=hE
 rw [aLP ht hk hx] at hE
 have hE:=aJR.1 hE
 have hop:∀ o∈rE f k,∀ y,inT t y->xT (jE f t f.length) (o * t.N+y)/\((k < dI t (o * t.N+y)/\dI t (o * t.N+y) < nA f k)\/(dI t (o * t.N+y) < k/\oW (dC f (dI t (o * t.N+y)))=true/\k < nA f (dI t (o * t.N+y)))):=fun o ho y hy=>by
  have h1:=ops_in hlen.2 h hk o ho
  have h2:=(hf.ops k hk).2.2 o ho
  obtain ⟨j,rfl⟩:=Int.eq_ofNat_of_zero_le h2.1
  rw [aNa ht hy]
  exact ⟨aLQ ht (by omega) hy,.inl ⟨by omega,by omega⟩⟩
 unfold nxF at hE
 split at hE
 ·rename_i hm
  obtain ⟨e,he,rfl⟩:=List.mem_map.1 hE
  have he1:=(List.mem_filter.1 (List.mem_filter.1 he).1).1
  have ho:=hf.one k hk hm
  exact hop _ (by rw [List.getD_eq_getElem?_getD,List.getElem?_eq_getElem (by omega)];exact List.getElem_mem _) _ (aLF ht he1).2.1
 ·split at hE
  ·rename_i h6
   rw [List.mem_singleton] at hE
   subst hE
   have hb:=hf.bnd k hk h6
   obtain ⟨r,e1,h1⟩:=aIj hlen.2 h hk
   rw [hb.1] at e1
   have e1:=Option.some.inj e1
   rw [←e1] at h1
   obtain ⟨j,hj⟩:=Int.eq_ofNat_of_zero_le hb.2.1
   rw [hj] at h1 hb ⊢
   rw [aNa ht hx]
   rcases h1 with h1|⟨g1,g2,g3,g4⟩
   ·omega
   ·rw [Int.toNat_natCast] at g3 g4
    exact ⟨aLQ ht (by omega) hx,.inr ⟨by omega,g3,g4⟩⟩
  ·obtain ⟨o,ho,rfl⟩:=List.mem_map.1 hE
   exact hop o ho x hx
theorem aNX (hf:FOk f) (h:Tm b f) (ht:cS t) {F:Nat->Int} (h0:xT (jE f t f.length) (F 0)) (hE:∀ n,(gg (jE f t f.length)).E (F n) (F (n+1))):
  (∀ n,xT (jE f t f.length) (F n))/\∃ m,m < f.length/\oW (dC f m)=true/\(∀ N,∃ n,N<=n/\dI t (F n)=m)/\∃ N,∀ n,N<=n->m<=dI t (F n)/\dI t (F n) < nA f m:=by
 have hlen:=hf.len
 have hin:∀ n,xT (jE f t f.length) (F n):=fun n=>by
  induction n with
  |zero=>exact h0
  |succ n ih=>exact (aHP hf h ht ih (hE n)).1
 have hk:∀ n,dI t (F n) < f.length:=fun n=>(tX ht (hin n)).elim fun _ h=>h.2.1
 obtain ⟨m,h1,N,h2⟩:=aMZ (fun n=>dI t (F n)) f.length ⟨0,fun n _=>hk n⟩
 refine ⟨hin,m,?_,?_,h1,?_⟩
 ·obtain ⟨n,_,e⟩:=h1 0
  rw [←e];exact hk n
 ·obtain ⟨n,hn,e⟩:=h1 (N+1)
  obtain ⟨n,rfl⟩:∃ j,n=j+1:=⟨n - 1,by omega⟩
  have g1:=h2 n (by omega)
  rcases (aHP hf h ht (hin n) (hE n)).2 with g|g
  ·omega
  ·rw [←e];exact g.2.1
 ·obtain ⟨n0,hn0,e0⟩:=h1 N
  refine ⟨n0,fun n hn=>?_⟩
  obtain ⟨d,rfl⟩:∃ d,n=n0+d:=⟨n - n0,by omega⟩
  have hm:m < f.length:=by rw [←e0];exact hk n0
  have hend:=(pR (by omega) h hm).2
  induction d with
  |zero=>simp only [Nat.add_zero];omega
  |succ d ih=>
   have ih:=ih (by omega)
   have g1:=h2 (n0+(d+1)) (by omega)
   have h5:=end_in (by omega) h hm ih.1 ih.2
   have hst:(gg (jE f t f.length)).E (F (n0+d)) (F (n0+(d+1))):=hE (n0+d)
   rcases (aHP hf h ht (hin (n0+d)) hst).2 with g|g
   ·exact ⟨g1,by omega⟩
   ·exact ⟨g1,by omega⟩
theorem play_good (hf:FOk f) (h:Tm b f) (ht:cS t) {F:Nat->Int} (h0:xT (jE f t f.length) (F 0)) (hE:∀ n,(gg (jE f t f.length)).E (F n) (F (n+1))) {U:Type} {pr2:U->Int} {g:Nat->U}
  (hmono:∀ n n',dI t (F n)<=dI t (F n')->pr2 (g n)<=pr2 (g n')) (hpar:∀ n,oW (dC f (dI t (F n)))=true->pr2 (g n) % 2=if (dC f (dI t (F n))).Kind=7 then 1 else 0) {p:Int}
  (hp:aDE (gg (jE f t f.length)).pr p F):aDE pr2 p g:=by
 have hlen:=hf.len
 obtain ⟨hin,m,hm,hmf,h1,N,h2⟩:=aNX hf h ht h0 hE
 have hpr:∀ n,(gg (jE f t f.length)).pr (F n)=prF f (dI t (F n)):=fun n=>by
  obtain ⟨x,hx,hk,e⟩:=tX ht (hin n)
  show (vx (jE f t f.length) (F n)).Priority=_
  have hvx:vx (jE f t f.length) (F n)=verF f t (dI t (F n)) x:=by
   have:=aLP (f:=f) ht hk hx
   rw [←e] at this
   exact this
  rw [hvx]
  rfl
 have hm78:(dC f m).Kind=7\/(dC f m).Kind=8:=by unfold oW at hmf;simpa using hmf
 have hpm:prF f m=2 * aIw f m+(if (dC f m).Kind=7 then 1 else 0):=by unfold prF;rw [if_pos hm78]
 have hnm:=(hf.nst m hm).2
 have g1:aDE (gg (jE f t f.length)).pr (prF f m % 2) F:=by
  refine ⟨prF f m,rfl,fun N'=>?_,N,fun n hn=>?_⟩
  ·obtain ⟨n,hn,e⟩:=h1 N'
   exact ⟨n,hn,by rw [hpr,e]⟩
  ·rw [hpr]
   obtain ⟨g3,g4⟩:=h2 n hn
   obtain ⟨_,_,hk,_⟩:=tX ht (hin n)
   generalize dI t (F n)=k at g3 g4 hk
   by_cases e:k=m
   ·rw [e];exact Int.le_refl _
   ·by_cases hfx:(dC f k).Kind=7\/(dC f k).Kind=8
    ·have:=nst_lt hlen.2 h hmf (by omega) g4 hk
     rw [hpm]
     unfold prF
     rw [if_pos hfx]
     split<;>split<;>omega
    ·rw [hpm]
     unfold prF
     rw [if_neg hfx]
     split<;>omega
 have e:p=prF f m % 2:=aDE.one (fun _=>rfl) hp g1
 obtain ⟨n0,_,e0⟩:=h1 0
 refine ⟨pr2 (g n0),?_,fun N'=>?_,N,fun n hn=>?_⟩
 ·have h5:=hpar n0 (by rw [e0];exact hmf)
  rw [e0] at h5
  rw [h5,e,hpm]
  split<;>omega
 ·obtain ⟨n,hn,e1⟩:=h1 N'
  have a:=hmono n n0 (by rw [e1,e0];exact Nat.le_refl _)
  have b:=hmono n0 n (by rw [e1,e0];exact Nat.le_refl _)
  exact ⟨n,hn,by omega⟩
 ·exact hmono n0 n (by rw [e0];exact (h2 n hn).1)
end
end Gv
set_option linter.unusedVariables false
set_option linter.unusedSimpArgs false
namespace Gv
open Go
def jU (g:Nat->Bool):Nat->Nat
 |0=>0
 |i+1=>jU g i+(if g (i+1)=g i then 0 else 1)
theorem aKX (g:Nat->Bool) {i j:Nat} (h:i<=j):jU g i<=jU g j:=by
 obtain ⟨d,rfl⟩:∃ d,j=i+d:=⟨j - i,by omega⟩
 clear h
 induction d with
 |zero=>exact Nat.le_refl _
 |succ d ih=>
  show _<=jU g (i+d)+_
  omega
theorem aKY (g:Nat->Bool) {i:Nat}:∀ d,(∀ k,k<=d->g (i+k)=g i)->jU g (i+d)=jU g i
 |0,_=>rfl
 |d+1,h=>by
  have ih:=aKY g d fun k hk=>h k (by omega)
  show jU g (i+d)+(if g (i+d+1)=g (i+d) then 0 else 1)=_
  rw [ih,if_pos (by rw [h d (by omega)];exact h (d+1) (Nat.le_refl _))]
  rfl
theorem aNb (g:Nat->Bool):∀ i,jU g i % 2=if g i=g 0 then 0 else 1
 |0=>by simp [jU]
 |i+1=>by
  have ih:=aNb g i
  show (jU g i+(if g (i+1)=g i then 0 else 1)) % 2=_
  cases h0:g 0<;>cases h1:g i<;>cases h2:g (i+1)<;>simp [h0,h1,h2] at ih ⊢<;>omega
section
variable {f:List aO} {b:List Int} {t:cR}
structure EqG (f:List aO) (t:cR) (N:List Int) (eg:List aV) (gr:Nat->Bool):Prop where
 len:eg.length=N.length
 srt:N.Pairwise (· < ·)
 inn:∀ v∈N,xT (jE f t f.length) v
 own:∀ i,i < N.length->(vx eg (i:Int)).Owner=(vx (jE f t f.length) (N.getD i 0)).Owner
 nx:∀ i,i < N.length->∀ w,w∈(vx eg (i:Int)).Next<->∃ j:Nat,j < N.length/\w=(j:Int)/\N.getD j 0∈(vx (jE f t f.length) (N.getD i 0)).Next
 cl:∀ v∈N,∀ w∈(vx (jE f t f.length) v).Next,w∈N
 pr:∀ i,i < N.length->(vx eg (i:Int)).Priority=(jU (fun i=>gr (dI t (N.getD i 0))) i:Int)+(if gr (dI t (N.getD 0 0))=true then 0 else 1)
 par:∀ k,k < f.length->oW (dC f k)=true->gr k=decide ((dC f k).Kind=8)
theorem aFr {N:List Int} {i:Nat} (h:i < N.length):N.getD i 0∈N:=by
 rw [List.getD_eq_getElem?_getD,List.getElem?_eq_getElem h]
 exact List.getElem_mem _
theorem aLR {N:List Int} (hs:N.Pairwise (· < ·)) {i j:Nat} (hj:j < N.length) (h:i < j):N.getD i 0 < N.getD j 0:=by
 rw [List.getD_eq_getElem?_getD,List.getD_eq_getElem?_getD,List.getElem?_eq_getElem hj,List.getElem?_eq_getElem (by omega)]
 exact List.pairwise_iff_getElem.1 hs i j (by omega) hj h
theorem aGu {v w:Int} (h:v<=w):dI t v<=dI t w:=by
 unfold dI
 exact Nat.div_le_div_right (by omega)
theorem eq_good (hf:FOk f) (hT:Tm b f) (ht:cS t) {N:List Int} {eg:List aV} {gr:Nat->Bool} (h:EqG f t N eg gr) {p:Int} {F g:Nat->Int} (hR:∀ n,∃ k:Nat,k < N.length/\g n=(k:Int)/\F n=N.getD k 0)
  (hE:∀ n,(gg (jE f t f.length)).E (F n) (F (n+1))) (hg:aDE (gg (jE f t f.length)).pr p F):aDE (gg eg).pr p g:=by
 have hk:∀ n,∃ k:Nat,k < N.length/\g n=(k:Int)/\F n=N.getD k 0:=hR
 obtain ⟨k0,hk0,_,e0⟩:=hk 0
 refine play_good hf hT ht (by rw [e0];exact h.inn _ (aFr hk0)) hE (g:=g) (pr2:=(gg eg).pr) (fun n n' hn=>?_) (fun n hn=>?_) hg
 ·obtain ⟨k,hk1,hk2,hk3⟩:=hk n
  obtain ⟨k',hk1',hk2',hk3'⟩:=hk n'
  show (vx eg (g n)).Priority<=(vx eg (g n')).Priority
  rw [hk2,hk2',h.pr k hk1,h.pr k' hk1']
  rw [hk3,hk3'] at hn
  by_cases hkk:k<=k'
  ·have:=aKX (fun i=>gr (dI t (N.getD i 0))) hkk
   omega
  ·
   have hlt:=aLR h.srt hk1 (show k' < k by omega)
   have hnode:=aGu (t:=t) (Int.le_of_lt hlt)
   have hsame:∀ d,d<=k - k'->dI t (N.getD (k'+d) 0)=dI t (N.getD k' 0):=fun d hd=>by
    have a1:dI t (N.getD k' 0)<=dI t (N.getD (k'+d) 0):=by
     by_cases hd0:d=0
     ·subst hd0;exact Nat.le_refl _
     ·exact aGu (Int.le_of_lt (aLR h.srt (by omega) (by omega)))
    have a2:dI t (N.getD (k'+d) 0)<=dI t (N.getD k 0):=by
     by_cases hd0:k'+d=k
     ·rw [hd0];exact Nat.le_refl _
     ·exact aGu (Int.le_of_lt (aLR h.srt hk1 (by omega)))
    omega
   have:=aKY (fun i=>gr (dI t (N.getD i 0))) (i:=k') (k - k') fun d hd=>by rw [hsame d hd]
   rw [show k'+(k - k')=k by omega] at this
   omega
 ·obtain ⟨k,hk1,hk2,hk3⟩:=hk n
  show (vx eg (g n)).Priority % 2=_
  rw [hk2,h.pr k hk1]
  rw [hk3] at hn ⊢
  obtain ⟨_,_,hkf,_⟩:=tX ht (h.inn _ (aFr hk1))
  have hg1:=h.par _ hkf hn
  have h2:=aNb (fun i=>gr (dI t (N.getD i 0))) k
  have h78:(dC f (dI t (N.getD k 0))).Kind=7\/(dC f (dI t (N.getD k 0))).Kind=8:=by unfold oW at hn;simpa using hn
  generalize jU (fun i=>gr (dI t (N.getD i 0))) k=B at h2 ⊢
  generalize gr (dI t (N.getD 0 0))=z at h2 ⊢
  generalize gr (dI t (N.getD k 0))=y at h2 hg1
  rcases h78 with h7|h7
  ·rw [decide_eq_false (by omega)] at hg1
   subst hg1
   rw [if_pos h7]
   cases z<;>simp at h2 ⊢<;>omega
  ·rw [decide_eq_true h7] at hg1
   subst hg1
   rw [if_neg (show ¬ (dC f (dI t (N.getD k 0))).Kind=7 by omega)]
   cases z<;>simp at h2 ⊢<;>omega
theorem eq_won (hf:FOk f) (hT:Tm b f) (ht:cS t) {N:List Int} {eg:List aV} {gr:Nat->Bool} (h:EqG f t N eg gr) {p q:Int} (hp:p=0\/p=1) (hq:q=0\/q=1) {W W':Int->Prop} {σ τ:Int->Int}
  (h0:Reg (gg (jE f t f.length)) (xT (jE f t f.length)) p W σ) (h1:Reg (gg eg) (xT eg) q W' τ) {i:Nat} (hi:i < N.length) (hx:W (N.getD i 0)) (hy:W' (i:Int)):p=q:=by
 refine Classical.byContradiction fun hne=>?_
 refine lockG (R:=fun v (w:Int)=>∃ k:Nat,k < N.length/\w=(k:Int)/\v=N.getD k 0) (A:=xT (jE f t f.length)) (A':=xT eg) (fun v w hR=>?_) (fun F g hR hE hE' hg=>?_) h0 h1 hne ⟨i,hi,rfl,rfl⟩ hx hy
 ·obtain ⟨k,hk,rfl,rfl⟩:=hR
  have hown:=h.own k hk
  refine ⟨hown.symm,?_,fun v' hE=>?_,fun w' hE=>?_⟩
  ·show (vx _ _).Owner=p\/(vx _ _).Owner=q
   have:(vx (jE f t f.length) (N.getD k 0)).Owner=0\/(vx (jE f t f.length) (N.getD k 0)).Owner=1:=by
    obtain ⟨x,hx,hk',e⟩:=tX ht (h.inn _ (aFr hk))
    rw [e,aLP ht hk' hx]
    show aIx _=0\/aIx _=1
    unfold aIx
    split<;>simp
   omega
  ·have hE:v'∈(vx (jE f t f.length) (N.getD k 0)).Next:=hE
   have hm:=h.cl _ (aFr hk) v' hE
   obtain ⟨j,hj,e⟩:=List.getElem_of_mem hm
   have e':N.getD j 0=v':=by rw [List.getD_eq_getElem?_getD,List.getElem?_eq_getElem hj];exact e
   refine ⟨h.inn _ hm,(j:Int),(h.nx k hk _).2 ⟨j,hj,rfl,by rw [e'];exact hE⟩,j,hj,rfl,e'.symm⟩
  ·obtain ⟨j,hj,rfl,h2⟩:=(h.nx k hk _).1 hE
   exact ⟨⟨by omega,by rw [h.len];omega⟩,N.getD j 0,h2,j,hj,rfl,rfl⟩
 ·exact eq_good hf hT ht h hR hE hg
end
theorem one_won {g:List aV} (hg:GOk g) {p q:Int} (hp:p=0\/p=1) (hq:q=0\/q=1) {W W':Int->Prop} {σ τ:Int->Int} (h0:Reg (gg g) (xT g) p W σ) (h1:Reg (gg g) (xT g) q W' τ) {v:Int} (hx:W v) (hy:W' v):p=q:=by
 refine Classical.byContradiction fun hne=>?_
 refine lockstep (R:=fun x y:Int=>x=y) (A:=xT g) (A':=xT g) (fun x y e _ _=>?_) h0 h1 hne rfl hx hy
 subst e
 have ho:=hg.own x
 refine ⟨rfl,rfl,?_,fun x' hE=>⟨hg.nx x x' hE,x',hE,rfl⟩,fun x' hE=>⟨hg.nx x x' hE,x',hE,rfl⟩⟩
 show (vx g x).Owner=p\/(vx g x).Owner=q
 omega
end Gv
set_option linter.unusedVariables false
set_option linter.unusedSimpArgs false
namespace Gv
open Go
def vD (e:List aS) (i:Nat):aS:=e.getD i default
def xQ (e:List aS) (i:Nat):Bool:=(vD e i).Greatest
theorem ixE {e:List aS} {i:Nat} (h:i < e.length):ix e (i:Int)=some (vD e i):=by
 rw [bT h]
 unfold vD
 rw [List.getD_eq_getElem?_getD,List.getElem?_eq_getElem h]
 rfl
def aHQ (e:List aS):List Int:=(List.range e.length).map fun i:Nat=>(jU (xQ e) i:Int)
theorem aHk (g:Nat->Bool):∀ i,jU g i<=i
 |0=>Nat.le_refl _
 |i+1=>by
  have:=aHk g i
  show jU g i+(if g (i+1)=g i then 0 else 1)<=i+1
  split<;>omega
theorem aKZ (e:List aS) (h:e.length<=1000):mK e=some (aHQ e):=by
 have key:=cV (step:=fun s:List Int × Int × Int=>fI e s.1 s.2.1 s.2.2) e.length (fun i (q:List Int × Int)=>(q.1,q.2,(i:Int))) (fun i q=>q.1=(List.range i).map (fun i:Nat=>(jU (xQ e) i:Int))/\q.2=(jU (xQ e) (i - 1):Int)) (fun r=>r=aHQ e) (fun i q hi hI=>?_) (fun q hI=>?_) e.length 0 ([],0) (by omega) ⟨rfl,rfl⟩
 ·obtain ⟨r,e1,e2⟩:=key
  have e1':loop (fun s:List Int × Int × Int=>fI e s.1 s.2.1 s.2.2) ([],0,0)=some r:=e1
  unfold mK
  rw [e1',aA,e2]
  rfl
 ·obtain ⟨o,b⟩:=q
  obtain ⟨h1,h2⟩:=hI
  simp only at h1 h2
  subst h1
  subst h2
  have hj:∀ c:Int,c=(jU (xQ e) i:Int)->∃ q:List Int × Int,lQ ((List.range i).map (fun i:Nat=>(jU (xQ e) i:Int))) (i:Int) c=some (.inl (q.1,q.2,((i+1:Nat):Int)))/\q.1=(List.range (i+1)).map (fun i:Nat=>(jU (xQ e) i:Int))/\q.2=(jU (xQ e) (i+1 - 1):Int):=fun c hc=>by
   unfold lQ
   rw [cI (by simp [iC];omega),aA,bN hi (by omega)]
   refine ⟨(_,c),rfl,?_,by rw [hc];rfl⟩
   rw [List.range_succ,List.map_append,hc]
   rfl
  show ∃ q:List Int × Int,fI e _ (jU (xQ e) (i - 1):Int) (i:Int)=some (.inl (q.1,q.2,((i+1:Nat):Int)))/\_
  unfold fI oX
  rw [if_pos (bZ hi),ixE hi,aA]
  by_cases h0:i=0
  ·subst h0
   rw [if_neg (by simp),if_neg (by simp)]
   exact hj _ rfl
  ·obtain ⟨k,rfl⟩:∃ k,i=k+1:=⟨i - 1,by omega⟩
   have hle:=aHk (xQ e) k
   rw [if_pos (by rw [decide_eq_true_iff];omega),bP (x:=((k+1:Nat):Int) - 1) (by omega) (by omega),show (((k+1:Nat):Int) - 1)=((k:Nat):Int) by omega,ixE (show k < e.length by omega),aA,show k+1 - 1=k from rfl,bP (x:=(jU (xQ e) k:Int)+1) (by omega) (by omega)]
   have hs:jU (xQ e) (k+1)=jU (xQ e) k+(if xQ e (k+1)=xQ e k then 0 else 1):=rfl
   by_cases hg:xQ e (k+1)=xQ e k
   ·have hg':(vD e (k+1)).Greatest=(vD e k).Greatest:=hg
    rw [hg',if_neg (by simp)]
    exact hj _ (by rw [hs,if_pos hg];omega)
   ·have hg':(vD e (k+1)).Greatest≠(vD e k).Greatest:=hg
    rw [if_pos (by simpa using hg')]
    exact hj _ (by rw [hs,if_neg hg];omega)
 ·refine ⟨q.1,?_,hI.1⟩
  show fI e q.1 q.2 (e.length:Int)=_
  unfold fI
  rw [if_neg (by simp)]
theorem fit_eq (e:List aS) (h0:1<=e.length) (h:e.length<=1000):zW e=some (decide (jU (xQ e) (e.length - 1) < 9)):=by
 unfold zW aCU
 have hl:(aHQ e).length=e.length:=by unfold aHQ;simp
 rw [aKZ e h,aA,hl,bP (x:=(e.length:Int) - 1) (by omega) (by omega),show ((e.length:Int) - 1)=((e.length - 1:Nat):Int) by omega,bT (by omega),aA,aA]
 congr 1
 unfold aHQ
 rw [List.getElem_map,List.getElem_range]
 exact decide_eq_decide.2 (by omega)
def vtE (e:List aS) (i:Nat):aV:=⟨if (vD e i).All=true then 1 else 0,(jU (xQ e) i:Int)+(if xQ e 0=true then 0 else 1),(vD e i).Terms⟩
def gmE (e:List aS):List aV:=(List.range e.length).map (vtE e)
theorem game_eqE (e:List aS) (h:e.length<=1000) (hT:∀ i,i < e.length->(vD e i).Terms.length<=100000):aGk e=some (gmE e):=by
 have hl:(aHQ e).length=e.length:=by unfold aHQ;simp
 have key:=cV (step:=fun s:List aV × Int=>wD e (aHQ e) s.1 s.2) e.length (fun i (q:List aV)=>(q,(i:Int))) (fun i q=>q=(List.range i).map (vtE e)) (fun r=>r=gmE e) (fun i q hi hI=>?_) (fun q hI=>?_) e.length 0 [] (by omega) rfl
 ·obtain ⟨r,e1,e2⟩:=key
  have e1':loop (fun s:List aV × Int=>wD e (aHQ e) s.1 s.2) ([],0)=some r:=e1
  unfold aGk
  rw [aKZ e h,aA,e1',aA,e2]
  rfl
 ·subst hI
  refine ⟨_,?_,rfl⟩
  show wD e (aHQ e) ((List.range i).map (vtE e)) (i:Int)=_
  have hle:=aHk (xQ e) i
  have hb:(aHQ e)[i]'(by omega)=(jU (xQ e) i:Int):=by unfold aHQ;rw [List.getElem_map,List.getElem_range]
  unfold wD dT
  rw [if_pos (bZ hi),ixE hi,aA,bT (by omega),hb,aA,show ix e 0=ix e ((0:Nat):Int) from rfl,ixE (by omega),aA,xO,aA,xO,aA,cI (by have:=hT i hi;simp only [List.length_nil];unfold iC;omega),aA,aA,List.nil_append,cI (by simp [iC];omega),aA,bN hi (by omega),List.range_succ,List.map_append]
  have hw:∀ (g:Bool) (B:Nat),B<=1000->wr ((B:Int)+(if (!g)=true then 1 else 0))=(B:Int)+(if g=true then 0 else 1):=fun g B hB=>by
   cases g
   ·show wr ((B:Int)+1)=_
    rw [bP (by omega) (by omega)]
    rfl
   ·show wr ((B:Int)+0)=_
    rw [bP (by omega) (by omega)]
    rfl
  rw [hw _ _ (by omega)]
  rfl
 ·refine ⟨q,?_,hI⟩
  show wD e (aHQ e) q (e.length:Int)=_
  unfold wD
  rw [if_neg (by simp)]
theorem aJS {e:List aS} {i:Nat} (h:i < e.length):vx (gmE e) (i:Int)=vtE e i:=by
 unfold vx gmE
 rw [Int.toNat_natCast,List.getD_eq_getElem?_getD,List.getElem?_map,List.getElem?_range h]
 rfl
structure EqOk (e:List aS):Prop where
 len:1<=e.length/\e.length<=120
 fit:jU (xQ e) (e.length - 1) < 9
 tm:∀ i,i < e.length->(vD e i).Terms.Pairwise (· < ·)/\∀ w∈(vD e i).Terms,0<=w/\w < (e.length:Int)
theorem aLS {l:List Int} {n:Nat} (h:l.Pairwise (· < ·)) (hr:∀ w∈l,0<=w/\w < (n:Int)):l.length<=n:=by
 have:=List.Nodup.length_le_of_subset (l₂:=(List.range n).map fun (i:Nat)=>(i:Int)) (h.imp fun h e=>by omega) (fun w hw=>by
  have:=hr w hw
  rw [List.mem_map]
  exact ⟨w.toNat,List.mem_range.2 (by omega),by omega⟩)
 simpa using this
theorem aGb {l:List Int} {n:Nat} (hn:n<=1000) (h:l.Pairwise (· < ·)) (hr:∀ w∈l,0<=w/\w < (n:Int)):qO l (n:Int)=some true:=by
 have hl:=aLS h hr
 have key:=cV (step:=fun s:Int=>jM l (n:Int) s) l.length (fun i (_:Unit)=>(i:Int)) (fun _ _=>True) (fun r=>r=.inl ()) (fun i _ hi _=>?_) (fun _ _=>?_) l.length 0 () (by omega) trivial
 ·obtain ⟨r,e1,e2⟩:=key
  have e1':loop (fun s:Int=>jM l (n:Int) s) 0=some r:=e1
  unfold qO
  rw [e1',aA,e2]
  rfl
 ·refine ⟨(),?_,trivial⟩
  show jM l (n:Int) (i:Int)=some (.inl ((i+1:Nat):Int))
  have h1:=hr _ (List.getElem_mem hi)
  have hj:nJ (i:Int) false=some (.inl ((i+1:Nat):Int)):=by
   unfold nJ
   rw [if_neg (by simp),bN hi (by omega)]
  unfold jM
  rw [if_pos (bZ hi),bT hi,aA,aME _ _ (by omega),aA,if_neg (by simp;omega)]
  by_cases h0:i=0
  ·subst h0
   rw [if_neg (by simp)]
   exact hj
  ·rw [if_pos (by simp;omega),bP (x:=(i:Int) - 1) (by omega) (by omega),show ((i:Int) - 1)=((i - 1:Nat):Int) by omega,bT (by omega),aA]
   have:=List.pairwise_iff_getElem.1 h (i - 1) i (by omega) hi (by omega)
   rw [decide_eq_false (by omega)]
   exact hj
 ·refine ⟨.inl (),?_,rfl⟩
  show jM l (n:Int) (l.length:Int)=_
  unfold jM
  rw [if_neg (by simp)]
theorem validE {e:List aS} (h:EqOk e):jZ e=some true:=by
 have hl:=h.len
 have hi:cC e e=some (-1):=by
  have key:=cV (step:=fun s:Int=>bE e e s) e.length (fun i (_:Unit)=>(i:Int)) (fun _ _=>True) (fun r=>r=.inl ()) (fun i _ hi _=>?_) (fun _ _=>?_) e.length 0 () (by omega) trivial
  ·obtain ⟨r,e1,e2⟩:=key
   have e1':loop (fun s:Int=>bE e e s) 0=some r:=e1
   unfold cC
   rw [e1',aA,e2]
   rfl
  ·refine ⟨(),?_,trivial⟩
   show bE e e (i:Int)=some (.inl ((i+1:Nat):Int))
   unfold bE uD
   rw [if_pos (bZ hi),ixE hi,aA,aGb (by omega) (h.tm i hi).1 (h.tm i hi).2,aA,aA,if_neg (by simp),bN hi (by omega)]
  ·refine ⟨.inl (),?_,rfl⟩
   show bE e e (e.length:Int)=_
   unfold bE
   rw [if_neg (by simp)]
 unfold jZ lS dJ
 rw [nK,aA,if_neg (by simp;omega),fit_eq e hl.1 (by omega),aA,if_neg (by simp [h.fit]),hi,aA,aA]
 rfl
theorem aLT {e:List aS} (h:EqOk e):GOk (gmE e)/\1<=(gmE e).length/\(gmE e).length=e.length:=by
 have hl:=h.len
 have hg:(gmE e).length=e.length:=by unfold gmE;simp
 have hdef:∀ v:Int,vx (gmE e) v=default\/∃ i,i < e.length/\vx (gmE e) v=vtE e i:=by
  intro v
  by_cases hv:v.toNat < e.length
  ·refine .inr ⟨v.toNat,hv,?_⟩
   have:=aJS hv
   unfold vx at this ⊢
   rw [Int.toNat_natCast] at this
   exact this
  ·refine .inl ?_
   unfold vx
   rw [List.getD_eq_getElem?_getD,List.getElem?_eq_none (by rw [hg];omega)]
   rfl
 refine ⟨⟨by omega,fun v=>?_,fun v=>?_,fun v=>?_,fun v=>?_⟩,by omega,hg⟩
 ·rcases hdef v with q|⟨i,_,q⟩<;>rw [q]
  ·exact .inl rfl
  ·show (if (vD e i).All=true then (1:Int) else 0)=0\/(if (vD e i).All=true then (1:Int) else 0)=1
   split<;>simp
 ·rcases hdef v with q|⟨i,hi,q⟩<;>rw [q]
  ·exact ⟨Int.le_refl _,by decide⟩
  ·have:=aHk (xQ e) i
   show 0<=(jU (xQ e) i:Int)+_/\(jU (xQ e) i:Int)+_<=1000000
   split<;>omega
 ·rcases hdef v with q|⟨i,hi,q⟩<;>rw [q]
  ·intro w hw;cases hw
  ·intro w hw
   rw [hg]
   exact (h.tm i hi).2 w hw
 ·rcases hdef v with q|⟨i,hi,q⟩<;>rw [q]
  ·exact List.nodup_nil
  ·exact (h.tm i hi).1.imp fun h e=>by omega
end Gv
set_option linter.unusedVariables false
set_option linter.unusedSimpArgs false
namespace Gv
open Go
theorem aGv {k q:Int} {v:Bool}:∀ {m:List (Int × Bool)},kF (tF m k v) q=if q=k then some v else kF m q
 |[]=>by simp [tF,kF]
 |(x,u)::m=>by
  have ih:=aGv (k:=k) (q:=q) (v:=v) (m:=m)
  unfold tF
  by_cases e:k=x
  ·subst e
   rw [if_pos rfl,kF,kF]
   by_cases h:q=k
   ·rw [if_pos h,if_pos h]
   ·rw [if_neg h,if_neg h,if_neg h]
  ·rw [if_neg e,kF,kF,ih]
   by_cases h:q=x
   ·subst h
    rw [if_pos rfl,if_pos rfl,if_neg (fun h=>e h.symm)]
   ·rw [if_neg h,if_neg h]
section
variable {f:List aO} {t:cR}
inductive RchF (G:List aV) (s:Int):Int->Prop
 |base:RchF G s s
 |step {v w:Int}:RchF G s v->w∈(vx G v).Next->RchF G s w
def yC (t:cR) (v:Int):List Int:=[v / t.N,v % t.N]
def prP (t:cR) (v:Int):Int × Int:=(v / t.N,v % t.N)
theorem qu_pos {a b:Int} (h:0<=a) (h':a<=1000000) (hb:1<=b):qu a b=some (a / b)/\rm a b=some (a % b):=by
 have h1:a / b<=a:=Int.ediv_le_self _ h
 have h2:0<=a / b:=Int.ediv_nonneg h (by omega)
 unfold qu rm
 rw [if_neg (by omega),if_neg (by omega),Int.tdiv_eq_ediv_of_nonneg h,Int.tmod_eq_emod_of_nonneg h,bP (by omega) (by omega)]
 exact ⟨rfl,rfl⟩
theorem key_eq (ht:cS t) {v:Int} (h:0<=v) (h':v<=1000000):wr (wr ((v / t.N) * t.N)+v % t.N)=v:=by
 have h1:=ht.1
 have h2:=Int.mul_ediv_add_emod v t.N
 have h3:=Int.emod_nonneg v (show t.N≠0 by omega)
 have h4:=Int.emod_lt_of_pos v (show 0 < t.N by omega)
 rw [Int.mul_comm] at h2
 rw [bP (x:=v / t.N * t.N) (by omega) (by omega),h2,bP (by omega) (by omega)]
theorem posT_eq (ht:cS t) {G:List aV} (hg:GOk G) {v:Int} (hv:xT G v):qY G t.N (yC t v)=some ((vx G v).Next.map (yC t)):=by
 have h1:=ht.1
 have hgl:=hg.len
 have hnl:(vx G v).Next.length<=G.length:=aHN (x:=⟨G,[],[]⟩) hg v
 have key:=aDC (step:=fun s:List (List Int) × Int=>iD t.N (vx G v) s.1 s.2) (vx G v).Next (yC t) (fun r=>r) (fun k out w hk ho hw=>by
  show iD t.N (vx G v) out (k:Int)=_
  have hr:=hg.nx v w (aLM hw)
  obtain ⟨q1,q2⟩:=qu_pos (a:=w) (b:=t.N) hr.1 (by omega) (by omega)
  unfold iD
  rw [if_pos (bZ hk),hw,aA,q1,aA,q2,aA,cI (by simp only [List.length_singleton];unfold iC;omega),aA,bN hk (by omega)]
  rfl) (fun out=>by
  show iD t.N (vx G v) out ((vx G v).Next.length:Int)=_
  unfold iD
  rw [if_neg (by simp)])
 unfold qY
 rw [show ix (yC t v) 0=some (v / t.N) from rfl,aA,show ix (yC t v) 1=some (v % t.N) from rfl,aA,key_eq ht hv.1 (by have:=hv.2;omega),ixV hv.1 hv.2,aA,key,aA]
 rfl
def SeenB (m:List (Int × Bool)) (V:List Int):Prop:=∀ w,(kF m w).getD false=decide (w∈V)
theorem bfs_row (ht:cS t) {N:List Int} (hN:∀ w∈N,0<=w/\w<=1000000) (hl:N.length<=100000) {V:List Int} (hV:V.length<=100000) {m:List (Int × Bool)} (hm:SeenB m V):
  ∃ m',loop (fun s:List (List Int) × List (Int × Bool) × Int=>fC t (N.map (yC t)) s.1 s.2.1 s.2.2) (V.map (yC t),m,0)=some ((N.foldl oS V).map (yC t),m')/\SeenB m' (N.foldl oS V):=by
 have key:=cV (step:=fun s:List (List Int) × List (Int × Bool) × Int=>fC t (N.map (yC t)) s.1 s.2.1 s.2.2) N.length (fun i (q:List (List Int) × List (Int × Bool))=>(q.1,q.2,(i:Int)))
  (fun i q=>q.1=((N.take i).foldl oS V).map (yC t)/\SeenB q.2 ((N.take i).foldl oS V)/\((N.take i).foldl oS V).length<=V.length+i)
  (fun r=>r.1=(N.foldl oS V).map (yC t)/\SeenB r.2 (N.foldl oS V)) (fun i q hi hI=>?_) (fun q hI=>?_) N.length 0 (V.map (yC t),m) (by omega) ⟨rfl,hm,by simp⟩
 ·obtain ⟨r,e1,e2,e3⟩:=key
  have e1':loop (fun s:List (List Int) × List (Int × Bool) × Int=>fC t (N.map (yC t)) s.1 s.2.1 s.2.2) (V.map (yC t),m,0)=some r:=e1
  exact ⟨r.2,by rw [e1',←e2],e3⟩
 ·obtain ⟨P,m1⟩:=q
  obtain ⟨h1,h2,h3⟩:=hI
  simp only at h1 h2 h3
  subst h1
  generalize hA:(N.take i).foldl oS V=A at h2 h3
  have hw:=hN _ (List.getElem_mem hi)
  have htk:(N.take (i+1)).foldl oS V=oS A N[i]:=by rw [List.take_succ_eq_append_getElem hi,List.foldl_append,hA];rfl
  rw [htk]
  show ∃ q:List (List Int) × List (Int × Bool),fC t (N.map (yC t)) (A.map (yC t)) m1 (i:Int)=some (.inl (q.1,q.2,((i+1:Nat):Int)))/\_
  have hj:∀ P m,jX (i:Int) P m=some (.inl (P,m,((i+1:Nat):Int))):=fun P m=>by
   unfold jX
   rw [bN hi (by omega)]
  unfold fC
  rw [List.length_map,if_pos (bZ hi),bT (by rw [List.length_map];exact hi),List.getElem_map,aA,show ix (yC t N[i]) 0=some (N[i] / t.N) from rfl,aA,show ix (yC t N[i]) 1=some (N[i] % t.N) from rfl,aA,key_eq ht hw.1 hw.2,h2]
  unfold oS
  by_cases hin:N[i]∈A
  ·rw [if_neg (by simp [hin]),hj,if_pos hin]
   exact ⟨(_,_),rfl,rfl,h2,by omega⟩
  ·rw [if_pos (by simp [hin]),aA,cI (by simp only [List.length_map,List.length_singleton];unfold iC;omega),aA,hj,if_neg hin]
   refine ⟨(_,_),rfl,by simp,fun w=>?_,by rw [List.length_append,List.length_singleton];omega⟩
   simp only
   rw [aGv]
   by_cases e:w=N[i]
   ·rw [if_pos e,Option.getD_some,decide_eq_true (by simp [e])]
   ·rw [if_neg e,h2 w]
    exact decide_eq_decide.2 (by simp [e])
 ·refine ⟨(q.1,q.2),?_,?_,?_⟩
  ·show fC t (N.map (yC t)) q.1 q.2 (N.length:Int)=_
   unfold fC
   rw [List.length_map,if_neg (by simp)]
  ·have:=hI.1;rw [List.take_length] at this;exact this
  ·have:=hI.2.1;rw [List.take_length] at this;exact this
theorem bfs_all (ht:cS t) {G:List aV} (hg:GOk G) {s:Int}:∀ (n i:Nat) (V:List Int) (m:List (Int × Bool)),i<=V.length->G.length+1<=n+i->V.Nodup->s∈V->(∀ v∈V,RchF G s v/\xT G v)->SeenB m V->(∀ j,j < i->∀ w∈(vx G (V.getD j 0)).Next,w∈V)->
  ∃ V':List Int,loop (fun q:List (List Int) × List (Int × Bool) × Int=>fJ t G q.1 q.2.1 q.2.2) (V.map (yC t),m,(i:Int))=some (V'.map (yC t))/\V'.Nodup/\s∈V'/\(∀ v∈V',RchF G s v/\xT G v)/\(V'.length<=120->∀ v∈V',∀ w∈(vx G v).Next,w∈V'):=by
 intro n
 induction n with
 |zero=>
  intro i V m hi hn hnd hs hr hm hc
  exfalso
  have:=List.Nodup.length_le_of_subset (l₂:=(List.range G.length).map fun (i:Nat)=>(i:Int)) hnd (fun w hw=>by
   have:=(hr w hw).2
   unfold xT at this
   rw [List.mem_map]
   exact ⟨w.toNat,List.mem_range.2 (by omega),by omega⟩)
  rw [List.length_map,List.length_range] at this
  omega
 |succ n ih=>
  intro i V m hi hn hnd hs hr hm hc
  have hgl:=hg.len
  have hVl:V.length<=G.length:=by
   have:=List.Nodup.length_le_of_subset (l₂:=(List.range G.length).map fun (i:Nat)=>(i:Int)) hnd (fun w hw=>by
    have:=(hr w hw).2
    unfold xT at this
    rw [List.mem_map]
    exact ⟨w.toNat,List.mem_range.2 (by omega),by omega⟩)
   rwa [List.length_map,List.length_range] at this
  by_cases hend:i < V.length/\V.length<=120
  ·obtain ⟨h1,h2⟩:=hend
   have hvi:V.getD i 0=V[i]:=by rw [List.getD_eq_getElem?_getD,List.getElem?_eq_getElem h1];rfl
   have hv:=hr _ (List.getElem_mem h1)
   have hnl:(vx G V[i]).Next.length<=G.length:=aHN (x:=⟨G,[],[]⟩) hg _
   obtain ⟨m',e1,hm'⟩:=bfs_row ht (N:=(vx G V[i]).Next) (fun w hw=>by have:=hg.nx _ w hw;omega) (by omega) (V:=V) (by omega) hm
   obtain ⟨f1,f2,f3,f4⟩:=aHL (vx G V[i]).Next V hnd
   have hst:fJ t G (V.map (yC t)) m (i:Int)=some (.inl (((vx G V[i]).Next.foldl oS V).map (yC t),m',((i+1:Nat):Int))):=by
    unfold fJ jI
    rw [List.length_map,if_pos (bZ h1),if_pos (by rw [decide_eq_true_iff];omega),bT (by rw [List.length_map];exact h1),List.getElem_map,aA,posT_eq ht hg hv.2,aA,e1,aA]
    unfold vK qL
    rw [bN h1 (by omega)]
   have hpre:∀ j,j < V.length->((vx G V[i]).Next.foldl oS V).getD j 0=V.getD j 0:=fun j hj=>by
    obtain ⟨r,e⟩:=f1
    rw [←e,List.getD_eq_getElem?_getD,List.getD_eq_getElem?_getD,List.getElem?_append_left hj]
   obtain ⟨V',g1,g2⟩:=ih (i+1) ((vx G V[i]).Next.foldl oS V) m' (by have:=f1.length_le;omega) (by omega) f2 ((f3 s).2 (.inl hs)) (fun v hv'=>by
     rcases (f3 v).1 hv' with h|h
     ·exact hr v h
     ·exact ⟨.step hv.1 h,hg.nx _ v h⟩) hm' (fun j hj w hw=>by
     rw [hpre j (by omega)] at hw
     by_cases hji:j < i
     ·exact (f3 w).2 (.inl (hc j hji w hw))
     ·obtain rfl:j=i:=by omega
      rw [hvi] at hw
      exact (f3 w).2 (.inr hw))
   refine ⟨V',?_,g2⟩
   rw [eJ (s':=(((vx G V[i]).Next.foldl oS V).map (yC t),m',((i+1:Nat):Int))) hst]
   exact g1
  ·refine ⟨V,eC ?_,hnd,hs,hr,fun hl v hv w hw=>?_⟩
   ·show fJ t G (V.map (yC t)) m (i:Int)=_
    unfold fJ jI
    rw [List.length_map]
    by_cases h1:i < V.length
    ·rw [if_pos (bZ h1),if_neg (by rw [decide_eq_true_iff];omega)]
    ·rw [if_neg (by rw [decide_eq_true_iff];omega),if_neg (by simp)]
   ·obtain ⟨j,hj,rfl⟩:=List.getElem_of_mem hv
    have:V.getD j 0=V[j]:=by rw [List.getD_eq_getElem?_getD,List.getElem?_eq_getElem hj];rfl
    exact hc j (by omega) w (by rw [this];exact hw)
end
end Gv
set_option linter.unusedVariables false
set_option linter.unusedSimpArgs false
namespace Gv
open Go
section
variable {f:List aO} {b:List Int} {t:cR}
noncomputable def ugF (f:List aO) (k:Nat):Bool:=(hY f (k:Int)).getD false
theorem ug_spec (hf:f.length<=30) (h:Tm b f) {k:Nat} (hk:k < f.length):hY f (k:Int)=some (ugF f k)/\(oW (dC f k)=true->ugF f k=decide ((dC f k).Kind=8)):=by
 have hj:∀ (i:Nat),i<=k->∀ v:Bool,(∃ s',fB f (i:Int) v=some (.inl s')/\(-1<=s'/\s'<=(k:Int))/\(s'+1).toNat < ((i:Int)+1).toNat)\/∃ r,fB f (i:Int) v=some (.inr r)/\True:=fun i hi v=>by
  unfold fB
  cases v with
  |true=>
   right
   rw [if_pos rfl,jF (by omega),aA]
   exact ⟨_,rfl,trivial⟩
  |false=>
   left
   rw [if_neg (by simp),bP (x:=(i:Int) - 1) (by omega) (by omega)]
   exact ⟨(i:Int) - 1,rfl,⟨by omega,by omega⟩,by omega⟩
 have key:∃ r,hY f (k:Int)=some r/\(oW (dC f k)=true->r=decide ((dC f k).Kind=8)):=by
  have hend:=pR (by omega) h hk
  by_cases hx:oW (dC f k)=true
  ·refine ⟨decide ((dC f k).Kind=8),?_,fun _=>rfl⟩
   have hfx:(dC f k).Kind=7\/(dC f k).Kind=8:=by unfold oW at hx;simpa using hx
   unfold hY
   rw [eC (r:=.inr (decide ((dC f k).Kind=8))) (by
    show cO f (k:Int) (k:Int)=_
    unfold cO
    rw [if_pos (by simp),jF hk,aA,oT,aA,if_pos (by simpa using hfx),hend.1,aA,decide_eq_true (by omega)]
    unfold fB
    rw [if_pos rfl,jF hk,aA]
    by_cases h8:(dC f k).Kind=8<;>simp [h8]),aA]
  ·have key:=mM (step:=fun s:Int=>cO f (k:Int) s) (fun s=>-1<=s/\s<=(k:Int)) (fun s=>(s+1).toNat) (fun _=>True) (fun s hs=>?_) (s:=(k:Int)) (by omega)
   ·obtain ⟨r,e1,_⟩:=key
    unfold hY
    rw [e1,aA]
    cases r with
    |inl r=>exact ⟨false,rfl,fun h=>absurd h hx⟩
    |inr r=>exact ⟨r,rfl,fun h=>absurd h hx⟩
   ·by_cases h0:s=-1
    ·subst h0
     right
     refine ⟨.inl (),?_,trivial⟩
     unfold cO
     rw [if_neg (by simp)]
    ·obtain ⟨i,rfl⟩:∃ i:Nat,s=(i:Int):=⟨s.toNat,by omega⟩
     have e1:=(pR (by omega) h (show i < f.length by omega)).1
     show (∃ s',cO f (k:Int) (i:Int)=some (.inl s')/\_)\/∃ r,cO f (k:Int) (i:Int)=some (.inr r)/\_
     unfold cO
     rw [if_pos (by simp),jF (by omega),aA,oT,aA,e1,aA]
     split<;>exact hj i (by omega) _
 obtain ⟨r,e,h2⟩:=key
 unfold ugF
 rw [e]
 exact ⟨rfl,h2⟩
theorem rw_lt (ht:cS t) {a c:Int} (ha:0<=a) (hc:0<=c):iH (yC t a) (yC t c)=iLt a c:=by
 have h1:=ht.1
 have e1:yC t a=R2 (prP t a):=rfl
 have e2:yC t c=R2 (prP t c):=rfl
 rw [e1,e2,qLt_row]
 have a1:=Int.mul_ediv_add_emod a t.N
 have a2:=Int.emod_nonneg a (show t.N≠0 by omega)
 have a3:=Int.emod_lt_of_pos a (show 0 < t.N by omega)
 have c1:=Int.mul_ediv_add_emod c t.N
 have c2:=Int.emod_nonneg c (show t.N≠0 by omega)
 have c3:=Int.emod_lt_of_pos c (show 0 < t.N by omega)
 have key:∀ {x y:Int},x < y->t.N * x+t.N<=t.N * y:=fun {x y} h=>by
  have:=Int.mul_le_mul_of_nonneg_left (show x+1<=y by omega) (show 0<=t.N by omega)
  rw [Int.mul_add,Int.mul_one] at this
  exact this
 have hq:qLt (prP t a) (prP t c)=true<->iLt a c=true:=by
  rw [qLt_iff]
  unfold iLt prP
  rw [decide_eq_true_iff]
  simp only
  constructor
  ·rintro (h|⟨h,h'⟩)
   ·have:=key h
    omega
   ·rw [h] at a1
    omega
  ·intro h
   rcases Int.lt_trichotomy (a / t.N) (c / t.N) with g|g|g
   ·exact .inl g
   ·refine .inr ⟨g,?_⟩
    rw [g] at a1
    omega
   ·have:=key g
    omega
 cases h1:qLt (prP t a) (prP t c) with
 |true=>rw [hq.1 h1]
 |false=>
  cases h2:iLt a c with
  |false=>rfl
  |true=>rw [hq.2 h2] at h1;cases h1
theorem rows_srt (ht:cS t) {V:List Int} (hV:∀ v∈V,0<=v) (hl:V.length<=100000):zJ (V.map (yC t))=some ((srt iLt V).map (yC t)):=by
 unfold zJ
 rw [if_pos ⟨by rw [List.length_map];unfold iC;omega,fun x hx=>by
  obtain ⟨v,_,rfl⟩:=List.mem_map.1 hx
  show 2 < iC
  unfold iC;omega⟩]
 congr 1
 unfold srt
 exact (List.map_mergeSort (r:=fun a b=>!iLt b a) (s:=fun a b=>!iH b a) (f:=yC t) (l:=V) (fun a ha c hc=>by rw [rw_lt ht (hV c hc) (hV a ha)])).symm
theorem aOc (ht:cS t) {N:List Int} (hN:∀ v∈N,0<=v/\v<=1000000) (hl:N.length<=1000):loop (fun s:List Int × Int=>fZ t (N.map (yC t)) s.1 s.2) ([],0)=some N:=by
 have key:=cV (step:=fun s:List Int × Int=>fZ t (N.map (yC t)) s.1 s.2) N.length (fun i (q:List Int)=>(q,(i:Int))) (fun i q=>q=N.take i) (fun r=>r=N) (fun i q hi hI=>?_) (fun q hI=>?_) N.length 0 [] (by omega) rfl
 ·obtain ⟨r,e1,e2⟩:=key
  rw [e2] at e1
  exact e1
 ·subst hI
  have hv:=hN _ (List.getElem_mem hi)
  refine ⟨_,?_,rfl⟩
  show fZ t (N.map (yC t)) (N.take i) (i:Int)=_
  unfold fZ
  rw [List.length_map,if_pos (bZ hi),bT (by rw [List.length_map];exact hi),List.getElem_map,aA,show ix (yC t N[i]) 0=some (N[i] / t.N) from rfl,aA,show ix (yC t N[i]) 1=some (N[i] % t.N) from rfl,aA,key_eq ht hv.1 hv.2,cI (by simp [iC];omega),aA,bN hi (by omega),List.take_succ_eq_append_getElem hi]
 ·refine ⟨q,?_,by rw [hI,List.take_length]⟩
  show fZ t (N.map (yC t)) q (N.length:Int)=_
  unfold fZ
  rw [List.length_map,if_neg (by simp)]
theorem places_eq {N L:List Int} (hN:N.length<=1000) (hL:L.length<=10000):aBD N L=some (iQ (srt iLt (L.map (pos N)))):=by
 have key:=aDC (step:=fun s:List Int × Int=>rN N L s.1 s.2) L (pos N) (fun r=>r) (fun k out w hk ho hw=>by
  show rN N L out (k:Int)=_
  unfold rN
  rw [if_pos (bZ hk),hw,aA,Index_int _ _ (by omega),aA,cI (by simp only [List.length_singleton];unfold iC;omega),aA,bN hk (by omega)]) (fun out=>by
  show rN N L out (L.length:Int)=_
  unfold rN
  rw [if_neg (by simp)])
 unfold aBD aCT
 rw [key,aA,sset_eq _ (by rw [List.length_map];omega),aA]
noncomputable def mkE (f:List aO) (t:cR) (N:List Int) (v:Int):aS:=⟨ugF f (dI t v),(vx (jE f t f.length) v).Owner == 1,iQ (srt iLt ((vx (jE f t f.length) v).Next.map (pos N)))⟩
noncomputable def eqL (f:List aO) (t:cR) (N:List Int):List aS:=N.map (mkE f t N)
theorem eqs_eq (hf:FOk f) (hT:Tm b f) (ht:cS t) (hg:GOk (jE f t f.length)) {N:List Int} (hN:∀ v∈N,xT (jE f t f.length) v) (hl:N.length<=1000):
  loop (fun s:List aS × Int=>fY f (jE f t f.length) (N.map (yC t)) N s.1 s.2) ([],0)=some (eqL f t N):=by
 have hlen:=hf.len
 have hgl:=hg.len
 have key:=cV (step:=fun s:List aS × Int=>fY f (jE f t f.length) (N.map (yC t)) N s.1 s.2) N.length (fun i (q:List aS)=>(q,(i:Int))) (fun i q=>q=(N.take i).map (mkE f t N)) (fun r=>r=eqL f t N) (fun i q hi hI=>?_) (fun q hI=>?_) N.length 0 [] (by omega) rfl
 ·obtain ⟨r,e1,e2⟩:=key
  rw [e2] at e1
  exact e1
 ·subst hI
  have hv:=hN _ (List.getElem_mem hi)
  obtain ⟨x,hx,hk,e⟩:=tX ht hv
  have hnl:(vx (jE f t f.length) N[i]).Next.length<=(jE f t f.length).length:=aHN (x:=⟨jE f t f.length,[],[]⟩) hg _
  have hnd:N[i] / t.N=((dI t N[i]:Nat):Int):=by
   have h1:=ht.1
   unfold dI
   have:=hv.1
   rw [Int.natCast_ediv,show ((N[i].toNat:Nat):Int)=N[i] by omega,show ((t.N.toNat:Nat):Int)=t.N by omega]
  refine ⟨_,?_,rfl⟩
  show fY f (jE f t f.length) (N.map (yC t)) N ((N.take i).map (mkE f t N)) (i:Int)=_
  unfold fY
  rw [List.length_map,if_pos (bZ hi),bT (by rw [List.length_map];exact hi),List.getElem_map,aA,bT hi,aA,ixV hv.1 hv.2,aA,show ix (yC t N[i]) 0=some (N[i] / t.N) from rfl,aA,hnd,(ug_spec hlen.2 hT hk).1,aA,places_eq hl (by omega),aA,cI (by simp [iC];omega),aA,bN hi (by omega),List.take_succ_eq_append_getElem hi,List.map_append]
  rfl
 ·refine ⟨q,?_,by rw [hI,List.take_length];rfl⟩
  show fY f (jE f t f.length) (N.map (yC t)) N q (N.length:Int)=_
  unfold fY
  rw [List.length_map,if_neg (by simp)]
theorem makeE_ok (hf:FOk f) (hT:Tm b f) (ht:cS t) (hlab:LabF t):∃ V:List Int,V.Nodup/\t.I∈V/\(∀ v∈V,RchF (jE f t f.length) t.I v/\xT (jE f t f.length) v)/\(V.length<=120->∀ v∈V,∀ w∈(vx (jE f t f.length) v).Next,w∈V)/\
  nH f t=some (if 120 < V.length then ([],[],false) else (eqL f t (srt iLt V),(srt iLt V).map (yC t),decide (jU (xQ (eqL f t (srt iLt V))) (V.length - 1) < 9))):=by
 have hS:=ht.1
 have hI:=ht.2.1
 have hlen:=hf.len
 obtain ⟨hg,hg1⟩:=aLL hf ht (by omega) hlab
 have hgl:=hg.len
 have hin:xT (jE f t f.length) t.I:=by
  have:=aLQ (f:=f) ht hlen.1 (x:=t.I) ⟨hI.1,by omega⟩
  rwa [show ((0:Nat):Int) * t.N+t.I=t.I by rw [show ((0:Nat):Int)=0 from rfl,Int.zero_mul,Int.zero_add]] at this
 have hr0:[([0,t.I]:List Int)]=[t.I].map (yC t):=by
  show _=[[t.I / t.N,t.I % t.N]]
  rw [Int.ediv_eq_zero_of_lt hI.1 (by omega),Int.emod_eq_of_lt hI.1 (by omega)]
 obtain ⟨V,e1,h1,h2,h3,h4⟩:=bfs_all ht hg (s:=t.I) ((jE f t f.length).length+1) 0 [t.I] (tF [] t.I true) (by simp) (by omega) (by simp) (by simp) (fun v hv=>by
  rw [List.mem_singleton] at hv
  subst hv
  exact ⟨.base,hin⟩) (fun w=>by
  rw [aGv]
  by_cases e:w=t.I
  ·rw [if_pos e,Option.getD_some,decide_eq_true (by simp [e])]
  ·rw [if_neg e,decide_eq_false (by simp [e])]
   rfl) (fun j hj=>by omega)
 refine ⟨V,h1,h2,h3,h4,?_⟩
 have hVl:V.length<=(jE f t f.length).length:=by
  have:=List.Nodup.length_le_of_subset (l₂:=(List.range (jE f t f.length).length).map fun (i:Nat)=>(i:Int)) h1 (fun w hw=>by
   have:=(h3 w hw).2
   unfold xT at this
   rw [List.mem_map]
   exact ⟨w.toNat,List.mem_range.2 (by omega),by omega⟩)
  rwa [List.length_map,List.length_range] at this
 have hsl:(srt iLt V).length=V.length:=List.length_mergeSort _
 have hsm:∀ v∈srt iLt V,xT (jE f t f.length) v:=fun v hv=>(h3 v (by unfold srt at hv;rwa [List.mem_mergeSort] at hv)).2
 unfold nH
 have e1':loop (fun s:List (List Int) × List (Int × Bool) × Int=>fJ t (jE f t f.length) s.1 s.2.1 s.2.2) ([([0,t.I]:List Int)],tF [] t.I true,0)=some (V.map (yC t)):=by
  rw [hr0]
  exact e1
 rw [game_eq hf ht (by omega) hlab,aA,aA,e1',aA]
 unfold qK
 rw [List.length_map]
 by_cases h120:120 < V.length
 ·rw [if_pos (by rw [decide_eq_true_iff];omega),if_pos h120]
 ·rw [if_neg (by rw [decide_eq_true_iff];omega),if_neg h120,rows_srt ht (fun v hv=>(h3 v hv).2.1) (by omega),aA,aOc ht (fun v hv=>by have:=hsm v hv;unfold xT at this;omega) (by omega),aA]
  unfold qJ qI
  have hel:(eqL f t (srt iLt V)).length=V.length:=by unfold eqL;rw [List.length_map,hsl]
  have hV1:1<=V.length:=List.length_pos_of_mem h2
  rw [eqs_eq hf hT ht hg hsm (by omega),aA,fit_eq _ (by omega) (by omega),hel,aA]
end
end Gv
set_option linter.unusedVariables false
set_option linter.unusedSimpArgs false
namespace Gv
open Go
section
variable (cs:aF)
theorem aLU {s1:Int} (s2:Int) (h:0<=s1/\s1<=100000000000) {l:List aF} (hl:l≠[]):∃ v s1' s2',oK cs s1 s2 l=some (v,s1',s2')/\v∈l/\s1<=s1'/\s1'<=s1+2:=by
 have h1:1<=(l.length:Int):=by
  have:=List.length_pos_iff.2 hl
  omega
 obtain ⟨v,a,b,e,hv,h2,h3⟩:=eN cs s2 h h1
 unfold oK
 rw [e,aA]
 simp only
 rw [aFQ hv.1 (by omega),aA]
 exact ⟨_,_,_,rfl,List.getElem_mem _,h2,h3⟩
theorem aNd {s1:Int} (s2:Int) (h:0<=s1/\s1<=10000000000):∃ k l n s1' s2',pJ cs s1 s2=some (⟨k,0,l,n⟩,s1',s2')/\(k=4\/k=5)/\PatOk l/\s1<=s1'/\s1'<=s1+6:=by
 unfold pJ
 obtain ⟨v,a,b,e,hv,h2,h3⟩:=eN cs s2 (s1:=s1) (n:=2) (by omega) (by omega)
 rw [e,aA]
 obtain ⟨l,a',b',e',hl,h4,h5⟩:=aLU cs b (s1:=a) (by omega) (l:=[([]:aF),([]:aF),([97]:aF),([98]:aF),([116,97,117]:aF),([103,101,116,42]:aF),([103,101,116,40,48,41]:aF),([99]:aF)]) (by simp)
 rw [e',aA]
 obtain ⟨n,a2,b2,e2,h6,h7⟩:=aFq cs b' (s1:=a') (n:=6) (by omega) (by omega)
 rw [e2,aA,bP (by simp only;omega) (by simp only;omega)]
 refine ⟨_,_,_,_,_,rfl,by simp only;omega,?_,by simp only;omega,by simp only;omega⟩
 have:∀ x∈[([]:aF),([]:aF),([97]:aF),([98]:aF),([116,97,117]:aF),([103,101,116,42]:aF),([103,101,116,40,48,41]:aF),([99]:aF)],x∈Pats:=by decide
 exact aLO (this _ hl)
theorem qu2 {a:Int} (h:0<=a) (h':a<=1000000):qu a 2=some (a / 2):=by
 unfold qu
 rw [if_neg (by omega),Int.tdiv_eq_ediv_of_nonneg h,bP (by omega) (by omega)]
theorem part_ok:∀ (n:Nat) (most:Int),0<=most->most<=100->most < n->∀ (b:List Int),(∀ v∈b,0<=v/\v<=2)->(b.length:Int)+most<=1000->∀ s1 s2:Int,0<=s1->s1+80 * most+20<=1000000000->
  ∃ L s1' s2',jL n cs s1 s2 b most=some (L,s1',s2')/\Tm b L/\(L.length:Int)<=4 * most+1/\s1<=s1'/\s1'<=s1+80 * most+20
 |0,most,h0,_,h1,_,_,_,_,_,_,_=>by omega
 |n+1,most,h0,h100,h1,b,hb,hbl,s1,s2,hs0,hs1=>by
  have ih:=part_ok n
  show ∃ L s1' s2',qX (jL n) cs s1 s2 b most=some (L,s1',s2')/\_
  generalize jL n=rec_ at ih
  unfold qX
  have hleaf:∀ x y,s1<=x->x<=s1+2->∀ v:Bool,(v=true->b≠[])->∃ L s1' s2',mG cs b x y v=some (L,s1',s2')/\Tm b L/\(L.length:Int)<=4 * most+1/\s1<=s1'/\s1'<=s1+80 * most+20:=by
   intro x y hx1 hx2 v hv
   unfold mG
   cases v with
   |true=>
    obtain ⟨w,a,c,e,hw,h2,h3⟩:=aBZ cs y (s1:=x) (by omega) (hv rfl)
    rw [if_pos rfl,e,aA]
    exact ⟨_,_,_,rfl,.var hw (hb w hw),by simp;omega,by simp only;omega,by simp only;omega⟩
   |false=>
    obtain ⟨w,a,c,e,hw,h2,h3⟩:=eN cs y (s1:=x) (n:=2) (by omega) (by omega)
    rw [if_neg (by simp),e,aA]
    exact ⟨_,_,_,rfl,.leaf (by simp only;omega),by simp;omega,by simp only;omega,by simp only;omega⟩
  by_cases hm:most<=0
  ·rw [if_pos (by simpa using hm)]
   by_cases hbz:0 < (b.length:Int)
   ·rw [if_pos (by simpa using hbz)]
    obtain ⟨w,a,c,e,hw,h2,h3⟩:=eN cs s2 (s1:=s1) (n:=4) (by omega) (by omega)
    rw [e,aA]
    exact hleaf a c h2 h3 _ fun _ hz=>by rw [hz] at hbz;simp at hbz
   ·rw [if_neg (by simpa using hbz)]
    exact hleaf s1 s2 (by omega) (by omega) false fun h=>by cases h
  ·rw [if_neg (by simpa using hm)]
   obtain ⟨w,a,c,e,hw,h2,h3⟩:=eN cs s2 (s1:=s1) (n:=6) (by omega) (by omega)
   rw [e,aA]
   have hj6:∀ v:Bool,∃ L s1' s2',mI rec_ cs b most (w,a,c) v=some (L,s1',s2')/\Tm b L/\(L.length:Int)<=4 * most+1/\s1<=s1'/\s1'<=s1+80 * most+20:=by
    intro v
    unfold mI
    cases v with
    |true=>
     obtain ⟨p,a1,c1,e1,hp,h4,h5⟩:=eN cs c (s1:=a) (n:=2) (by omega) (by omega)
     rw [if_pos rfl]
     simp only
     rw [e1,aA,bP (x:=most - 1) (by omega) (by omega),qu2 (by omega) (by omega),aA]
     obtain ⟨L,a2,c2,e2,hL,hl,h6,h7⟩:=ih ((most - 1) / 2) (by omega) (by omega) (by omega) b hb (by omega) a1 c1 (by omega) (by omega)
     simp only
     rw [e2,aA,aA]
     obtain ⟨M,a3,c3,e3,hM,hl',h8,h9⟩:=ih ((most - 1) / 2) (by omega) (by omega) (by omega) b hb (by omega) a2 c2 (by omega) (by omega)
     simp only
     rw [e3,aA,bP (x:=2+p) (by omega) (by omega),cI (by simp only [List.length_singleton];unfold iC;omega),aA,cI (by simp only [List.length_singleton,List.length_append];unfold iC;omega),aA]
     refine ⟨_,_,_,rfl,?_,?_,by simp only;omega,by simp only;omega⟩
     ·have:=Tm.bin (b:=b) (k:=2+p) (by omega) hL hM
      simpa using this
     ·simp only [List.length_append,List.length_singleton];omega
    |false=>
     rw [if_neg (by simp)]
     simp only
     by_cases h4:w=4
     ·rw [if_pos (by simpa using h4)]
      obtain ⟨p,a1,c1,e1,hp,g1,g2⟩:=eN cs c (s1:=a) (n:=2) (by omega) (by omega)
      rw [e1,aA]
      obtain ⟨q,a2,c2,e2,hq,g3,g4⟩:=eN cs c1 (s1:=a1) (n:=3) (by omega) (by omega)
      simp only
      unfold aER
      rw [e2,aA,cI (by simp only [List.length_nil];unfold iC;omega),aA,aA,List.nil_append,cI (by simp only [List.length_singleton];unfold iC;omega),aA]
      obtain ⟨L,a3,c3,e3,hL,hl,g5,g6⟩:=ih (most - 1) (by omega) (by omega) (by omega) (b++[q]) (fun v hv=>by
       rcases List.mem_append.1 hv with hv|hv
       ·exact hb v hv
       ·rw [List.mem_singleton] at hv;omega) (by rw [List.length_append,List.length_singleton];omega) a2 c2 (by omega) (by omega)
      unfold tM yI
      rw [bP (x:=most - 1) (by omega) (by omega)]
      simp only
      rw [e3,aA,bP (x:=7+p) (by omega) (by omega),cI (by simp only [List.length_singleton];unfold iC;omega),aA]
      refine ⟨_,_,_,rfl,?_,?_,by simp only;omega,by simp only;omega⟩
      ·exact Tm.fix (by omega) (by omega) hL
      ·simp only [List.length_append,List.length_singleton];omega
     ·rw [if_neg (by simpa using h4)]
      obtain ⟨d,a1,c1,e1,g1,g2⟩:=aFq cs c (s1:=a) (n:=2) (by omega) (by omega)
      rw [e1,aA]
      simp only
      cases d with
      |true=>
       rw [if_pos rfl,qu2 (by omega) (by omega),aA]
       obtain ⟨L,a2,c2,e2,hL,hl,g5,g6⟩:=ih (most / 2) (by omega) (by omega) (by omega) b hb (by omega) a1 c1 (by omega) (by omega)
       rw [e2,aA]
       exact ⟨_,_,_,rfl,hL,by simp only;omega,by simp only;omega,by simp only;omega⟩
      |false=>
       rw [if_neg (by simp)]
       obtain ⟨p,a2,c2,e2,hp,g3,g4⟩:=eN cs c1 (s1:=a1) (n:=2) (by omega) (by omega)
       rw [e2,aA]
       obtain ⟨q,a3,c3,e3,hq,g5,g6⟩:=eN cs c2 (s1:=a2) (n:=2) (by omega) (by omega)
       simp only
       rw [e3,aA]
       have hj5:∀ k:Int,k=2\/k=3->∃ L s1' s2',mH rec_ cs b most (p,a2,c2) (q,a3,c3) k=some (L,s1',s2')/\Tm b L/\(L.length:Int)<=4 * most+1/\s1<=s1'/\s1'<=s1+80 * most+20:=by
        intro k hk
        unfold mH aER
        rw [cI (by simp only [List.length_nil];unfold iC;omega),aA,aA,List.nil_append,cI (by simp only [List.length_singleton];unfold iC;omega),aA]
        obtain ⟨L,a4,c4,e4,hL,hl,g7,g8⟩:=ih (most / 2) (by omega) (by omega) (by omega) (b++[q]) (fun v hv=>by
         rcases List.mem_append.1 hv with hv|hv
         ·exact hb v hv
         ·rw [List.mem_singleton] at hv;omega) (by rw [List.length_append,List.length_singleton];omega) a3 c3 (by omega) (by omega)
        unfold tN
        rw [qu2 (by omega) (by omega),aA]
        simp only
        rw [e4,aA,bP (x:=7+p) (by omega) (by omega),cI (by simp only [List.length_cons,List.length_nil];unfold iC;omega),aA]
        obtain ⟨mk,ml,mn,a5,c5,e5,g9,g10,g11,g12⟩:=aNd cs c4 (s1:=a4) (by omega)
        simp only
        rw [e5,aA,cI (by simp only [List.length_append,List.length_cons,List.length_nil];unfold iC;omega),aA,cI (by simp only [List.length_append,List.length_cons,List.length_nil];unfold iC;omega),aA]
        refine ⟨_,_,_,rfl,?_,?_,by simp only;omega,by simp only;omega⟩
        ·have hv:Tm (b++[q]) [⟨6,q,[],false⟩]:=.var (by simp) (by omega)
         have:=Tm.fix (b:=b) (k:=7+p) (v:=q) (by omega) (by omega) (Tm.bin (k:=k) hk hL (Tm.mod (k:=mk) (l:=ml) (n:=mn) g9 g10 hv))
         simpa using this
        ·simp only [List.length_append,List.length_cons,List.length_nil];omega
       split
       ·exact hj5 2 (.inl rfl)
       ·exact hj5 3 (.inr rfl)
   have hj7t:∃ L s1' s2',iI rec_ cs b most (w,a,c) true=some (L,s1',s2')/\Tm b L/\(L.length:Int)<=4 * most+1/\s1<=s1'/\s1'<=s1+80 * most+20:=by
    unfold iI
    rw [if_pos rfl]
    obtain ⟨mk,ml,mn,a5,c5,e5,g9,g10,g11,g12⟩:=aNd cs c (s1:=a) (by omega)
    simp only
    rw [e5,aA,bP (x:=most - 1) (by omega) (by omega)]
    obtain ⟨L,a2,c2,e2,hL,hl,g5,g6⟩:=ih (most - 1) (by omega) (by omega) (by omega) b hb (by omega) a5 c5 (by omega) (by omega)
    simp only
    rw [e2,aA,cI (by simp only [List.length_singleton];unfold iC;omega),aA]
    refine ⟨_,_,_,rfl,Tm.mod g9 g10 hL,?_,by simp only;omega,by simp only;omega⟩
    simp only [List.length_append,List.length_singleton];omega
   have hj7:∀ v:Bool,∃ L s1' s2',iI rec_ cs b most (w,a,c) v=some (L,s1',s2')/\Tm b L/\(L.length:Int)<=4 * most+1/\s1<=s1'/\s1'<=s1+80 * most+20:=by
    intro v
    cases v with
    |true=>exact hj7t
    |false=>
     unfold iI
     rw [if_neg (by simp)]
     split<;>exact hj6 _
   simp only
   split<;>exact hj7 _
end
end Gv
