/- Parity games with parts that are won, attractors, and games that go in step. Plain Lean. -/
import Derived.Test.YtnelhgfdoneljaaGreatDoorJP90
set_option linter.all false
set_option linter.unusedVariables false
namespace Gv
structure PG (V:Type) where
 own:V->Int
 pr:V->Int
 E:V->V->Prop
section
variable {V U:Type}
def Good (pr:V->Int) (p:Int) (f:Nat->V):Prop:=
 ∃ m:Int,m % 2=p/\(∀ N,∃ n,N<=n/\pr (f n)=m)/\∃ N,∀ n,N<=n->m<=pr (f n)
theorem Good.tail {pr:V->Int} {p:Int} {f:Nat->V} (k:Nat) (h:Good pr p fun n=>f (n+k)):Good pr p f:=by
 obtain ⟨m,h1,h2,N,h3⟩:=h
 refine ⟨m,h1,fun N'=>?_,N+k,fun n hn=>?_⟩
 ·obtain ⟨n,hn,e⟩:=h2 N'
  exact ⟨n+k,by omega,e⟩
 ·have:=h3 (n - k) (by omega)
  simp only at this
  rw [Nat.sub_add_cancel (by omega)] at this
  exact this
theorem Good.one {pr:V->Int} {pr':U->Int} {p q:Int} {f:Nat->V} {g:Nat->U} (e:∀ n,pr (f n)=pr' (g n)) (h:Good pr p f) (h':Good pr' q g):p=q:=by
 obtain ⟨m,h1,h2,N,h3⟩:=h
 obtain ⟨m',h1',h2',N',h3'⟩:=h'
 obtain ⟨n,hn,e1⟩:=h2 N'
 obtain ⟨n',hn',e1'⟩:=h2' N
 have a:=h3 n' hn'
 have b:=h3' n hn
 rw [e n'] at a
 rw [←e n] at b
 rw [e1'] at a
 rw [e1] at b
 have:m=m':=by omega
 rw [←h1,←h1',this]
structure Reg (G:PG V) (A:V->Prop) (p:Int) (W:V->Prop) (σ:V->V):Prop where
 sub:∀ v,W v->A v
 mine:∀ v,W v->G.own v=p->G.E v (σ v)/\W (σ v)
 theirs:∀ v,W v->G.own v≠p->∀ w,G.E v w->A w->W w
 good:∀ f:Nat->V,(∀ n,W (f n))->(∀ n,G.E (f n) (f (n+1)))->(∀ n,G.own (f n)=p->f (n+1)=σ (f n))->Good G.pr p f
structure Att (G:PG V) (A:V->Prop) (p:Int) (S T:V->Prop) (rk:V->Nat) (σ:V->V):Prop where
 sub:∀ v,S v->T v
 inA:∀ v,T v->A v
 mine:∀ v,T v->¬ S v->G.own v=p->G.E v (σ v)/\T (σ v)/\rk (σ v) < rk v
 theirs:∀ v,T v->¬ S v->G.own v≠p->∀ w,G.E v w->A w->T w/\rk w < rk v
 outM:∀ v,A v->¬ T v->G.own v=p->∀ w,G.E v w->¬ T w
 outT:∀ v,A v->¬ T v->G.own v≠p->(∃ w,G.E v w/\A w)->∃ w,G.E v w/\A w/\¬ T w
variable {G:PG V} {A A' B W S T:V->Prop} {p:Int} {rk:V->Nat} {σ τ:V->V}
theorem Reg.stay (h:Reg G A p W σ) {f:Nat->V} (hA:∀ n,A (f n)) (hE:∀ n,G.E (f n) (f (n+1))) (hs:∀ n,W (f n)->G.own (f n)=p->f (n+1)=σ (f n)) {k:Nat} (hk:W (f k)):∀ n,W (f (n+k)):=by
 intro n
 induction n with
 |zero=>rw [Nat.zero_add];exact hk
 |succ n ih=>
  rw [show n+1+k=(n+k)+1 by omega]
  by_cases ho:G.own (f (n+k))=p
  ·rw [hs _ ih ho];exact (h.mine _ ih ho).2
  ·exact h.theirs _ ih ho _ (hE _) (hA _)
theorem Reg.win (h:Reg G A p W σ) {f:Nat->V} (hA:∀ n,A (f n)) (hE:∀ n,G.E (f n) (f (n+1))) (hs:∀ n,W (f n)->G.own (f n)=p->f (n+1)=σ (f n)) {k:Nat} (hk:W (f k)):Good G.pr p f:=by
 have hw:=h.stay hA hE hs hk
 refine Good.tail k (h.good _ hw (fun n=>?_) fun n ho=>?_)
 ·rw [show n+1+k=(n+k)+1 by omega];exact hE _
 ·rw [show n+1+k=(n+k)+1 by omega];exact hs _ (hw n) ho
theorem Att.hit (h:Att G A p S T rk σ) {f:Nat->V} (hA:∀ n,A (f n)) (hE:∀ n,G.E (f n) (f (n+1))) (hs:∀ n,T (f n)->¬ S (f n)->G.own (f n)=p->f (n+1)=σ (f n)):∀ r k,rk (f k)<=r->T (f k)->∃ n,k<=n/\S (f n):=by
 intro r
 induction r with
 |zero=>
  intro k hk ht
  by_cases hS:S (f k)
  ·exact ⟨k,Nat.le_refl _,hS⟩
  ·exfalso
   by_cases ho:G.own (f k)=p
   ·have:=(h.mine _ ht hS ho).2.2;omega
   ·have:=(h.theirs _ ht hS ho _ (hE k) (hA _)).2;omega
 |succ r ih=>
  intro k hk ht
  by_cases hS:S (f k)
  ·exact ⟨k,Nat.le_refl _,hS⟩
  ·have key:T (f (k+1))/\rk (f (k+1)) < rk (f k):=by
    by_cases ho:G.own (f k)=p
    ·have:=h.mine _ ht hS ho
     rw [hs k ht hS ho]
     exact this.2
    ·exact h.theirs _ ht hS ho _ (hE k) (hA _)
   obtain ⟨n,h1,h2⟩:=ih (k+1) (by omega) key.1
   exact ⟨n,by omega,h2⟩
open Classical in
theorem attReg (h:Reg G A p W τ) (ha:Att G A p W T rk σ):Reg G A p T (fun v=>if W v then τ v else σ v) where
 sub:=ha.inA
 mine:=fun v hv ho=>by
  by_cases hw:W v
  ·rw [if_pos hw];exact ⟨(h.mine v hw ho).1,ha.sub _ (h.mine v hw ho).2⟩
  ·rw [if_neg hw];exact ⟨(ha.mine v hv hw ho).1,(ha.mine v hv hw ho).2.1⟩
 theirs:=fun v hv ho w hE hA=>by
  by_cases hw:W v
  ·exact ha.sub _ (h.theirs v hw ho w hE hA)
  ·exact (ha.theirs v hv hw ho w hE hA).1
 good:=fun f hT hE hs=>by
  have hA:∀ n,A (f n):=fun n=>ha.inA _ (hT n)
  obtain ⟨k,_,hk⟩:=ha.hit hA hE (fun n _ hw ho=>by rw [hs n ho,if_neg hw]) _ 0 (Nat.le_refl _) (hT 0)
  exact h.win hA hE (fun n hw ho=>by rw [hs n ho,if_pos hw]) hk
theorem aLa (h:Reg G A' p W τ) (hs:∀ v,A' v->A v) (ho:∀ v,W v->G.own v≠p->∀ w,G.E v w->A w->A' w):Reg G A p W τ where
 sub:=fun v hv=>hs v (h.sub v hv)
 mine:=h.mine
 theirs:=fun v hv hp w hE hA=>h.theirs v hv hp w hE (ho v hv hp w hE hA)
 good:=h.good
open Classical in
theorem aLb (h:Reg G A p B τ) (h':Reg G A' p W σ) (hs:∀ v,A' v<->A v/\¬ B v):Reg G A p (fun v=>B v\/W v) (fun v=>if B v then τ v else σ v) where
 sub:=fun v hv=>hv.elim (h.sub v) fun hw=>((hs v).1 (h'.sub v hw)).1
 mine:=fun v hv ho=>by
  by_cases hb:B v
  ·rw [if_pos hb];exact ⟨(h.mine v hb ho).1,.inl (h.mine v hb ho).2⟩
  ·rw [if_neg hb]
   have hw:=hv.resolve_left hb
   exact ⟨(h'.mine v hw ho).1,.inr (h'.mine v hw ho).2⟩
 theirs:=fun v hv ho w hE hA=>by
  by_cases hb:B v
  ·exact .inl (h.theirs v hb ho w hE hA)
  ·by_cases hb':B w
   ·exact .inl hb'
   ·exact .inr (h'.theirs v (hv.resolve_left hb) ho w hE ((hs w).2 ⟨hA,hb'⟩))
 good:=fun f hW hE hg=>by
  have hA:∀ n,A (f n):=fun n=>(hW n).elim (h.sub _) fun hw=>((hs _).1 (h'.sub _ hw)).1
  by_cases hk:∃ k,B (f k)
  ·obtain ⟨k,hk⟩:=hk
   exact h.win hA hE (fun n hb ho=>by rw [hg n ho,if_pos hb]) hk
  ·have hn:∀ n,¬ B (f n):=fun n hb=>hk ⟨n,hb⟩
   exact h'.good f (fun n=>(hW n).resolve_left (hn n)) hE fun n ho=>by rw [hg n ho,if_neg (hn n)]
open Classical in
theorem allReg {m:Int} (hm:m % 2=p) (hle:∀ v,A v->m<=G.pr v) (hS:∀ v,S v<->A v/\G.pr v=m) (ha:Att G A p S T rk σ) (hA':∀ v,A' v<->A v/\¬ T v) (h:Reg G A' p A' τ) (hd:∀ v,A v->∃ w,G.E v w/\A w):
  ∃ ρ,Reg G A p A ρ:=by
 have hc:∃ c:V->V,∀ v,A v->G.E v (c v)/\A (c v):=
  ⟨fun v=>if hv:A v then (hd v hv).choose else v,fun v hv=>by simp only [hv,dite_true];exact (hd v hv).choose_spec⟩
 obtain ⟨c,hc⟩:=hc
 refine ⟨fun v=>if S v then c v else if T v then σ v else τ v,fun v hv=>hv,fun v hv ho=>?_,fun v hv ho w hE hw=>hw,fun f hA hE hs=>?_⟩
 ·by_cases h1:S v
  ·rw [if_pos h1];exact hc v hv
  ·rw [if_neg h1]
   by_cases h2:T v
   ·rw [if_pos h2];exact ⟨(ha.mine v h2 h1 ho).1,ha.inA _ (ha.mine v h2 h1 ho).2.1⟩
   ·rw [if_neg h2]
    have:=h.mine v ((hA' v).2 ⟨hv,h2⟩) ho
    exact ⟨this.1,((hA' _).1 this.2).1⟩
 ·by_cases hi:∀ N,∃ n,N<=n/\S (f n)
  ·exact ⟨m,hm,fun N=>let ⟨n,h1,h2⟩:=hi N;⟨n,h1,((hS _).1 h2).2⟩,0,fun n _=>hle _ (hA n)⟩
  ·obtain ⟨N,hN⟩:=Classical.not_forall.1 hi
   have hN':∀ n,N<=n->¬ S (f n):=fun n hn hs'=>hN ⟨n,hn,hs'⟩
   have hT:∀ n,N<=n->¬ T (f n):=fun n hn ht=>by
    obtain ⟨k,hk,hk'⟩:=ha.hit hA hE (fun n ht hw ho=>by rw [hs n ho,if_neg hw,if_pos ht]) _ n (Nat.le_refl _) ht
    exact hN' k (by omega) hk'
   refine Good.tail N (h.good _ (fun n=>(hA' _).2 ⟨hA _,hT _ (by omega)⟩) (fun n=>?_) fun n ho=>?_)
   ·rw [show n+1+N=(n+N)+1 by omega];exact hE _
   ·rw [show n+1+N=(n+N)+1 by omega,hs _ ho,if_neg (hN' _ (by omega)),if_neg (hT _ (by omega))]
theorem lockstep {G:PG V} {H:PG U} {R:V->U->Prop} {A:V->Prop} {A':U->Prop} {W:V->Prop} {W':U->Prop} {p q:Int} {σ:V->V} {τ:U->U}
  (hR:∀ x y,R x y->W x->W' y->G.own x=H.own y/\G.pr x=H.pr y/\(G.own x=p\/G.own x=q)/\(∀ x',G.E x x'->A x'/\∃ y',H.E y y'/\R x' y')/\(∀ y',H.E y y'->A' y'/\∃ x',G.E x x'/\R x' y'))
  (h0:Reg G A p W σ) (h1:Reg H A' q W' τ) (hq:p≠q) {x:V} {y:U} (hxy:R x y) (hx:W x) (hy:W' y):False:=by
 have step:∀ s:{s:V × U // R s.1 s.2/\W s.1/\W' s.2},∃ s':{s:V × U // R s.1 s.2/\W s.1/\W' s.2},G.E s.1.1 s'.1.1/\H.E s.1.2 s'.1.2/\(G.own s.1.1=p->s'.1.1=σ s.1.1)/\(H.own s.1.2=q->s'.1.2=τ s.1.2):=by
  rintro ⟨⟨a,b⟩,hab,ha,hb⟩
  obtain ⟨e1,e2,e3,e4,e5⟩:=hR a b hab ha hb
  simp only at hab ha hb ⊢
  by_cases ho:G.own a=p
  ·obtain ⟨m1,m2⟩:=h0.mine a ha ho
   obtain ⟨g1,b',g2,g3⟩:=e4 _ m1
   have hob:H.own b≠q:=by rw [←e1,ho];exact hq
   exact ⟨⟨(σ a,b'),g3,m2,h1.theirs b hb hob b' g2 (e5 b' g2).1⟩,m1,g2,fun _=>rfl,fun h=>absurd h hob⟩
  ·have hob:H.own b=q:=by rw [←e1];exact e3.resolve_left ho
   obtain ⟨m1,m2⟩:=h1.mine b hb hob
   obtain ⟨g1,a',g2,g3⟩:=e5 _ m1
   exact ⟨⟨(a',τ b),g3,h0.theirs a ha ho a' g2 (e4 a' g2).1,m2⟩,g2,m1,fun h=>absurd h ho,fun _=>rfl⟩
 obtain ⟨nx,hnx⟩:=Classical.axiomOfChoice step
 let f:Nat->{s:V × U // R s.1 s.2/\W s.1/\W' s.2}:=fun n=>Nat.rec ⟨(x,y),hxy,hx,hy⟩ (fun _ s=>nx s) n
 have hf:∀ n,f (n+1)=nx (f n):=fun n=>rfl
 have a1:=h0.good (fun n=>(f n).1.1) (fun n=>(f n).2.2.1) (fun n=>by rw [hf];exact (hnx (f n)).1) fun n ho=>by rw [hf];exact (hnx (f n)).2.2.1 ho
 have a2:=h1.good (fun n=>(f n).1.2) (fun n=>(f n).2.2.2) (fun n=>by rw [hf];exact (hnx (f n)).2.1) fun n ho=>by rw [hf];exact (hnx (f n)).2.2.2 ho
 exact hq (Good.one (fun n=>(hR _ _ (f n).2.1 (f n).2.2.1 (f n).2.2.2).2.1) a1 a2)
end
end Gv
set_option linter.unusedVariables false
set_option linter.unusedSimpArgs false
namespace Gv
open Go
def vx (g:List bM) (v:Int):bM:=g.getD v.toNat default
def gg (g:List bM):PG Int where
 own v:=(vx g v).Owner
 pr v:=(vx g v).Priority
 E v w:=w∈(vx g v).Next
structure GOk (g:List bM):Prop where
 len:g.length<=10000
 own:∀ v,(vx g v).Owner=0\/(vx g v).Owner=1
 pr:∀ v,0<=(vx g v).Priority/\(vx g v).Priority<=1000000
 nx:∀ v,∀ w∈(vx g v).Next,0<=w/\w < (g.length:Int)
 nd:∀ v,(vx g v).Next.Nodup
def On (m:List Bool) (v:Int):Prop:=0<=v/\m.getD v.toNat false=true
instance (m:List Bool) (v:Int):Decidable (On m v):=inferInstanceAs (Decidable (_/\_))
theorem On.lt {m:List Bool} {v:Int} (h:On m v):v.toNat < m.length:=by
 obtain ⟨h0,h1⟩:=h
 rw [List.getD_eq_getElem?_getD] at h1
 by_cases hl:v.toNat < m.length
 ·exact hl
 ·rw [List.getElem?_eq_none (by omega)] at h1
  cases h1
theorem ixOn {m:List Bool} {v:Int} (h0:0<=v) (h:v < (m.length:Int)):ix m v=some (decide (On m v)):=by
 have e:m.getD v.toNat false=m[v.toNat]'(by omega):=by rw [List.getD_eq_getElem?_getD,List.getElem?_eq_getElem (by omega)];rfl
 unfold ix
 rw [if_pos h0,List.getElem?_eq_getElem (by omega)]
 congr 1
 by_cases hb:On m v
 ·rw [decide_eq_true hb,←e];exact hb.2
 ·rw [decide_eq_false hb,←e]
  cases hx:m.getD v.toNat false with
  |false=>rfl
  |true=>exact absurd ⟨h0,hx⟩ hb
theorem ixV {g:List bM} {v:Int} (h0:0<=v) (h:v < (g.length:Int)):ix g v=some (vx g v):=by
 unfold ix vx
 rw [if_pos h0,List.getD_eq_getElem?_getD,List.getElem?_eq_getElem (by omega)]
 rfl
theorem aHA (m:List Bool) (h:m.length<=100000):aBu m=some (((List.range m.length).filter fun k=>m.getD k false).map fun k:Nat=>(k:Int)):=by
 unfold aBu
 have key:=aCv (step:=fun s:List Int × Int=>rV m s.1 s.2) (List.range m.length) (fun k=>m.getD k false) (fun k:Nat=>(k:Int)) (fun o=>o) (fun k out x hk ho hx=>?_) (fun out=>?_)
 ·rw [key];rfl
 ·rw [List.length_range] at hk
  rw [aBb,List.getElem?_eq_getElem (by simpa using hk),List.getElem_range] at hx
  cases hx
  show rV m out (k:Int)=_
  unfold rV
  rw [if_pos (bU hk),bK hk,aA,show m.getD k false=m[k] by rw [List.getD_eq_getElem?_getD,List.getElem?_eq_getElem hk];rfl]
  unfold zU
  rw [bI hk (by omega)]
  by_cases hb:m[k]=true
  ·rw [if_pos hb,cE (by simp only [List.length_singleton];unfold gQ;omega),aA,if_pos hb]
  ·rw [if_neg hb,if_neg hb]
 ·show rV m out ((List.range m.length).length:Int)=_
  rw [List.length_range]
  unfold rV
  rw [if_neg (by simp)]
def onL (m:List Bool):List Int:=((List.range m.length).filter fun k=>m.getD k false).map fun k:Nat=>(k:Int)
theorem nS {m:List Bool} {v:Int}:v∈onL m<->On m v:=by
 unfold onL
 rw [List.mem_map]
 constructor
 ·rintro ⟨k,hk,rfl⟩
  rw [List.mem_filter] at hk
  exact ⟨Int.natCast_nonneg k,by simpa using hk.2⟩
 ·intro h
  refine ⟨v.toNat,List.mem_filter.2 ⟨List.mem_range.2 h.lt,h.2⟩,?_⟩
  have:=h.1
  omega
theorem aKu (m:List Bool):(onL m).Nodup:=by
 unfold onL
 have h1:((List.range m.length).filter fun k=>m.getD k false).Nodup:=List.nodup_range.filter _
 exact List.pairwise_map.2 (h1.imp fun h e=>h (by omega))
structure AOk (x:eO):Prop where
 g:GOk x.g
 inl:x.in_.length=x.g.length
 bl:x.back.length=x.g.length
 bk:∀ v:Int,0<=v->v < (x.g.length:Int)->∀ k:Int,k∈x.back.getD v.toNat []<->0<=k/\k < (x.g.length:Int)/\v∈(vx x.g k).Next
 bnd:∀ v:Nat,(x.back.getD v []).Nodup
def ex (x:eO) (k:Int) (P:List Int):Nat:=((vx x.g k).Next.filter fun w=>decide (On x.in_ w)&&!decide (w∈P)).length
section
variable {x:eO}
theorem nx_len (h:GOk x.g) (k:Int):(vx x.g k).Next.length<=x.g.length:=by
 have:=List.Nodup.length_le_of_subset (l₂:=(List.range x.g.length).map fun (i:Nat)=>(i:Int)) (h.nd k) (fun w hw=>by
  have:=h.nx k w hw
  rw [List.mem_map]
  exact ⟨w.toNat,List.mem_range.2 (by omega),by omega⟩)
 simpa using this
theorem exits_eq (h:AOk x) {k:Int} (h0:0<=k) (h1:k < (x.g.length:Int)):uE x k=some ((ex x k []:Nat):Int):=by
 unfold uE
 rw [ixV h0 h1,aA]
 have hl:=nx_len h.g k
 have hg:=h.g.len
 have hin:=h.g.nx k
 unfold ex
 generalize hv:(vx x.g k).Next=N at hl hin ⊢
 have key:=bZ (step:=fun s:Int × Int=>iC x (vx x.g k) s.1 s.2) N.length (fun i (q:Int)=>(q,(i:Int))) (fun i q=>q=(((N.take i).filter fun w=>decide (On x.in_ w)&&!decide (w∈([]:List Int))).length:Nat))
  (fun r=>r=((N.filter fun w=>decide (On x.in_ w)&&!decide (w∈([]:List Int))).length:Nat)) (fun i q hi hI=>?_) (fun q hI=>?_) N.length 0 0 (by omega) (by simp)
 ·obtain ⟨r,e1,e2⟩:=key
  have e1':loop (fun s:Int × Int=>iC x (vx x.g k) s.1 s.2) (0,0)=some r:=e1
  rw [e1',aA,e2]
  rfl
 ·show ∃ q',iC x (vx x.g k) q (i:Int)=some (.inl (q',((i+1:Nat):Int)))/\_
  have hw:=hin _ (List.getElem_mem hi)
  have hc:(((N.take i).filter fun w=>decide (On x.in_ w)&&!decide (w∈([]:List Int))).length)<=i:=Nat.le_trans (List.length_filter_le _ _) (by rw [List.length_take];omega)
  unfold iC
  rw [hv,if_pos (bU hi),bK hi,aA,ixOn hw.1 (by rw [h.inl];exact hw.2),aA]
  unfold oY
  rw [bI hi (by omega),cF (x:=q+1) (by omega) (by omega),List.take_succ_eq_append_getElem hi,List.filter_append,List.length_append,hI]
  by_cases hb:On x.in_ N[i]
  ·rw [if_pos (by simpa using hb)]
   exact ⟨_,rfl,by simp [hb]⟩
  ·rw [if_neg (by simpa using hb)]
   exact ⟨_,rfl,by simp [hb]⟩
 ·refine ⟨q,?_,by rw [hI,List.take_length]⟩
  show iC x (vx x.g k) q (N.length:Int)=_
  unfold iC
  rw [hv,if_neg (by simp)]
structure AI (x:eO) (player:Int) (set:List Bool) (ord:List Int) (pr:Int->List Int) (out:List Bool) (left:List (Int × Int)):Prop where
 ol:out.length=x.g.length
 nd:ord.Nodup
 mem:∀ v,v∈ord<->On out v
 ina:∀ v∈ord,On x.in_ v
 sub:∀ v,On set v->v∈ord
 jm:∀ v∈ord,¬ On set v->(vx x.g v).Owner=player->∃ w∈(vx x.g v).Next,w∈ord/\ord.idxOf w < ord.idxOf v
 jt:∀ v∈ord,¬ On set v->(vx x.g v).Owner≠player->∀ w∈(vx x.g v).Next,On x.in_ w->w∈ord/\ord.idxOf w < ord.idxOf v
 cl:∀ k,On x.in_ k->(vx x.g k).Owner=player->(∃ w∈(vx x.g k).Next,w∈pr k)->k∈ord
 ct:∀ k,On x.in_ k->(vx x.g k).Owner≠player->k∉ord->(jG left k=none/\∀ w∈(vx x.g k).Next,w∉pr k)\/(jG left k=some ((ex x k (pr k):Nat):Int)/\0 < ex x k (pr k))
theorem AI.len {player:Int} {set:List Bool} {ord:List Int} {pr:Int->List Int} {out:List Bool} {left:List (Int × Int)} (h:AI x player set ord pr out left) (hx:AOk x):ord.length<=x.g.length:=by
 have:=List.Nodup.length_le_of_subset (l₂:=(List.range x.g.length).map fun (i:Nat)=>(i:Int)) h.nd (fun w hw=>by
  have h1:=(h.mem w).1 hw
  have h2:=h1.lt
  have h3:=h1.1
  rw [h.ol] at h2
  rw [List.mem_map]
  exact ⟨w.toNat,List.mem_range.2 h2,by omega⟩)
 simpa using this
theorem AI.see {player:Int} {set:List Bool} {ord:List Int} {pr pr':Int->List Int} {out:List Bool} {left:List (Int × Int)} (h:AI x player set ord pr out left) (e:∀ k,On x.in_ k->∀ w∈(vx x.g k).Next,w∈pr' k<->w∈pr k):AI x player set ord pr' out left where
 ol:=h.ol
 nd:=h.nd
 mem:=h.mem
 ina:=h.ina
 sub:=h.sub
 jm:=h.jm
 jt:=h.jt
 cl:=fun k hk ho ⟨w,hw,hp⟩=>h.cl k hk ho ⟨w,hw,(e k hk w hw).1 hp⟩
 ct:=fun k hk ho hn=>by
  have hex:ex x k (pr' k)=ex x k (pr k):=by
   unfold ex
   congr 1
   refine List.filter_congr fun w hw=>?_
   rw [decide_eq_decide.2 (e k hk w hw)]
  rcases h.ct k hk ho hn with ⟨a,b⟩|⟨a,b⟩
  ·exact .inl ⟨a,fun w hw hp=>b w hw ((e k hk w hw).1 hp)⟩
  ·rw [hex];exact .inr ⟨a,b⟩
theorem aFs {l:List Int} {w k:Int} (h:w∈l):(l++[k]).idxOf w=l.idxOf w:=by rw [List.idxOf_append,if_pos h]
theorem idx_new {l:List Int} {k:Int} (h:k∉l):(l++[k]).idxOf k=l.length:=by
 rw [List.idxOf_append,if_neg h]
 simp
theorem set_on {m:List Bool} {k v:Int} (h0:0<=k) (h1:k.toNat < m.length):On (m.set k.toNat true) v<->On m v\/v=k:=by
 unfold On
 rw [List.getD_eq_getElem?_getD,List.getD_eq_getElem?_getD,List.getElem?_set]
 by_cases e:v=k
 ·subst e
  simp [h0,h1]
 ·by_cases hv:0<=v
  ·rw [if_neg (by omega)]
   simp [e]
  ·simp [hv,e]
theorem AI.add {player:Int} {set:List Bool} {ord:List Int} {pr:Int->List Int} {out:List Bool} {left left':List (Int × Int)} {k:Int} (h:AI x player set ord pr out left) (hx:AOk x) (hk:On x.in_ k) (hn:k∉ord)
  (hm:(vx x.g k).Owner=player->∃ w∈(vx x.g k).Next,w∈ord) (ht:(vx x.g k).Owner≠player->∀ w∈(vx x.g k).Next,On x.in_ w->w∈ord) (hl:∀ j,j≠k->jG left' j=jG left j) {pr':Int->List Int} (hp:∀ j,j≠k->pr' j=pr j):AI x player set (ord++[k]) pr' (out.set k.toNat true) left':=by
 have hk1:=hk.lt
 have hk0:=hk.1
 have hlk:k.toNat < out.length:=by rw [h.ol,←hx.inl];exact hk1
 have hlt:∀ w∈ord,ord.idxOf w < ord.length:=fun w hw=>List.idxOf_lt_length_iff.2 hw
 refine ⟨by rw [List.length_set];exact h.ol,?_,fun v=>?_,fun v hv=>?_,fun v hv=>List.mem_append_left _ (h.sub v hv),fun v hv hs ho=>?_,fun v hv hs ho w hw hi=>?_,fun j hj ho hw=>?_,fun j hj ho hnj=>?_⟩
 ·rw [List.nodup_append]
  exact ⟨h.nd,by simp,fun a ha b hb e=>by simp at hb;subst hb;subst e;exact hn ha⟩
 ·rw [set_on hk0 hlk,←h.mem v,List.mem_append,List.mem_singleton]
 ·rcases List.mem_append.1 hv with hv|hv
  ·exact h.ina v hv
  ·rw [List.mem_singleton] at hv;rw [hv];exact hk
 ·rcases List.mem_append.1 hv with hv|hv
  ·obtain ⟨w,h1,h2,h3⟩:=h.jm v hv hs ho
   exact ⟨w,h1,List.mem_append_left _ h2,by rw [aFs h2,aFs hv];exact h3⟩
  ·rw [List.mem_singleton] at hv
   subst hv
   obtain ⟨w,h1,h2⟩:=hm ho
   exact ⟨w,h1,List.mem_append_left _ h2,by rw [aFs h2,idx_new hn];exact hlt w h2⟩
 ·rcases List.mem_append.1 hv with hv|hv
  ·obtain ⟨h2,h3⟩:=h.jt v hv hs ho w hw hi
   exact ⟨List.mem_append_left _ h2,by rw [aFs h2,aFs hv];exact h3⟩
  ·rw [List.mem_singleton] at hv
   subst hv
   have h2:=ht ho w hw hi
   exact ⟨List.mem_append_left _ h2,by rw [aFs h2,idx_new hn];exact hlt w h2⟩
 ·by_cases e:j=k
  ·rw [e];simp
  ·rw [hp j e] at hw
   exact List.mem_append_left _ (h.cl j hj ho hw)
 ·have e:j≠k:=fun e=>hnj (by rw [e];simp)
  rw [hp j e,hl j e]
  exact h.ct j hj ho fun hj'=>hnj (List.mem_append_left _ hj')
end
end Gv
set_option linter.unusedVariables false
set_option linter.unusedSimpArgs false
namespace Gv
open Go
theorem fil_one {α:Type} [DecidableEq α] {p q:α->Bool} {e:α}:∀ {N:List α},N.Nodup->e∈N->p e=true->q e=false->(∀ w∈N,w≠e->q w=p w)->(N.filter p).length=(N.filter q).length+1
 |[],_,h,_,_,_=>by cases h
 |a::N,hn,h,h1,h2,h3=>by
  obtain ⟨n1,n2⟩:=List.nodup_cons.1 hn
  by_cases ha:a=e
  ·subst ha
   rw [List.filter_cons,if_pos h1,List.filter_cons,if_neg (by rw [h2];simp),List.length_cons]
   have:N.filter q=N.filter p:=List.filter_congr fun w hw=>h3 w (List.mem_cons_of_mem _ hw) fun e=>n1 (by rw [←e];exact hw)
   rw [this]
  ·have hN:e∈N:=(List.mem_cons.1 h).resolve_left fun e=>ha e.symm
   have ih:=fil_one n2 hN h1 h2 fun w hw=>h3 w (List.mem_cons_of_mem _ hw)
   have ea:=h3 a List.mem_cons_self ha
   rw [List.filter_cons,List.filter_cons,ea]
   by_cases hp:p a=true
   ·rw [if_pos hp,if_pos hp,List.length_cons,List.length_cons,ih]
   ·rw [if_neg hp,if_neg hp,ih]
section
variable {x:eO} {pl:Int} {set:List Bool}
theorem AI.skip {ord:List Int} {pr pr':Int->List Int} {out:List Bool} {left:List (Int × Int)} {k:Int} (h:AI x pl set ord pr out left) (hk:¬ On x.in_ k\/k∈ord) (hp:∀ j,j≠k->pr' j=pr j):AI x pl set ord pr' out left where
 ol:=h.ol
 nd:=h.nd
 mem:=h.mem
 ina:=h.ina
 sub:=h.sub
 jm:=h.jm
 jt:=h.jt
 cl:=fun j hj ho hw=>by
  by_cases e:j=k
  ·subst e;exact hk.resolve_left fun hn=>hn hj
  ·rw [hp j e] at hw;exact h.cl j hj ho hw
 ct:=fun j hj ho hn=>by
  by_cases e:j=k
  ·subst e;exact absurd (hk.resolve_left fun hn=>hn hj) hn
  ·rw [hp j e];exact h.ct j hj ho hn
theorem AI.down {ord:List Int} {pr pr':Int->List Int} {out:List Bool} {left left':List (Int × Int)} {k:Int} (h:AI x pl set ord pr out left) (ho:(vx x.g k).Owner≠pl) (hp:∀ j,j≠k->pr' j=pr j) (hl:∀ j,j≠k->jG left' j=jG left j) (h1:jG left' k=some ((ex x k (pr' k):Nat):Int)) (h2:0 < ex x k (pr' k)):AI x pl set ord pr' out left' where
 ol:=h.ol
 nd:=h.nd
 mem:=h.mem
 ina:=h.ina
 sub:=h.sub
 jm:=h.jm
 jt:=h.jt
 cl:=fun j hj hj' hw=>by
  by_cases e:j=k
  ·subst e;exact absurd hj' ho
  ·rw [hp j e] at hw;exact h.cl j hj hj' hw
 ct:=fun j hj hj' hn=>by
  by_cases e:j=k
  ·subst e;exact .inr ⟨h1,h2⟩
  ·rw [hp j e,hl j e];exact h.ct j hj hj' hn
theorem attr_row (hx:AOk x) {e:Int} {P todo:List Int} {out:List Bool} {left:List (Int × Int)} (h:AI x pl set (P++e::todo) (fun _=>P) out left):
  ∃ r:List Bool × List (Int × Int) × List Int,loop (fun s:List Bool × List (Int × Int) × List Int × Int=>fQ x pl (x.back.getD e.toNat []) s.1 s.2.1 s.2.2.1 s.2.2.2) (out,left,todo,0)=some r/\AI x pl set (P++e::r.2.2) (fun _=>P++[e]) r.1 r.2.1:=by
 have heo:e∈P++e::todo:=by simp
 have hei:=h.ina e heo
 have he0:=hei.1
 have he1:e < (x.g.length:Int):=by have:=hei.lt;rw [hx.inl] at this;omega
 have hbk:=hx.bk e he0 he1
 have hbn:=hx.bnd e.toNat
 have hgl:=hx.g.len
 have heP:e∉P:=fun hP=>by
  have hn:=h.nd
  rw [List.nodup_append] at hn
  exact hn.2.2 e hP e List.mem_cons_self rfl
 generalize hB:x.back.getD e.toNat []=B at hbk hbn ⊢
 have hBl:B.length<=10000:=by
  have:=List.Nodup.length_le_of_subset (l₂:=(List.range x.g.length).map fun (i:Nat)=>(i:Int)) hbn (fun w hw=>by
   have:=(hbk w).1 hw
   rw [List.mem_map]
   exact ⟨w.toNat,List.mem_range.2 (by omega),by omega⟩)
  rw [List.length_map,List.length_range] at this
  omega
 have key:=bZ (step:=fun s:List Bool × List (Int × Int) × List Int × Int=>fQ x pl B s.1 s.2.1 s.2.2.1 s.2.2.2) B.length (fun i (q:List Bool × List (Int × Int) × List Int)=>(q.1,q.2.1,q.2.2,(i:Int)))
  (fun i q=>AI x pl set (P++e::q.2.2) (fun k=>if k∈B.take i then P++[e] else P) q.1 q.2.1)
  (fun r=>AI x pl set (P++e::r.2.2) (fun _=>P++[e]) r.1 r.2.1) (fun i q hi hI=>?_) (fun q hI=>?_) B.length 0 (out,left,todo) (by omega) (h.see fun k _ w _=>by simp)
 ·exact key
 ·obtain ⟨o,l,t⟩:=q
  simp only at hI ⊢
  have hk:=(hbk B[i]).1 (List.getElem_mem hi)
  have hnt:B[i]∉B.take i:=fun hm=>by
   obtain ⟨j,hj,e⟩:=List.mem_take_iff_getElem.1 hm
   exact List.pairwise_iff_getElem.1 hbn j i (by omega) hi (by omega) e
  have hpr:∀ j,j≠B[i]->(if j∈B.take (i+1) then P++[e] else P)=if j∈B.take i then P++[e] else P:=fun j hj=>by
   rw [List.take_succ_eq_append_getElem hi]
   by_cases hm:j∈B.take i
   ·rw [if_pos hm,if_pos (List.mem_append_left _ hm)]
   ·rw [if_neg hm,if_neg (by rw [List.mem_append];rintro (h|h);exact hm h;rw [List.mem_singleton] at h;exact hj h)]
  have hprk:(if B[i]∈B.take (i+1) then P++[e] else P)=P++[e]:=if_pos (by rw [List.take_succ_eq_append_getElem hi];exact List.mem_append_right _ (List.mem_singleton.2 rfl))
  show ∃ q:List Bool × List (Int × Int) × List Int,fQ x pl B o l t (i:Int)=some (.inl (q.1,q.2.1,q.2.2,((i+1:Nat):Int)))/\_
  generalize hkk:B[i]=k at hk hnt hpr hprk
  obtain ⟨hk0,hk1,hek⟩:=hk
  have hol:=hI.ol
  have htl:t.length+1<=x.g.length:=by
   have:=hI.len hx
   rw [List.length_append,List.length_cons] at this
   omega
  have hj4:∀ o' l' t',gV (i:Int) o' l' t'=some (.inl (o',l',t',((i+1:Nat):Int))):=fun o' l' t'=>by
   unfold gV
   rw [bI hi (by omega)]
  have hadd:On x.in_ k->k∉P++e::t->∀ l',(∀ j,j≠k->jG l' j=jG l j)->((vx x.g k).Owner=pl->∃ w∈(vx x.g k).Next,w∈P++e::t)->((vx x.g k).Owner≠pl->∀ w∈(vx x.g k).Next,On x.in_ w->w∈P++e::t)->
    ∃ q:List Bool × List (Int × Int) × List Int,jL o t (i:Int) k l'=some (.inl (q.1,q.2.1,q.2.2,((i+1:Nat):Int)))/\AI x pl set (P++e::q.2.2) (fun k=>if k∈B.take (i+1) then P++[e] else P) q.1 q.2.1:=by
   intro hik hko l' hl' hm ht
   refine ⟨(o.set k.toNat true,l',t++[k]),?_,?_⟩
   ·unfold jL
    rw [ixOn hk0 (by rw [hol];exact hk1),aA]
    unfold st
    rw [if_pos ⟨hk0,by omega⟩,aA,cE (by simp only [List.length_singleton];unfold gQ;omega),aA,hj4]
   ·have:=hI.add hx hik hko hm ht hl' (pr':=fun k=>if k∈B.take (i+1) then P++[e] else P) hpr
    simpa using this
  unfold fQ
  rw [if_pos (bU hi),bK hi,hkk,aA,ixOn hk0 (by rw [hx.inl];exact hk1),aA]
  by_cases hik:On x.in_ k
  ·rw [if_neg (by simpa using hik),ixOn hk0 (by rw [hol];exact hk1),aA]
   unfold jN
   by_cases hok:On o k
   ·rw [if_pos (by simpa using hok),hj4]
    exact ⟨(o,l,t),rfl,hI.skip (.inr ((hI.mem k).2 hok)) hpr⟩
   ·have hko:k∉P++e::t:=fun h=>hok ((hI.mem k).1 h)
    rw [if_neg (by simpa using hok),ixV hk0 hk1,aA]
    by_cases how:(vx x.g k).Owner=pl
    ·rw [if_neg (by simp [how])]
     exact hadd hik hko l (fun _ _=>rfl) (fun _=>⟨e,hek,by simp⟩) fun h=>absurd how h
    ·rw [if_pos (by simpa using how)]
     have hct:=hI.ct k hik how hko
     rw [if_neg hnt] at hct
     have hone:ex x k P=ex x k (P++[e])+1:=by
      unfold ex
      refine fil_one (hx.g.nd k) hek (by simp [hei,heP]) (by simp) fun w hw hne=>by simp [hne]
     have hex:∀ m,(∀ j,j≠k->jG m j=jG l j)->jG m k=some ((ex x k P:Nat):Int)->∃ q:List Bool × List (Int × Int) × List Int,jM o t (i:Int) k m=some (.inl (q.1,q.2.1,q.2.2,((i+1:Nat):Int)))/\AI x pl set (P++e::q.2.2) (fun k=>if k∈B.take (i+1) then P++[e] else P) q.1 q.2.1:=by
      intro m hm hmk
      have hnl:=nx_len hx.g k
      have hle:ex x k P<=x.g.length:=Nat.le_trans (List.length_filter_le _ _) hnl
      unfold jM
      rw [aA,hmk,Option.getD_some,cF (x:=((ex x k P:Nat):Int) - 1) (by omega) (by omega),aAY,if_pos rfl,Option.getD_some]
      have hm':∀ j,j≠k->jG (xC m k (((ex x k P:Nat):Int) - 1)) j=jG l j:=fun j hj=>by rw [aAY,if_neg hj,hm j hj]
      by_cases hz:0 < ex x k (P++[e])
      ·rw [if_pos (by simp;omega),hj4]
       refine ⟨(o,_,t),rfl,hI.down how hpr hm' ?_ (by rw [hprk];exact hz)⟩
       rw [aAY,if_pos rfl,hprk]
       congr 1
       omega
      ·rw [if_neg (by simp;omega)]
       refine hadd hik hko _ hm' (fun h=>absurd h how) fun _ w hw hiw=>?_
       have h0:ex x k (P++[e])=0:=by omega
       unfold ex at h0
       have:=List.filter_eq_nil_iff.1 (List.eq_nil_of_length_eq_zero h0) w hw
       have hwp:w∈P++[e]:=by
        rw [decide_eq_true hiw,Bool.true_and,Bool.not_eq_true',decide_eq_false_iff_not] at this
        exact Classical.not_not.1 this
       rcases List.mem_append.1 hwp with h|h
       ·exact List.mem_append_left _ h
       ·rw [List.mem_singleton] at h;rw [h];simp
     rcases hct with ⟨c1,c2⟩|⟨c1,c2⟩
     ·rw [c1]
      have he0':ex x k []=ex x k P:=by
       unfold ex
       congr 1
       exact List.filter_congr fun w hw=>by simp [c2 w hw]
      rw [if_pos (by rfl),exits_eq hx hk0 hk1,aA,aA,he0']
      exact hex _ (fun j hj=>by rw [aAY,if_neg hj]) (by rw [aAY,if_pos rfl])
     ·rw [c1,if_neg (by simp)]
      exact hex _ (fun j hj=>rfl) c1
  ·rw [if_pos (by simpa using hik)]
   unfold jN
   rw [if_pos rfl,hj4]
   exact ⟨(o,l,t),rfl,hI.skip (.inl hik) hpr⟩
 ·obtain ⟨o,l,t⟩:=q
  refine ⟨(o,l,t),?_,?_⟩
  ·show fQ x pl B o l t (B.length:Int)=_
   unfold fQ
   rw [if_neg (by simp)]
  ·simp only at hI ⊢
   refine hI.see fun k hk w hw=>?_
   rw [List.take_length]
   by_cases hkB:k∈B
   ·rw [if_pos hkB]
   ·rw [if_neg hkB,List.mem_append,List.mem_singleton]
    constructor
    ·rintro (h|h)
     ·exact h
     ·subst h
      have hk1:=hk.lt
      rw [hx.inl] at hk1
      exact absurd ((hbk k).2 ⟨hk.1,by have:=hk.1;omega,hw⟩) hkB
    ·exact .inl
theorem aKw (hx:AOk x):∀ (f:Nat) (P todo:List Int) (out:List Bool) (left:List (Int × Int)),x.g.length - P.length<=f->AI x pl set (P++todo) (fun _=>P) out left->
  ∃ r,loop (fun s:List Bool × List (Int × Int) × List Int=>fR x pl s.1 s.2.1 s.2.2) (out,left,todo)=some r/\∃ ord left',AI x pl set ord (fun _=>ord) r left'
 |f,P,[],out,left,hf,h=>by
  refine ⟨out,?_,P,left,by simpa using h⟩
  have hst:fR x pl out left []=some (.inr out):=by
   unfold fR
   rw [if_neg (by simp)]
  rw [cB]
  simp only [hst]
 |f,P,e::t,out,left,hf,h=>by
  have hl:=h.len hx
  rw [List.length_append,List.length_cons] at hl
  have hgl:=hx.g.len
  obtain ⟨r,e1,h1⟩:=attr_row hx h
  have hei:=h.ina e (by simp)
  have he1:e.toNat < x.g.length:=by have:=hei.lt;rwa [hx.inl] at this
  have hsl:slc (e::t) 1 ((e::t).length:Int)=some t:=by
   unfold slc
   rw [if_pos ⟨by omega,by rw [List.length_cons];omega,by omega⟩]
   simp
  have hbk:ix x.back e=some (x.back.getD e.toNat []):=by
   unfold ix
   rw [if_pos hei.1,List.getD_eq_getElem?_getD,List.getElem?_eq_getElem (by rw [hx.bl];exact he1)]
   rfl
  have hst:fR x pl out left (e::t)=some (.inl (r.1,r.2.1,r.2.2)):=by
   unfold fR
   rw [if_pos (by simp),show ix (e::t) 0=some e from rfl,aA,hsl,aA,hbk,aA,e1,aA]
   rfl
  match f,hf with
  |0,hf=>omega
  |f+1,hf=>
   obtain ⟨q,e2,h2⟩:=aKw hx f (P++[e]) r.2.2 r.1 r.2.1 (by rw [List.length_append,List.length_singleton];omega) (by simpa using h1)
   refine ⟨q,?_,h2⟩
   rw [cB]
   simp only [hst]
   exact e2
theorem aDD (hx:AOk x) (hs:set.length=x.g.length) (hi:∀ v,On set v->On x.in_ v):∃ r,jD x pl set=some r/\r.length=x.g.length/\∃ rk σ,Att (gg x.g) (On x.in_) pl (On set) (On r) rk σ:=by
 have hgl:=hx.g.len
 have h0:AI x pl set ([]++onL set) (fun _=>[]) set []:=by
  rw [List.nil_append]
  refine ⟨hs,aKu _,fun v=>nS,fun v hv=>hi v (nS.1 hv),fun v hv=>nS.2 hv,fun v hv hn=>absurd (nS.1 hv) hn,fun v hv hn=>absurd (nS.1 hv) hn,fun k _ _ hw=>?_,fun k _ _ _=>.inl ⟨rfl,fun w _ hw=>by cases hw⟩⟩
  obtain ⟨w,_,hw⟩:=hw
  cases hw
 obtain ⟨r,e1,ord,left,h⟩:=aKw (pl:=pl) hx _ _ _ _ _ (Nat.le_refl _) h0
 refine ⟨r,?_,h.ol,fun v=>ord.idxOf v,?_⟩
 ·unfold jD eD
  rw [cE (by simp only [List.length_nil];unfold gQ;omega),aA,aA,List.nil_append,aHA _ (by omega),aA]
  show (ob (loop (fun s:List Bool × List (Int × Int) × List Int=>fR x pl s.1 s.2.1 s.2.2) (set,[],onL set)) fun r=>vA r)=_
  rw [e1,aA]
  rfl
 ·have hc:∃ σ:Int->Int,∀ v,v∈ord->¬ On set v->(vx x.g v).Owner=pl->σ v∈(vx x.g v).Next/\σ v∈ord/\ord.idxOf (σ v) < ord.idxOf v:=by
   have:∀ v,∃ w,v∈ord->¬ On set v->(vx x.g v).Owner=pl->w∈(vx x.g v).Next/\w∈ord/\ord.idxOf w < ord.idxOf v:=fun v=>by
    by_cases hc:v∈ord/\¬ On set v/\(vx x.g v).Owner=pl
    ·obtain ⟨w,h1,h2⟩:=h.jm v hc.1 hc.2.1 hc.2.2
     exact ⟨w,fun _ _ _=>⟨h1,h2⟩⟩
    ·exact ⟨v,fun a b c=>absurd ⟨a,b,c⟩ hc⟩
   exact Classical.axiomOfChoice this
  obtain ⟨σ,hσ⟩:=hc
  refine ⟨σ,fun v hv=>(h.mem v).1 (h.sub v hv),fun v hv=>h.ina v ((h.mem v).2 hv),fun v hv hn ho=>?_,fun v hv hn ho w hE hA=>?_,fun v hv hn ho w hE ht=>?_,fun v hv hn ho hw=>?_⟩
  ·obtain ⟨a,b,c⟩:=hσ v ((h.mem v).2 hv) hn ho
   exact ⟨a,(h.mem _).1 b,c⟩
  ·obtain ⟨a,b⟩:=h.jt v ((h.mem v).2 hv) hn ho w hE hA
   exact ⟨(h.mem _).1 a,b⟩
  ·exact hn ((h.mem v).1 (h.cl v hv ho ⟨w,hE,(h.mem w).2 ht⟩))
  ·have hno:v∉ord:=fun h'=>hn ((h.mem v).1 h')
   rcases h.ct v hv ho hno with ⟨_,a⟩|⟨_,a⟩
   ·obtain ⟨w,h1,h2⟩:=hw
    exact ⟨w,h1,h2,fun ht=>a w h1 ((h.mem w).2 ht)⟩
   ·unfold ex at a
    obtain ⟨w,hw'⟩:=List.exists_mem_of_length_pos a
    rw [List.mem_filter] at hw'
    simp only [Bool.and_eq_true,decide_eq_true_eq,Bool.not_eq_true',decide_eq_false_iff_not] at hw'
    exact ⟨w,hw'.1,hw'.2.1,fun ht=>hw'.2.2 ((h.mem w).2 ht)⟩
end
end Gv
set_option linter.unusedVariables false
set_option linter.unusedSimpArgs false
namespace Gv
open Go
theorem getB {m:List Bool} {j:Nat} (h:j < m.length):m.getD j false=m[j]:=by rw [List.getD_eq_getElem?_getD,List.getElem?_eq_getElem h];rfl
theorem vE {step:List Bool × Int->Option ((List Bool × Int) ⊕ List Bool)} {n:Nat} (m0:List Bool) (hl:m0.length=n) (f:Nat->Bool)
  (h:∀ (k:Nat) (o:List Bool),k < n->o.length=n->(∀ j,k<=j->o.getD j false=m0.getD j false)->step (o,(k:Int))=some (.inl (o.set k (f k),((k+1:Nat):Int))))
  (h':∀ o:List Bool,o.length=n->step (o,(n:Int))=some (.inr o)):∃ r,loop step (m0,0)=some r/\r.length=n/\∀ v,On r v<->0<=v/\v < (n:Int)/\f v.toNat=true:=by
 have key:=bZ (step:=step) n (fun i (q:List Bool)=>(q,(i:Int))) (fun i q=>q.length=n/\(∀ j,j < i->j < n->q.getD j false=f j)/\∀ j,i<=j->q.getD j false=m0.getD j false)
  (fun r=>r.length=n/\∀ j,j < n->r.getD j false=f j) (fun i q hi hI=>?_) (fun q hI=>?_) n 0 m0 (by omega) ⟨hl,fun j hj=>by omega,fun j _=>rfl⟩
 ·obtain ⟨r,e1,e2,e3⟩:=key
  refine ⟨r,e1,e2,fun v=>⟨fun hv=>?_,fun ⟨h0,h1,h2⟩=>⟨h0,by rw [e3 _ (by omega)];exact h2⟩⟩⟩
  have hlt:=hv.lt
  rw [e2] at hlt
  exact ⟨hv.1,by have:=hv.1;omega,by rw [←e3 _ hlt];exact hv.2⟩
 ·obtain ⟨a,b,c⟩:=hI
  refine ⟨q.set i (f i),h i q hi a c,by rw [List.length_set];exact a,fun j hj hjn=>?_,fun j hj=>?_⟩
  ·rw [List.getD_eq_getElem?_getD,List.getElem?_set]
   by_cases e:i=j
   ·subst e
    rw [if_pos rfl,if_pos (by omega)]
    rfl
   ·rw [if_neg e,←List.getD_eq_getElem?_getD]
    exact b j (by omega) hjn
  ·rw [List.getD_eq_getElem?_getD,List.getElem?_set,if_neg (by omega),←List.getD_eq_getElem?_getD]
   exact c j (by omega)
 ·exact ⟨q,h' q hI.1,hI.1,fun j hj=>hI.2.1 j hj hj⟩
section
variable {x:eO}
theorem aHT (h:AOk x) {v:Int} (hv:On x.in_ v):0<=v/\v < (x.g.length:Int):=by
 have:=hv.lt
 rw [h.inl] at this
 have:=hv.1
 omega
theorem ixO {m:List Bool} {k:Nat} (h:k < m.length):ix m (k:Int)=some (decide (On m (k:Int))):=ixOn (Int.natCast_nonneg k) (by omega)
theorem ixG {g:List bM} {k:Nat} (h:k < g.length):ix g (k:Int)=some (vx g (k:Int)):=ixV (Int.natCast_nonneg k) (by omega)
theorem marked_eq (h:AOk x) (p:Int):∃ r,rW x x p=some r/\r.length=x.g.length/\∀ v,On r v<->On x.in_ v/\(vx x.g v).Priority=p:=by
 have hg:=h.g.len
 have hi:=h.inl
 have key:=vE (step:=fun s:List Bool × Int=>iK x x p s.1 s.2) (n:=x.g.length) (List.replicate x.g.length false) (by simp) (fun k=>decide (On x.in_ (k:Int))&&((vx x.g (k:Int)).Priority == p)) (fun k o hk ho _=>?_) fun o ho=>?_
 ·obtain ⟨r,e1,e2,e3⟩:=key
  refine ⟨r,?_,e2,fun v=>?_⟩
  ·unfold rW
   rw [xZ _ (by unfold gQ;omega),aA,e1,aA]
   rfl
  ·rw [e3 v]
   constructor
   ·rintro ⟨h0,h1,h2⟩
    rw [show ((v.toNat:Nat):Int)=v by omega] at h2
    simpa using h2
   ·rintro ⟨h1,h2⟩
    have:=aHT h h1
    refine ⟨this.1,this.2,?_⟩
    rw [show ((v.toNat:Nat):Int)=v by omega]
    simp [h1,h2]
 ·show iK x x p o (k:Int)=_
  unfold iK aBy nG
  rw [if_pos (by rw [hi];exact bU hk),ixO (by omega),aA,ixG hk,aA,aA,bK (by omega),aA,aA,oD _ (by omega),oD _ (by omega),aA,aA,bI hk (by omega)]
  by_cases hb:On x.in_ (k:Int)
  ·simp [hb]
  ·simp [hb]
 ·show iK x x p o (x.g.length:Int)=_
  unfold iK
  rw [if_neg (by rw [hi];simp)]
theorem aNt (h:AOk x) {w:List Bool} (hw:w.length=x.g.length) (p:Int):∃ r,nH x w p=some r/\r.length=x.g.length/\∀ v,On r v<->On x.in_ v/\(On w v<->¬ p=1):=by
 have hg:=h.g.len
 have hi:=h.inl
 have key:=vE (step:=fun s:List Bool × Int=>fS x w p s.1 s.2) (n:=x.g.length) (List.replicate x.g.length false) (by simp) (fun k=>decide (On x.in_ (k:Int))&&(decide (On w (k:Int)) != (p == 1))) (fun k o hk ho _=>?_) fun o ho=>?_
 ·obtain ⟨r,e1,e2,e3⟩:=key
  refine ⟨r,?_,e2,fun v=>?_⟩
  ·unfold nH
   rw [xZ _ (by unfold gQ;omega),aA,e1,aA]
   rfl
  ·rw [e3 v]
   have hb:∀ {P:Prop} [Decidable P],(decide P != (p == 1))=true<->(P<->¬ p=1):=fun {P} _=>by
    by_cases h1:P<;>by_cases h2:p=1<;>simp [h1,h2]
   constructor
   ·rintro ⟨h0,h1,h2⟩
    rw [show ((v.toNat:Nat):Int)=v by omega,Bool.and_eq_true,decide_eq_true_iff,hb] at h2
    exact h2
   ·rintro ⟨h1,h2⟩
    have:=aHT h h1
    refine ⟨this.1,this.2,?_⟩
    rw [show ((v.toNat:Nat):Int)=v by omega,Bool.and_eq_true,decide_eq_true_iff,hb]
    exact ⟨h1,h2⟩
 ·show fS x w p o (k:Int)=_
  unfold fS aBz jW
  rw [if_pos (by rw [hi];exact bU hk),ixO (by omega),aA,ixO (by omega),aA,aA,bK (by omega),aA,aA,oD _ (by omega),oD _ (by omega),aA,aA,bI hk (by omega)]
  by_cases hb:On x.in_ (k:Int)
  ·simp [hb]
  ·simp [hb]
 ·show fS x w p o (x.g.length:Int)=_
  unfold fS
  rw [if_neg (by rw [hi];simp)]
theorem aNu (h:AOk x) (p:Int):∃ r,nI x p=some r/\r.length=x.g.length/\∀ v,On r v<->On x.in_ v/\p=1:=by
 have hg:=h.g.len
 have hi:=h.inl
 have key:=vE (step:=fun s:List Bool × Int=>fT x p s.1 s.2) (n:=x.g.length) (List.replicate x.g.length false) (by simp) (fun k=>decide (On x.in_ (k:Int))&&(p == 1)) (fun k o hk ho _=>?_) fun o ho=>?_
 ·obtain ⟨r,e1,e2,e3⟩:=key
  refine ⟨r,?_,e2,fun v=>?_⟩
  ·unfold nI
   rw [xZ _ (by unfold gQ;omega),aA,e1,aA]
   rfl
  ·rw [e3 v]
   constructor
   ·rintro ⟨h0,h1,h2⟩
    rw [show ((v.toNat:Nat):Int)=v by omega] at h2
    simpa using h2
   ·rintro ⟨h1,h2⟩
    have:=aHT h h1
    refine ⟨this.1,this.2,?_⟩
    rw [show ((v.toNat:Nat):Int)=v by omega]
    simp [h1,h2]
 ·show fT x p o (k:Int)=_
  unfold fT aBA jX
  rw [if_pos (by rw [hi];exact bU hk),ixO (by omega),aA,aA,bK (by omega),aA,aA,oD _ (by omega),oD _ (by omega),aA,aA,bI hk (by omega)]
  by_cases hb:On x.in_ (k:Int)
  ·simp [hb]
  ·simp [hb]
 ·show fT x p o (x.g.length:Int)=_
  unfold fT
  rw [if_neg (by rw [hi];simp)]
theorem aNv (h:AOk x) {b w:List Bool} (hb:b.length=x.g.length) (hw:w.length=x.g.length) (p:Int):∃ r,nK x b p w=some r/\r.length=x.g.length/\∀ v,On r v<->On x.in_ v/\((On b v/\p=0)\/(¬ On b v/\On w v)):=by
 have hg:=h.g.len
 have hi:=h.inl
 have key:=vE (step:=fun s:List Bool × Int=>fU x b p w s.1 s.2) (n:=x.g.length) (List.replicate x.g.length false) (by simp) (fun k=>decide (On x.in_ (k:Int))&&(if On b (k:Int) then (p == 0) else decide (On w (k:Int)))) (fun k o hk ho _=>?_) fun o ho=>?_
 ·obtain ⟨r,e1,e2,e3⟩:=key
  refine ⟨r,?_,e2,fun v=>?_⟩
  ·unfold nK
   rw [xZ _ (by unfold gQ;omega),aA,e1,aA]
   rfl
  ·rw [e3 v]
   have hbb:(if On b v then (p == 0) else decide (On w v))=true<->((On b v/\p=0)\/(¬ On b v/\On w v)):=by
    by_cases h1:On b v<;>simp [h1]
   constructor
   ·rintro ⟨h0,h1,h2⟩
    rw [show ((v.toNat:Nat):Int)=v by omega,Bool.and_eq_true,decide_eq_true_iff,hbb] at h2
    exact h2
   ·rintro ⟨h1,h2⟩
    have:=aHT h h1
    refine ⟨this.1,this.2,?_⟩
    rw [show ((v.toNat:Nat):Int)=v by omega,Bool.and_eq_true,decide_eq_true_iff,hbb]
    exact ⟨h1,h2⟩
 ·show fU x b p w o (k:Int)=_
  have hc:rX (k:Int) b p w=some (if On b (k:Int) then (p == 0) else decide (On w (k:Int))):=by
   unfold rX nJ
   rw [ixO (by omega),aA,ixO (by omega),aA]
   by_cases h1:On b (k:Int)<;>by_cases h2:p=0<;>simp [h1,h2]
  unfold fU jY
  rw [if_pos (by rw [hi];exact bU hk),ixO (by omega),aA,hc,aA,bK (by omega),aA,aA,oD _ (by omega),oD _ (by omega),aA,aA,bI hk (by omega)]
  by_cases hb:On x.in_ (k:Int)
  ·simp [hb]
  ·simp [hb]
 ·show fU x b p w o (x.g.length:Int)=_
  unfold fU
  rw [if_neg (by rw [hi];simp)]
theorem aJu (h:AOk x) (p:Int):∃ r,iM x x.g p=some r/\r.length=x.g.length/\∀ v,On r v<->On x.in_ v/\(vx x.g v).Owner=p/\(vx x.g v).Next=[]:=by
 have hg:=h.g.len
 have hi:=h.inl
 have key:=vE (step:=fun s:List Bool × Int=>fV x x.g p s.1 s.2) (n:=x.g.length) (List.replicate x.g.length false) (by simp) (fun k=>decide (On x.in_ (k:Int))&&(decide ((vx x.g (k:Int)).Owner=p/\(vx x.g (k:Int)).Next=[]))) (fun k o hk ho _=>?_) fun o ho=>?_
 ·obtain ⟨r,e1,e2,e3⟩:=key
  refine ⟨r,?_,e2,fun v=>?_⟩
  ·unfold iM
   rw [xZ _ (by unfold gQ;omega),aA,e1,aA]
   rfl
  ·rw [e3 v]
   constructor
   ·rintro ⟨h0,h1,h2⟩
    rw [show ((v.toNat:Nat):Int)=v by omega] at h2
    simpa using h2
   ·rintro ⟨h1,h2⟩
    have:=aHT h h1
    refine ⟨this.1,this.2,?_⟩
    rw [show ((v.toNat:Nat):Int)=v by omega]
    simp [h1,h2]
 ·show fV x x.g p o (k:Int)=_
  have hc:qD (k:Int) x.g p=some (decide ((vx x.g (k:Int)).Owner=p/\(vx x.g (k:Int)).Next=[])):=by
   unfold qD pU
   rw [ixG hk,aA]
   by_cases h1:(vx x.g (k:Int)).Owner=p
   ·rw [if_pos (by simpa using h1)]
    cases hn:(vx x.g (k:Int)).Next with
    |nil=>simp [h1]
    |cons a l=>simp;omega
   ·rw [if_neg (by simpa using h1)]
    simp [h1]
  unfold fV jZ
  rw [if_pos (by rw [hi];exact bU hk),ixO (by omega),aA,hc,aA,bK (by omega),aA,aA,oD _ (by omega),oD _ (by omega),aA,aA,bI hk (by omega)]
  by_cases hb:On x.in_ (k:Int)
  ·simp [hb]
  ·simp [hb]
 ·show fV x x.g p o (x.g.length:Int)=_
  unfold fV
  rw [if_neg (by rw [hi];simp)]
theorem aDE (h:AOk x) {b:List Bool} (hb:b.length=x.g.length):∃ r,jE x b=some r/\r.length=x.g.length/\∀ v,On r v<->On x.in_ v/\¬ On b v:=by
 have hg:=h.g.len
 have hi:=h.inl
 have key:=vE (step:=fun s:List Bool × Int=>gW b s.1 s.2) (n:=x.g.length) x.in_ hi (fun k=>decide (On x.in_ (k:Int))&&!decide (On b (k:Int))) (fun k o hk ho hm=>?_) fun o ho=>?_
 ·obtain ⟨r,e1,e2,e3⟩:=key
  refine ⟨r,?_,e2,fun v=>?_⟩
  ·unfold jE eD
   rw [cE (by simp only [List.length_nil];unfold gQ;omega),aA,aA,List.nil_append,e1,aA]
   rfl
  ·rw [e3 v]
   constructor
   ·rintro ⟨h0,h1,h2⟩
    rw [show ((v.toNat:Nat):Int)=v by omega] at h2
    simpa using h2
   ·rintro ⟨h1,h2⟩
    have:=aHT h h1
    refine ⟨this.1,this.2,?_⟩
    rw [show ((v.toNat:Nat):Int)=v by omega]
    simp [h1,h2]
 ·show gW b o (k:Int)=_
  have hok:On o (k:Int)<->On x.in_ (k:Int):=by
   unfold On
   rw [show ((k:Int)).toNat=k by omega,hm k (Nat.le_refl _)]
  unfold gW lZ
  rw [if_pos (by rw [hb];exact bU hk),ixO (by omega),aA,ixO (by omega),aA,oD _ (by omega),oD _ (by omega),aA,aA,bI hk (by omega)]
  by_cases hb:On x.in_ (k:Int)
  ·simp [hb,hok.2 hb]
  ·have:¬ On o (k:Int):=fun h=>hb (hok.1 h)
   simp [hb,this]
 ·show gW b o (x.g.length:Int)=_
  unfold gW
  rw [if_neg (by rw [hb];simp)]
theorem aMt (m:List Bool) (h:m.length<=100000):gD m true=some (m.any fun b=>true == b):=by
 unfold gD
 have hi:fH m true=some (pos m true):=by
  unfold fH
  have key:=aAW (step:=fun s:Int=>gC m true s) m (fun b=>true == b) (fun k b hk hb=>?_) ?_
  ·rw [key,aA]
   unfold pos
   cases hx:m.findIdx? fun b=>true == b<;>rfl
  ·unfold gC
   rw [if_pos (bU hk),hb,aA,bI hk (by omega)]
  ·unfold gC
   rw [if_neg (by simp)]
 rw [hi,aA,pos_any]
theorem any_on {m:List Bool}:(m.any fun b=>true == b)=true<->∃ v,On m v:=by
 rw [List.any_eq_true]
 constructor
 ·rintro ⟨b,hb,e⟩
  obtain ⟨j,hj,rfl⟩:=List.getElem_of_mem hb
  refine ⟨(j:Int),Int.natCast_nonneg j,?_⟩
  rw [show ((j:Int)).toNat=j by omega,getB hj]
  simpa using e.symm
 ·rintro ⟨v,hv⟩
  refine ⟨m[v.toNat]'hv.lt,List.getElem_mem _,?_⟩
  rw [←getB hv.lt,hv.2]
  rfl
end
end Gv
set_option linter.unusedVariables false
set_option linter.unusedSimpArgs false
namespace Gv
open Go
section
variable {x:eO} {p q:Int}
theorem aMu {G:PG Int} {A W:Int->Prop} (h:∀ v,¬ W v):∃ σ,Reg G A p W σ:=
 ⟨id,fun v hv=>absurd hv (h v),fun v hv=>absurd hv (h v),fun v hv=>absurd hv (h v),fun f hf=>absurd (hf 0) (h _)⟩
theorem Reg.of {G:PG Int} {A A' W W':Int->Prop} (hA:∀ v,A' v<->A v) (hW:∀ v,W' v<->W v) (h:∃ σ,Reg G A p W σ):∃ σ,Reg G A' p W' σ:=by
 have e1:A'=A:=funext fun v=>propext (hA v)
 have e2:W'=W:=funext fun v=>propext (hW v)
 rw [e1,e2]
 exact h
def Won (A:Int->Prop) (r:List Bool) (q:Int) (v:Int):Prop:=A v/\(On r v<->q=1)
structure WinOk (x:eO) (r:List Bool):Prop where
 len:r.length=x.g.length
 reg:∀ q,q=0\/q=1->∃ σ,Reg (gg x.g) (On x.in_) q (Won (On x.in_) r q) σ
def Live (x:eO):Prop:=∀ v,On x.in_ v->∃ w,(gg x.g).E v w/\On x.in_ w
theorem AOk.sub (h:AOk x) {m:List Bool} (hm:m.length=x.g.length):AOk ⟨x.g,x.back,m⟩:=⟨h.g,hm,h.bl,h.bk,h.bnd⟩
theorem Live.sub (h:AOk x) (hl:Live x) {S:Int->Prop} {b m:List Bool} {rk:Int->Nat} {σ:Int->Int} (ha:Att (gg x.g) (On x.in_) p S (On b) rk σ) (hm:∀ v,On m v<->On x.in_ v/\¬ On b v):Live ⟨x.g,x.back,m⟩:=by
 intro v hv
 obtain ⟨h1,h2⟩:=(hm v).1 hv
 by_cases ho:(gg x.g).own v=p
 ·obtain ⟨w,h3,h4⟩:=hl v h1
  exact ⟨w,h3,(hm w).2 ⟨h4,ha.outM v h1 h2 ho w h3⟩⟩
 ·obtain ⟨w,h3,h4,h5⟩:=ha.outT v h1 h2 ho (hl v h1)
  exact ⟨w,h3,(hm w).2 ⟨h4,h5⟩⟩
theorem aMv {m m':List Bool} (h:∀ v,On m' v->On m v) {u:Int} (hu:On m u) (hu':¬ On m' u):(onL m').length < (onL m).length:=by
 have:=List.Nodup.length_le_of_subset (l₁:=u::onL m') (l₂:=onL m) (List.nodup_cons.2 ⟨fun h=>hu' (nS.1 h),aKu _⟩) (fun v hv=>by
  rcases List.mem_cons.1 hv with rfl|hv
  ·exact nS.2 hu
  ·exact nS.2 (h v (nS.1 hv)))
 rw [List.length_cons] at this
 exact this
theorem least_eq (h:AOk x) {L:List Int} (hL:∀ v∈L,On x.in_ v) (hl:L.length<=100000) (m0:Int):
  ∃ m,loop (fun s:Int × Int=>iL x L s.1 s.2) (m0,0)=some m/\(m=m0\/∃ v∈L,(vx x.g v).Priority=m)/\m<=m0/\∀ v∈L,m<=(vx x.g v).Priority:=by
 have key:=bZ (step:=fun s:Int × Int=>iL x L s.1 s.2) L.length (fun i (q:Int)=>(q,(i:Int))) (fun i q=>(q=m0\/∃ v∈L,(vx x.g v).Priority=q)/\q<=m0/\∀ v∈L.take i,q<=(vx x.g v).Priority)
  (fun m=>(m=m0\/∃ v∈L,(vx x.g v).Priority=m)/\m<=m0/\∀ v∈L,m<=(vx x.g v).Priority) (fun i q hi hI=>?_) (fun q hI=>?_) L.length 0 m0 (by omega) ⟨.inl rfl,Int.le_refl _,fun v hv=>by cases hv⟩
 ·exact key
 ·obtain ⟨a,b,c⟩:=hI
  have hv:=aHT h (hL _ (List.getElem_mem hi))
  refine ⟨mnI q (vx x.g L[i]).Priority,?_,?_⟩
  ·show iL x L q (i:Int)=_
   unfold iL
   rw [if_pos (bU hi),bK hi,aA,ixV hv.1 hv.2,aA,bI hi (by omega)]
  ·unfold mnI
   rw [List.take_succ_eq_append_getElem hi]
   split
   ·rename_i hlt
    refine ⟨.inr ⟨_,List.getElem_mem hi,rfl⟩,by omega,fun v hv=>?_⟩
    rcases List.mem_append.1 hv with hv|hv
    ·have:=c v hv;omega
    ·rw [List.mem_singleton] at hv;rw [hv];exact Int.le_refl _
   ·rename_i hlt
    refine ⟨a,b,fun v hv=>?_⟩
    rcases List.mem_append.1 hv with hv|hv
    ·exact c v hv
    ·rw [List.mem_singleton] at hv;rw [hv];omega
 ·refine ⟨q,?_,hI.1,hI.2.1,fun v hv=>hI.2.2 v (by rw [List.take_length];exact hv)⟩
  show iL x L q (L.length:Int)=_
  unfold iL
  rw [if_neg (by simp)]
theorem win_ok:∀ (n:Nat) (x:eO),AOk x->Live x->(onL x.in_).length < n->∃ r,nZ n x=some r/\WinOk x r
 |0,x,_,_,h=>by omega
 |n+1,x,hx,hlive,hn=>by
  have hg:=hx.g.len
  have hil:=hx.inl
  show ∃ r,uF (nZ n) x=some r/\_
  unfold uF
  rw [aHA _ (by omega),aA]
  show ∃ r,(if ((onL x.in_).length:Int) == 0 then _ else _)=some r/\_
  by_cases h0:(onL x.in_).length=0
  ·rw [if_pos (by simp [h0]),xZ _ (by unfold gQ;omega),aA]
   refine ⟨_,rfl,by simp,fun q _=>aMu fun v hv=>?_⟩
   have:=nS.2 hv.1
   rw [List.eq_nil_of_length_eq_zero h0] at this
   cases this
  ·rw [if_neg (by simpa using h0)]
   have hu:On x.in_ ((onL x.in_)[0]'(by omega)):=nS.1 (List.getElem_mem _)
   have hur:=aHT hx hu
   have hll:(onL x.in_).length<=10000:=by
    unfold onL
    rw [List.length_map]
    exact Nat.le_trans (List.length_filter_le _ _) (by rw [List.length_range];omega)
   show ∃ r,(ob (ix (onL x.in_) ((0:Nat):Int)) _)=some r/\_
   rw [bK (by omega),aA,ixV hur.1 hur.2,aA]
   obtain ⟨m,e1,hm1,hm2,hm3⟩:=least_eq hx (L:=onL x.in_) (fun v hv=>nS.1 hv) (by omega) (vx x.g ((onL x.in_)[0]'(by omega))).Priority
   show ∃ r,ob (loop (fun s:Int × Int=>iL x (onL x.in_) s.1 s.2) _) _=some r/\_
   rw [e1,aA]
   have hmw:∃ v,On x.in_ v/\(vx x.g v).Priority=m:=by
    rcases hm1 with e|⟨v,hv,e⟩
    ·exact ⟨_,hu,e.symm⟩
    ·exact ⟨v,nS.1 hv,e⟩
   have hmle:∀ v,On x.in_ v->m<=(vx x.g v).Priority:=fun v hv=>hm3 v (nS.2 hv)
   have hm0:0<=m:=by
    obtain ⟨v,_,e⟩:=hmw
    rw [←e]
    exact (hx.g.pr v).1
   have hp:m % 2=0\/m % 2=1:=by omega
   unfold rY
   rw [show rm m 2=some (m % 2) by unfold rm;rw [if_neg (by omega),Int.tmod_eq_emod_of_nonneg hm0],aA]
   generalize hpe:m % 2=p at hp ⊢
   have hpo:1 - p=0\/1 - p=1:=by omega
   have hw1:wr (1 - p)=1 - p:=cF (by omega) (by omega)
   rw [hw1]
   obtain ⟨S,e2,hS1,hS2⟩:=marked_eq hx m
   rw [e2,aA]
   obtain ⟨At,e3,hA1,rk,σ,hA2⟩:=aDD hx (pl:=p) hS1 fun v hv=>((hS2 v).1 hv).1
   rw [e3,aA]
   obtain ⟨N1,e4,hN1,hN2⟩:=aDE hx hA1
   rw [e4,aA]
   have hx1:=hx.sub hN1
   have hl1:Live ⟨x.g,x.back,N1⟩:=hlive.sub hx hA2 hN2
   obtain ⟨v0,hv0,hv0'⟩:=hmw
   have hlt1:(onL N1).length < (onL x.in_).length:=aMv (fun v hv=>((hN2 v).1 hv).1) hv0 fun h=>((hN2 v0).1 h).2 (hA2.sub v0 ((hS2 v0).2 ⟨hv0,hv0'⟩))
   obtain ⟨R1,e5,hR1⟩:=win_ok n ⟨x.g,x.back,N1⟩ hx1 hl1 (by simp only;omega)
   rw [e5,aA]
   obtain ⟨L,e6,hL1,hL2⟩:=aNt hx1 (w:=R1) hR1.len p
   rw [e6,aA,aMt _ (by simp only at hL1;omega),aA]
   have hown:∀ v,(gg x.g).own v=0\/(gg x.g).own v=1:=hx.g.own
   simp only at hL1 hL2
   by_cases hany:∃ v,On L v
   ·rw [if_neg (by rw [any_on.2 hany];simp)]
    have hLi:∀ v,On L v->On x.in_ v:=fun v hv=>((hN2 v).1 ((hL2 v).1 hv).1).1
    obtain ⟨Bt,e7,hB1,rk',σ',hB2⟩:=aDD hx (pl:=1 - p) hL1 hLi
    rw [e7,aA]
    obtain ⟨N2,e8,hM1,hM2⟩:=aDE hx hB1
    rw [e8,aA]
    have hx2:=hx.sub hM1
    have hl2:Live ⟨x.g,x.back,N2⟩:=hlive.sub hx hB2 hM2
    obtain ⟨u,hu1⟩:=hany
    have hlt2:(onL N2).length < (onL x.in_).length:=aMv (fun v hv=>((hM2 v).1 hv).1) (hLi u hu1) fun h=>((hM2 u).1 h).2 (hB2.sub u hu1)
    obtain ⟨R2,e9,hR2⟩:=win_ok n ⟨x.g,x.back,N2⟩ hx2 hl2 (by simp only;omega)
    rw [e9,aA]
    obtain ⟨r,e10,hr1,hr2⟩:=aNv hx (b:=Bt) (w:=R2) hB1 hR2.len p
    rw [e10,aA]
    refine ⟨r,rfl,hr1,?_⟩
    have hLreg:∃ σ,Reg (gg x.g) (On N1) (1 - p) (On L) σ:=Reg.of (fun v=>Iff.rfl) (fun v=>by
     show _<->On N1 v/\(On R1 v<->1 - p=1)
     rw [hL2]
     exact and_congr_right fun _=>by rw [show (1 - p=1)<->¬ p=1 by omega]) (hR1.reg (1 - p) hpo)
    obtain ⟨τ,hτ⟩:=hLreg
    have hLA:=aLa (A:=On x.in_) hτ (fun v hv=>((hN2 v).1 hv).1) fun v hv ho w hE hA=>by
     have h1:=(hN2 v).1 (hτ.sub v hv)
     have h2:(gg x.g).own v=p:=by have:=hown v;have ho':(gg x.g).own v≠1 - p:=ho;omega
     exact (hN2 w).2 ⟨hA,hA2.outM v h1.1 h1.2 h2 w hE⟩
    have hBreg:=attReg hLA hB2
    have hside:∀ q,q=0\/q=1->q=p\/q=1 - p:=fun q hq=>by omega
    intro q hq
    rcases hside q hq with rfl|rfl
    ·
     obtain ⟨ρ,hρ⟩:=hR2.reg q hq
     have:=aLa (A:=On x.in_) hρ (fun v hv=>((hM2 v).1 hv).1) fun v hv ho w hE hA=>by
      have h1:=(hM2 v).1 (hρ.sub v hv)
      have h2:(gg x.g).own v=1 - q:=by have:=hown v;have ho':(gg x.g).own v≠q:=ho;omega
      exact (hM2 w).2 ⟨hA,hB2.outM v h1.1 h1.2 h2 w hE⟩
     refine Reg.of (fun v=>Iff.rfl) (fun v=>?_) ⟨ρ,this⟩
     show On x.in_ v/\(On r v<->q=1)<->On N2 v/\(On R2 v<->q=1)
     rw [hr2,hM2]
     by_cases hb:On Bt v
     ·simp only [hb,true_and,not_true,false_and,or_false,and_false,false_and]
      by_cases hi:On x.in_ v
      ·simp only [hi,true_and,iff_false];omega
      ·simp [hi]
     ·by_cases hi:On x.in_ v<;>simp [hb,hi]
    ·
     obtain ⟨ρ,hρ⟩:=hR2.reg (1 - p) hq
     have:=aLb hBreg hρ fun v=>hM2 v
     refine Reg.of (fun v=>Iff.rfl) (fun v=>?_) ⟨_,this⟩
     show On x.in_ v/\(On r v<->1 - p=1)<->On Bt v\/(On N2 v/\(On R2 v<->1 - p=1))
     rw [hr2,hM2]
     by_cases hb:On Bt v
     ·have hi:=hB2.inA v hb
      simp only [hb,hi,true_and,not_true,false_and,or_false,true_or,iff_true]
      omega
     ·by_cases hi:On x.in_ v<;>simp [hb,hi]
   ·rw [if_pos (by
     cases hc:L.any fun b=>true == b with
     |true=>exact absurd (any_on.1 hc) hany
     |false=>rfl)]
    obtain ⟨r,e7,hr1,hr2⟩:=aNu hx p
    rw [e7,aA]
    refine ⟨r,rfl,hr1,?_⟩
    have hall:∃ σ,Reg (gg x.g) (On N1) p (On N1) σ:=Reg.of (fun v=>Iff.rfl) (fun v=>by
     show On N1 v<->On N1 v/\(On R1 v<->p=1)
     constructor
     ·intro hv
      refine ⟨hv,?_⟩
      have:¬ On L v:=fun h=>hany ⟨v,h⟩
      rw [hL2] at this
      have h2:¬ (On R1 v<->¬ p=1):=fun h=>this ⟨hv,h⟩
      by_cases h3:On R1 v<;>by_cases h4:p=1<;>simp [h3,h4] at h2 ⊢
     ·exact fun h=>h.1) (hR1.reg p hp)
    obtain ⟨τ,hτ⟩:=hall
    obtain ⟨ρ,hρ⟩:=allReg hpe hmle hS2 hA2 hN2 hτ hlive
    have hside:∀ q,q=0\/q=1->q=p\/q=1 - p:=fun q hq=>by omega
    intro q hq
    rcases hside q hq with rfl|rfl
    ·refine Reg.of (fun v=>Iff.rfl) (fun v=>?_) ⟨ρ,hρ⟩
     show On x.in_ v/\(On r v<->q=1)<->On x.in_ v
     rw [hr2]
     by_cases hi:On x.in_ v<;>simp [hi]
    ·refine aMu fun v hv=>?_
     obtain ⟨h1,h2⟩:=hv
     rw [hr2] at h2
     simp only [h1,true_and] at h2
     omega
end
end Gv
set_option linter.unusedVariables false
set_option linter.unusedSimpArgs false
namespace Gv
open Go
section
variable {g:List bM}
def InG (g:List bM) (v:Int):Prop:=0<=v/\v < (g.length:Int)
def bkL (g:List bM) (k w:Nat):List Int:=((List.range k).filter fun v:Nat=>decide ((w:Int)∈(vx g (v:Int)).Next)).map fun v:Nat=>(v:Int)
theorem bkL_succ (g:List bM) (k w:Nat):bkL g (k+1) w=bkL g k w++(if (w:Int)∈(vx g (k:Int)).Next then [(k:Int)] else []):=by
 unfold bkL
 rw [List.range_succ,List.filter_append,List.map_append]
 by_cases h:(w:Int)∈(vx g (k:Int)).Next<;>simp [h]
theorem bkL_len (g:List bM) (k w:Nat):(bkL g k w).length<=k:=by
 unfold bkL
 rw [List.length_map]
 exact Nat.le_trans (List.length_filter_le _ _) (Nat.le_of_eq List.length_range)
theorem back_row (hg:GOk g) {k:Nat} (hk:k < g.length) {B:List (List Int)} (hB:B.length=g.length) (hb:∀ w,w < g.length->B.getD w []=bkL g k w):
  ∃ B',loop (fun s:List (List Int) × Int=>lC (k:Int) (vx g (k:Int)) s.1 s.2) (B,0)=some B'/\B'.length=g.length/\∀ w,w < g.length->B'.getD w []=bkL g (k+1) w:=by
 have hl:(vx g (k:Int)).Next.length<=g.length:=nx_len (x:=⟨g,[],[]⟩) hg (k:Int)
 have hgl:=hg.len
 have hin:=hg.nx (k:Int)
 have hnd:=hg.nd (k:Int)
 have key:=bZ (step:=fun s:List (List Int) × Int=>lC (k:Int) (vx g (k:Int)) s.1 s.2) (vx g (k:Int)).Next.length (fun i (q:List (List Int))=>(q,(i:Int)))
  (fun i q=>q.length=g.length/\∀ w,w < g.length->q.getD w []=bkL g k w++(if (w:Int)∈(vx g (k:Int)).Next.take i then [(k:Int)] else []))
  (fun r=>r.length=g.length/\∀ w,w < g.length->r.getD w []=bkL g (k+1) w) (fun i q hi hI=>?_) (fun q hI=>?_) (vx g (k:Int)).Next.length 0 B (by omega) ⟨hB,fun w hw=>by rw [hb w hw];simp⟩
 ·exact key
 ·obtain ⟨a,b⟩:=hI
  have he:=hin _ (List.getElem_mem hi)
  have hnt:(vx g (k:Int)).Next[i]∉(vx g (k:Int)).Next.take i:=fun hm=>by
   obtain ⟨j,hj,e⟩:=List.mem_take_iff_getElem.1 hm
   exact List.pairwise_iff_getElem.1 hnd j i (by omega) hi (by omega) e
  show ∃ q',lC (k:Int) (vx g (k:Int)) q (i:Int)=some (.inl (q',((i+1:Nat):Int)))/\_
  unfold lC yO
  rw [if_pos (bU hi),bK hi,aA]
  generalize hee:(vx g (k:Int)).Next[i]=e at he hnt ⊢
  have hex:ix q e=some (bkL g k e.toNat):=by
   have:=b e.toNat (by omega)
   rw [show ((e.toNat:Nat):Int)=e by omega,if_neg hnt,List.append_nil] at this
   rw [←this]
   unfold ix
   rw [if_pos he.1,List.getD_eq_getElem?_getD,List.getElem?_eq_getElem (by omega)]
   rfl
  have hbl:=bkL_len g k e.toNat
  rw [hex,aA,cE (by simp only [List.length_singleton];unfold gQ;omega),aA]
  unfold st
  rw [if_pos ⟨he.1,by omega⟩,aA,bI hi (by omega)]
  refine ⟨_,rfl,by rw [List.length_set];exact a,fun w hw=>?_⟩
  rw [List.getD_eq_getElem?_getD,List.getElem?_set,List.take_succ_eq_append_getElem hi,hee]
  by_cases hwe:e.toNat=w
  ·subst hwe
   rw [if_pos rfl,if_pos (by omega),if_pos (by rw [show ((e.toNat:Nat):Int)=e by omega];simp)]
   rfl
  ·rw [if_neg hwe,←List.getD_eq_getElem?_getD,b w hw]
   congr 1
   have:(w:Int)∉[e]:=by rw [List.mem_singleton];omega
   simp only [List.mem_append,this,or_false]
 ·refine ⟨q,?_,hI.1,fun w hw=>?_⟩
  ·show lC (k:Int) (vx g (k:Int)) q ((vx g (k:Int)).Next.length:Int)=_
   unfold lC
   rw [if_neg (by simp)]
  ·rw [hI.2 w hw,List.take_length,bkL_succ]
theorem on_true {n:Nat} {v:Int}:On (List.replicate n true) v<->0<=v/\v < (n:Int):=by
 constructor
 ·intro h
  have:=h.lt
  rw [List.length_replicate] at this
  have:=h.1
  omega
 ·intro h
  refine ⟨h.1,?_⟩
  rw [getB (by rw [List.length_replicate];omega),List.getElem_replicate]
theorem aMw (hg:GOk g) (h1:1<=g.length):∃ B,aBv g=some (B,List.replicate g.length true)/\AOk ⟨g,B,List.replicate g.length true⟩:=by
 have hgl:=hg.len
 have key:=bZ (step:=fun s:List (List Int) × Int=>lD g s.1 s.2) g.length (fun i (q:List (List Int))=>(q,(i:Int)))
  (fun i q=>q.length=g.length/\∀ w,w < g.length->q.getD w []=bkL g i w)
  (fun r=>r.length=g.length/\∀ w,w < g.length->r.getD w []=bkL g g.length w) (fun i q hi hI=>?_) (fun q hI=>?_) g.length 0 (List.replicate g.length []) (by omega) ⟨by simp,fun w hw=>by
   rw [List.getD_eq_getElem?_getD,List.getElem?_replicate,if_pos hw]
   rfl⟩
 ·obtain ⟨B,e1,e2,e3⟩:=key
  refine ⟨B,?_,hg,by simp,e2,fun v h0 hv k=>?_,fun v=>?_⟩
  ·unfold aBv yP
   rw [xZ _ (by unfold gQ;omega),aA,Repeat_eq true g.length h1 (by omega),aA]
   have e1':loop (fun s:List (List Int) × Int=>lD g s.1 s.2) (List.replicate g.length [],0)=some B:=e1
   rw [e1',aA]
   rfl
  ·show k∈B.getD v.toNat []<->0<=k/\k < (g.length:Int)/\v∈(vx g k).Next
   rw [e3 _ (show v.toNat < g.length by have:v < (g.length:Int):=hv;omega)]
   unfold bkL
   rw [List.mem_map]
   rw [show ((v.toNat:Nat):Int)=v by omega]
   constructor
   ·rintro ⟨j,hj,rfl⟩
    rw [List.mem_filter,List.mem_range,decide_eq_true_iff] at hj
    exact ⟨Int.natCast_nonneg j,by omega,hj.2⟩
   ·rintro ⟨a,b,c⟩
    refine ⟨k.toNat,List.mem_filter.2 ⟨List.mem_range.2 (by omega),?_⟩,by omega⟩
    rw [show ((k.toNat:Nat):Int)=k by omega]
    simpa using c
  ·show (B.getD v []).Nodup
   by_cases hv:v < g.length
   ·rw [e3 v hv]
    unfold bkL
    have hn:((List.range g.length).filter fun j:Nat=>decide ((v:Int)∈(vx g (j:Int)).Next)).Nodup:=List.nodup_range.filter _
    exact List.pairwise_map.2 (hn.imp fun h e=>h (by omega))
   ·rw [List.getD_eq_getElem?_getD,List.getElem?_eq_none (by omega)]
    exact List.nodup_nil
 ·show ∃ q',lD g q (i:Int)=some (.inl (q',((i+1:Nat):Int)))/\_
  obtain ⟨B',e1,e2,e3⟩:=back_row hg hi hI.1 hI.2
  refine ⟨B',?_,e2,e3⟩
  unfold lD aCI yN
  rw [if_pos (bU hi),ixG hi,aA,e1,aA,bI hi (by omega)]
 ·refine ⟨q,?_,hI⟩
  show lD g q (g.length:Int)=_
  unfold lD
  rw [if_neg (by simp)]
theorem aBQ (b:Bool):yQ b=some (if b=true then 1 else 0):=by
 unfold yQ
 cases b<;>rfl
theorem aNy (hg:GOk g) (h1:1<=g.length):∃ out,aDg g=some out/\out.length=g.length/\∀ v,InG g v->∃ q,(q=0\/q=1)/\out.getD v.toNat 0=q/\∃ W σ,Reg (gg g) (InG g) q W σ/\W v:=by
 have hgl:=hg.len
 obtain ⟨B,e1,hx⟩:=aMw hg h1
 have hin:∀ v,On (List.replicate g.length true) v<->InG g v:=fun v=>on_true
 have hown:∀ v,(gg g).own v=0\/(gg g).own v=1:=hg.own
 obtain ⟨S0,f1,g1,g2⟩:=aJu hx 0
 obtain ⟨T0,f2,g3,rk0,σ0,g4⟩:=aDD hx (pl:=1) g1 fun v hv=>((g2 v).1 hv).1
 obtain ⟨S1,f3,g5,g6⟩:=aJu hx 1
 obtain ⟨T1,f4,g7,rk1,σ1,g8⟩:=aDD hx (pl:=0) g5 fun v hv=>((g6 v).1 hv).1
 obtain ⟨M0,f5,g9,g10⟩:=aDE hx g3
 have hx0:=hx.sub g9
 obtain ⟨M1,f6,g11,g12⟩:=aDE hx0 g7
 have hx1:=hx.sub g11
 simp only at g1 g2 g3 g4 g5 g6 g7 g8 g9 g10 g11 g12
 have hM:∀ v,On M1 v<->InG g v/\¬ On T0 v/\¬ On T1 v:=fun v=>by rw [g12,g10,hin,and_assoc]
 have hlive:Live ⟨g,B,M1⟩:=by
  intro v hv
  have hv:On M1 v:=hv
  obtain ⟨a,b,c⟩:=(hM v).1 hv
  have hne:(vx g v).Next≠[]:=fun hn=>by
   rcases hown v with ho|ho
   ·exact b (g4.sub v ((g2 v).2 ⟨(hin v).2 a,ho,hn⟩))
   ·exact c (g8.sub v ((g6 v).2 ⟨(hin v).2 a,ho,hn⟩))
  obtain ⟨w0,hw0⟩:=List.exists_mem_of_ne_nil _ hne
  have hw0':∃ w,(gg g).E v w/\On (List.replicate g.length true) w:=⟨w0,hw0,(hin _).2 (hg.nx v w0 hw0)⟩
  rcases hown v with ho|ho
  ·obtain ⟨w,h2,h3,h4⟩:=g4.outT v ((hin v).2 a) b (by rw [ho];decide) hw0'
   exact ⟨w,h2,(hM w).2 ⟨(hin w).1 h3,h4,g8.outM v ((hin v).2 a) c ho w h2⟩⟩
  ·obtain ⟨w,h2,h3,h4⟩:=g8.outT v ((hin v).2 a) c (by rw [ho];decide) hw0'
   exact ⟨w,h2,(hM w).2 ⟨(hin w).1 h3,g4.outM v ((hin v).2 a) b ho w h2,h4⟩⟩
 have hcnt:(onL M1).length < 100000:=by
  unfold onL
  rw [List.length_map]
  refine Nat.lt_of_le_of_lt (List.length_filter_le _ _) ?_
  rw [List.length_range]
  omega
 obtain ⟨R,f7,hR⟩:=win_ok 100000 ⟨g,B,M1⟩ hx1 hlive hcnt
 have hRl:R.length=g.length:=hR.len
 have hdead:∀ {p o:Int} {S:List Bool},p≠o->(∀ v,On S v<->On (List.replicate g.length true) v/\(vx g v).Owner=o/\(vx g v).Next=[])->Reg (gg g) (On (List.replicate g.length true)) p (On S) id:=fun {p o S} hpo hS=>
  ⟨fun v hv=>((hS v).1 hv).1,
   fun v hv ho=>absurd (ho.symm.trans ((hS v).1 hv).2.1) hpo,
   fun v hv _ w hE _=>(by
    have h2:w∈(vx g v).Next:=hE
    rw [((hS v).1 hv).2.2] at h2
    cases h2),
   fun f hf hE _=>by
    have h2:f 1∈(vx g (f 0)).Next:=hE 0
    rw [((hS _).1 (hf 0)).2.2] at h2
    cases h2⟩
 have hT0:=attReg (hdead (by decide) g2) g4
 have hT1:=attReg (hdead (by decide) g6) g8
 have hfull:∀ {q:Int} {W:Int->Prop},(∃ σ,Reg (gg g) (On (List.replicate g.length true)) q W σ)->∃ σ,Reg (gg g) (InG g) q W σ:=fun h=>Reg.of (fun v=>(hin v).symm) (fun _=>Iff.rfl) h
 have hW:∀ q,q=0\/q=1->∃ W,(∃ σ,Reg (gg g) (On (List.replicate g.length true)) q W σ)/\∀ v,On M1 v->(On R v<->q=1)->W v:=by
  intro q hq
  obtain ⟨ρ,hρ⟩:=hR.reg q hq
  rcases hq with rfl|rfl
  ·have h5:=aLa (A:=fun v=>On (List.replicate g.length true) v/\¬ On T1 v) hρ (fun v hv=>⟨(hin v).2 ((hM v).1 hv).1,((hM v).1 hv).2.2⟩) fun v hv ho w hE hA=>by
    obtain ⟨a,b,c⟩:=(hM v).1 (hρ.sub v hv)
    have ho':(gg g).own v=1:=by have:=hown v;have:(gg g).own v≠0:=ho;omega
    exact (hM w).2 ⟨(hin w).1 hA.1,g4.outM v ((hin v).2 a) b ho' w hE,hA.2⟩
   exact ⟨_,⟨_,aLb hT1 h5 fun v=>Iff.rfl⟩,fun v h6 h7=>.inr ⟨h6,h7⟩⟩
  ·have h5:=aLa (A:=fun v=>On (List.replicate g.length true) v/\¬ On T0 v) hρ (fun v hv=>⟨(hin v).2 ((hM v).1 hv).1,((hM v).1 hv).2.1⟩) fun v hv ho w hE hA=>by
    obtain ⟨a,b,c⟩:=(hM v).1 (hρ.sub v hv)
    have ho':(gg g).own v=0:=by have:=hown v;have:(gg g).own v≠1:=ho;omega
    exact (hM w).2 ⟨(hin w).1 hA.1,hA.2,g8.outM v ((hin v).2 a) c ho' w hE⟩
   exact ⟨_,⟨_,aLb hT0 h5 fun v=>Iff.rfl⟩,fun v h6 h7=>.inr ⟨h6,h7⟩⟩
 let F:Nat->Int:=fun k=>if On T0 (k:Int) then 1 else if On T1 (k:Int) then 0 else if On R (k:Int) then 1 else 0
 have key:=bZ (step:=fun s:List Int × Int=>nL g T0 T1 R s.1 s.2) g.length (fun i (q:List Int)=>(q,(i:Int))) (fun i q=>q.length=g.length/\∀ j,j < i->j < g.length->q.getD j 0=F j)
  (fun r=>r.length=g.length/\∀ j,j < g.length->r.getD j 0=F j) (fun i q hi hI=>?_) (fun q hI=>?_) g.length 0 (List.replicate g.length 0) (by omega) ⟨by simp,fun j hj=>by omega⟩
 ·obtain ⟨out,e2,e3,e4⟩:=key
  refine ⟨out,?_,e3,fun v hv=>?_⟩
  ·have e2':loop (fun s:List Int × Int=>nL g T0 T1 R s.1 s.2) (List.replicate g.length 0,0)=some out:=e2
   have f1':iM ⟨g,B,List.replicate g.length true⟩ g 0=some S0:=f1
   have f3':iM ⟨g,B,List.replicate g.length true⟩ g 1=some S1:=f3
   have f7':aEE ⟨g,B,M1⟩=some R:=f7
   unfold aDg wM
   rw [e1,aA,f1',aA,aA,f2,aA,f3',aA,aA,f4,aA,f5,aA,f6,aA,f7',aA,xZ _ (by unfold gQ;omega),aA,e2',aA]
   rfl
  ·have hv2:v.toNat < g.length:=by have:=hv.1;have:=hv.2;omega
   have hvv:((v.toNat:Nat):Int)=v:=by have:=hv.1;omega
   have e5:=e4 _ hv2
   have hF:F v.toNat=if On T0 v then 1 else if On T1 v then 0 else if On R v then 1 else 0:=by
    show (if On T0 ((v.toNat:Nat):Int) then (1:Int) else if On T1 ((v.toNat:Nat):Int) then 0 else if On R ((v.toNat:Nat):Int) then 1 else 0)=_
    rw [hvv]
   rw [hF] at e5
   by_cases c0:On T0 v
   ·rw [if_pos c0] at e5
    obtain ⟨σ,h2⟩:=hfull ⟨_,hT0⟩
    exact ⟨1,.inr rfl,e5,_,σ,h2,c0⟩
   ·rw [if_neg c0] at e5
    by_cases c1:On T1 v
    ·rw [if_pos c1] at e5
     obtain ⟨σ,h2⟩:=hfull ⟨_,hT1⟩
     exact ⟨0,.inl rfl,e5,_,σ,h2,c1⟩
    ·rw [if_neg c1] at e5
     have hm:=(hM v).2 ⟨hv,c0,c1⟩
     by_cases c2:On R v
     ·rw [if_pos c2] at e5
      obtain ⟨W,h2,h3⟩:=hW 1 (.inr rfl)
      obtain ⟨σ,h4⟩:=hfull h2
      exact ⟨1,.inr rfl,e5,W,σ,h4,h3 v hm (by simp [c2])⟩
     ·rw [if_neg c2] at e5
      obtain ⟨W,h2,h3⟩:=hW 0 (.inl rfl)
      obtain ⟨σ,h4⟩:=hfull h2
      exact ⟨0,.inl rfl,e5,W,σ,h4,h3 v hm (by simp [c2])⟩
 ·refine ⟨q.set i (F i),?_,by rw [List.length_set];exact hI.1,fun j hj hjn=>?_⟩
  ·show nL g T0 T1 R q (i:Int)=some (.inl (q.set i (F i),((i+1:Nat):Int)))
   have hql:=hI.1
   unfold nL sW
   rw [if_pos (bU hi),ixO (by omega),aA,ixO (by omega),aA,ixO (by omega),aA,aBQ,aBQ,aBQ,aA,aA,aA,bK (by omega),aA,aA,aA,oD _ (by omega),oD _ (by omega),oD _ (by omega),aA,aA,aA,bI hi (by omega)]
   show _=some (Sum.inl (q.set i (if On T0 (i:Int) then (1:Int) else if On T1 (i:Int) then 0 else if On R (i:Int) then 1 else 0),((i+1:Nat):Int)))
   by_cases c0:On T0 (i:Int)
   ·simp [c0]
   ·by_cases c1:On T1 (i:Int)
    ·simp [c0,c1]
    ·by_cases c2:On R (i:Int)<;>simp [c0,c1,c2]
  ·rw [List.getD_eq_getElem?_getD,List.getElem?_set]
   by_cases e:i=j
   ·subst e
    rw [if_pos rfl,if_pos (by rw [hI.1];exact hi)]
    rfl
   ·rw [if_neg e,←List.getD_eq_getElem?_getD]
    exact hI.2 j (by omega) hjn
 ·refine ⟨q,?_,hI.1,fun j hj=>hI.2 j hj hj⟩
  show nL g T0 T1 R q (g.length:Int)=_
  unfold nL
  rw [if_neg (by simp)]
end
end Gv
set_option linter.unusedVariables false
set_option linter.unusedSimpArgs false
namespace Gv
open Go
theorem aGV (s:aQ) (c0:UInt8) (h:s.length < 1000000000):kS s [c0]=some (if (s.getLast? == some c0)=true then (s.dropLast,true) else (s,false)):=by
 unfold kS iJ cW
 rcases List.eq_nil_or_concat s with rfl|⟨l,c,rfl⟩
 ·rfl
 ·have hl:(l.concat c).length=l.length+1:=by simp
  have w:wr (((l.concat c).length:Int) - (([c0]:aQ).length:Int))=(l.length:Int):=by
   rw [hl] at h ⊢
   show wr (((l.length+1:Nat):Int) - 1)=_
   rw [cF (by omega) (by omega)];omega
  have s1:slc (l.concat c) (l.length:Int) ((l.concat c).length:Int)=some [c]:=by
   unfold slc;rw [if_pos ⟨by omega,by omega,by simp⟩];simp
  have s2:slc (l.concat c) 0 (l.length:Int)=some l:=by
   unfold slc;rw [if_pos ⟨by omega,by omega,by simp⟩];simp
  rw [if_pos (by simp;omega),w,s1,aA,dG,aA]
  have hg:(l.concat c).getLast?=some c:=by simp
  have hd:(l.concat c).dropLast=l:=by simp
  rw [hg,hd]
  by_cases hc:c=c0
  ·subst hc
   rw [s2];simp
  ·have hc':¬ ([c]:aQ)=[c0]:=fun e=>hc (by simpa using e)
   simp [hc]
theorem rdI_name {s nm:aQ} {vs:List Int} (h:s.length < 1000000000) (e:rF s=some (nm,vs,true)):nm=(lG 40 s).1:=by
 have j2:∀ r1 v,jR s r1 v=some (nm,vs,true)->nm=r1.1:=fun r1 v e=>by
  have j1:∀ b,lQ r1 v b=some (nm,vs,true)->nm=r1.1:=fun b e=>by
   unfold lQ at e
   split at e
   ·simp at e
   ·simp at e;exact e.1.symm
  unfold jR at e
  obtain ⟨r,_,e⟩:=aB e
  split at e<;>exact j1 _ e
 unfold rF l_Cut at e
 rw [if_pos (by omega),aA,cut_eq] at e
 simp only at e
 split at e
 ·obtain ⟨x,_,e⟩:=aB e
  obtain ⟨y,_,e⟩:=aB e
  obtain ⟨z,_,e⟩:=aB e
  split at e
  ·simp at e
  ·exact j2 _ _ e
 ·exact j2 _ _ e
theorem LabelI_eq {s:aQ} (h:s.length < 1000000000) (hl:aAi s=true):aCo s=some (lG 40 s).1:=by
 have e:=aGc s h
 unfold aAU at e
 obtain ⟨x,hx,e⟩:=aB e
 obtain ⟨nm,vs,b⟩:=x
 rw [hl] at e
 simp at e
 subst e
 unfold aCo
 rw [hx,aA,rdI_name h hx]
noncomputable def selN (n:bD) (l:aQ):Bool:=(mA n l).getD false
theorem aNz {n:bD} {l:aQ} (hn:n.B.length < 1000000) (hl:l.length < 1000000) (hb:aAi l=true):mA n l=some (selN n l):=by
 have key:∃ b,mA n l=some b:=by
  unfold mA kI
  rw [aGV _ _ (by omega),aA,LabelI_eq (by omega) hb,aA]
  split
  ·exact ⟨_,rfl⟩
  ·split
   ·exact ⟨_,rfl⟩
   ·split<;>exact ⟨_,rfl⟩
 obtain ⟨b,e⟩:=key
 unfold selN
 rw [e]
 rfl
def rA (f:List bD) (k:Nat):bD:=f.getD k default
noncomputable def qQ (f:List bD) (k:Nat):List Int:=(iN f (k:Int)).getD []
noncomputable def bndF (f:List bD) (k:Nat):Int:=(uD f (k:Int)).getD 0
noncomputable def nstF (f:List bD) (k:Nat):Int:=(xV f (k:Int)).getD 0
structure FOk (f:List bD):Prop where
 len:1<=f.length/\f.length<=30
 ops:∀ k,k < f.length->iN f (k:Int)=some (qQ f k)/\(qQ f k).length<=2/\∀ o∈qQ f k,0<=o/\o < (f.length:Int)
 one:∀ k,k < f.length->((rA f k).Kind=4\/(rA f k).Kind=5)->(qQ f k).length=1
 lab:∀ k,k < f.length->(rA f k).B.length < 1000
 bnd:∀ k,k < f.length->(rA f k).Kind=6->uD f (k:Int)=some (bndF f k)/\0<=bndF f k/\bndF f k < (f.length:Int)
 nst:∀ k,k < f.length->xV f (k:Int)=some (nstF f k)/\0<=nstF f k/\nstF f k<=30
def aGW (n:bD):Int:=if n.Kind=0\/n.Kind=2\/n.Kind=5 then 1 else 0
noncomputable def prF (f:List bD) (k:Nat):Int:=if (rA f k).Kind=7\/(rA f k).Kind=8 then 2 * nstF f k+(if (rA f k).Kind=7 then 1 else 0) else 1000
noncomputable def nxF (f:List bD) (t:bQ) (k:Nat) (x:Int):List Int:=
 if (rA f k).Kind=4\/(rA f k).Kind=5 then ((t.E.filter fun e=>e.F == x).filter fun e=>selN (rA f k) (txt t e)).map fun e=>(qQ f k).getD 0 0 * t.N+e.To
 else if (rA f k).Kind=6 then [bndF f k * t.N+x] else (qQ f k).map fun o=>o * t.N+x
noncomputable def verF (f:List bD) (t:bQ) (k:Nat) (x:Int):bM:=⟨aGW (rA f k),prF f k,fZ (xB iLt (nxF f t k x))⟩
noncomputable def rowF (f:List bD) (t:bQ) (k:Nat):List bM:=(List.range t.N.toNat).map fun x:Nat=>verF f t k (x:Int)
noncomputable def gmF (f:List bD) (t:bQ) (k:Nat):List bM:=(List.range k).flatMap (rowF f t)
section
variable {f:List bD} {t:bQ}
theorem aJv (f:List bD) (t:bQ) (k:Nat):gmF f t (k+1)=gmF f t k++rowF f t k:=by
 unfold gmF
 rw [List.range_succ,List.flatMap_append]
 simp
theorem aJw (f:List bD) (t:bQ) (k:Nat):(rowF f t k).length=t.N.toNat:=by unfold rowF;simp
theorem aCz (f:List bD) (t:bQ):∀ k,(gmF f t k).length=k * t.N.toNat
 |0=>by simp [gmF]
 |k+1=>by rw [aJv,List.length_append,aCz f t k,aJw,Nat.succ_mul]
theorem aLe (f:List bD) (t:bQ):∀ (m k x:Nat),k < m->x < t.N.toNat->(gmF f t m)[k * t.N.toNat+x]?=some (verF f t k (x:Int))
 |0,k,x,h,_=>by omega
 |m+1,k,x,h,hx=>by
  rw [aJv]
  by_cases hk:k < m
  ·have hlt:k * t.N.toNat+x < (gmF f t m).length:=by
    rw [aCz]
    have h1:=Nat.mul_le_mul_right t.N.toNat (show k+1<=m by omega)
    rw [Nat.succ_mul] at h1
    omega
   rw [List.getElem?_append_left hlt,aLe f t m k x hk hx]
  ·obtain rfl:k=m:=by omega
   rw [List.getElem?_append_right (by rw [aCz];omega),aCz,show k * t.N.toNat+x - k * t.N.toNat=x by omega]
   unfold rowF
   rw [List.getElem?_map,List.getElem?_range hx]
   rfl
theorem nx_some (hf:FOk f) (ht:dK t) (hlab:∀ s∈t.L,aAi s=true/\s.length < 1000) {k:Nat} (hk:k < f.length) {x:Int} (hx:0<=x/\x < t.N):∀ w∈nxF f t k x,0<=w/\w < ((f.length * t.N.toNat:Nat):Int):=by
 intro w hw
 have hS:=ht.1
 have key:∀ o y:Int,0<=o->o < (f.length:Int)->0<=y->y < t.N->0<=o * t.N+y/\o * t.N+y < ((f.length * t.N.toNat:Nat):Int):=fun o y h1 h2 h3 h4=>by
  have a1:0<=o * t.N:=Int.mul_nonneg h1 (by omega)
  have a2:(o+1) * t.N<=(f.length:Int) * t.N:=Int.mul_le_mul_of_nonneg_right (by omega) (by omega)
  rw [Int.add_mul,Int.one_mul] at a2
  rw [Int.natCast_mul,show ((t.N.toNat:Nat):Int)=t.N by omega]
  omega
 unfold nxF at hw
 split at hw
 ·rename_i hm
  obtain ⟨e,he,rfl⟩:=List.mem_map.1 hw
  have he1:=(List.mem_filter.1 (List.mem_filter.1 he).1).1
  have h1:=aHx ht he1
  have ho:=hf.one k hk hm
  have h2:=(hf.ops k hk).2.2 ((qQ f k).getD 0 0) (by rw [List.getD_eq_getElem?_getD,List.getElem?_eq_getElem (by omega)];exact List.getElem_mem _)
  exact key _ _ h2.1 h2.2 h1.2.1.1 h1.2.1.2
 ·split at hw
  ·rename_i h6
   rw [List.mem_singleton] at hw
   subst hw
   have:=hf.bnd k hk h6
   exact key _ _ this.2.1 this.2.2 hx.1 hx.2
  ·obtain ⟨o,ho,rfl⟩:=List.mem_map.1 hw
   have:=(hf.ops k hk).2.2 o ho
   exact key _ _ this.1 this.2 hx.1 hx.2
theorem prF_in (hf:FOk f) {k:Nat} (hk:k < f.length):0<=prF f k/\prF f k<=1000:=by
 have:=(hf.nst k hk).2
 unfold prF
 split
 ·split<;>omega
 ·omega
theorem gmF_ok (hf:FOk f) (ht:dK t) (hS:t.N<=40) (hlab:∀ s∈t.L,aAi s=true/\s.length < 1000):GOk (gmF f t f.length)/\1<=(gmF f t f.length).length:=by
 have h1:=ht.1
 have hl:=hf.len
 have hlen:=aCz f t f.length
 have hm:f.length * t.N.toNat<=30 * 40:=Nat.mul_le_mul hl.2 (by omega)
 have hm1:1 * 1<=f.length * t.N.toNat:=Nat.mul_le_mul hl.1 (by omega)
 have hdef:∀ v:Int,vx (gmF f t f.length) v=default\/∃ k x,k < f.length/\x < t.N.toNat/\vx (gmF f t f.length) v=verF f t k ((x:Nat):Int):=by
  intro v
  unfold vx
  rw [List.getD_eq_getElem?_getD]
  by_cases hv:v.toNat < f.length * t.N.toNat
  ·refine .inr ⟨v.toNat / t.N.toNat,v.toNat % t.N.toNat,(Nat.div_lt_iff_lt_mul (by omega)).2 hv,Nat.mod_lt _ (by omega),?_⟩
   have e:=aLe f t f.length (v.toNat / t.N.toNat) (v.toNat % t.N.toNat) ((Nat.div_lt_iff_lt_mul (by omega)).2 hv) (Nat.mod_lt _ (by omega))
   rw [Nat.mul_comm,Nat.div_add_mod] at e
   rw [e]
   rfl
  ·exact .inl (by rw [List.getElem?_eq_none (by rw [hlen];omega)];rfl)
 refine ⟨⟨by omega,fun v=>?_,fun v=>?_,fun v=>?_,fun v=>?_⟩,by omega⟩
 ·rcases hdef v with e|⟨k,x,_,_,e⟩<;>rw [e]
  ·exact .inl rfl
  ·show aGW _=0\/aGW _=1
   unfold aGW
   split<;>simp
 ·rcases hdef v with e|⟨k,x,hk,_,e⟩<;>rw [e]
  ·exact ⟨Int.le_refl _,by decide⟩
  ·show 0<=prF f k/\prF f k<=1000000
   have:=prF_in hf hk
   omega
 ·rcases hdef v with e|⟨k,x,hk,hx,e⟩<;>rw [e]
  ·intro w hw;cases hw
  ·intro w hw
   have hw:w∈fZ (xB iLt (nxF f t k (x:Int))):=hw
   rw [aFn.2] at hw
   rw [hlen]
   exact nx_some hf ht hlab hk (by omega) w hw
 ·rcases hdef v with e|⟨k,x,hk,_,e⟩<;>rw [e]
  ·exact List.nodup_nil
  ·exact (aFn (xs:=nxF f t k (x:Int))).1.imp fun h=>by omega
end
end Gv
set_option linter.unusedVariables false
set_option linter.unusedSimpArgs false
namespace Gv
open Go
section
variable {f:List bD} {t:bQ}
theorem aDG (n:bD):jV n=some (decide (n.Kind=7\/n.Kind=8)):=by
 unfold jV qW
 by_cases h:n.Kind=7
 ·simp [h]
 ·by_cases h':n.Kind=8<;>simp [h,h']
theorem aCO (n:bD):kH n=some (decide (n.Kind=4\/n.Kind=5)):=by
 unfold kH nD
 by_cases h:n.Kind=4
 ·simp [h]
 ·by_cases h':n.Kind=5<;>simp [h,h']
theorem sset_eq (l:List Int) (h:l.length < 100000):zZ l=some (fZ (xB iLt l)):=by
 unfold zZ gM
 rw [cE (by simp only [List.length_nil];unfold gQ;omega),aA,aA,List.nil_append,aGP (by omega),aA,aHP _ (by unfold xB;rw [List.length_mergeSort];omega),aA]
theorem gc1 {o y p0 p1:Int} {L:List Int} (ho:0<=o/\o < 1000) (hy:0<=y/\y < 1000) (hS:0<=t.N/\t.N<=1000) (hl:L.length<=10000):lO o y p0 p1 L t=some (L++[o * t.N+y]):=by
 have h1:0<=o * t.N:=Int.mul_nonneg ho.1 hS.1
 have h2:o * t.N<=1000 * 1000:=Int.mul_le_mul (by omega) hS.2 hS.1 (by omega)
 unfold lO
 rw [cF (x:=o * t.N) (by omega) (by omega),cF (by omega) (by omega),cE (by simp only [List.length_singleton];unfold gQ;omega),aA]
theorem ix_mem {α:Type} {xs:List α} {k:Nat} {x:α} (h:ix xs (k:Int)=some x):x∈xs:=by
 rw [aBb] at h
 exact List.mem_of_getElem? h
theorem aJx (hf:FOk f) {k x:Nat} (hk:k < f.length) (hx:x < 10000) {out:List bM} (hout:out.length<=100000) {o:Int} (ho:o=aGW (rA f k)) {N:List Int} (hN:N=nxF f t k (x:Int)) (hl:N.length<=10000):
  gH f (k:Int) (rA f k) out (x:Int) o N=some (.inl (out++[verF f t k (x:Int)],((x+1:Nat):Int))):=by
 have hns:=hf.nst k hk
 have hj5:∀ p:Int,p=prF f k->iT out (x:Int) o N p=some (.inl (out++[verF f t k (x:Int)],((x+1:Nat):Int))):=fun p hp=>by
  unfold iT oG
  rw [sset_eq _ (by omega),aA,cE (by simp only [List.length_singleton];unfold gQ;omega),aA,bI (n:=10000) hx (by omega)]
  unfold verF
  rw [hp,ho,hN]
 unfold gH
 rw [aDG,aA]
 by_cases h:(rA f k).Kind=7\/(rA f k).Kind=8
 ·rw [if_pos (by simpa using h),hns.1,aA,aBQ,aA,cF (x:=2 * nstF f k) (by omega) (by omega)]
  refine hj5 _ ?_
  unfold prF
  rw [if_pos h]
  by_cases h7:(rA f k).Kind=7
  ·simp only [h7,beq_self_eq_true,if_true]
   rw [cF (by omega) (by omega)]
  ·rw [if_neg h7,if_neg (by simpa using h7),cF (by omega) (by omega)]
 ·rw [if_neg (by simpa using h)]
  refine hj5 _ ?_
  unfold prF
  rw [if_neg h]
theorem game_step (hf:FOk f) (ht:dK t) (hS:t.N<=40) (hlab:∀ s∈t.L,aAi s=true/\s.length < 1000) {k x:Nat} (hk:k < f.length) (hx:x < t.N.toNat) {out:List bM} (hout:out.length<=100000):
  eA f t (k:Int) (rA f k) (qQ f k) out (x:Int)=some (.inl (out++[verF f t k (x:Int)],((x+1:Nat):Int))):=by
 have h300:=ht.2.2.2.1
 have hlen:=hf.len
 have hop:=hf.ops k hk
 have hb:=hf.bnd k hk
 have hj13:∀ o,o=aGW (rA f k)->fX f t (k:Int) (rA f k) (qQ f k) out (x:Int) o=some (.inl (out++[verF f t k (x:Int)],((x+1:Nat):Int))):=by
  intro o ho
  have hj12:¬ ((rA f k).Kind=4\/(rA f k).Kind=5)->iD f t (k:Int) (rA f k) (qQ f k) out (x:Int) o=some (.inl (out++[verF f t k (x:Int)],((x+1:Nat):Int))):=by
   intro hm
   unfold iD
   by_cases h6:(rA f k).Kind=6
   ·have hb:=hb h6
    rw [if_pos (by simpa using h6),hb.1,aA,gc1 ⟨hb.2.1,by omega⟩ ⟨by omega,by omega⟩ (by omega) (by simp),aA]
    refine aJx hf hk (by omega) hout ho ?_ (by simp)
    unfold nxF
    rw [if_neg hm,if_pos h6]
    rfl
   ·rw [if_neg (by simpa using h6)]
    have key:=aFl (step:=fun s:List Int × Int=>fW t (qQ f k) (x:Int) o s.1 s.2) (qQ f k) (fun o=>o * t.N+(x:Int)) (fun r=>r) (fun j q a hj hq ha=>by
     show fW t (qQ f k) (x:Int) o q (j:Int)=_
     have:=hop.2.2 a (ix_mem ha)
     unfold fW
     rw [if_pos (bU hj),ha,aA,gc1 ⟨this.1,by omega⟩ ⟨by omega,by omega⟩ (by omega) (by omega),aA,bI hj (by omega)]) (fun q=>by
     show fW t (qQ f k) (x:Int) o q ((qQ f k).length:Int)=_
     unfold fW
     rw [if_neg (by simp)])
    rw [key,aA]
    unfold rZ
    refine aJx hf hk (by omega) hout ho ?_ (by rw [List.length_map];omega)
    unfold nxF
    rw [if_neg hm,if_neg h6]
  unfold fX
  rw [aCO,aA]
  by_cases hm:(rA f k).Kind=4\/(rA f k).Kind=5
  ·have h1:=hf.one k hk hm
   have ho0:ix (qQ f k) 0=some ((qQ f k).getD 0 0):=by
    show ix (qQ f k) ((0:Nat):Int)=_
    rw [bK (by omega),List.getD_eq_getElem?_getD,List.getElem?_eq_getElem (by omega)]
    rfl
   have hor:=hop.2.2 ((qQ f k).getD 0 0) (by rw [List.getD_eq_getElem?_getD,List.getElem?_eq_getElem (by omega)];exact List.getElem_mem _)
   rw [if_pos (by simpa using hm),out_eq _ _ (by omega),aA]
   have hfl:(t.E.filter fun e=>e.F == (x:Int)).length<=300:=Nat.le_trans (List.length_filter_le _ _) h300
   have key:=aCv (step:=fun s:List Int × Int=>gI t (rA f k) (qQ f k) o (t.E.filter fun e=>e.F == (x:Int)) s.1 s.2) (t.E.filter fun e=>e.F == (x:Int)) (fun e=>selN (rA f k) (txt t e)) (fun e=>(qQ f k).getD 0 0 * t.N+e.To) (fun r=>r) (fun j q e hj hq he=>by
    show gI t (rA f k) (qQ f k) o _ q (j:Int)=_
    have he1:=(List.mem_filter.1 (ix_mem he)).1
    have hbd:=aHx ht he1
    have hl:=hlab _ (yE ht he1)
    have hnl:=hf.lab k hk
    unfold gI kT
    rw [if_pos (bU hj),he,aA,aIX (yS ht he1),aA,aNz (by omega) (by omega) hl.1,aA,ho0,aA,gc1 ⟨hor.1,by omega⟩ ⟨by omega,by omega⟩ (by omega) (by omega),aA,bI hj (by omega)]
    cases selN (rA f k) (txt t e)<;>simp) (fun q=>by
    show gI t (rA f k) (qQ f k) o _ q _=_
    unfold gI
    rw [if_neg (by simp)])
   rw [key,aA]
   unfold tK
   refine aJx hf hk (by omega) hout ho ?_ (by rw [List.length_map];exact Nat.le_trans (List.length_filter_le _ _) (by omega))
   unfold nxF
   rw [if_pos hm]
  ·rw [if_neg (by simpa using hm)]
   split<;>exact hj12 hm
 unfold eA
 rw [if_pos (by simp;omega)]
 by_cases h0:(rA f k).Kind=0
 ·rw [if_pos (by simpa using h0),aBQ,aA]
  exact hj13 _ (by rw [if_pos rfl];unfold aGW;rw [if_pos (Or.inl h0)])
 ·rw [if_neg (by simpa using h0)]
  by_cases h2:(rA f k).Kind=2
  ·rw [if_pos (by simpa using h2),aBQ,aA]
   exact hj13 _ (by rw [if_pos rfl];unfold aGW;rw [if_pos (Or.inr (Or.inl h2))])
  ·rw [if_neg (by simpa using h2),aBQ,aA]
   refine hj13 _ ?_
   unfold aGW
   by_cases h5:(rA f k).Kind=5
   ·rw [if_pos (by simpa using h5),if_pos (.inr (.inr h5))]
   ·rw [if_neg (by simpa using h5),if_neg (by rintro (h|h|h);exact h0 h;exact h2 h;exact h5 h)]
theorem game_eq (hf:FOk f) (ht:dK t) (hS:t.N<=40) (hlab:∀ s∈t.L,aAi s=true/\s.length < 1000):pA f t=some (gmF f t f.length):=by
 have hS1:=ht.1
 have hlen:=hf.len
 have hgl:∀ k,k<=f.length->(gmF f t k).length<=1200:=fun k hk=>by
  rw [aCz]
  exact Nat.le_trans (Nat.mul_le_mul (show k<=30 by omega) (show t.N.toNat<=40 by omega)) (Nat.le_refl _)
 have key:=bZ (step:=fun s:List bM × Int=>eP f t s.1 s.2) f.length (fun i (q:List bM)=>(q,(i:Int))) (fun i q=>q=gmF f t i) (fun r=>r=gmF f t f.length) (fun k q hk hI=>?_) (fun q hI=>?_) f.length 0 [] (by omega) rfl
 ·obtain ⟨r,e1,e2⟩:=key
  have e1':loop (fun s:List bM × Int=>eP f t s.1 s.2) ([],0)=some r:=e1
  unfold pA
  rw [e1',aA,e2]
  rfl
 ·subst hI
  refine ⟨gmF f t (k+1),?_,rfl⟩
  show eP f t (gmF f t k) (k:Int)=_
  have hg:=hgl k (by omega)
  have hnd:f[k]=rA f k:=by unfold rA;rw [List.getD_eq_getElem?_getD,List.getElem?_eq_getElem hk];rfl
  have inner:=bZ (step:=fun s:List bM × Int=>eA f t (k:Int) (rA f k) (qQ f k) s.1 s.2) t.N.toNat (fun i (q:List bM)=>(q,(i:Int))) (fun i q=>q=gmF f t k++(rowF f t k).take i) (fun r=>r=gmF f t (k+1)) (fun x q hx hI=>?_) (fun q hI=>?_) t.N.toNat 0 (gmF f t k) (by omega) (by simp)
  ·obtain ⟨r,e1,e2⟩:=inner
   have e1':loop (fun s:List bM × Int=>eA f t (k:Int) (rA f k) (qQ f k) s.1 s.2) (gmF f t k,0)=some r:=e1
   unfold eP oF oE
   rw [if_pos (bU hk),bK hk,aA,hnd,(hf.ops k hk).1,aA,e1',aA,e2,bI hk (by omega)]
  ·subst hI
   refine ⟨gmF f t k++(rowF f t k).take (x+1),?_,rfl⟩
   show eA f t (k:Int) (rA f k) (qQ f k) (gmF f t k++(rowF f t k).take x) (x:Int)=_
   have hr:=aJw f t k
   rw [game_step hf ht hS hlab hk hx (by rw [List.length_append,List.length_take];omega),List.take_succ_eq_append_getElem (by omega),List.append_assoc]
   unfold rowF
   rw [List.getElem_map,List.getElem_range]
  ·refine ⟨q,?_,?_⟩
   ·show eA f t (k:Int) (rA f k) (qQ f k) q ((t.N.toNat:Nat):Int)=_
    unfold eA
    rw [if_neg (by simp;omega)]
   ·rw [hI,aJv,List.take_of_length_le (by rw [aJw];exact Nat.le_refl _)]
 ·refine ⟨q,?_,hI⟩
  show eP f t q (f.length:Int)=_
  unfold eP
  rw [if_neg (by simp)]
end
end Gv
set_option linter.unusedVariables false
set_option linter.unusedSimpArgs false
namespace Gv
open Go
theorem tB {σ ρ:Type} {step:σ->Option (σ ⊕ ρ)} {s s':σ} (h:step s=some (.inl s')):loop step s=loop step s':=by rw [cB,h]
theorem aAZ {σ ρ:Type} {step:σ->Option (σ ⊕ ρ)} {s:σ} {r:ρ} (h:step s=some (.inr r)):loop step s=some r:=by rw [cB,h]
def Pats:List aQ:=[[],[97],[98],[116,97,117],[103,101,116,42],[103,101,116,40,48,41],[99]]
def PatOk (l:aQ):Prop:=vN l=some true/\l.length < 1000
inductive Tm:List Int->List bD->Prop
 |leaf {b:List Int} {k:Int}:k=0\/k=1->Tm b [⟨k,0,[],false⟩]
 |var {b:List Int} {v:Int}:v∈b->0<=v/\v<=2->Tm b [⟨6,v,[],false⟩]
 |bin {b:List Int} {k:Int} {L M:List bD}:k=2\/k=3->Tm b L->Tm b M->Tm b (⟨k,0,[],false⟩::(L++M))
 |mod {b:List Int} {k:Int} {l:aQ} {n:Bool} {L:List bD}:k=4\/k=5->PatOk l->Tm b L->Tm b (⟨k,0,l,n⟩::L)
 |fix {b:List Int} {k v:Int} {L:List bD}:k=7\/k=8->0<=v/\v<=2->Tm (b++[v]) L->Tm b (⟨k,v,[],false⟩::L)
theorem Tm.pos {b:List Int} {L:List bD} (h:Tm b L):1<=L.length:=by
 cases h<;>simp
def arN (n:bD):Nat:=if n.Kind=2\/n.Kind=3 then 2 else if n.Kind=4\/n.Kind=5\/n.Kind=7\/n.Kind=8 then 1 else 0
theorem aAj (n:bD):kM n=some ((arN n:Nat):Int):=by
 unfold kM lX jK arN
 by_cases h2:n.Kind=2
 ·simp [h2]
 ·by_cases h3:n.Kind=3
  ·simp [h2,h3]
  ·by_cases h4:n.Kind=4
   ·simp [h2,h3,h4]
   ·by_cases h5:n.Kind=5
    ·simp [h2,h3,h4,h5]
    ·by_cases h7:n.Kind=7
     ·simp [h2,h3,h4,h5,h7]
     ·by_cases h8:n.Kind=8
      ·simp [h2,h3,h4,h5,h7,h8]
      ·simp [h2,h3,h4,h5,h7,h8]
section
variable {f:List bD}
theorem dS {o:Nat} {n:bD} {l:List bD} (h:f.drop o=n::l):o < f.length/\rA f o=n/\f.drop (o+1)=l:=by
 have hl:o < f.length:=by
  by_cases hl:o < f.length
  ·exact hl
  ·rw [List.drop_eq_nil_of_le (by omega)] at h;cases h
 rw [List.drop_eq_getElem_cons hl] at h
 obtain ⟨h1,h2⟩:=List.cons.inj h
 refine ⟨hl,?_,h2⟩
 unfold rA
 rw [List.getD_eq_getElem?_getD,List.getElem?_eq_getElem hl]
 exact h1
theorem aGX {k:Nat} (h:k < f.length):ix f (k:Int)=some (rA f k):=by
 rw [bK h]
 unfold rA
 rw [List.getD_eq_getElem?_getD,List.getElem?_eq_getElem h]
 rfl
theorem tm_walk {σ ρ:Type} {step:σ->Option (σ ⊕ ρ)} (g:Nat->Nat->σ)
  (hs:∀ k need,k < f.length->1<=need->need<=1000->step (g k need)=some (.inl (g (k+1) (need+arN (rA f k) - 1)))) {b:List Int} {L:List bD} (h:Tm b L):
  ∀ (o:Nat) (post:List bD) (need:Nat),f.drop o=L++post->1<=need->need+L.length<=1000->loop step (g o need)=loop step (g (o+L.length) (need - 1)):=by
 induction h with
 |@leaf b k hk=>
  intro o post need hd h1 h2
  obtain ⟨a,c,d⟩:=dS hd
  rw [tB (hs o need a h1 (by simp only [List.length_singleton] at h2;omega)),c]
  have:arN ⟨k,0,[],false⟩=0:=by unfold arN;rw [if_neg (by simp only;omega),if_neg (by simp only;omega)]
  rw [this]
  rfl
 |@var b v hv hr=>
  intro o post need hd h1 h2
  obtain ⟨a,c,d⟩:=dS hd
  rw [tB (hs o need a h1 (by simp only [List.length_singleton] at h2;omega)),c]
  rfl
 |@bin b k L M hk hL hM ihL ihM=>
  intro o post need hd h1 h2
  rw [List.length_cons,List.length_append] at h2
  obtain ⟨a,c,d⟩:=dS hd
  rw [tB (hs o need a h1 (by omega)),c]
  have:arN ⟨k,0,[],false⟩=2:=by unfold arN;rw [if_pos hk]
  rw [this,ihL (o+1) (M++post) _ (d.trans (List.append_assoc L M post)) (by omega) (by omega),ihM (o+1+L.length) post _ (by rw [←List.drop_drop,d.trans (List.append_assoc L M post),List.drop_left]) (by omega) (by omega),List.length_cons,List.length_append]
  congr 2<;>omega
 |@mod b k l n L hk hl hL ih=>
  intro o post need hd h1 h2
  rw [List.length_cons] at h2
  obtain ⟨a,c,d⟩:=dS hd
  rw [tB (hs o need a h1 (by omega)),c]
  have:arN ⟨k,0,l,n⟩=1:=by unfold arN;rw [if_neg (by simp only;omega),if_pos (by simp only;omega)]
  rw [this,ih (o+1) post _ d (by omega) (by omega),List.length_cons]
  congr 2;omega
 |@fix b k v L hk hv hL ih=>
  intro o post need hd h1 h2
  rw [List.length_cons] at h2
  obtain ⟨a,c,d⟩:=dS hd
  rw [tB (hs o need a h1 (by omega)),c]
  have:arN ⟨k,v,[],false⟩=1:=by unfold arN;rw [if_neg (by simp only;omega),if_pos (by simp only;omega)]
  rw [this,ih (o+1) post _ d (by omega) (by omega),List.length_cons]
  congr 2;omega
def At (f:List bD) (o:Nat) (b:List Int) (L:List bD):Prop:=Tm b L/\∃ post,f.drop o=L++post
theorem At.len {o:Nat} {b:List Int} {L:List bD} (h:At f o b L):o+L.length<=f.length:=by
 obtain ⟨h1,post,h2⟩:=h
 have:=congrArg List.length h2
 rw [List.length_drop,List.length_append] at this
 have:=h1.pos
 omega
theorem aHB (hf:f.length<=100) {o:Nat} {b:List Int} {L:List bD} (h:At f o b L):pT f (o:Int)=some ((o+L.length:Nat):Int):=by
 have hl:=h.len
 obtain ⟨h1,post,h2⟩:=h
 have key:=tm_walk (f:=f) (step:=fun s:Int × Int=>kO f s.1 s.2) (fun k need=>((k:Int),(need:Int))) (fun k need hk h1 h3=>by
  show kO f (k:Int) (need:Int)=_
  have ha:arN (rA f k)<=2:=by unfold arN;split;omega;split<;>omega
  unfold kO
  rw [if_pos (by simp;omega),aGX hk,aA,aAj,aA,bI hk (by omega),cF (x:=((arN (rA f k):Nat):Int) - 1) (by omega) (by omega),cF (by omega) (by omega)]
  congr 3
  omega) h1 o post 1 h2 (by omega) (by omega)
 unfold pT
 show (ob (loop (fun s:Int × Int=>kO f s.1 s.2) ((o:Int),((1:Nat):Int))) fun r=>aAq r)=_
 rw [key,aAZ (r:=((o+L.length:Nat):Int)) (by
  show kO f _ ((1 - 1:Nat):Int)=_
  unfold kO
  rw [if_neg (by simp)]),aA]
 rfl
theorem shape_eq {b:List Int} (hf:f.length<=100) (h:Tm b f):aDe f=some true:=by
 have key:=tm_walk (f:=f) (step:=fun s:Int × Int=>pR f s.1 s.2) (fun k need=>((need:Int),(k:Int))) (fun k need hk h1 h3=>by
  show pR f (need:Int) (k:Int)=_
  have ha:arN (rA f k)<=2:=by unfold arN;split;omega;split<;>omega
  unfold pR
  rw [if_pos (bU hk),aGX hk,aA,if_neg (by simp;omega),aAj,aA,bI hk (by omega),cF (x:=((arN (rA f k):Nat):Int) - 1) (by omega) (by omega),cF (by omega) (by omega)]
  congr 3
  omega) h 0 [] 1 (by simp) (by omega) (by omega)
 unfold aDe
 show (ob (loop (fun s:Int × Int=>pR f s.1 s.2) (((1:Nat):Int),((0:Nat):Int))) _)=_
 rw [key,aAZ (r:=.inl 0) (by
  show pR f ((1 - 1:Nat):Int) ((0+f.length:Nat):Int)=_
  unfold pR
  rw [if_neg (by simp)]
  rfl),aA]
 rfl
def Cov (f:List bD) (b:List Int) (s e:Nat):Prop:=∀ v∈b,∃ i,i < s/\((rA f i).Kind=7\/(rA f i).Kind=8)/\(rA f i).Variable=v/\∃ c M,At f i c M/\e<=i+M.length
theorem Cov.mono {b:List Int} {s e s' e':Nat} (h:Cov f b s e) (hs:s<=s') (he:e'<=e):Cov f b s' e':=fun v hv=>by
 obtain ⟨i,h1,h2,h3,c,M,h4,h5⟩:=h v hv
 exact ⟨i,by omega,h2,h3,c,M,h4,by omega⟩
theorem parts {b:List Int} {L:List bD} (h:Tm b L):∀ (o:Nat) (post:List bD),f.drop o=L++post->Cov f b o (o+L.length)->∀ k,o<=k->k < o+L.length->∃ c M,At f k c M/\Cov f c k (k+M.length):=by
 induction h with
 |@leaf b k hk=>
  intro o post hd hc j h1 h2
  rw [List.length_singleton] at h2
  obtain rfl:j=o:=by omega
  exact ⟨b,_,⟨.leaf hk,post,hd⟩,hc⟩
 |@var b v hv hr=>
  intro o post hd hc j h1 h2
  rw [List.length_singleton] at h2
  obtain rfl:j=o:=by omega
  exact ⟨b,_,⟨.var hv hr,post,hd⟩,hc⟩
 |@bin b k L M hk hL hM ihL ihM=>
  intro o post hd hc j h1 h2
  obtain ⟨a,c,d⟩:=dS hd
  by_cases e:j=o
  ·subst e
   exact ⟨b,_,⟨.bin hk hL hM,post,hd⟩,hc⟩
  ·rw [List.length_cons,List.length_append] at h2 hc
   by_cases e2:j < o+1+L.length
   ·exact ihL (o+1) (M++post) (d.trans (List.append_assoc L M post)) (hc.mono (by omega) (by omega)) j (by omega) e2
   ·exact ihM (o+1+L.length) post (by rw [←List.drop_drop,d.trans (List.append_assoc L M post),List.drop_left]) (hc.mono (by omega) (by omega)) j (by omega) (by omega)
 |@mod b k l n L hk hl hL ih=>
  intro o post hd hc j h1 h2
  obtain ⟨a,c,d⟩:=dS hd
  by_cases e:j=o
  ·subst e
   exact ⟨b,_,⟨.mod hk hl hL,post,hd⟩,hc⟩
  ·rw [List.length_cons] at h2 hc
   exact ih (o+1) post d (hc.mono (by omega) (by omega)) j (by omega) (by omega)
 |@fix b k v L hk hv hL ih=>
  intro o post hd hc j h1 h2
  obtain ⟨a,c,d⟩:=dS hd
  have hAt:At f o b (⟨k,v,[],false⟩::L):=⟨.fix hk hv hL,post,hd⟩
  by_cases e:j=o
  ·subst e
   exact ⟨b,_,hAt,hc⟩
  ·rw [List.length_cons] at h2 hc
   refine ih (o+1) post d (fun w hw=>?_) j (by omega) (by omega)
   rcases List.mem_append.1 hw with hw|hw
   ·exact hc.mono (by omega) (by omega) w hw
   ·rw [List.mem_singleton] at hw
    subst hw
    exact ⟨o,by omega,by rw [c];exact hk,by rw [c],b,_,hAt,by rw [List.length_cons];omega⟩
theorem parts2 {b:List Int} {L:List bD} (h:Tm b L):∀ (o:Nat) (post:List bD),f.drop o=L++post->∀ k,o<=k->k < o+L.length->∃ c M,At f k c M/\k+M.length<=o+L.length:=by
 induction h with
 |@leaf b k hk=>
  intro o post hd j h1 h2
  rw [List.length_singleton] at h2
  obtain rfl:j=o:=by omega
  exact ⟨b,_,⟨.leaf hk,post,hd⟩,Nat.le_refl _⟩
 |@var b v hv hr=>
  intro o post hd j h1 h2
  rw [List.length_singleton] at h2
  obtain rfl:j=o:=by omega
  exact ⟨b,_,⟨.var hv hr,post,hd⟩,Nat.le_refl _⟩
 |@bin b k L M hk hL hM ihL ihM=>
  intro o post hd j h1 h2
  obtain ⟨a,c,d⟩:=dS hd
  by_cases e:j=o
  ·subst e
   exact ⟨b,_,⟨.bin hk hL hM,post,hd⟩,Nat.le_refl _⟩
  ·rw [List.length_cons,List.length_append] at h2 ⊢
   by_cases e2:j < o+1+L.length
   ·obtain ⟨c',M',g1,g2⟩:=ihL (o+1) (M++post) (d.trans (List.append_assoc L M post)) j (by omega) e2
    exact ⟨c',M',g1,by omega⟩
   ·obtain ⟨c',M',g1,g2⟩:=ihM (o+1+L.length) post (by rw [←List.drop_drop,d.trans (List.append_assoc L M post),List.drop_left]) j (by omega) (by omega)
    exact ⟨c',M',g1,by omega⟩
 |@mod b k l n L hk hl hL ih=>
  intro o post hd j h1 h2
  obtain ⟨a,c,d⟩:=dS hd
  by_cases e:j=o
  ·subst e
   exact ⟨b,_,⟨.mod hk hl hL,post,hd⟩,Nat.le_refl _⟩
  ·rw [List.length_cons] at h2 ⊢
   obtain ⟨c',M',g1,g2⟩:=ih (o+1) post d j (by omega) (by omega)
   exact ⟨c',M',g1,by omega⟩
 |@fix b k v L hk hv hL ih=>
  intro o post hd j h1 h2
  obtain ⟨a,c,d⟩:=dS hd
  by_cases e:j=o
  ·subst e
   exact ⟨b,_,⟨.fix hk hv hL,post,hd⟩,Nat.le_refl _⟩
  ·rw [List.length_cons] at h2 ⊢
   obtain ⟨c',M',g1,g2⟩:=ih (o+1) post d j (by omega) (by omega)
   exact ⟨c',M',g1,by omega⟩
theorem aJy {b:List Int} (h:Tm b f) {k:Nat} (hk:k < f.length):∃ c M,At f k c M:=by
 obtain ⟨c,M,h1,_⟩:=parts2 (f:=f) h 0 [] (by rw [List.drop_zero,List.append_nil]) k (by omega) (by omega)
 exact ⟨c,M,h1⟩
theorem at_all (h:Tm [] f) {k:Nat} (hk:k < f.length):∃ c M,At f k c M/\Cov f c k (k+M.length):=
 parts h 0 [] (by simp) (fun v hv=>by cases hv) k (by omega) (by omega)
theorem ops_of (hf:f.length<=100) {k:Nat} {b:List Int} {L:List bD} (h:At f k b L):∃ os,iN f (k:Int)=some os/\os.length<=2/\(∀ o∈os,(k:Int) < o/\o < ((k+L.length:Nat):Int))/\((rA f k).Kind=4\/(rA f k).Kind=5->os.length=1):=by
 obtain ⟨hT,post,hd⟩:=h
 have hk:k < f.length:=by
  have:=At.len ⟨hT,post,hd⟩
  have:=hT.pos
  omega
 have hno:arN (rA f k)=0->iN f (k:Int)=some []:=fun h0=>by
  unfold iN
  rw [aGX hk,aA,aAj,aA,h0,aAZ (r:=[]) (by
   show dY f ((0:Nat):Int) [] _ 0=_
   unfold dY
   rw [if_neg (by simp)]),aA]
  rfl
 have hone:∀ {c M},arN (rA f k)=1->At f (k+1) c M->iN f (k:Int)=some [((k+1:Nat):Int)]:=fun {c M} h1 hM=>by
  have e1:=aHB hf hM
  unfold iN
  rw [aGX hk,aA,aAj,aA,h1,bI hk (by omega),tB (s':=([((k+1:Nat):Int)],((k+1+M.length:Nat):Int),1)) (by
   show dY f ((1:Nat):Int) [] _ 0=_
   unfold dY
   rw [if_pos (by simp),cE (by simp [gQ]),aA,e1,aA,cF (by omega) (by omega)]
   rfl),aAZ (r:=[((k+1:Nat):Int)]) (by
   show dY f ((1:Nat):Int) _ _ 1=_
   unfold dY
   rw [if_neg (by simp)]),aA]
  rfl
 cases hT with
 |leaf hkd=>
  obtain ⟨a,c,d⟩:=dS hd
  refine ⟨[],hno (by rw [c];unfold arN;rw [if_neg (by simp only;omega),if_neg (by simp only;omega)]),by simp,fun o ho=>(by cases ho),fun h=>?_⟩
  rw [c] at h;simp only at h;omega
 |var hv hr=>
  obtain ⟨a,c,d⟩:=dS hd
  refine ⟨[],hno (by rw [c];rfl),by simp,fun o ho=>(by cases ho),fun h=>?_⟩
  rw [c] at h;simp only at h;omega
 |@bin _ kd L M hkd hL hM=>
  obtain ⟨a,c,d⟩:=dS hd
  have hL':At f (k+1) b L:=⟨hL,M++post,d.trans (List.append_assoc L M post)⟩
  have hM':At f (k+1+L.length) b M:=⟨hM,post,by rw [←List.drop_drop,d.trans (List.append_assoc L M post),List.drop_left]⟩
  have e1:=aHB hf hL'
  have e2:=aHB hf hM'
  have l1:=hL'.len
  have l2:=hM'.len
  have p1:=hL.pos
  have p2:=hM.pos
  have ha:arN (rA f k)=2:=by rw [c];unfold arN;rw [if_pos hkd]
  refine ⟨[((k+1:Nat):Int),((k+1+L.length:Nat):Int)],?_,by simp,fun o ho=>?_,fun h=>?_⟩
  ·unfold iN
   rw [aGX hk,aA,aAj,aA,ha,bI hk (by omega),tB (s':=([((k+1:Nat):Int)],((k+1+L.length:Nat):Int),1)) (by
    show dY f ((2:Nat):Int) [] _ 0=_
    unfold dY
    rw [if_pos (by simp),cE (by simp [gQ]),aA,e1,aA,cF (by omega) (by omega)]
    rfl),tB (s':=([((k+1:Nat):Int),((k+1+L.length:Nat):Int)],((k+1+L.length+M.length:Nat):Int),2)) (by
    show dY f ((2:Nat):Int) [((k+1:Nat):Int)] _ 1=_
    unfold dY
    rw [if_pos (by simp),cE (by simp [gQ]),aA,e2,aA,cF (by omega) (by omega)]
    rfl),aAZ (r:=[((k+1:Nat):Int),((k+1+L.length:Nat):Int)]) (by
    show dY f ((2:Nat):Int) _ _ 2=_
    unfold dY
    rw [if_neg (by simp)]),aA]
   rfl
  ·simp only [List.mem_cons,List.not_mem_nil,or_false] at ho
   rw [List.length_cons,List.length_append]
   rcases ho with rfl|rfl<;>omega
  ·rw [c] at h;simp only at h;omega
 |@mod _ kd l n L hkd hl hL=>
  obtain ⟨a,c,d⟩:=dS hd
  have hL':At f (k+1) b L:=⟨hL,post,d⟩
  have l1:=hL'.len
  have p1:=hL.pos
  refine ⟨_,hone (by rw [c];unfold arN;rw [if_neg (by simp only;omega),if_pos (by simp only;omega)]) hL',by simp,fun o ho=>?_,fun _=>rfl⟩
  rw [List.mem_singleton] at ho;subst ho;rw [List.length_cons];omega
 |@fix _ kd v L hkd hv hL=>
  obtain ⟨a,c,d⟩:=dS hd
  have hL':At f (k+1) (b++[v]) L:=⟨hL,post,d⟩
  have l1:=hL'.len
  have p1:=hL.pos
  refine ⟨_,hone (by rw [c];unfold arN;rw [if_neg (by simp only;omega),if_pos (by simp only;omega)]) hL',by simp,fun o ho=>?_,fun _=>rfl⟩
  rw [List.mem_singleton] at ho;subst ho;rw [List.length_cons];omega
theorem nest_of {b:List Int} (hf:f.length<=30) (h:Tm b f) {k:Nat} (hk:k < f.length):∃ n,xV f (k:Int)=some n/\0<=n/\n<=30:=by
 have key:=bZ (step:=fun s:Int × Int=>nM f (k:Int) s.1 s.2) k (fun i (q:Int)=>(q,(i:Int))) (fun i q=>0<=q/\q<=(i:Int)) (fun r=>0<=r/\r<=(k:Int)) (fun i q hi hI=>?_) (fun q hI=>?_) k 0 0 (by omega) ⟨by omega,by omega⟩
 ·obtain ⟨r,e1,e2⟩:=key
  have e1':loop (fun s:Int × Int=>nM f (k:Int) s.1 s.2) (0,0)=some r:=e1
  refine ⟨r,?_,by omega,by omega⟩
  unfold xV
  rw [e1',aA]
  rfl
 ·obtain ⟨c,M,hM⟩:=aJy h (show i < f.length by omega)
  have e1:=aHB (by omega) hM
  have hj3:∀ v:Bool,∃ q',wQ q (i:Int) v=some (.inl (q',((i+1:Nat):Int)))/\0<=q'/\q'<=((i+1:Nat):Int):=fun v=>by
   unfold wQ wP
   rw [bI hi (by omega),cF (x:=q+1) (by omega) (by omega)]
   cases v
   ·exact ⟨q,rfl,by omega,by omega⟩
   ·exact ⟨q+1,rfl,by omega,by omega⟩
  show ∃ q',nM f (k:Int) q (i:Int)=some (.inl (q',((i+1:Nat):Int)))/\_
  unfold nM
  rw [if_pos (bU hi),aGX (by omega),aA,aDG,aA,e1,aA]
  split<;>exact hj3 _
 ·refine ⟨q,?_,hI⟩
  show nM f (k:Int) q (k:Int)=_
  unfold nM
  rw [if_neg (by simp)]
theorem bind_of (hf:f.length<=30) (h:Tm [] f) {k:Nat} (hk:k < f.length) (h6:(rA f k).Kind=6):∃ n,uD f (k:Int)=some n/\0<=n/\n < (f.length:Int):=by
 obtain ⟨c,M,hM,hcov⟩:=at_all h hk
 have hw:∃ i0,i0 < k/\((rA f i0).Kind=7\/(rA f i0).Kind=8)/\(rA f i0).Variable=(rA f k).Variable/\∃ c M,At f i0 c M/\k < i0+M.length:=by
  obtain ⟨hT,post,hd⟩:=hM
  cases hT with
  |leaf hkd=>obtain ⟨a,e,d⟩:=dS hd;rw [e] at h6;simp only at h6;omega
  |bin hkd=>obtain ⟨a,e,d⟩:=dS hd;rw [e] at h6;simp only at h6;omega
  |mod hkd=>obtain ⟨a,e,d⟩:=dS hd;rw [e] at h6;simp only at h6;omega
  |fix hkd=>obtain ⟨a,e,d⟩:=dS hd;rw [e] at h6;simp only at h6;omega
  |@var _ v hv hr=>
   obtain ⟨a,e,d⟩:=dS hd
   obtain ⟨i,g1,g2,g3,c',M',g4,g5⟩:=hcov v hv
   rw [List.length_singleton] at g5
   exact ⟨i,g1,g2,by rw [g3,e],c',M',g4,by omega⟩
 obtain ⟨i0,g1,g2,g3,c',M',g4,g5⟩:=hw
 have key:=tP (step:=fun s:Int=>vO f (k:Int) s) (fun s=>(i0:Int)<=s/\s < (k:Int)) (fun s=>s.toNat) (fun r=>∃ n:Int,r=.inr n/\0<=n/\n < (k:Int)) (fun s hs=>?_) (s:=(k:Int) - 1) (by omega)
 ·obtain ⟨r,e1,n,rfl,e3,e4⟩:=key
  refine ⟨n,?_,e3,by omega⟩
  unfold uD
  rw [cF (x:=(k:Int) - 1) (by omega) (by omega),e1,aA]
 ·obtain ⟨i,rfl⟩:∃ i:Nat,s=(i:Int):=⟨s.toNat,by omega⟩
  obtain ⟨ci,Mi,hMi,_⟩:=at_all h (show i < f.length by omega)
  have e1:=aHB (by omega) hMi
  show (∃ s',vO f (k:Int) (i:Int)=some (.inl s')/\_)\/∃ r,vO f (k:Int) (i:Int)=some (.inr r)/\_
  have hj:∀ b:Bool,(b=true\/(i:Int)≠i0)->(∃ s',rU (i:Int) b=some (.inl s')/\((i0:Int)<=s'/\s' < (k:Int))/\s'.toNat < ((i:Int)).toNat)\/∃ r,rU (i:Int) b=some (.inr r)/\∃ n:Int,r=.inr n/\0<=n/\n < (k:Int):=fun b hb=>by
   unfold rU
   cases b with
   |true=>right;exact ⟨.inr (i:Int),rfl,_,rfl,by omega,by omega⟩
   |false=>
    left
    have:(i:Int)≠i0:=hb.resolve_left (by simp)
    rw [cF (x:=(i:Int) - 1) (by omega) (by omega)]
    exact ⟨(i:Int) - 1,rfl,⟨by omega,by omega⟩,by omega⟩
  unfold vO
  rw [if_pos (by simp),aGX (by omega),aA,aDG,aA,aGX hk,aA,e1,aA]
  by_cases hi:i=i0
  ·subst hi
   have e2:=aHB (by omega) g4
   have:Mi.length=M'.length:=by rw [e1] at e2;have:=Option.some.inj e2;omega
   rw [if_pos (by simpa using g2),if_pos (by simpa using g3)]
   exact hj _ (.inl (by simp;omega))
  ·have hne:(i:Int)≠i0:=by omega
   split
   ·split
    ·exact hj _ (.inr hne)
    ·exact hj _ (.inr hne)
   ·exact hj _ (.inr hne)
end
end Gv
set_option linter.unusedVariables false
set_option linter.unusedSimpArgs false
namespace Gv
open Go
theorem pat_ok:∀ l∈Pats,vN l=some true:=by
 intro l hl
 have hlen:∀ l∈Pats,l.length < 100:=by decide
 have h1:=hlen l hl
 have h2:∀ l∈Pats,(if (l == ([]:aQ))=true then true else if aAi l=true then true else if (if (l.getLast? == some (42:UInt8))=true then (l.dropLast,true) else (l,false)).2=true then aDp (if (l.getLast? == some (42:UInt8))=true then (l.dropLast,true) else (l,false)).1 else false)=true:=by decide
 have h3:=h2 l hl
 have h4:((if (l.getLast? == some (42:UInt8))=true then (l.dropLast,true) else (l,false)).1:aQ).length < 1000:=by
  split
  ·show l.dropLast.length < 1000
   rw [List.length_dropLast];omega
  ·show l.length < 1000
   omega
 unfold vN oW
 rw [aGV _ _ (by omega),aA,aGc _ (by omega),aA,aHN _ (by omega),aA]
 revert h3
 split
 ·intro;rfl
 ·split
  ·intro;rfl
  ·split
   ·intro h;simpa using h
   ·intro h;simpa using h
theorem pat_of {l:aQ} (h:l∈Pats):PatOk l:=by
 have hlen:∀ l∈Pats,l.length < 100:=by decide
 exact ⟨pat_ok l h,by have:=hlen l h;omega⟩
section
variable {f:List bD}
theorem nd_ok {k:Nat} {b:List Int} {L:List bD} (h:At f k b L):(0<=(rA f k).Kind/\(rA f k).Kind<=8)/\kN (rA f k)=some true/\oX (rA f k)=some true/\(rA f k).B.length < 1000:=by
 obtain ⟨hT,post,hd⟩:=h
 have hb:∀ n:bD,oX n=some (if n.Kind=7\/n.Kind=8\/n.Kind=6 then decide (0<=n.Variable)&&decide (n.Variable<=2) else (n.Variable == 0)):=fun n=>by
  unfold oX
  have hj:∀ v:Bool,nE n v=some (if v=true then decide (0<=n.Variable)&&decide (n.Variable<=2) else (n.Variable == 0)):=fun v=>by
   unfold nE
   cases v
   ·rfl
   ·rw [if_pos rfl,vQ,aA,if_pos rfl]
  rw [aDG,aA,hj,hj]
  by_cases h7:n.Kind=7
  ·simp [h7]
  ·by_cases h8:n.Kind=8
   ·simp [h7,h8]
   ·by_cases h6:n.Kind=6<;>simp [h7,h8,h6]
 have hf:∀ n:bD,¬ (n.Kind=4\/n.Kind=5)->n.B=[]->n.Not=false->kN n=some true:=fun n h1 h2 h3=>by
  unfold kN pS
  rw [aCO,aA,if_neg (by simpa using h1),h2,h3]
  rfl
 cases hT with
 |@leaf _ kd hkd=>
  obtain ⟨_,c,_⟩:=dS hd
  rw [c]
  refine ⟨by simp only;omega,hf _ (by simp only;omega) rfl rfl,?_,by simp⟩
  rw [hb,if_neg (by simp only;omega)]
  rfl
 |@var _ v hv hr=>
  obtain ⟨_,c,_⟩:=dS hd
  rw [c]
  refine ⟨by simp only;omega,hf _ (by simp only;omega) rfl rfl,?_,by simp⟩
  rw [hb,if_pos (Or.inr (Or.inr rfl))]
  simp only [Option.some.injEq,Bool.and_eq_true,decide_eq_true_eq]
  exact hr
 |@bin _ kd L M hkd hL hM=>
  obtain ⟨_,c,_⟩:=dS hd
  rw [c]
  refine ⟨by simp only;omega,hf _ (by simp only;omega) rfl rfl,?_,by simp⟩
  rw [hb,if_neg (by simp only;omega)]
  rfl
 |@mod _ kd l n L hkd hl hL=>
  obtain ⟨_,c,_⟩:=dS hd
  rw [c]
  refine ⟨by simp only;omega,?_,?_,hl.2⟩
  ·unfold kN
   rw [aCO,aA,if_pos (by simpa using hkd)]
   simp only
   rw [hl.1,aA]
  ·rw [hb,if_neg (by simp only;omega)]
   rfl
 |@fix _ kd v L hkd hv hL=>
  obtain ⟨_,c,_⟩:=dS hd
  rw [c]
  refine ⟨by simp only;omega,hf _ (by simp only;omega) rfl rfl,?_,by simp⟩
  rw [hb,if_pos (by simp only;omega)]
  simp only [Option.some.injEq,Bool.and_eq_true,decide_eq_true_eq]
  exact hv
theorem fok_any {b:List Int} (hf:f.length<=30) (h:Tm b f) (hb:∀ k,k < f.length->(rA f k).Kind=6->∃ n,uD f (k:Int)=some n/\0<=n/\n < (f.length:Int)):FOk f where
 len:=⟨h.pos,hf⟩
 ops:=fun k hk=>by
  obtain ⟨c,M,hM⟩:=aJy h hk
  obtain ⟨os,e,h1,h2,_⟩:=ops_of (by omega) hM
  have:qQ f k=os:=by unfold qQ;rw [e];rfl
  rw [this]
  have hl:=hM.len
  exact ⟨e,h1,fun o ho=>by have:=h2 o ho;omega⟩
 one:=fun k hk hm=>by
  obtain ⟨c,M,hM⟩:=aJy h hk
  obtain ⟨os,e,_,_,h3⟩:=ops_of (by omega) hM
  have:qQ f k=os:=by unfold qQ;rw [e];rfl
  rw [this]
  exact h3 hm
 lab:=fun k hk=>by
  obtain ⟨c,M,hM⟩:=aJy h hk
  exact (nd_ok hM).2.2.2
 bnd:=fun k hk h6=>by
  obtain ⟨n,e,h1,h2⟩:=hb k hk h6
  have:bndF f k=n:=by unfold bndF;rw [e];rfl
  rw [this]
  exact ⟨e,h1,h2⟩
 nst:=fun k hk=>by
  obtain ⟨n,e,h1,h2⟩:=nest_of hf h hk
  have:nstF f k=n:=by unfold nstF;rw [e];rfl
  rw [this]
  exact ⟨e,h1,h2⟩
theorem fok_of (hf:f.length<=30) (h:Tm [] f):FOk f:=fok_any hf h fun k hk h6=>bind_of hf h hk h6
theorem valid_any {b:List Int} (hf:f.length<=30) (h:Tm b f) (hb:∀ k,k < f.length->(rA f k).Kind=6->∃ n,uD f (k:Int)=some n/\0<=n/\n < (f.length:Int)):lY f=some true:=by
 have hp:=h.pos
 have key:=bZ (step:=fun s:Int=>gL f s) f.length (fun i (_:Unit)=>(i:Int)) (fun _ _=>True) (fun r=>r=.inl ()) (fun k _ hk _=>?_) (fun _ _=>?_) f.length 0 () (by omega) trivial
 ·obtain ⟨r,e1,e2⟩:=key
  have e1':loop (fun s:Int=>gL f s) 0=some r:=e1
  unfold lY nF
  rw [vQ,aA,if_neg (by simp;omega),shape_eq (by omega) h,aA,if_neg (by simp),e1',aA,e2]
  rfl
 ·refine ⟨(),?_,trivial⟩
  show gL f (k:Int)=some (.inl ((k+1:Nat):Int))
  obtain ⟨c,M,hM⟩:=aJy h hk
  obtain ⟨h1,h2,h3,_⟩:=nd_ok hM
  unfold gL
  rw [if_pos (bU hk),aGX hk,aA,vQ,aA,if_neg (by simp;omega),h2,aA,if_neg (by simp),h3,aA,if_neg (by simp)]
  have hj:gK (k:Int) false=some (.inl ((k+1:Nat):Int)):=by
   unfold gK
   rw [if_neg (by simp),bI hk (by omega)]
  by_cases h6:(rA f k).Kind=6
  ·obtain ⟨n,e,g1,g2⟩:=hb k hk h6
   rw [if_pos (by simpa using h6),e,aA,decide_eq_false (by omega)]
   exact hj
  ·rw [if_neg (by simpa using h6)]
   exact hj
 ·refine ⟨.inl (),?_,rfl⟩
  show gL f (f.length:Int)=_
  unfold gL
  rw [if_neg (by simp)]
theorem aMx (hf:f.length<=30) (h:Tm [] f):lY f=some true:=valid_any hf h fun k hk h6=>bind_of hf h hk h6
theorem code_of {t:bQ} (ft:aAQ 999999999 t) (ht:dK t) (hv:lY f=some true):qO t [f]=some 0:=by
 have hi:cG [f]=some (-1):=by
  unfold cG
  rw [tB (s':=1) (by
   show bR [f] 0=_
   unfold bR xT
   rw [if_pos (by simp),show ix [f] 0=some f from rfl,aA,hv,aA,aA,if_neg (by simp)]
   rfl),aAZ (r:=.inl ()) (by
   show bR [f] 1=_
   unfold bR
   rw [if_neg (by simp)]),aA]
  rfl
 unfold qO dX
 rw [aCu t ft,cl_t ht,aA,if_neg (by simp),hi,aA,aA]
 rfl
end
end Gv
set_option linter.unusedVariables false
set_option linter.unusedSimpArgs false
namespace Gv
open Go
section
variable (cs:aQ)
theorem text_ok {s1:Int} (s2:Int) (h:0<=s1/\s1<=100000000000) {l:List aQ} (hl:l≠[]):∃ v s1' s2',yI cs s1 s2 l=some (v,s1',s2')/\v∈l/\s1<=s1'/\s1'<=s1+2:=by
 have h1:1<=(l.length:Int):=by
  have:=List.length_pos_iff.2 hl
  omega
 obtain ⟨v,a,b,e,hv,h2,h3⟩:=eK cs s2 h h1
 unfold yI
 rw [e,aA]
 simp only
 rw [aDW hv.1 (by omega),aA]
 exact ⟨_,_,_,rfl,List.getElem_mem _,h2,h3⟩
theorem aMy {s1:Int} (s2:Int) (h:0<=s1/\s1<=10000000000):∃ k l n s1' s2',oM cs s1 s2=some (⟨k,0,l,n⟩,s1',s2')/\(k=4\/k=5)/\PatOk l/\s1<=s1'/\s1'<=s1+6:=by
 unfold oM
 obtain ⟨v,a,b,e,hv,h2,h3⟩:=eK cs s2 (s1:=s1) (n:=2) (by omega) (by omega)
 rw [e,aA]
 obtain ⟨l,a',b',e',hl,h4,h5⟩:=text_ok cs b (s1:=a) (by omega) (l:=[([]:aQ),([]:aQ),([97]:aQ),([98]:aQ),([116,97,117]:aQ),([103,101,116,42]:aQ),([103,101,116,40,48,41]:aQ),([99]:aQ)]) (by simp)
 rw [e',aA]
 obtain ⟨n,a2,b2,e2,h6,h7⟩:=aEZ cs b' (s1:=a') (n:=6) (by omega) (by omega)
 rw [e2,aA,cF (by simp only;omega) (by simp only;omega)]
 refine ⟨_,_,_,_,_,rfl,by simp only;omega,?_,by simp only;omega,by simp only;omega⟩
 have:∀ x∈[([]:aQ),([]:aQ),([97]:aQ),([98]:aQ),([116,97,117]:aQ),([103,101,116,42]:aQ),([103,101,116,40,48,41]:aQ),([99]:aQ)],x∈Pats:=by decide
 exact pat_of (this _ hl)
theorem qu2 {a:Int} (h:0<=a) (h':a<=1000000):qu a 2=some (a / 2):=by
 unfold qu
 rw [if_neg (by omega),Int.tdiv_eq_ediv_of_nonneg h,cF (by omega) (by omega)]
theorem part_ok:∀ (n:Nat) (most:Int),0<=most->most<=100->most < n->∀ (b:List Int),(∀ v∈b,0<=v/\v<=2)->(b.length:Int)+most<=1000->∀ s1 s2:Int,0<=s1->s1+80 * most+20<=1000000000->
  ∃ L s1' s2',iU n cs s1 s2 b most=some (L,s1',s2')/\Tm b L/\(L.length:Int)<=4 * most+1/\s1<=s1'/\s1'<=s1+80 * most+20
 |0,most,h0,_,h1,_,_,_,_,_,_,_=>by omega
 |n+1,most,h0,h100,h1,b,hb,hbl,s1,s2,hs0,hs1=>by
  have ih:=part_ok n
  show ∃ L s1' s2',qA (iU n) cs s1 s2 b most=some (L,s1',s2')/\_
  generalize iU n=rec_ at ih
  unfold qA
  have hleaf:∀ x y,s1<=x->x<=s1+2->∀ v:Bool,(v=true->b≠[])->∃ L s1' s2',lH cs b x y v=some (L,s1',s2')/\Tm b L/\(L.length:Int)<=4 * most+1/\s1<=s1'/\s1'<=s1+80 * most+20:=by
   intro x y hx1 hx2 v hv
   unfold lH
   cases v with
   |true=>
    obtain ⟨w,a,c,e,hw,h2,h3⟩:=aMk cs y (s1:=x) (by omega) (hv rfl)
    rw [if_pos rfl,e,aA]
    exact ⟨_,_,_,rfl,.var hw (hb w hw),by simp;omega,by simp only;omega,by simp only;omega⟩
   |false=>
    obtain ⟨w,a,c,e,hw,h2,h3⟩:=eK cs y (s1:=x) (n:=2) (by omega) (by omega)
    rw [if_neg (by simp),e,aA]
    exact ⟨_,_,_,rfl,.leaf (by simp only;omega),by simp;omega,by simp only;omega,by simp only;omega⟩
  by_cases hm:most<=0
  ·rw [if_pos (by simpa using hm)]
   by_cases hbz:0 < (b.length:Int)
   ·rw [if_pos (by simpa using hbz)]
    obtain ⟨w,a,c,e,hw,h2,h3⟩:=eK cs s2 (s1:=s1) (n:=4) (by omega) (by omega)
    rw [e,aA]
    exact hleaf a c h2 h3 _ fun _ hz=>by rw [hz] at hbz;simp at hbz
   ·rw [if_neg (by simpa using hbz)]
    exact hleaf s1 s2 (by omega) (by omega) false fun h=>by cases h
  ·rw [if_neg (by simpa using hm)]
   obtain ⟨w,a,c,e,hw,h2,h3⟩:=eK cs s2 (s1:=s1) (n:=6) (by omega) (by omega)
   rw [e,aA]
   have hj6:∀ v:Bool,∃ L s1' s2',lJ rec_ cs b most (w,a,c) v=some (L,s1',s2')/\Tm b L/\(L.length:Int)<=4 * most+1/\s1<=s1'/\s1'<=s1+80 * most+20:=by
    intro v
    unfold lJ
    cases v with
    |true=>
     obtain ⟨p,a1,c1,e1,hp,h4,h5⟩:=eK cs c (s1:=a) (n:=2) (by omega) (by omega)
     rw [if_pos rfl]
     simp only
     rw [e1,aA,cF (x:=most - 1) (by omega) (by omega),qu2 (by omega) (by omega),aA]
     obtain ⟨L,a2,c2,e2,hL,hl,h6,h7⟩:=ih ((most - 1) / 2) (by omega) (by omega) (by omega) b hb (by omega) a1 c1 (by omega) (by omega)
     simp only
     rw [e2,aA,aA]
     obtain ⟨M,a3,c3,e3,hM,hl',h8,h9⟩:=ih ((most - 1) / 2) (by omega) (by omega) (by omega) b hb (by omega) a2 c2 (by omega) (by omega)
     simp only
     rw [e3,aA,cF (x:=2+p) (by omega) (by omega),cE (by simp only [List.length_singleton];unfold gQ;omega),aA,cE (by simp only [List.length_singleton,List.length_append];unfold gQ;omega),aA]
     refine ⟨_,_,_,rfl,?_,?_,by simp only;omega,by simp only;omega⟩
     ·have:=Tm.bin (b:=b) (k:=2+p) (by omega) hL hM
      simpa using this
     ·simp only [List.length_append,List.length_singleton];omega
    |false=>
     rw [if_neg (by simp)]
     simp only
     by_cases h4:w=4
     ·rw [if_pos (by simpa using h4)]
      obtain ⟨p,a1,c1,e1,hp,g1,g2⟩:=eK cs c (s1:=a) (n:=2) (by omega) (by omega)
      rw [e1,aA]
      obtain ⟨q,a2,c2,e2,hq,g3,g4⟩:=eK cs c1 (s1:=a1) (n:=3) (by omega) (by omega)
      simp only
      unfold aEt
      rw [e2,aA,cE (by simp only [List.length_nil];unfold gQ;omega),aA,aA,List.nil_append,cE (by simp only [List.length_singleton];unfold gQ;omega),aA]
      obtain ⟨L,a3,c3,e3,hL,hl,g5,g6⟩:=ih (most - 1) (by omega) (by omega) (by omega) (b++[q]) (fun v hv=>by
       rcases List.mem_append.1 hv with hv|hv
       ·exact hb v hv
       ·rw [List.mem_singleton] at hv;omega) (by rw [List.length_append,List.length_singleton];omega) a2 c2 (by omega) (by omega)
      unfold sJ xL
      rw [cF (x:=most - 1) (by omega) (by omega)]
      simp only
      rw [e3,aA,cF (x:=7+p) (by omega) (by omega),cE (by simp only [List.length_singleton];unfold gQ;omega),aA]
      refine ⟨_,_,_,rfl,?_,?_,by simp only;omega,by simp only;omega⟩
      ·exact Tm.fix (by omega) (by omega) hL
      ·simp only [List.length_append,List.length_singleton];omega
     ·rw [if_neg (by simpa using h4)]
      obtain ⟨d,a1,c1,e1,g1,g2⟩:=aEZ cs c (s1:=a) (n:=2) (by omega) (by omega)
      rw [e1,aA]
      simp only
      cases d with
      |true=>
       rw [if_pos rfl,qu2 (by omega) (by omega),aA]
       obtain ⟨L,a2,c2,e2,hL,hl,g5,g6⟩:=ih (most / 2) (by omega) (by omega) (by omega) b hb (by omega) a1 c1 (by omega) (by omega)
       rw [e2,aA]
       exact ⟨_,_,_,rfl,hL,by simp only;omega,by simp only;omega,by simp only;omega⟩
      |false=>
       rw [if_neg (by simp)]
       obtain ⟨p,a2,c2,e2,hp,g3,g4⟩:=eK cs c1 (s1:=a1) (n:=2) (by omega) (by omega)
       rw [e2,aA]
       obtain ⟨q,a3,c3,e3,hq,g5,g6⟩:=eK cs c2 (s1:=a2) (n:=2) (by omega) (by omega)
       simp only
       rw [e3,aA]
       have hj5:∀ k:Int,k=2\/k=3->∃ L s1' s2',lI rec_ cs b most (p,a2,c2) (q,a3,c3) k=some (L,s1',s2')/\Tm b L/\(L.length:Int)<=4 * most+1/\s1<=s1'/\s1'<=s1+80 * most+20:=by
        intro k hk
        unfold lI aEt
        rw [cE (by simp only [List.length_nil];unfold gQ;omega),aA,aA,List.nil_append,cE (by simp only [List.length_singleton];unfold gQ;omega),aA]
        obtain ⟨L,a4,c4,e4,hL,hl,g7,g8⟩:=ih (most / 2) (by omega) (by omega) (by omega) (b++[q]) (fun v hv=>by
         rcases List.mem_append.1 hv with hv|hv
         ·exact hb v hv
         ·rw [List.mem_singleton] at hv;omega) (by rw [List.length_append,List.length_singleton];omega) a3 c3 (by omega) (by omega)
        unfold sK
        rw [qu2 (by omega) (by omega),aA]
        simp only
        rw [e4,aA,cF (x:=7+p) (by omega) (by omega),cE (by simp only [List.length_cons,List.length_nil];unfold gQ;omega),aA]
        obtain ⟨mk,ml,mn,a5,c5,e5,g9,g10,g11,g12⟩:=aMy cs c4 (s1:=a4) (by omega)
        simp only
        rw [e5,aA,cE (by simp only [List.length_append,List.length_cons,List.length_nil];unfold gQ;omega),aA,cE (by simp only [List.length_append,List.length_cons,List.length_nil];unfold gQ;omega),aA]
        refine ⟨_,_,_,rfl,?_,?_,by simp only;omega,by simp only;omega⟩
        ·have hv:Tm (b++[q]) [⟨6,q,[],false⟩]:=.var (by simp) (by omega)
         have:=Tm.fix (b:=b) (k:=7+p) (v:=q) (by omega) (by omega) (Tm.bin (k:=k) hk hL (Tm.mod (k:=mk) (l:=ml) (n:=mn) g9 g10 hv))
         simpa using this
        ·simp only [List.length_append,List.length_cons,List.length_nil];omega
       split
       ·exact hj5 2 (.inl rfl)
       ·exact hj5 3 (.inr rfl)
   have hj7t:∃ L s1' s2',gX rec_ cs b most (w,a,c) true=some (L,s1',s2')/\Tm b L/\(L.length:Int)<=4 * most+1/\s1<=s1'/\s1'<=s1+80 * most+20:=by
    unfold gX
    rw [if_pos rfl]
    obtain ⟨mk,ml,mn,a5,c5,e5,g9,g10,g11,g12⟩:=aMy cs c (s1:=a) (by omega)
    simp only
    rw [e5,aA,cF (x:=most - 1) (by omega) (by omega)]
    obtain ⟨L,a2,c2,e2,hL,hl,g5,g6⟩:=ih (most - 1) (by omega) (by omega) (by omega) b hb (by omega) a5 c5 (by omega) (by omega)
    simp only
    rw [e2,aA,cE (by simp only [List.length_singleton];unfold gQ;omega),aA]
    refine ⟨_,_,_,rfl,Tm.mod g9 g10 hL,?_,by simp only;omega,by simp only;omega⟩
    simp only [List.length_append,List.length_singleton];omega
   have hj7:∀ v:Bool,∃ L s1' s2',gX rec_ cs b most (w,a,c) v=some (L,s1',s2')/\Tm b L/\(L.length:Int)<=4 * most+1/\s1<=s1'/\s1'<=s1+80 * most+20:=by
    intro v
    cases v with
    |true=>exact hj7t
    |false=>
     unfold gX
     rw [if_neg (by simp)]
     split<;>exact hj6 _
   simp only
   split<;>exact hj7 _
theorem drawn_ok:∃ f,aCh cs=some f/\Tm [] f/\f.length<=30:=by
 unfold aCh aCY aCg
 obtain ⟨w,a,c,e,hw,h2,h3⟩:=eK cs 0 (s1:=0) (n:=8) (by omega) (by omega)
 rw [aA]
 simp only
 rw [e,aA,cF (x:=1+w) (by omega) (by omega)]
 obtain ⟨L,a2,c2,e2,hL,hl,g5,g6⟩:=part_ok cs 100000 (1+w) (by omega) (by omega) (by omega) [] (fun v hv=>by cases hv) (by simp;omega) a c (by omega) (by omega)
 unfold aCF
 simp only
 rw [e2,aA]
 have hd:Tm [] [⟨7,1,[],false⟩,⟨4,0,[97],false⟩,⟨6,1,[],false⟩]:=.fix (.inl rfl) (by omega) (.mod (.inl rfl) (pat_of (by decide)) (.var (by simp) (by omega)))
 have hj:∀ v:Bool,(v=false->L.length<=30)->∀ x y,∃ f,(ob (lR (L,a2,c2) v x y) fun r10=>some r10.1)=some f/\Tm [] f/\f.length<=30:=by
  intro v hv x y
  unfold lR
  cases v with
  |true=>exact ⟨_,rfl,hd,by simp⟩
  |false=>exact ⟨_,rfl,hL,hv rfl⟩
 simp only
 by_cases h16:16 < (L.length:Int)
 ·rw [if_pos (by simpa using h16)]
  obtain ⟨d,a1,c1,e1,g1,g2⟩:=aEZ cs c2 (s1:=a2) (n:=4) (by omega) (by omega)
  rw [e1,aA]
  split
  ·exact hj true (fun h=>by cases h) _ _
  ·exact hj _ (fun h=>by simp at h;omega) _ _
 ·rw [if_neg (by simpa using h16)]
  exact hj _ (fun h=>by simp at h;omega) _ _
end
end Gv
set_option linter.unusedVariables false
set_option linter.unusedSimpArgs false
namespace Gv
open Go
def Zig (a b:bQ) (R:Int->Int->Prop):Prop:=∀ x y,R x y->mJ a x/\mJ b y/\(∀ e∈a.E,e.F=x->∃ f∈b.E,f.F=y/\txt b f=txt a e/\R e.To f.To)/\(∀ f∈b.E,f.F=y->∃ e∈a.E,e.F=x/\txt b f=txt a e/\R e.To f.To)
theorem Zig.inv {a b:bQ} {R:Int->Int->Prop} (h:Zig a b R):Zig b a fun y x=>R x y:=fun y x hR=>by
 obtain ⟨h1,h2,h3,h4⟩:=h x y hR
 refine ⟨h2,h1,fun e he hx=>?_,fun e he hx=>?_⟩
 ·obtain ⟨f,hf,h5,h6,h7⟩:=h4 e he hx
  exact ⟨f,hf,h5,h6.symm,h7⟩
 ·obtain ⟨f,hf,h5,h6,h7⟩:=h3 e he hx
  exact ⟨f,hf,h5,h6.symm,h7⟩
def LabF (t:bQ):Prop:=∀ s∈t.L,aAi s=true/\s.length < 1000
def PosF (f:List bD) (a b:bQ) (R:Int->Int->Prop) (v w:Int):Prop:=∃ (k:Nat) (x y:Int),k < f.length/\R x y/\v=(k:Int) * a.N+x/\w=(k:Int) * b.N+y
section
variable {f:List bD} {a b:bQ} {R:Int->Int->Prop}
theorem pos_vx {t:bQ} (ht:dK t) {k:Nat} (hk:k < f.length) {x:Int} (hx:mJ t x):vx (gmF f t f.length) ((k:Int) * t.N+x)=verF f t k x:=by
 have h1:=ht.1
 unfold mJ at hx
 have e:((k:Int) * t.N+x).toNat=k * t.N.toNat+x.toNat:=by
  have:((k * t.N.toNat:Nat):Int)=(k:Int) * t.N:=by rw [Int.natCast_mul,show ((t.N.toNat:Nat):Int)=t.N by omega]
  omega
 unfold vx
 rw [e,List.getD_eq_getElem?_getD,aLe f t f.length k x.toNat hk (by omega),show ((x.toNat:Nat):Int)=x by omega]
 rfl
theorem aGY {l:List Int} {w:Int}:w∈fZ (xB iLt l)<->w∈l:=aFn.2 w
theorem nx_zig (hf:FOk f) (hz:Zig a b R) {k:Nat} (hk:k < f.length) {x y:Int} (hR:R x y):∀ v∈nxF f a k x,∃ w∈nxF f b k y,PosF f a b R v w:=by
 obtain ⟨h1,h2,h3,h4⟩:=hz x y hR
 intro v hv
 have hop:=(hf.ops k hk).2.2
 unfold nxF at hv ⊢
 split at hv
 ·rename_i hm
  rw [if_pos hm]
  obtain ⟨e,he,rfl⟩:=List.mem_map.1 hv
  obtain ⟨he1,he2⟩:=List.mem_filter.1 he
  obtain ⟨he3,he4⟩:=List.mem_filter.1 he1
  obtain ⟨g,hg,h5,h6,h7⟩:=h3 e he3 (by simpa using he4)
  have ho:=hf.one k hk hm
  have h8:=hop ((qQ f k).getD 0 0) (by rw [List.getD_eq_getElem?_getD,List.getElem?_eq_getElem (by omega)];exact List.getElem_mem _)
  refine ⟨_,List.mem_map.2 ⟨g,List.mem_filter.2 ⟨List.mem_filter.2 ⟨hg,by simpa using h5⟩,by rw [h6];exact he2⟩,rfl⟩,((qQ f k).getD 0 0).toNat,e.To,g.To,by omega,h7,?_,?_⟩
  ·rw [show ((((qQ f k).getD 0 0).toNat:Nat):Int)=(qQ f k).getD 0 0 by omega]
  ·rw [show ((((qQ f k).getD 0 0).toNat:Nat):Int)=(qQ f k).getD 0 0 by omega]
 ·rename_i hm
  rw [if_neg hm]
  split at hv
  ·rename_i h6
   rw [if_pos h6]
   rw [List.mem_singleton] at hv
   subst hv
   have h8:=(hf.bnd k hk h6).2
   refine ⟨_,List.mem_singleton.2 rfl,(bndF f k).toNat,x,y,by omega,hR,?_,?_⟩<;>rw [show (((bndF f k).toNat:Nat):Int)=bndF f k by omega]
  ·rename_i h6
   rw [if_neg h6]
   obtain ⟨o,ho,rfl⟩:=List.mem_map.1 hv
   have h8:=hop o ho
   refine ⟨_,List.mem_map.2 ⟨o,ho,rfl⟩,o.toNat,x,y,by omega,hR,?_,?_⟩<;>rw [show ((o.toNat:Nat):Int)=o by omega]
theorem pos_in {t:bQ} (ht:dK t) {k:Nat} (hk:k < f.length) {x:Int} (hx:mJ t x):InG (gmF f t f.length) ((k:Int) * t.N+x):=by
 have h1:=ht.1
 unfold mJ at hx
 have a1:0<=(k:Int) * t.N:=Int.mul_nonneg (by omega) (by omega)
 have a2:((k:Int)+1) * t.N<=(f.length:Int) * t.N:=Int.mul_le_mul_of_nonneg_right (by omega) (by omega)
 rw [Int.add_mul,Int.one_mul] at a2
 unfold InG
 rw [aCz,Int.natCast_mul,show ((t.N.toNat:Nat):Int)=t.N by omega]
 omega
theorem aMz (hf:FOk f) (ha:dK a) (hb:dK b) (hz:Zig a b R) {k:Nat} (hk:k < f.length) {x y:Int} (hR:R x y) {p q:Int} (hp:p=0\/p=1) (hq:q=0\/q=1) {W W':Int->Prop} {σ τ:Int->Int}
  (h0:Reg (gg (gmF f a f.length)) (InG (gmF f a f.length)) p W σ) (h1:Reg (gg (gmF f b f.length)) (InG (gmF f b f.length)) q W' τ) (hx:W ((k:Int) * a.N+x)) (hy:W' ((k:Int) * b.N+y)):p=q:=by
 refine Classical.byContradiction fun hne=>?_
 refine lockstep (R:=PosF f a b R) (A:=InG (gmF f a f.length)) (A':=InG (gmF f b f.length)) (fun v w hvw _ _=>?_) h0 h1 hne ⟨k,x,y,hk,hR,rfl,rfl⟩ hx hy
 obtain ⟨j,x',y',hj,hR',rfl,rfl⟩:=hvw
 obtain ⟨g1,g2,_,_⟩:=hz x' y' hR'
 have e1:=pos_vx (f:=f) ha hj g1
 have e2:=pos_vx (f:=f) hb hj g2
 refine ⟨?_,?_,?_,fun v' hE=>?_,fun w' hE=>?_⟩
 ·show (vx _ _).Owner=(vx _ _).Owner
  rw [e1,e2]
  rfl
 ·show (vx _ _).Priority=(vx _ _).Priority
  rw [e1,e2]
  rfl
 ·show (vx _ _).Owner=p\/(vx _ _).Owner=q
  rw [e1]
  have:aGW (rA f j)=0\/aGW (rA f j)=1:=by unfold aGW;split<;>simp
  show aGW (rA f j)=p\/aGW (rA f j)=q
  omega
 ·have hE:v'∈(vx (gmF f a f.length) _).Next:=hE
  rw [e1] at hE
  obtain ⟨w',hw',j',x2,y2,hj',hR2,rfl,rfl⟩:=nx_zig hf hz hj hR' v' (aGY.1 hE)
  refine ⟨pos_in ha hj' (hz x2 y2 hR2).1,_,?_,j',x2,y2,hj',hR2,rfl,rfl⟩
  show _∈(vx (gmF f b f.length) _).Next
  rw [e2]
  exact aGY.2 hw'
 ·have hE:w'∈(vx (gmF f b f.length) _).Next:=hE
  rw [e2] at hE
  obtain ⟨v',hv',j',y2,x2,hj',hR2,rfl,rfl⟩:=nx_zig hf hz.inv hj hR' w' (aGY.1 hE)
  refine ⟨pos_in hb hj' (hz x2 y2 hR2).2.1,_,?_,j',x2,y2,hj',hR2,rfl,rfl⟩
  show _∈(vx (gmF f a f.length) _).Next
  rw [e1]
  exact aGY.2 hv'
theorem sem_ok {t:bQ} (hf:FOk f) (ht:dK t) (hl:LabF t):∃ m,pB f t 0=some m/\m.length=t.N.toNat/\∀ x,mJ t x->∃ q,(q=0\/q=1)/\(On m x<->q=0)/\∃ W σ,Reg (gg (gmF f t f.length)) (InG (gmF f t f.length)) q W σ/\W (((0:Nat):Int) * t.N+x):=by
 have h1:=ht.1
 have hlen:=hf.len
 obtain ⟨hg,hg1⟩:=gmF_ok hf ht (by omega) hl
 obtain ⟨out,e1,e2,e3⟩:=aNy hg hg1
 have hol:t.N.toNat<=out.length:=by
  rw [e2,aCz]
  have:=Nat.mul_le_mul_right t.N.toNat hlen.1
  omega
 have key:=vE (step:=fun s:List Bool × Int=>iO t 0 (List.replicate t.N.toNat false) out s.1 s.2) (n:=t.N.toNat) (List.replicate t.N.toNat false) (by simp) (fun k=>out.getD k 0 == 0) (fun k o hk ho _=>?_) fun o ho=>?_
 ·obtain ⟨m,f1,f2,f3⟩:=key
  refine ⟨m,?_,f2,fun x hx=>?_⟩
  ·unfold pB
   rw [show mkz t.N false=mkz ((t.N.toNat:Nat):Int) false by rw [show ((t.N.toNat:Nat):Int)=t.N by omega],xZ _ (by unfold gQ;omega),aA,game_eq hf ht (by omega) hl,aA,e1,aA,f1,aA]
   rfl
  ·unfold mJ at hx
   obtain ⟨q,g1,g2,W,σ,g3,g4⟩:=e3 (((0:Nat):Int) * t.N+x) (pos_in ht hlen.1 hx)
   rw [show ((0:Nat):Int) * t.N+x=x by rw [show ((0:Nat):Int)=0 from rfl,Int.zero_mul,Int.zero_add]] at g2
   refine ⟨q,g1,?_,W,σ,g3,g4⟩
   rw [f3 x,g2,beq_iff_eq]
   constructor
   ·exact fun h=>h.2.2
   ·exact fun h=>⟨hx.1,by omega,h⟩
 ·show iO t 0 _ out o (k:Int)=_
  unfold iO
  rw [List.length_replicate,if_pos (bU hk),show wr (wr (0 * t.N)+(k:Int))=(k:Int) by rw [Int.zero_mul,cF (x:=0) (by omega) (by omega),cF (by omega) (by omega)];omega,bK (by omega),aA,bK (by omega),aA,oD _ (by omega),aA,bI hk (by omega),List.getD_eq_getElem?_getD,List.getElem?_eq_getElem (by omega)]
  rfl
 ·show iO t 0 _ out o ((t.N.toNat:Nat):Int)=_
  unfold iO
  rw [List.length_replicate,if_neg (by simp)]
theorem aKx {t:bQ} (h:Tm [] f) (hlen:f.length<=30) (ht:dK t) (ft:aAQ 999999999 t) (hl:LabF t):∃ m,m.length=t.N.toNat/\qE f t=some (onL m,0)/\pC f t=some (decide (On m t.I),0)/\∀ x,mJ t x->∃ q,(q=0\/q=1)/\(On m x<->q=0)/\∃ W σ,Reg (gg (gmF f t f.length)) (InG (gmF f t f.length)) q W σ/\W (((0:Nat):Int) * t.N+x):=by
 have h1:=ht.1
 have hi:=ht.2.1
 obtain ⟨m,e1,e2,e3⟩:=sem_ok (fok_of hlen h) ht hl
 refine ⟨m,e2,?_,?_,e3⟩
 ·unfold qE
  rw [code_of ft ht (aMx hlen h),aA,if_neg (by simp),e1,aA,aHA _ (by omega),aA]
  rfl
 ·unfold pC
  rw [code_of ft ht (aMx hlen h),aA,if_neg (by simp),e1,aA,ixOn (by omega) (by omega),aA]
theorem part_zig {u:bQ} (hu:dK u) (hb:Big u) {p:List Int} (hp:fE u p) (hst:cn (ky1 u p)=p):Zig u u fun x y=>mJ u x/\mJ u y/\p.getD x.toNat 0=p.getD y.toNat 0:=by
 rintro x y ⟨h1,h2,h3⟩
 refine ⟨h1,h2,fun e he hx=>?_,fun g hg hy=>?_⟩
 ·obtain ⟨g,hg,h4,h5,h6⟩:=aCy hb hp hst h1 h2 h3 he hx
  exact ⟨g,hg,h4,by unfold txt;rw [h5],(hb.inn e he).2.1,(hb.inn g hg).2.1,h6⟩
 ·obtain ⟨e,he,h4,h5,h6⟩:=aCy hb hp hst h2 h1 h3.symm hg hy
  exact ⟨e,he,h4,by unfold txt;rw [h5],(hb.inn e he).2.1,(hb.inn g hg).2.1,h6.symm⟩
theorem big_ofI {u:bQ} (hu:dK u):Big u:=by
 have h1:=hu.1
 have h2:=hu.2.2.1.2.1
 have h3:=hu.2.2.2.1
 exact ⟨by omega,by omega,by omega,fun e he=>oC hu he⟩
theorem bisim_zig (ha:dK a) (hb:dK b) (fa:aAQ 999999999 a) (fb:aAQ 999999999 b):∃ c,wS a b=some (c,0)/\(c=true->∃ R,Zig a b R/\R a.I b.I):=by
 have s1:=ha.1
 have s2:=hb.1
 have hai:=ha.2.1
 have hbi:=hb.2.1
 obtain ⟨M,Eo,h⟩:=uni_ex ha hb
 have hu:=uni_big ha hb h
 obtain ⟨p,hs,hp,hst⟩:=aHS hu
 have iA:∀ x,mJ a x->mJ (uniL a b M Eo) x:=fun x hx=>by
  unfold mJ at *
  show 0<=x/\x < a.N+b.N
  omega
 have iB:∀ y,mJ b y->mJ (uniL a b M Eo) (a.N+y):=fun y hy=>by
  unfold mJ at *
  show 0<=a.N+y/\a.N+y < a.N+b.N
  omega
 have ia:mJ a a.I:=by unfold mJ;omega
 have ib:mJ b b.I:=by unfold mJ;omega
 unfold wS aDA
 rw [aCu a fa,cl_t ha,aA,if_neg (by simp),aCu b fb,cl_t hb,aA]
 unfold uH aKJ
 rw [if_neg (by simp),aNl ha hb h,aA,show pQ ⟨(uniL a b M Eo).N,(uniL a b M Eo).I,(uniL a b M Eo).L,(uniL a b M Eo).E⟩=_ from hs,aA,aA]
 unfold wR
 rw [(mF hp (iA _ ia)).1,aA,cF (by omega) (by omega),(mF hp (iB _ ib)).1,aA,aA,aA]
 refine ⟨_,rfl,fun hc=>?_⟩
 rw [beq_iff_eq] at hc
 refine ⟨fun x y=>mJ a x/\mJ b y/\p.getD x.toNat 0=p.getD (a.N+y).toNat 0,?_,ia,ib,hc⟩
 rintro x y ⟨hx,hy,hR⟩
 refine ⟨hx,hy,fun e he hex=>?_,fun f hf hfy=>?_⟩
 ·have he':(⟨e.F,pos (cI::M) (txt a e),e.To⟩:Edge)∈Eo:=(h.ed _).2 (by unfold unA;exact List.mem_append_left _ (List.mem_map_of_mem he))
  obtain ⟨g,hg,g1,g2,g3⟩:=aCy hu hp hst (iA x hx) (iB y hy) hR he' hex
  have hg':=(h.ed g).1 hg
  unfold unA at hg'
  unfold mJ at hx hy
  rcases List.mem_append.1 hg' with k|k
  ·obtain ⟨f,hf,rfl⟩:=List.mem_map.1 k
   have:=(oC ha hf).1
   unfold mJ at this
   simp only at g1;omega
  ·obtain ⟨f,hf,rfl⟩:=List.mem_map.1 k
   refine ⟨f,hf,by simp only at g1;omega,?_,(oC ha he).2.1,(oC hb hf).2.1,?_⟩
   ·exact aKV (aFr h (.inr (yE hb hf))) (aFr h (.inl (yE ha he))) g2
   ·rw [Int.add_comm a.N]
    exact g3
 ·have hf':(⟨f.F+a.N,pos (cI::M) (txt b f),f.To+a.N⟩:Edge)∈Eo:=(h.ed _).2 (by unfold unA;exact List.mem_append_right _ (List.mem_map_of_mem hf))
  obtain ⟨g,hg,g1,g2,g3⟩:=aCy hu hp hst (iB y hy) (iA x hx) hR.symm hf' (by simp only;omega)
  have hg':=(h.ed g).1 hg
  unfold unA at hg'
  unfold mJ at hx hy
  rcases List.mem_append.1 hg' with k|k
  ·obtain ⟨e,he,rfl⟩:=List.mem_map.1 k
   refine ⟨e,he,g1,(aKV (aFr h (.inl (yE ha he))) (aFr h (.inr (yE hb hf))) g2).symm,(oC ha he).2.1,(oC hb hf).2.1,?_⟩
   rw [Int.add_comm a.N]
   exact g3.symm
  ·obtain ⟨e,he,rfl⟩:=List.mem_map.1 k
   have:=(oC hb he).1
   unfold mJ at this
   simp only at g1;omega
end
end Gv
set_option linter.unusedVariables false
set_option linter.unusedSimpArgs false
namespace Gv
open Go
theorem long_okI (cs ms:aQ):∃ b,aEs cs ms=some b:=by
 unfold aEs aCf
 split<;>exact ⟨_,rfl⟩
theorem aLf (l:List Int) (n:Int) (h:l.length<=100000):aDy l n=some (decide (n∈l)):=by
 have key:=aIL (step:=fun s:Int=>xW l n s) l (fun x=>!(x == n)) (.inr true) (.inl ()) (fun k x hk hx=>by
  show xW l n (k:Int)=_
  unfold xW
  rw [if_pos (bU hk),hx,aA,bI hk (by omega)]
  by_cases e:x=n<;>simp [e]) (by
  show xW l n (l.length:Int)=_
  unfold xW
  rw [if_neg (by simp)])
 unfold aDy
 rw [key,aA]
 by_cases hm:n∈l
 ·have:l.all (fun x=>!(x == n))=false:=by
   rw [List.all_eq_false]
   exact ⟨n,hm,by simp⟩
  rw [this,decide_eq_true hm]
  rfl
 ·have:l.all (fun x=>!(x == n))=true:=by
   rw [List.all_eq_true]
   intro x hx
   have:x≠n:=fun e=>hm (e ▸ hx)
   simpa using this
  rw [this,decide_eq_false hm]
  rfl
theorem drn_lab {c:Nat} {t:bQ} (h:Drn c t):LabF t:=fun s hs=>by
 have h1:=Nm_lab s (h.nm s hs)
 have h2:=Nm_len s (h.nm s hs)
 exact ⟨h1,by omega⟩
theorem lawInvar (cs ms:aQ):wT cs ms=some true:=by
 unfold wT
 obtain ⟨lg0,hlg0⟩:=long_okI cs ms
 rw [hlg0,aA]
 by_cases hl:lg0=true
 ·rw [if_pos hl]
 rw [if_neg hl]
 obtain ⟨f,ef,hf,hfl⟩:=drawn_ok ms
 obtain ⟨a,b,e2,ha,ha6,hb⟩:=two_ok cs
 rw [ef,aA,e2,aA]
 have fa:=ha.fits
 have fb:=hb.fits
 have hS:=ha.ok.1
 have hai:=ha.ok.2.1
 have hbi:=hb.ok.2.1
 have hBig:=big_ofI ha.ok
 obtain ⟨p,e3,hp,hst⟩:=aHS hBig
 have e4:qC a=some (p,0):=by
  unfold qC
  rw [aCu a fa,cl_t ha.ok,aA,if_neg (by simp),e3,aA]
 show (ob (qC a) _)=_
 rw [e4,aA]
 obtain ⟨m,m1,m2,m3,m4⟩:=aKx hf hfl ha.ok fa (drn_lab ha)
 obtain ⟨m',m1',_,m3',m4'⟩:=aKx hf hfl hb.ok fb (drn_lab hb)
 simp only
 rw [m2,aA,if_neg (by simp),if_neg (by simp)]
 have hpl:(p.length:Int)=a.N:=by rw [hp.1];omega
 have hpl':p.length<=40:=by omega
 have hol:(onL m).length<=100000:=by
  unfold onL
  rw [List.length_map]
  exact Nat.le_trans (List.length_filter_le _ _) (by rw [List.length_range];omega)
 rw [show ((p.length:Int) != a.N)=false by simp [hpl]]
 have ia:mJ a a.I:=by unfold mJ;omega
 have ib:mJ b b.I:=by unfold mJ;omega
 have hj2:nN f (a,b) (onL m,0)=some true:=by
  obtain ⟨c,e5,h5⟩:=bisim_zig ha.ok hb.ok fa fb
  have hd:decide (On m a.I)=decide (a.I∈onL m):=decide_eq_decide.2 nS.symm
  unfold nN gN
  simp only
  rw [e5,aA,m3,aA,m3',aA,if_pos (by simp),if_pos (by simp),if_pos (by simp),aLf _ _ hol,aA,if_pos (by rw [hd];simp)]
  cases c with
  |false=>rfl
  |true=>
   rw [if_neg (by simp)]
   obtain ⟨R,hz,hR⟩:=h5 rfl
   obtain ⟨q,q1,q2,W,σ,q3,q4⟩:=m4 a.I ia
   obtain ⟨q',q1',q2',W',σ',q3',q4'⟩:=m4' b.I ib
   have:=aMz (fok_of hfl hf) ha.ok hb.ok hz (k:=0) hf.pos hR q1 q1' q3 q3' q4 q4'
   have hd2:decide (On m a.I)=decide (On m' b.I):=decide_eq_decide.2 (by rw [q2,q2',this])
   rw [hd2]
   simp
 unfold kJ
 rw [if_neg (by simp)]
 have key:=bZ (step:=fun s:Int=>gP (p,0) (onL m,0) s) p.length (fun i (_:Unit)=>(i:Int)) (fun _ _=>True) (fun r=>r=.inl ()) (fun i _ hi _=>?_) (fun _ _=>?_) p.length 0 () (by omega) trivial
 ·obtain ⟨r,e5,e6⟩:=key
  have e5':loop (fun s:Int=>gP (p,0) (onL m,0) s) 0=some r:=e5
  rw [e5',aA,e6]
  exact hj2
 ·refine ⟨(),?_,trivial⟩
  show gP (p,0) (onL m,0) (i:Int)=some (.inl ((i+1:Nat):Int))
  have inner:=bZ (step:=fun s:Int=>gO (p,0) (onL m,0) (i:Int) s) i (fun k (_:Unit)=>(k:Int)) (fun _ _=>True) (fun r=>r=.inl ()) (fun k _ hk _=>?_) (fun _ _=>?_) i 0 () (by omega) trivial
  ·obtain ⟨r,e5,e6⟩:=inner
   have e5':loop (fun s:Int=>gO (p,0) (onL m,0) (i:Int) s) 0=some r:=e5
   unfold gP
   simp only
   rw [if_pos (bU hi),e5',aA,e6]
   show qY (i:Int)=_
   unfold qY qX
   rw [bI hi (by omega)]
  ·refine ⟨(),?_,trivial⟩
   show gO (p,0) (onL m,0) (i:Int) (k:Int)=some (.inl ((k+1:Nat):Int))
   have hj5:nO (k:Int) false=some (.inl ((k+1:Nat):Int)):=by
    unfold nO
    rw [if_neg (by simp),bI hk (by omega)]
   unfold gO
   simp only
   rw [if_pos (bU hk),bK hi,aA,bK (show k < p.length by omega),aA]
   by_cases he:p[i]=p[k]
   ·rw [if_pos (by simpa using he),aLf _ _ hol,aA,aLf _ _ hol,aA]
    have hiT:mJ a (i:Int):=by unfold mJ;omega
    have hkT:mJ a (k:Int):=by unfold mJ;omega
    obtain ⟨q,q1,q2,W,σ,q3,q4⟩:=m4 (i:Int) hiT
    obtain ⟨q',q1',q2',W',σ',q3',q4'⟩:=m4 (k:Int) hkT
    have hge:p.getD ((i:Int)).toNat 0=p.getD ((k:Int)).toNat 0:=by
     rw [Int.toNat_natCast,Int.toNat_natCast,List.getD_eq_getElem?_getD,List.getD_eq_getElem?_getD,List.getElem?_eq_getElem hi,List.getElem?_eq_getElem (by omega)]
     simpa using he
    have:=aMz (fok_of hfl hf) ha.ok ha.ok (part_zig ha.ok hBig hp hst) (k:=0) hf.pos ⟨hiT,hkT,hge⟩ q1 q1' q3 q3' q4 q4'
    have hd2:decide ((i:Int)∈onL m)=decide ((k:Int)∈onL m):=decide_eq_decide.2 (by rw [nS,nS,q2,q2',this])
    rw [hd2]
    rw [show (decide ((k:Int)∈onL m) != decide ((k:Int)∈onL m))=false by simp]
    exact hj5
   ·rw [if_neg (by simpa using he)]
    exact hj5
  ·refine ⟨.inl (),?_,rfl⟩
   show gO (p,0) (onL m,0) (i:Int) (i:Int)=_
   unfold gO
   rw [if_neg (by simp)]
 ·refine ⟨.inl (),?_,rfl⟩
  show gP (p,0) (onL m,0) (p.length:Int)=_
  unfold gP
  rw [if_neg (by simp)]
end Gv
