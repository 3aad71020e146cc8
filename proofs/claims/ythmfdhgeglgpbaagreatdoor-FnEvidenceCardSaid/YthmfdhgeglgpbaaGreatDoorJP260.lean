/- Parity games with parts that are won, attractors, and games that go in step. Plain Lean. -/
import Derived.Test.YthmfdhgeglgpbaaGreatDoorJP200
set_option linter.all false
set_option linter.unusedVariables false
namespace Gv
structure PG (V:Type) where
 own:V->Int
 pr:V->Int
 E:V->V->Prop
section
variable {V U:Type}
def aCm (pr:V->Int) (p:Int) (f:Nat->V):Prop:=
 ∃ m:Int,m % 2=p/\(∀ N,∃ n,N<=n/\pr (f n)=m)/\∃ N,∀ n,N<=n->m<=pr (f n)
theorem aCm.tail {pr:V->Int} {p:Int} {f:Nat->V} (k:Nat) (h:aCm pr p fun n=>f (n+k)):aCm pr p f:=by
 obtain ⟨m,h1,h2,N,h3⟩:=h
 refine ⟨m,h1,fun N'=>?_,N+k,fun n hn=>?_⟩
 ·obtain ⟨n,hn,e⟩:=h2 N'
  exact ⟨n+k,by omega,e⟩
 ·have:=h3 (n - k) (by omega)
  simp only at this
  rw [Nat.sub_add_cancel (by omega)] at this
  exact this
theorem aCm.one {pr:V->Int} {pr':U->Int} {p q:Int} {f:Nat->V} {g:Nat->U} (e:∀ n,pr (f n)=pr' (g n)) (h:aCm pr p f) (h':aCm pr' q g):p=q:=by
 obtain ⟨m,h1,h2,N,h3⟩:=h
 obtain ⟨m',h1',h2',N',h3'⟩:=h'
 obtain ⟨n,hn,e1⟩:=h2 N'
 obtain ⟨n',hn',e1'⟩:=h2' N
 have a:=h3 n' hn'
 have b:=h3' n hn
 rw [e n'] at a
 rw [←e n] at b
 rw [e1'] at a
 rw [e1] at b
 have:m=m':=by omega
 rw [←h1,←h1',this]
structure Reg (G:PG V) (A:V->Prop) (p:Int) (W:V->Prop) (σ:V->V):Prop where
 sub:∀ v,W v->A v
 mine:∀ v,W v->G.own v=p->G.E v (σ v)/\W (σ v)
 theirs:∀ v,W v->G.own v≠p->∀ w,G.E v w->A w->W w
 good:∀ f:Nat->V,(∀ n,W (f n))->(∀ n,G.E (f n) (f (n+1)))->(∀ n,G.own (f n)=p->f (n+1)=σ (f n))->aCm G.pr p f
structure Att (G:PG V) (A:V->Prop) (p:Int) (S T:V->Prop) (rk:V->Nat) (σ:V->V):Prop where
 sub:∀ v,S v->T v
 inA:∀ v,T v->A v
 mine:∀ v,T v->¬ S v->G.own v=p->G.E v (σ v)/\T (σ v)/\rk (σ v) < rk v
 theirs:∀ v,T v->¬ S v->G.own v≠p->∀ w,G.E v w->A w->T w/\rk w < rk v
 outM:∀ v,A v->¬ T v->G.own v=p->∀ w,G.E v w->¬ T w
 outT:∀ v,A v->¬ T v->G.own v≠p->(∃ w,G.E v w/\A w)->∃ w,G.E v w/\A w/\¬ T w
variable {G:PG V} {A A' B W S T:V->Prop} {p:Int} {rk:V->Nat} {σ τ:V->V}
theorem Reg.stay (h:Reg G A p W σ) {f:Nat->V} (hA:∀ n,A (f n)) (hE:∀ n,G.E (f n) (f (n+1))) (hs:∀ n,W (f n)->G.own (f n)=p->f (n+1)=σ (f n)) {k:Nat} (hk:W (f k)):∀ n,W (f (n+k)):=by
 intro n
 induction n with
 |zero=>rw [Nat.zero_add];exact hk
 |succ n ih=>
  rw [show n+1+k=(n+k)+1 by omega]
  by_cases ho:G.own (f (n+k))=p
  ·rw [hs _ ih ho];exact (h.mine _ ih ho).2
  ·exact h.theirs _ ih ho _ (hE _) (hA _)
theorem Reg.win (h:Reg G A p W σ) {f:Nat->V} (hA:∀ n,A (f n)) (hE:∀ n,G.E (f n) (f (n+1))) (hs:∀ n,W (f n)->G.own (f n)=p->f (n+1)=σ (f n)) {k:Nat} (hk:W (f k)):aCm G.pr p f:=by
 have hw:=h.stay hA hE hs hk
 refine aCm.tail k (h.good _ hw (fun n=>?_) fun n ho=>?_)
 ·rw [show n+1+k=(n+k)+1 by omega];exact hE _
 ·rw [show n+1+k=(n+k)+1 by omega];exact hs _ (hw n) ho
theorem Att.hit (h:Att G A p S T rk σ) {f:Nat->V} (hA:∀ n,A (f n)) (hE:∀ n,G.E (f n) (f (n+1))) (hs:∀ n,T (f n)->¬ S (f n)->G.own (f n)=p->f (n+1)=σ (f n)):∀ r k,rk (f k)<=r->T (f k)->∃ n,k<=n/\S (f n):=by
 intro r
 induction r with
 |zero=>
  intro k hk ht
  by_cases hS:S (f k)
  ·exact ⟨k,Nat.le_refl _,hS⟩
  ·exfalso
   by_cases ho:G.own (f k)=p
   ·have:=(h.mine _ ht hS ho).2.2;omega
   ·have:=(h.theirs _ ht hS ho _ (hE k) (hA _)).2;omega
 |succ r ih=>
  intro k hk ht
  by_cases hS:S (f k)
  ·exact ⟨k,Nat.le_refl _,hS⟩
  ·have key:T (f (k+1))/\rk (f (k+1)) < rk (f k):=by
    by_cases ho:G.own (f k)=p
    ·have:=h.mine _ ht hS ho
     rw [hs k ht hS ho]
     exact this.2
    ·exact h.theirs _ ht hS ho _ (hE k) (hA _)
   obtain ⟨n,h1,h2⟩:=ih (k+1) (by omega) key.1
   exact ⟨n,by omega,h2⟩
open Classical in
theorem attReg (h:Reg G A p W τ) (ha:Att G A p W T rk σ):Reg G A p T (fun v=>if W v then τ v else σ v) where
 sub:=ha.inA
 mine:=fun v hv ho=>by
  by_cases hw:W v
  ·rw [if_pos hw];exact ⟨(h.mine v hw ho).1,ha.sub _ (h.mine v hw ho).2⟩
  ·rw [if_neg hw];exact ⟨(ha.mine v hv hw ho).1,(ha.mine v hv hw ho).2.1⟩
 theirs:=fun v hv ho w hE hA=>by
  by_cases hw:W v
  ·exact ha.sub _ (h.theirs v hw ho w hE hA)
  ·exact (ha.theirs v hv hw ho w hE hA).1
 good:=fun f hT hE hs=>by
  have hA:∀ n,A (f n):=fun n=>ha.inA _ (hT n)
  obtain ⟨k,_,hk⟩:=ha.hit hA hE (fun n _ hw ho=>by rw [hs n ho,if_neg hw]) _ 0 (Nat.le_refl _) (hT 0)
  exact h.win hA hE (fun n hw ho=>by rw [hs n ho,if_pos hw]) hk
theorem aPT (h:Reg G A' p W τ) (hs:∀ v,A' v->A v) (ho:∀ v,W v->G.own v≠p->∀ w,G.E v w->A w->A' w):Reg G A p W τ where
 sub:=fun v hv=>hs v (h.sub v hv)
 mine:=h.mine
 theirs:=fun v hv hp w hE hA=>h.theirs v hv hp w hE (ho v hv hp w hE hA)
 good:=h.good
open Classical in
theorem aPU (h:Reg G A p B τ) (h':Reg G A' p W σ) (hs:∀ v,A' v<->A v/\¬ B v):Reg G A p (fun v=>B v\/W v) (fun v=>if B v then τ v else σ v) where
 sub:=fun v hv=>hv.elim (h.sub v) fun hw=>((hs v).1 (h'.sub v hw)).1
 mine:=fun v hv ho=>by
  by_cases hb:B v
  ·rw [if_pos hb];exact ⟨(h.mine v hb ho).1,.inl (h.mine v hb ho).2⟩
  ·rw [if_neg hb]
   have hw:=hv.resolve_left hb
   exact ⟨(h'.mine v hw ho).1,.inr (h'.mine v hw ho).2⟩
 theirs:=fun v hv ho w hE hA=>by
  by_cases hb:B v
  ·exact .inl (h.theirs v hb ho w hE hA)
  ·by_cases hb':B w
   ·exact .inl hb'
   ·exact .inr (h'.theirs v (hv.resolve_left hb) ho w hE ((hs w).2 ⟨hA,hb'⟩))
 good:=fun f hW hE hg=>by
  have hA:∀ n,A (f n):=fun n=>(hW n).elim (h.sub _) fun hw=>((hs _).1 (h'.sub _ hw)).1
  by_cases hk:∃ k,B (f k)
  ·obtain ⟨k,hk⟩:=hk
   exact h.win hA hE (fun n hb ho=>by rw [hg n ho,if_pos hb]) hk
  ·have hn:∀ n,¬ B (f n):=fun n hb=>hk ⟨n,hb⟩
   exact h'.good f (fun n=>(hW n).resolve_left (hn n)) hE fun n ho=>by rw [hg n ho,if_neg (hn n)]
open Classical in
theorem allReg {m:Int} (hm:m % 2=p) (hle:∀ v,A v->m<=G.pr v) (hS:∀ v,S v<->A v/\G.pr v=m) (ha:Att G A p S T rk σ) (hA':∀ v,A' v<->A v/\¬ T v) (h:Reg G A' p A' τ) (hd:∀ v,A v->∃ w,G.E v w/\A w):
  ∃ ρ,Reg G A p A ρ:=by
 have hc:∃ c:V->V,∀ v,A v->G.E v (c v)/\A (c v):=
  ⟨fun v=>if hv:A v then (hd v hv).choose else v,fun v hv=>by simp only [hv,dite_true];exact (hd v hv).choose_spec⟩
 obtain ⟨c,hc⟩:=hc
 refine ⟨fun v=>if S v then c v else if T v then σ v else τ v,fun v hv=>hv,fun v hv ho=>?_,fun v hv ho w hE hw=>hw,fun f hA hE hs=>?_⟩
 ·by_cases h1:S v
  ·rw [if_pos h1];exact hc v hv
  ·rw [if_neg h1]
   by_cases h2:T v
   ·rw [if_pos h2];exact ⟨(ha.mine v h2 h1 ho).1,ha.inA _ (ha.mine v h2 h1 ho).2.1⟩
   ·rw [if_neg h2]
    have:=h.mine v ((hA' v).2 ⟨hv,h2⟩) ho
    exact ⟨this.1,((hA' _).1 this.2).1⟩
 ·by_cases hi:∀ N,∃ n,N<=n/\S (f n)
  ·exact ⟨m,hm,fun N=>let ⟨n,h1,h2⟩:=hi N;⟨n,h1,((hS _).1 h2).2⟩,0,fun n _=>hle _ (hA n)⟩
  ·obtain ⟨N,hN⟩:=Classical.not_forall.1 hi
   have hN':∀ n,N<=n->¬ S (f n):=fun n hn hs'=>hN ⟨n,hn,hs'⟩
   have hT:∀ n,N<=n->¬ T (f n):=fun n hn ht=>by
    obtain ⟨k,hk,hk'⟩:=ha.hit hA hE (fun n ht hw ho=>by rw [hs n ho,if_neg hw,if_pos ht]) _ n (Nat.le_refl _) ht
    exact hN' k (by omega) hk'
   refine aCm.tail N (h.good _ (fun n=>(hA' _).2 ⟨hA _,hT _ (by omega)⟩) (fun n=>?_) fun n ho=>?_)
   ·rw [show n+1+N=(n+N)+1 by omega];exact hE _
   ·rw [show n+1+N=(n+N)+1 by omega,hs _ ho,if_neg (hN' _ (by omega)),if_neg (hT _ (by omega))]
theorem lockstep {G:PG V} {H:PG U} {R:V->U->Prop} {A:V->Prop} {A':U->Prop} {W:V->Prop} {W':U->Prop} {p q:Int} {σ:V->V} {τ:U->U}
  (hR:∀ x y,R x y->W x->W' y->G.own x=H.own y/\G.pr x=H.pr y/\(G.own x=p\/G.own x=q)/\(∀ x',G.E x x'->A x'/\∃ y',H.E y y'/\R x' y')/\(∀ y',H.E y y'->A' y'/\∃ x',G.E x x'/\R x' y'))
  (h0:Reg G A p W σ) (h1:Reg H A' q W' τ) (hq:p≠q) {x:V} {y:U} (hxy:R x y) (hx:W x) (hy:W' y):False:=by
 have step:∀ s:{s:V × U // R s.1 s.2/\W s.1/\W' s.2},∃ s':{s:V × U // R s.1 s.2/\W s.1/\W' s.2},G.E s.1.1 s'.1.1/\H.E s.1.2 s'.1.2/\(G.own s.1.1=p->s'.1.1=σ s.1.1)/\(H.own s.1.2=q->s'.1.2=τ s.1.2):=by
  rintro ⟨⟨a,b⟩,hab,ha,hb⟩
  obtain ⟨e1,e2,e3,e4,e5⟩:=hR a b hab ha hb
  simp only at hab ha hb ⊢
  by_cases ho:G.own a=p
  ·obtain ⟨m1,m2⟩:=h0.mine a ha ho
   obtain ⟨g1,b',g2,g3⟩:=e4 _ m1
   have hob:H.own b≠q:=by rw [←e1,ho];exact hq
   exact ⟨⟨(σ a,b'),g3,m2,h1.theirs b hb hob b' g2 (e5 b' g2).1⟩,m1,g2,fun _=>rfl,fun h=>absurd h hob⟩
  ·have hob:H.own b=q:=by rw [←e1];exact e3.resolve_left ho
   obtain ⟨m1,m2⟩:=h1.mine b hb hob
   obtain ⟨g1,a',g2,g3⟩:=e5 _ m1
   exact ⟨⟨(a',τ b),g3,h0.theirs a ha ho a' g2 (e4 a' g2).1,m2⟩,g2,m1,fun h=>absurd h ho,fun _=>rfl⟩
 obtain ⟨nx,hnx⟩:=Classical.axiomOfChoice step
 let f:Nat->{s:V × U // R s.1 s.2/\W s.1/\W' s.2}:=fun n=>Nat.rec ⟨(x,y),hxy,hx,hy⟩ (fun _ s=>nx s) n
 have hf:∀ n,f (n+1)=nx (f n):=fun n=>rfl
 have a1:=h0.good (fun n=>(f n).1.1) (fun n=>(f n).2.2.1) (fun n=>by rw [hf];exact (hnx (f n)).1) fun n ho=>by rw [hf];exact (hnx (f n)).2.2.1 ho
 have a2:=h1.good (fun n=>(f n).1.2) (fun n=>(f n).2.2.2) (fun n=>by rw [hf];exact (hnx (f n)).2.1) fun n ho=>by rw [hf];exact (hnx (f n)).2.2.2 ho
 exact hq (aCm.one (fun n=>(hR _ _ (f n).2.1 (f n).2.2.1 (f n).2.2.2).2.1) a1 a2)
end
end Gv
set_option linter.unusedVariables false
set_option linter.unusedSimpArgs false
namespace Gv
open Go
def vx (g:List aO) (v:Int):aO:=g.getD v.toNat default
def gg (g:List aO):PG Int where
 own v:=(vx g v).Owner
 pr v:=(vx g v).Priority
 E v w:=w∈(vx g v).Next
structure GOk (g:List aO):Prop where
 len:g.length<=10000
 own:∀ v,(vx g v).Owner=0\/(vx g v).Owner=1
 pr:∀ v,0<=(vx g v).Priority/\(vx g v).Priority<=1000000
 nx:∀ v,∀ w∈(vx g v).Next,0<=w/\w < (g.length:Int)
 nd:∀ v,(vx g v).Next.Nodup
def On (m:List Bool) (v:Int):Prop:=0<=v/\m.getD v.toNat false=true
instance (m:List Bool) (v:Int):Decidable (On m v):=inferInstanceAs (Decidable (_/\_))
theorem On.lt {m:List Bool} {v:Int} (h:On m v):v.toNat < m.length:=by
 obtain ⟨h0,h1⟩:=h
 rw [List.getD_eq_getElem?_getD] at h1
 by_cases hl:v.toNat < m.length
 ·exact hl
 ·rw [List.getElem?_eq_none (by omega)] at h1
  cases h1
theorem ixOn {m:List Bool} {v:Int} (h0:0<=v) (h:v < (m.length:Int)):ix m v=some (decide (On m v)):=by
 have e:m.getD v.toNat false=m[v.toNat]'(by omega):=by rw [List.getD_eq_getElem?_getD,List.getElem?_eq_getElem (by omega)];rfl
 unfold ix
 rw [if_pos h0,List.getElem?_eq_getElem (by omega)]
 congr 1
 by_cases hb:On m v
 ·rw [decide_eq_true hb,←e];exact hb.2
 ·rw [decide_eq_false hb,←e]
  cases hx:m.getD v.toNat false with
  |false=>rfl
  |true=>exact absurd ⟨h0,hx⟩ hb
theorem ixV {g:List aO} {v:Int} (h0:0<=v) (h:v < (g.length:Int)):ix g v=some (vx g v):=by
 unfold ix vx
 rw [if_pos h0,List.getD_eq_getElem?_getD,List.getElem?_eq_getElem (by omega)]
 rfl
theorem aOX (m:List Bool) (h:m.length<=100000):aFQ m=some (((List.range m.length).filter fun k=>m.getD k false).map fun k:Nat=>(k:Int)):=by
 unfold aFQ
 have key:=aIv (step:=fun s:List Int × Int=>vP m s.1 s.2) (List.range m.length) (fun k=>m.getD k false) (fun k:Nat=>(k:Int)) (fun o=>o) (fun k out x hk ho hx=>?_) (fun out=>?_)
 ·rw [key];rfl
 ·rw [List.length_range] at hk
  rw [aFf,List.getElem?_eq_getElem (by simpa using hk),List.getElem_range] at hx
  cases hx
  show vP m out (k:Int)=_
  unfold vP
  rw [if_pos (bV hk),bS hk,aA,show m.getD k false=m[k] by rw [List.getD_eq_getElem?_getD,List.getElem?_eq_getElem hk];rfl]
  unfold aBW
  rw [bQ hk (by omega)]
  by_cases hb:m[k]=true
  ·rw [if_pos hb,cG (by simp only [List.length_singleton];unfold iE;omega),aA,if_pos hb]
  ·rw [if_neg hb,if_neg hb]
 ·show vP m out ((List.range m.length).length:Int)=_
  rw [List.length_range]
  unfold vP
  rw [if_neg (by simp)]
def onL (m:List Bool):List Int:=((List.range m.length).filter fun k=>m.getD k false).map fun k:Nat=>(k:Int)
theorem tQ {m:List Bool} {v:Int}:v∈onL m<->On m v:=by
 unfold onL
 rw [List.mem_map]
 constructor
 ·rintro ⟨k,hk,rfl⟩
  rw [List.mem_filter] at hk
  exact ⟨Int.natCast_nonneg k,by simpa using hk.2⟩
 ·intro h
  refine ⟨v.toNat,List.mem_filter.2 ⟨List.mem_range.2 h.lt,h.2⟩,?_⟩
  have:=h.1
  omega
theorem aLt (m:List Bool):(onL m).Nodup:=by
 unfold onL
 have h1:((List.range m.length).filter fun k=>m.getD k false).Nodup:=List.nodup_range.filter _
 exact List.pairwise_map.2 (h1.imp fun h e=>h (by omega))
structure AOk (x:fS):Prop where
 g:GOk x.g
 inl:x.in_.length=x.g.length
 bl:x.back.length=x.g.length
 bk:∀ v:Int,0<=v->v < (x.g.length:Int)->∀ k:Int,k∈x.back.getD v.toNat []<->0<=k/\k < (x.g.length:Int)/\v∈(vx x.g k).Next
 bnd:∀ v:Nat,(x.back.getD v []).Nodup
def ex (x:fS) (k:Int) (P:List Int):Nat:=((vx x.g k).Next.filter fun w=>decide (On x.in_ w)&&!decide (w∈P)).length
section
variable {x:fS}
theorem aGN (h:GOk x.g) (k:Int):(vx x.g k).Next.length<=x.g.length:=by
 have:=List.Nodup.length_le_of_subset (l₂:=(List.range x.g.length).map fun (i:Nat)=>(i:Int)) (h.nd k) (fun w hw=>by
  have:=h.nx k w hw
  rw [List.mem_map]
  exact ⟨w.toNat,List.mem_range.2 (by omega),by omega⟩)
 simpa using this
theorem exits_eq (h:AOk x) {k:Int} (h0:0<=k) (h1:k < (x.g.length:Int)):xR x k=some ((ex x k []:Nat):Int):=by
 unfold xR
 rw [ixV h0 h1,aA]
 have hl:=aGN h.g k
 have hg:=h.g.len
 have hin:=h.g.nx k
 unfold ex
 generalize hv:(vx x.g k).Next=N at hl hin ⊢
 have key:=dO (step:=fun s:Int × Int=>jZ x (vx x.g k) s.1 s.2) N.length (fun i (q:Int)=>(q,(i:Int))) (fun i q=>q=(((N.take i).filter fun w=>decide (On x.in_ w)&&!decide (w∈([]:List Int))).length:Nat))
  (fun r=>r=((N.filter fun w=>decide (On x.in_ w)&&!decide (w∈([]:List Int))).length:Nat)) (fun i q hi hI=>?_) (fun q hI=>?_) N.length 0 0 (by omega) (by simp)
 ·obtain ⟨r,e1,e2⟩:=key
  have e1':loop (fun s:Int × Int=>jZ x (vx x.g k) s.1 s.2) (0,0)=some r:=e1
  rw [e1',aA,e2]
  rfl
 ·show ∃ q',jZ x (vx x.g k) q (i:Int)=some (.inl (q',((i+1:Nat):Int)))/\_
  have hw:=hin _ (List.getElem_mem hi)
  have hc:(((N.take i).filter fun w=>decide (On x.in_ w)&&!decide (w∈([]:List Int))).length)<=i:=Nat.le_trans (List.length_filter_le _ _) (by rw [List.length_take];omega)
  unfold jZ
  rw [hv,if_pos (bV hi),bS hi,aA,ixOn hw.1 (by rw [h.inl];exact hw.2),aA]
  unfold sE
  rw [bQ hi (by omega),bT (x:=q+1) (by omega) (by omega),List.take_succ_eq_append_getElem hi,List.filter_append,List.length_append,hI]
  by_cases hb:On x.in_ N[i]
  ·rw [if_pos (by simpa using hb)]
   exact ⟨_,rfl,by simp [hb]⟩
  ·rw [if_neg (by simpa using hb)]
   exact ⟨_,rfl,by simp [hb]⟩
 ·refine ⟨q,?_,by rw [hI,List.take_length]⟩
  show jZ x (vx x.g k) q (N.length:Int)=_
  unfold jZ
  rw [hv,if_neg (by simp)]
structure AI (x:fS) (player:Int) (set:List Bool) (ord:List Int) (pr:Int->List Int) (out:List Bool) (left:List (Int × Int)):Prop where
 ol:out.length=x.g.length
 nd:ord.Nodup
 mem:∀ v,v∈ord<->On out v
 ina:∀ v∈ord,On x.in_ v
 sub:∀ v,On set v->v∈ord
 jm:∀ v∈ord,¬ On set v->(vx x.g v).Owner=player->∃ w∈(vx x.g v).Next,w∈ord/\ord.idxOf w < ord.idxOf v
 jt:∀ v∈ord,¬ On set v->(vx x.g v).Owner≠player->∀ w∈(vx x.g v).Next,On x.in_ w->w∈ord/\ord.idxOf w < ord.idxOf v
 cl:∀ k,On x.in_ k->(vx x.g k).Owner=player->(∃ w∈(vx x.g k).Next,w∈pr k)->k∈ord
 ct:∀ k,On x.in_ k->(vx x.g k).Owner≠player->k∉ord->(mF left k=none/\∀ w∈(vx x.g k).Next,w∉pr k)\/(mF left k=some ((ex x k (pr k):Nat):Int)/\0 < ex x k (pr k))
theorem AI.len {player:Int} {set:List Bool} {ord:List Int} {pr:Int->List Int} {out:List Bool} {left:List (Int × Int)} (h:AI x player set ord pr out left) (hx:AOk x):ord.length<=x.g.length:=by
 have:=List.Nodup.length_le_of_subset (l₂:=(List.range x.g.length).map fun (i:Nat)=>(i:Int)) h.nd (fun w hw=>by
  have h1:=(h.mem w).1 hw
  have h2:=h1.lt
  have h3:=h1.1
  rw [h.ol] at h2
  rw [List.mem_map]
  exact ⟨w.toNat,List.mem_range.2 h2,by omega⟩)
 simpa using this
theorem AI.see {player:Int} {set:List Bool} {ord:List Int} {pr pr':Int->List Int} {out:List Bool} {left:List (Int × Int)} (h:AI x player set ord pr out left) (e:∀ k,On x.in_ k->∀ w∈(vx x.g k).Next,w∈pr' k<->w∈pr k):AI x player set ord pr' out left where
 ol:=h.ol
 nd:=h.nd
 mem:=h.mem
 ina:=h.ina
 sub:=h.sub
 jm:=h.jm
 jt:=h.jt
 cl:=fun k hk ho ⟨w,hw,hp⟩=>h.cl k hk ho ⟨w,hw,(e k hk w hw).1 hp⟩
 ct:=fun k hk ho hn=>by
  have hex:ex x k (pr' k)=ex x k (pr k):=by
   unfold ex
   congr 1
   refine List.filter_congr fun w hw=>?_
   rw [decide_eq_decide.2 (e k hk w hw)]
  rcases h.ct k hk ho hn with ⟨a,b⟩|⟨a,b⟩
  ·exact .inl ⟨a,fun w hw hp=>b w hw ((e k hk w hw).1 hp)⟩
  ·rw [hex];exact .inr ⟨a,b⟩
theorem aIU {l:List Int} {w k:Int} (h:w∈l):(l++[k]).idxOf w=l.idxOf w:=by rw [List.idxOf_append,if_pos h]
theorem idx_new {l:List Int} {k:Int} (h:k∉l):(l++[k]).idxOf k=l.length:=by
 rw [List.idxOf_append,if_neg h]
 simp
theorem set_on {m:List Bool} {k v:Int} (h0:0<=k) (h1:k.toNat < m.length):On (m.set k.toNat true) v<->On m v\/v=k:=by
 unfold On
 rw [List.getD_eq_getElem?_getD,List.getD_eq_getElem?_getD,List.getElem?_set]
 by_cases e:v=k
 ·subst e
  simp [h0,h1]
 ·by_cases hv:0<=v
  ·rw [if_neg (by omega)]
   simp [e]
  ·simp [hv,e]
theorem AI.add {player:Int} {set:List Bool} {ord:List Int} {pr:Int->List Int} {out:List Bool} {left left':List (Int × Int)} {k:Int} (h:AI x player set ord pr out left) (hx:AOk x) (hk:On x.in_ k) (hn:k∉ord)
  (hm:(vx x.g k).Owner=player->∃ w∈(vx x.g k).Next,w∈ord) (ht:(vx x.g k).Owner≠player->∀ w∈(vx x.g k).Next,On x.in_ w->w∈ord) (hl:∀ j,j≠k->mF left' j=mF left j) {pr':Int->List Int} (hp:∀ j,j≠k->pr' j=pr j):AI x player set (ord++[k]) pr' (out.set k.toNat true) left':=by
 have hk1:=hk.lt
 have hk0:=hk.1
 have hlk:k.toNat < out.length:=by rw [h.ol,←hx.inl];exact hk1
 have hlt:∀ w∈ord,ord.idxOf w < ord.length:=fun w hw=>List.idxOf_lt_length_iff.2 hw
 refine ⟨by rw [List.length_set];exact h.ol,?_,fun v=>?_,fun v hv=>?_,fun v hv=>List.mem_append_left _ (h.sub v hv),fun v hv hs ho=>?_,fun v hv hs ho w hw hi=>?_,fun j hj ho hw=>?_,fun j hj ho hnj=>?_⟩
 ·rw [List.nodup_append]
  exact ⟨h.nd,by simp,fun a ha b hb e=>by simp at hb;subst hb;subst e;exact hn ha⟩
 ·rw [set_on hk0 hlk,←h.mem v,List.mem_append,List.mem_singleton]
 ·rcases List.mem_append.1 hv with hv|hv
  ·exact h.ina v hv
  ·rw [List.mem_singleton] at hv;rw [hv];exact hk
 ·rcases List.mem_append.1 hv with hv|hv
  ·obtain ⟨w,h1,h2,h3⟩:=h.jm v hv hs ho
   exact ⟨w,h1,List.mem_append_left _ h2,by rw [aIU h2,aIU hv];exact h3⟩
  ·rw [List.mem_singleton] at hv
   subst hv
   obtain ⟨w,h1,h2⟩:=hm ho
   exact ⟨w,h1,List.mem_append_left _ h2,by rw [aIU h2,idx_new hn];exact hlt w h2⟩
 ·rcases List.mem_append.1 hv with hv|hv
  ·obtain ⟨h2,h3⟩:=h.jt v hv hs ho w hw hi
   exact ⟨List.mem_append_left _ h2,by rw [aIU h2,aIU hv];exact h3⟩
  ·rw [List.mem_singleton] at hv
   subst hv
   have h2:=ht ho w hw hi
   exact ⟨List.mem_append_left _ h2,by rw [aIU h2,idx_new hn];exact hlt w h2⟩
 ·by_cases e:j=k
  ·rw [e];simp
  ·rw [hp j e] at hw
   exact List.mem_append_left _ (h.cl j hj ho hw)
 ·have e:j≠k:=fun e=>hnj (by rw [e];simp)
  rw [hp j e,hl j e]
  exact h.ct j hj ho fun hj'=>hnj (List.mem_append_left _ hj')
end
end Gv
set_option linter.unusedVariables false
set_option linter.unusedSimpArgs false
namespace Gv
open Go
theorem fil_one {α:Type} [DecidableEq α] {p q:α->Bool} {e:α}:∀ {N:List α},N.Nodup->e∈N->p e=true->q e=false->(∀ w∈N,w≠e->q w=p w)->(N.filter p).length=(N.filter q).length+1
 |[],_,h,_,_,_=>by cases h
 |a::N,hn,h,h1,h2,h3=>by
  obtain ⟨n1,n2⟩:=List.nodup_cons.1 hn
  by_cases ha:a=e
  ·subst ha
   rw [List.filter_cons,if_pos h1,List.filter_cons,if_neg (by rw [h2];simp),List.length_cons]
   have:N.filter q=N.filter p:=List.filter_congr fun w hw=>h3 w (List.mem_cons_of_mem _ hw) fun e=>n1 (by rw [←e];exact hw)
   rw [this]
  ·have hN:e∈N:=(List.mem_cons.1 h).resolve_left fun e=>ha e.symm
   have ih:=fil_one n2 hN h1 h2 fun w hw=>h3 w (List.mem_cons_of_mem _ hw)
   have ea:=h3 a List.mem_cons_self ha
   rw [List.filter_cons,List.filter_cons,ea]
   by_cases hp:p a=true
   ·rw [if_pos hp,if_pos hp,List.length_cons,List.length_cons,ih]
   ·rw [if_neg hp,if_neg hp,ih]
section
variable {x:fS} {pl:Int} {set:List Bool}
theorem AI.skip {ord:List Int} {pr pr':Int->List Int} {out:List Bool} {left:List (Int × Int)} {k:Int} (h:AI x pl set ord pr out left) (hk:¬ On x.in_ k\/k∈ord) (hp:∀ j,j≠k->pr' j=pr j):AI x pl set ord pr' out left where
 ol:=h.ol
 nd:=h.nd
 mem:=h.mem
 ina:=h.ina
 sub:=h.sub
 jm:=h.jm
 jt:=h.jt
 cl:=fun j hj ho hw=>by
  by_cases e:j=k
  ·subst e;exact hk.resolve_left fun hn=>hn hj
  ·rw [hp j e] at hw;exact h.cl j hj ho hw
 ct:=fun j hj ho hn=>by
  by_cases e:j=k
  ·subst e;exact absurd (hk.resolve_left fun hn=>hn hj) hn
  ·rw [hp j e];exact h.ct j hj ho hn
theorem AI.down {ord:List Int} {pr pr':Int->List Int} {out:List Bool} {left left':List (Int × Int)} {k:Int} (h:AI x pl set ord pr out left) (ho:(vx x.g k).Owner≠pl) (hp:∀ j,j≠k->pr' j=pr j) (hl:∀ j,j≠k->mF left' j=mF left j) (h1:mF left' k=some ((ex x k (pr' k):Nat):Int)) (h2:0 < ex x k (pr' k)):AI x pl set ord pr' out left' where
 ol:=h.ol
 nd:=h.nd
 mem:=h.mem
 ina:=h.ina
 sub:=h.sub
 jm:=h.jm
 jt:=h.jt
 cl:=fun j hj hj' hw=>by
  by_cases e:j=k
  ·subst e;exact absurd hj' ho
  ·rw [hp j e] at hw;exact h.cl j hj hj' hw
 ct:=fun j hj hj' hn=>by
  by_cases e:j=k
  ·subst e;exact .inr ⟨h1,h2⟩
  ·rw [hp j e,hl j e];exact h.ct j hj hj' hn
theorem attr_row (hx:AOk x) {e:Int} {P todo:List Int} {out:List Bool} {left:List (Int × Int)} (h:AI x pl set (P++e::todo) (fun _=>P) out left):
  ∃ r:List Bool × List (Int × Int) × List Int,loop (fun s:List Bool × List (Int × Int) × List Int × Int=>iK x pl (x.back.getD e.toNat []) s.1 s.2.1 s.2.2.1 s.2.2.2) (out,left,todo,0)=some r/\AI x pl set (P++e::r.2.2) (fun _=>P++[e]) r.1 r.2.1:=by
 have heo:e∈P++e::todo:=by simp
 have hei:=h.ina e heo
 have he0:=hei.1
 have he1:e < (x.g.length:Int):=by have:=hei.lt;rw [hx.inl] at this;omega
 have hbk:=hx.bk e he0 he1
 have hbn:=hx.bnd e.toNat
 have hgl:=hx.g.len
 have heP:e∉P:=fun hP=>by
  have hn:=h.nd
  rw [List.nodup_append] at hn
  exact hn.2.2 e hP e List.mem_cons_self rfl
 generalize hB:x.back.getD e.toNat []=B at hbk hbn ⊢
 have hBl:B.length<=10000:=by
  have:=List.Nodup.length_le_of_subset (l₂:=(List.range x.g.length).map fun (i:Nat)=>(i:Int)) hbn (fun w hw=>by
   have:=(hbk w).1 hw
   rw [List.mem_map]
   exact ⟨w.toNat,List.mem_range.2 (by omega),by omega⟩)
  rw [List.length_map,List.length_range] at this
  omega
 have key:=dO (step:=fun s:List Bool × List (Int × Int) × List Int × Int=>iK x pl B s.1 s.2.1 s.2.2.1 s.2.2.2) B.length (fun i (q:List Bool × List (Int × Int) × List Int)=>(q.1,q.2.1,q.2.2,(i:Int)))
  (fun i q=>AI x pl set (P++e::q.2.2) (fun k=>if k∈B.take i then P++[e] else P) q.1 q.2.1)
  (fun r=>AI x pl set (P++e::r.2.2) (fun _=>P++[e]) r.1 r.2.1) (fun i q hi hI=>?_) (fun q hI=>?_) B.length 0 (out,left,todo) (by omega) (h.see fun k _ w _=>by simp)
 ·exact key
 ·obtain ⟨o,l,t⟩:=q
  simp only at hI ⊢
  have hk:=(hbk B[i]).1 (List.getElem_mem hi)
  have hnt:B[i]∉B.take i:=fun hm=>by
   obtain ⟨j,hj,e⟩:=List.mem_take_iff_getElem.1 hm
   exact List.pairwise_iff_getElem.1 hbn j i (by omega) hi (by omega) e
  have hpr:∀ j,j≠B[i]->(if j∈B.take (i+1) then P++[e] else P)=if j∈B.take i then P++[e] else P:=fun j hj=>by
   rw [List.take_succ_eq_append_getElem hi]
   by_cases hm:j∈B.take i
   ·rw [if_pos hm,if_pos (List.mem_append_left _ hm)]
   ·rw [if_neg hm,if_neg (by rw [List.mem_append];rintro (h|h);exact hm h;rw [List.mem_singleton] at h;exact hj h)]
  have hprk:(if B[i]∈B.take (i+1) then P++[e] else P)=P++[e]:=if_pos (by rw [List.take_succ_eq_append_getElem hi];exact List.mem_append_right _ (List.mem_singleton.2 rfl))
  show ∃ q:List Bool × List (Int × Int) × List Int,iK x pl B o l t (i:Int)=some (.inl (q.1,q.2.1,q.2.2,((i+1:Nat):Int)))/\_
  generalize hkk:B[i]=k at hk hnt hpr hprk
  obtain ⟨hk0,hk1,hek⟩:=hk
  have hol:=hI.ol
  have htl:t.length+1<=x.g.length:=by
   have:=hI.len hx
   rw [List.length_append,List.length_cons] at this
   omega
  have hj4:∀ o' l' t',jS (i:Int) o' l' t'=some (.inl (o',l',t',((i+1:Nat):Int))):=fun o' l' t'=>by
   unfold jS
   rw [bQ hi (by omega)]
  have hadd:On x.in_ k->k∉P++e::t->∀ l',(∀ j,j≠k->mF l' j=mF l j)->((vx x.g k).Owner=pl->∃ w∈(vx x.g k).Next,w∈P++e::t)->((vx x.g k).Owner≠pl->∀ w∈(vx x.g k).Next,On x.in_ w->w∈P++e::t)->
    ∃ q:List Bool × List (Int × Int) × List Int,lY o t (i:Int) k l'=some (.inl (q.1,q.2.1,q.2.2,((i+1:Nat):Int)))/\AI x pl set (P++e::q.2.2) (fun k=>if k∈B.take (i+1) then P++[e] else P) q.1 q.2.1:=by
   intro hik hko l' hl' hm ht
   refine ⟨(o.set k.toNat true,l',t++[k]),?_,?_⟩
   ·unfold lY
    rw [ixOn hk0 (by rw [hol];exact hk1),aA]
    unfold st
    rw [if_pos ⟨hk0,by omega⟩,aA,cG (by simp only [List.length_singleton];unfold iE;omega),aA,hj4]
   ·have:=hI.add hx hik hko hm ht hl' (pr':=fun k=>if k∈B.take (i+1) then P++[e] else P) hpr
    simpa using this
  unfold iK
  rw [if_pos (bV hi),bS hi,hkk,aA,ixOn hk0 (by rw [hx.inl];exact hk1),aA]
  by_cases hik:On x.in_ k
  ·rw [if_neg (by simpa using hik),ixOn hk0 (by rw [hol];exact hk1),aA]
   unfold mA
   by_cases hok:On o k
   ·rw [if_pos (by simpa using hok),hj4]
    exact ⟨(o,l,t),rfl,hI.skip (.inr ((hI.mem k).2 hok)) hpr⟩
   ·have hko:k∉P++e::t:=fun h=>hok ((hI.mem k).1 h)
    rw [if_neg (by simpa using hok),ixV hk0 hk1,aA]
    by_cases how:(vx x.g k).Owner=pl
    ·rw [if_neg (by simp [how])]
     exact hadd hik hko l (fun _ _=>rfl) (fun _=>⟨e,hek,by simp⟩) fun h=>absurd how h
    ·rw [if_pos (by simpa using how)]
     have hct:=hI.ct k hik how hko
     rw [if_neg hnt] at hct
     have hone:ex x k P=ex x k (P++[e])+1:=by
      unfold ex
      refine fil_one (hx.g.nd k) hek (by simp [hei,heP]) (by simp) fun w hw hne=>by simp [hne]
     have hex:∀ m,(∀ j,j≠k->mF m j=mF l j)->mF m k=some ((ex x k P:Nat):Int)->∃ q:List Bool × List (Int × Int) × List Int,lZ o t (i:Int) k m=some (.inl (q.1,q.2.1,q.2.2,((i+1:Nat):Int)))/\AI x pl set (P++e::q.2.2) (fun k=>if k∈B.take (i+1) then P++[e] else P) q.1 q.2.1:=by
      intro m hm hmk
      have hnl:=aGN hx.g k
      have hle:ex x k P<=x.g.length:=Nat.le_trans (List.length_filter_le _ _) hnl
      unfold lZ
      rw [aA,hmk,Option.getD_some,bT (x:=((ex x k P:Nat):Int) - 1) (by omega) (by omega),aDx,if_pos rfl,Option.getD_some]
      have hm':∀ j,j≠k->mF (wD m k (((ex x k P:Nat):Int) - 1)) j=mF l j:=fun j hj=>by rw [aDx,if_neg hj,hm j hj]
      by_cases hz:0 < ex x k (P++[e])
      ·rw [if_pos (by simp;omega),hj4]
       refine ⟨(o,_,t),rfl,hI.down how hpr hm' ?_ (by rw [hprk];exact hz)⟩
       rw [aDx,if_pos rfl,hprk]
       congr 1
       omega
      ·rw [if_neg (by simp;omega)]
       refine hadd hik hko _ hm' (fun h=>absurd h how) fun _ w hw hiw=>?_
       have h0:ex x k (P++[e])=0:=by omega
       unfold ex at h0
       have:=List.filter_eq_nil_iff.1 (List.eq_nil_of_length_eq_zero h0) w hw
       have hwp:w∈P++[e]:=by
        rw [decide_eq_true hiw,Bool.true_and,Bool.not_eq_true',decide_eq_false_iff_not] at this
        exact Classical.not_not.1 this
       rcases List.mem_append.1 hwp with h|h
       ·exact List.mem_append_left _ h
       ·rw [List.mem_singleton] at h;rw [h];simp
     rcases hct with ⟨c1,c2⟩|⟨c1,c2⟩
     ·rw [c1]
      have he0':ex x k []=ex x k P:=by
       unfold ex
       congr 1
       exact List.filter_congr fun w hw=>by simp [c2 w hw]
      rw [if_pos (by rfl),exits_eq hx hk0 hk1,aA,aA,he0']
      exact hex _ (fun j hj=>by rw [aDx,if_neg hj]) (by rw [aDx,if_pos rfl])
     ·rw [c1,if_neg (by simp)]
      exact hex _ (fun j hj=>rfl) c1
  ·rw [if_pos (by simpa using hik)]
   unfold mA
   rw [if_pos rfl,hj4]
   exact ⟨(o,l,t),rfl,hI.skip (.inl hik) hpr⟩
 ·obtain ⟨o,l,t⟩:=q
  refine ⟨(o,l,t),?_,?_⟩
  ·show iK x pl B o l t (B.length:Int)=_
   unfold iK
   rw [if_neg (by simp)]
  ·simp only at hI ⊢
   refine hI.see fun k hk w hw=>?_
   rw [List.take_length]
   by_cases hkB:k∈B
   ·rw [if_pos hkB]
   ·rw [if_neg hkB,List.mem_append,List.mem_singleton]
    constructor
    ·rintro (h|h)
     ·exact h
     ·subst h
      have hk1:=hk.lt
      rw [hx.inl] at hk1
      exact absurd ((hbk k).2 ⟨hk.1,by have:=hk.1;omega,hw⟩) hkB
    ·exact .inl
theorem aOZ (hx:AOk x):∀ (f:Nat) (P todo:List Int) (out:List Bool) (left:List (Int × Int)),x.g.length - P.length<=f->AI x pl set (P++todo) (fun _=>P) out left->
  ∃ r,loop (fun s:List Bool × List (Int × Int) × List Int=>iL x pl s.1 s.2.1 s.2.2) (out,left,todo)=some r/\∃ ord left',AI x pl set ord (fun _=>ord) r left'
 |f,P,[],out,left,hf,h=>by
  refine ⟨out,?_,P,left,by simpa using h⟩
  have hst:iL x pl out left []=some (.inr out):=by
   unfold iL
   rw [if_neg (by simp)]
  rw [cS]
  simp only [hst]
 |f,P,e::t,out,left,hf,h=>by
  have hl:=h.len hx
  rw [List.length_append,List.length_cons] at hl
  have hgl:=hx.g.len
  obtain ⟨r,e1,h1⟩:=attr_row hx h
  have hei:=h.ina e (by simp)
  have he1:e.toNat < x.g.length:=by have:=hei.lt;rwa [hx.inl] at this
  have hsl:slc (e::t) 1 ((e::t).length:Int)=some t:=by
   unfold slc
   rw [if_pos ⟨by omega,by rw [List.length_cons];omega,by omega⟩]
   simp
  have hbk:ix x.back e=some (x.back.getD e.toNat []):=by
   unfold ix
   rw [if_pos hei.1,List.getD_eq_getElem?_getD,List.getElem?_eq_getElem (by rw [hx.bl];exact he1)]
   rfl
  have hst:iL x pl out left (e::t)=some (.inl (r.1,r.2.1,r.2.2)):=by
   unfold iL
   rw [if_pos (by simp),show ix (e::t) 0=some e from rfl,aA,hsl,aA,hbk,aA,e1,aA]
   rfl
  match f,hf with
  |0,hf=>omega
  |f+1,hf=>
   obtain ⟨q,e2,h2⟩:=aOZ hx f (P++[e]) r.2.2 r.1 r.2.1 (by rw [List.length_append,List.length_singleton];omega) (by simpa using h1)
   refine ⟨q,?_,h2⟩
   rw [cS]
   simp only [hst]
   exact e2
theorem aGO (hx:AOk x) (hs:set.length=x.g.length) (hi:∀ v,On set v->On x.in_ v):∃ r,lK x pl set=some r/\r.length=x.g.length/\∃ rk σ,Att (gg x.g) (On x.in_) pl (On set) (On r) rk σ:=by
 have hgl:=hx.g.len
 have h0:AI x pl set ([]++onL set) (fun _=>[]) set []:=by
  rw [List.nil_append]
  refine ⟨hs,aLt _,fun v=>tQ,fun v hv=>hi v (tQ.1 hv),fun v hv=>tQ.2 hv,fun v hv hn=>absurd (tQ.1 hv) hn,fun v hv hn=>absurd (tQ.1 hv) hn,fun k _ _ hw=>?_,fun k _ _ _=>.inl ⟨rfl,fun w _ hw=>by cases hw⟩⟩
  obtain ⟨w,_,hw⟩:=hw
  cases hw
 obtain ⟨r,e1,ord,left,h⟩:=aOZ (pl:=pl) hx _ _ _ _ _ (Nat.le_refl _) h0
 refine ⟨r,?_,h.ol,fun v=>ord.idxOf v,?_⟩
 ·unfold lK fE
  rw [cG (by simp only [List.length_nil];unfold iE;omega),aA,aA,List.nil_append,aOX _ (by omega),aA]
  show (ob (loop (fun s:List Bool × List (Int × Int) × List Int=>iL x pl s.1 s.2.1 s.2.2) (set,[],onL set)) fun r=>yW r)=_
  rw [e1,aA]
  rfl
 ·have hc:∃ σ:Int->Int,∀ v,v∈ord->¬ On set v->(vx x.g v).Owner=pl->σ v∈(vx x.g v).Next/\σ v∈ord/\ord.idxOf (σ v) < ord.idxOf v:=by
   have:∀ v,∃ w,v∈ord->¬ On set v->(vx x.g v).Owner=pl->w∈(vx x.g v).Next/\w∈ord/\ord.idxOf w < ord.idxOf v:=fun v=>by
    by_cases hc:v∈ord/\¬ On set v/\(vx x.g v).Owner=pl
    ·obtain ⟨w,h1,h2⟩:=h.jm v hc.1 hc.2.1 hc.2.2
     exact ⟨w,fun _ _ _=>⟨h1,h2⟩⟩
    ·exact ⟨v,fun a b c=>absurd ⟨a,b,c⟩ hc⟩
   exact Classical.axiomOfChoice this
  obtain ⟨σ,hσ⟩:=hc
  refine ⟨σ,fun v hv=>(h.mem v).1 (h.sub v hv),fun v hv=>h.ina v ((h.mem v).2 hv),fun v hv hn ho=>?_,fun v hv hn ho w hE hA=>?_,fun v hv hn ho w hE ht=>?_,fun v hv hn ho hw=>?_⟩
  ·obtain ⟨a,b,c⟩:=hσ v ((h.mem v).2 hv) hn ho
   exact ⟨a,(h.mem _).1 b,c⟩
  ·obtain ⟨a,b⟩:=h.jt v ((h.mem v).2 hv) hn ho w hE hA
   exact ⟨(h.mem _).1 a,b⟩
  ·exact hn ((h.mem v).1 (h.cl v hv ho ⟨w,hE,(h.mem w).2 ht⟩))
  ·have hno:v∉ord:=fun h'=>hn ((h.mem v).1 h')
   rcases h.ct v hv ho hno with ⟨_,a⟩|⟨_,a⟩
   ·obtain ⟨w,h1,h2⟩:=hw
    exact ⟨w,h1,h2,fun ht=>a w h1 ((h.mem w).2 ht)⟩
   ·unfold ex at a
    obtain ⟨w,hw'⟩:=List.exists_mem_of_length_pos a
    rw [List.mem_filter] at hw'
    simp only [Bool.and_eq_true,decide_eq_true_eq,Bool.not_eq_true',decide_eq_false_iff_not] at hw'
    exact ⟨w,hw'.1,hw'.2.1,fun ht=>hw'.2.2 ((h.mem w).2 ht)⟩
end
end Gv
set_option linter.unusedVariables false
set_option linter.unusedSimpArgs false
namespace Gv
open Go
theorem getB {m:List Bool} {j:Nat} (h:j < m.length):m.getD j false=m[j]:=by rw [List.getD_eq_getElem?_getD,List.getElem?_eq_getElem h];rfl
theorem zN {step:List Bool × Int->Option ((List Bool × Int) ⊕ List Bool)} {n:Nat} (m0:List Bool) (hl:m0.length=n) (f:Nat->Bool)
  (h:∀ (k:Nat) (o:List Bool),k < n->o.length=n->(∀ j,k<=j->o.getD j false=m0.getD j false)->step (o,(k:Int))=some (.inl (o.set k (f k),((k+1:Nat):Int))))
  (h':∀ o:List Bool,o.length=n->step (o,(n:Int))=some (.inr o)):∃ r,loop step (m0,0)=some r/\r.length=n/\∀ v,On r v<->0<=v/\v < (n:Int)/\f v.toNat=true:=by
 have key:=dO (step:=step) n (fun i (q:List Bool)=>(q,(i:Int))) (fun i q=>q.length=n/\(∀ j,j < i->j < n->q.getD j false=f j)/\∀ j,i<=j->q.getD j false=m0.getD j false)
  (fun r=>r.length=n/\∀ j,j < n->r.getD j false=f j) (fun i q hi hI=>?_) (fun q hI=>?_) n 0 m0 (by omega) ⟨hl,fun j hj=>by omega,fun j _=>rfl⟩
 ·obtain ⟨r,e1,e2,e3⟩:=key
  refine ⟨r,e1,e2,fun v=>⟨fun hv=>?_,fun ⟨h0,h1,h2⟩=>⟨h0,by rw [e3 _ (by omega)];exact h2⟩⟩⟩
  have hlt:=hv.lt
  rw [e2] at hlt
  exact ⟨hv.1,by have:=hv.1;omega,by rw [←e3 _ hlt];exact hv.2⟩
 ·obtain ⟨a,b,c⟩:=hI
  refine ⟨q.set i (f i),h i q hi a c,by rw [List.length_set];exact a,fun j hj hjn=>?_,fun j hj=>?_⟩
  ·rw [List.getD_eq_getElem?_getD,List.getElem?_set]
   by_cases e:i=j
   ·subst e
    rw [if_pos rfl,if_pos (by omega)]
    rfl
   ·rw [if_neg e,←List.getD_eq_getElem?_getD]
    exact b j (by omega) hjn
  ·rw [List.getD_eq_getElem?_getD,List.getElem?_set,if_neg (by omega),←List.getD_eq_getElem?_getD]
   exact c j (by omega)
 ·exact ⟨q,h' q hI.1,hI.1,fun j hj=>hI.2.1 j hj hj⟩
section
variable {x:fS}
theorem aLV (h:AOk x) {v:Int} (hv:On x.in_ v):0<=v/\v < (x.g.length:Int):=by
 have:=hv.lt
 rw [h.inl] at this
 have:=hv.1
 omega
theorem ixO {m:List Bool} {k:Nat} (h:k < m.length):ix m (k:Int)=some (decide (On m (k:Int))):=ixOn (Int.natCast_nonneg k) (by omega)
theorem ixG {g:List aO} {k:Nat} (h:k < g.length):ix g (k:Int)=some (vx g (k:Int)):=ixV (Int.natCast_nonneg k) (by omega)
theorem marked_eq (h:AOk x) (p:Int):∃ r,vQ x x p=some r/\r.length=x.g.length/\∀ v,On r v<->On x.in_ v/\(vx x.g v).Priority=p:=by
 have hg:=h.g.len
 have hi:=h.inl
 have key:=zN (step:=fun s:List Bool × Int=>kS x x p s.1 s.2) (n:=x.g.length) (List.replicate x.g.length false) (by simp) (fun k=>decide (On x.in_ (k:Int))&&((vx x.g (k:Int)).Priority == p)) (fun k o hk ho _=>?_) fun o ho=>?_
 ·obtain ⟨r,e1,e2,e3⟩:=key
  refine ⟨r,?_,e2,fun v=>?_⟩
  ·unfold vQ
   rw [aBx _ (by unfold iE;omega),aA,e1,aA]
   rfl
  ·rw [e3 v]
   constructor
   ·rintro ⟨h0,h1,h2⟩
    rw [show ((v.toNat:Nat):Int)=v by omega] at h2
    simpa using h2
   ·rintro ⟨h1,h2⟩
    have:=aLV h h1
    refine ⟨this.1,this.2,?_⟩
    rw [show ((v.toNat:Nat):Int)=v by omega]
    simp [h1,h2]
 ·show kS x x p o (k:Int)=_
  unfold kS aDY qN
  rw [if_pos (by rw [hi];exact bV hk),ixO (by omega),aA,ixG hk,aA,aA,bS (by omega),aA,aA,pL _ (by omega),pL _ (by omega),aA,aA,bQ hk (by omega)]
  by_cases hb:On x.in_ (k:Int)
  ·simp [hb]
  ·simp [hb]
 ·show kS x x p o (x.g.length:Int)=_
  unfold kS
  rw [if_neg (by rw [hi];simp)]
theorem aSa (h:AOk x) {w:List Bool} (hw:w.length=x.g.length) (p:Int):∃ r,qO x w p=some r/\r.length=x.g.length/\∀ v,On r v<->On x.in_ v/\(On w v<->¬ p=1):=by
 have hg:=h.g.len
 have hi:=h.inl
 have key:=zN (step:=fun s:List Bool × Int=>iM x w p s.1 s.2) (n:=x.g.length) (List.replicate x.g.length false) (by simp) (fun k=>decide (On x.in_ (k:Int))&&(decide (On w (k:Int)) != (p == 1))) (fun k o hk ho _=>?_) fun o ho=>?_
 ·obtain ⟨r,e1,e2,e3⟩:=key
  refine ⟨r,?_,e2,fun v=>?_⟩
  ·unfold qO
   rw [aBx _ (by unfold iE;omega),aA,e1,aA]
   rfl
  ·rw [e3 v]
   have hb:∀ {P:Prop} [Decidable P],(decide P != (p == 1))=true<->(P<->¬ p=1):=fun {P} _=>by
    by_cases h1:P<;>by_cases h2:p=1<;>simp [h1,h2]
   constructor
   ·rintro ⟨h0,h1,h2⟩
    rw [show ((v.toNat:Nat):Int)=v by omega,Bool.and_eq_true,decide_eq_true_iff,hb] at h2
    exact h2
   ·rintro ⟨h1,h2⟩
    have:=aLV h h1
    refine ⟨this.1,this.2,?_⟩
    rw [show ((v.toNat:Nat):Int)=v by omega,Bool.and_eq_true,decide_eq_true_iff,hb]
    exact ⟨h1,h2⟩
 ·show iM x w p o (k:Int)=_
  unfold iM aDZ mT
  rw [if_pos (by rw [hi];exact bV hk),ixO (by omega),aA,ixO (by omega),aA,aA,bS (by omega),aA,aA,pL _ (by omega),pL _ (by omega),aA,aA,bQ hk (by omega)]
  by_cases hb:On x.in_ (k:Int)
  ·simp [hb]
  ·simp [hb]
 ·show iM x w p o (x.g.length:Int)=_
  unfold iM
  rw [if_neg (by rw [hi];simp)]
theorem aSb (h:AOk x) (p:Int):∃ r,qP x p=some r/\r.length=x.g.length/\∀ v,On r v<->On x.in_ v/\p=1:=by
 have hg:=h.g.len
 have hi:=h.inl
 have key:=zN (step:=fun s:List Bool × Int=>iN x p s.1 s.2) (n:=x.g.length) (List.replicate x.g.length false) (by simp) (fun k=>decide (On x.in_ (k:Int))&&(p == 1)) (fun k o hk ho _=>?_) fun o ho=>?_
 ·obtain ⟨r,e1,e2,e3⟩:=key
  refine ⟨r,?_,e2,fun v=>?_⟩
  ·unfold qP
   rw [aBx _ (by unfold iE;omega),aA,e1,aA]
   rfl
  ·rw [e3 v]
   constructor
   ·rintro ⟨h0,h1,h2⟩
    rw [show ((v.toNat:Nat):Int)=v by omega] at h2
    simpa using h2
   ·rintro ⟨h1,h2⟩
    have:=aLV h h1
    refine ⟨this.1,this.2,?_⟩
    rw [show ((v.toNat:Nat):Int)=v by omega]
    simp [h1,h2]
 ·show iN x p o (k:Int)=_
  unfold iN aEa mU
  rw [if_pos (by rw [hi];exact bV hk),ixO (by omega),aA,aA,bS (by omega),aA,aA,pL _ (by omega),pL _ (by omega),aA,aA,bQ hk (by omega)]
  by_cases hb:On x.in_ (k:Int)
  ·simp [hb]
  ·simp [hb]
 ·show iN x p o (x.g.length:Int)=_
  unfold iN
  rw [if_neg (by rw [hi];simp)]
theorem aSc (h:AOk x) {b w:List Bool} (hb:b.length=x.g.length) (hw:w.length=x.g.length) (p:Int):∃ r,qR x b p w=some r/\r.length=x.g.length/\∀ v,On r v<->On x.in_ v/\((On b v/\p=0)\/(¬ On b v/\On w v)):=by
 have hg:=h.g.len
 have hi:=h.inl
 have key:=zN (step:=fun s:List Bool × Int=>iO x b p w s.1 s.2) (n:=x.g.length) (List.replicate x.g.length false) (by simp) (fun k=>decide (On x.in_ (k:Int))&&(if On b (k:Int) then (p == 0) else decide (On w (k:Int)))) (fun k o hk ho _=>?_) fun o ho=>?_
 ·obtain ⟨r,e1,e2,e3⟩:=key
  refine ⟨r,?_,e2,fun v=>?_⟩
  ·unfold qR
   rw [aBx _ (by unfold iE;omega),aA,e1,aA]
   rfl
  ·rw [e3 v]
   have hbb:(if On b v then (p == 0) else decide (On w v))=true<->((On b v/\p=0)\/(¬ On b v/\On w v)):=by
    by_cases h1:On b v<;>simp [h1]
   constructor
   ·rintro ⟨h0,h1,h2⟩
    rw [show ((v.toNat:Nat):Int)=v by omega,Bool.and_eq_true,decide_eq_true_iff,hbb] at h2
    exact h2
   ·rintro ⟨h1,h2⟩
    have:=aLV h h1
    refine ⟨this.1,this.2,?_⟩
    rw [show ((v.toNat:Nat):Int)=v by omega,Bool.and_eq_true,decide_eq_true_iff,hbb]
    exact ⟨h1,h2⟩
 ·show iO x b p w o (k:Int)=_
  have hc:vR (k:Int) b p w=some (if On b (k:Int) then (p == 0) else decide (On w (k:Int))):=by
   unfold vR qQ
   rw [ixO (by omega),aA,ixO (by omega),aA]
   by_cases h1:On b (k:Int)<;>by_cases h2:p=0<;>simp [h1,h2]
  unfold iO mV
  rw [if_pos (by rw [hi];exact bV hk),ixO (by omega),aA,hc,aA,bS (by omega),aA,aA,pL _ (by omega),pL _ (by omega),aA,aA,bQ hk (by omega)]
  by_cases hb:On x.in_ (k:Int)
  ·simp [hb]
  ·simp [hb]
 ·show iO x b p w o (x.g.length:Int)=_
  unfold iO
  rw [if_neg (by rw [hi];simp)]
theorem aNJ (h:AOk x) (p:Int):∃ r,kU x x.g p=some r/\r.length=x.g.length/\∀ v,On r v<->On x.in_ v/\(vx x.g v).Owner=p/\(vx x.g v).Next=[]:=by
 have hg:=h.g.len
 have hi:=h.inl
 have key:=zN (step:=fun s:List Bool × Int=>iP x x.g p s.1 s.2) (n:=x.g.length) (List.replicate x.g.length false) (by simp) (fun k=>decide (On x.in_ (k:Int))&&(decide ((vx x.g (k:Int)).Owner=p/\(vx x.g (k:Int)).Next=[]))) (fun k o hk ho _=>?_) fun o ho=>?_
 ·obtain ⟨r,e1,e2,e3⟩:=key
  refine ⟨r,?_,e2,fun v=>?_⟩
  ·unfold kU
   rw [aBx _ (by unfold iE;omega),aA,e1,aA]
   rfl
  ·rw [e3 v]
   constructor
   ·rintro ⟨h0,h1,h2⟩
    rw [show ((v.toNat:Nat):Int)=v by omega] at h2
    simpa using h2
   ·rintro ⟨h1,h2⟩
    have:=aLV h h1
    refine ⟨this.1,this.2,?_⟩
    rw [show ((v.toNat:Nat):Int)=v by omega]
    simp [h1,h2]
 ·show iP x x.g p o (k:Int)=_
  have hc:tY (k:Int) x.g p=some (decide ((vx x.g (k:Int)).Owner=p/\(vx x.g (k:Int)).Next=[])):=by
   unfold tY tJ
   rw [ixG hk,aA]
   by_cases h1:(vx x.g (k:Int)).Owner=p
   ·rw [if_pos (by simpa using h1)]
    cases hn:(vx x.g (k:Int)).Next with
    |nil=>simp [h1]
    |cons a l=>simp;omega
   ·rw [if_neg (by simpa using h1)]
    simp [h1]
  unfold iP mW
  rw [if_pos (by rw [hi];exact bV hk),ixO (by omega),aA,hc,aA,bS (by omega),aA,aA,pL _ (by omega),pL _ (by omega),aA,aA,bQ hk (by omega)]
  by_cases hb:On x.in_ (k:Int)
  ·simp [hb]
  ·simp [hb]
 ·show iP x x.g p o (x.g.length:Int)=_
  unfold iP
  rw [if_neg (by rw [hi];simp)]
theorem aGP (h:AOk x) {b:List Bool} (hb:b.length=x.g.length):∃ r,lL x b=some r/\r.length=x.g.length/\∀ v,On r v<->On x.in_ v/\¬ On b v:=by
 have hg:=h.g.len
 have hi:=h.inl
 have key:=zN (step:=fun s:List Bool × Int=>jT b s.1 s.2) (n:=x.g.length) x.in_ hi (fun k=>decide (On x.in_ (k:Int))&&!decide (On b (k:Int))) (fun k o hk ho hm=>?_) fun o ho=>?_
 ·obtain ⟨r,e1,e2,e3⟩:=key
  refine ⟨r,?_,e2,fun v=>?_⟩
  ·unfold lL fE
   rw [cG (by simp only [List.length_nil];unfold iE;omega),aA,aA,List.nil_append,e1,aA]
   rfl
  ·rw [e3 v]
   constructor
   ·rintro ⟨h0,h1,h2⟩
    rw [show ((v.toNat:Nat):Int)=v by omega] at h2
    simpa using h2
   ·rintro ⟨h1,h2⟩
    have:=aLV h h1
    refine ⟨this.1,this.2,?_⟩
    rw [show ((v.toNat:Nat):Int)=v by omega]
    simp [h1,h2]
 ·show jT b o (k:Int)=_
  have hok:On o (k:Int)<->On x.in_ (k:Int):=by
   unfold On
   rw [show ((k:Int)).toNat=k by omega,hm k (Nat.le_refl _)]
  unfold jT pI
  rw [if_pos (by rw [hb];exact bV hk),ixO (by omega),aA,ixO (by omega),aA,pL _ (by omega),pL _ (by omega),aA,aA,bQ hk (by omega)]
  by_cases hb:On x.in_ (k:Int)
  ·simp [hb,hok.2 hb]
  ·have:¬ On o (k:Int):=fun h=>hb (hok.1 h)
   simp [hb,this]
 ·show jT b o (x.g.length:Int)=_
  unfold jT
  rw [if_neg (by rw [hb];simp)]
theorem aRb (m:List Bool) (h:m.length<=100000):iU m true=some (m.any fun b=>true == b):=by
 unfold iU
 have hi:gV m true=some (pos m true):=by
  unfold gV
  have key:=aAh (step:=fun s:Int=>iT m true s) m (fun b=>true == b) (fun k b hk hb=>?_) ?_
  ·rw [key,aA]
   unfold pos
   cases hx:m.findIdx? fun b=>true == b<;>rfl
  ·unfold iT
   rw [if_pos (bV hk),hb,aA,bQ hk (by omega)]
  ·unfold iT
   rw [if_neg (by simp)]
 rw [hi,aA,pos_any]
theorem any_on {m:List Bool}:(m.any fun b=>true == b)=true<->∃ v,On m v:=by
 rw [List.any_eq_true]
 constructor
 ·rintro ⟨b,hb,e⟩
  obtain ⟨j,hj,rfl⟩:=List.getElem_of_mem hb
  refine ⟨(j:Int),Int.natCast_nonneg j,?_⟩
  rw [show ((j:Int)).toNat=j by omega,getB hj]
  simpa using e.symm
 ·rintro ⟨v,hv⟩
  refine ⟨m[v.toNat]'hv.lt,List.getElem_mem _,?_⟩
  rw [←getB hv.lt,hv.2]
  rfl
end
end Gv
set_option linter.unusedVariables false
set_option linter.unusedSimpArgs false
namespace Gv
open Go
section
variable {x:fS} {p q:Int}
theorem aRc {G:PG Int} {A W:Int->Prop} (h:∀ v,¬ W v):∃ σ,Reg G A p W σ:=
 ⟨id,fun v hv=>absurd hv (h v),fun v hv=>absurd hv (h v),fun v hv=>absurd hv (h v),fun f hf=>absurd (hf 0) (h _)⟩
theorem Reg.of {G:PG Int} {A A' W W':Int->Prop} (hA:∀ v,A' v<->A v) (hW:∀ v,W' v<->W v) (h:∃ σ,Reg G A p W σ):∃ σ,Reg G A' p W' σ:=by
 have e1:A'=A:=funext fun v=>propext (hA v)
 have e2:W'=W:=funext fun v=>propext (hW v)
 rw [e1,e2]
 exact h
def Won (A:Int->Prop) (r:List Bool) (q:Int) (v:Int):Prop:=A v/\(On r v<->q=1)
structure WinOk (x:fS) (r:List Bool):Prop where
 len:r.length=x.g.length
 reg:∀ q,q=0\/q=1->∃ σ,Reg (gg x.g) (On x.in_) q (Won (On x.in_) r q) σ
def Live (x:fS):Prop:=∀ v,On x.in_ v->∃ w,(gg x.g).E v w/\On x.in_ w
theorem AOk.sub (h:AOk x) {m:List Bool} (hm:m.length=x.g.length):AOk ⟨x.g,x.back,m⟩:=⟨h.g,hm,h.bl,h.bk,h.bnd⟩
theorem Live.sub (h:AOk x) (hl:Live x) {S:Int->Prop} {b m:List Bool} {rk:Int->Nat} {σ:Int->Int} (ha:Att (gg x.g) (On x.in_) p S (On b) rk σ) (hm:∀ v,On m v<->On x.in_ v/\¬ On b v):Live ⟨x.g,x.back,m⟩:=by
 intro v hv
 obtain ⟨h1,h2⟩:=(hm v).1 hv
 by_cases ho:(gg x.g).own v=p
 ·obtain ⟨w,h3,h4⟩:=hl v h1
  exact ⟨w,h3,(hm w).2 ⟨h4,ha.outM v h1 h2 ho w h3⟩⟩
 ·obtain ⟨w,h3,h4,h5⟩:=ha.outT v h1 h2 ho (hl v h1)
  exact ⟨w,h3,(hm w).2 ⟨h4,h5⟩⟩
theorem aRd {m m':List Bool} (h:∀ v,On m' v->On m v) {u:Int} (hu:On m u) (hu':¬ On m' u):(onL m').length < (onL m).length:=by
 have:=List.Nodup.length_le_of_subset (l₁:=u::onL m') (l₂:=onL m) (List.nodup_cons.2 ⟨fun h=>hu' (tQ.1 h),aLt _⟩) (fun v hv=>by
  rcases List.mem_cons.1 hv with rfl|hv
  ·exact tQ.2 hu
  ·exact tQ.2 (h v (tQ.1 hv)))
 rw [List.length_cons] at this
 exact this
theorem least_eq (h:AOk x) {L:List Int} (hL:∀ v∈L,On x.in_ v) (hl:L.length<=100000) (m0:Int):
  ∃ m,loop (fun s:Int × Int=>kT x L s.1 s.2) (m0,0)=some m/\(m=m0\/∃ v∈L,(vx x.g v).Priority=m)/\m<=m0/\∀ v∈L,m<=(vx x.g v).Priority:=by
 have key:=dO (step:=fun s:Int × Int=>kT x L s.1 s.2) L.length (fun i (q:Int)=>(q,(i:Int))) (fun i q=>(q=m0\/∃ v∈L,(vx x.g v).Priority=q)/\q<=m0/\∀ v∈L.take i,q<=(vx x.g v).Priority)
  (fun m=>(m=m0\/∃ v∈L,(vx x.g v).Priority=m)/\m<=m0/\∀ v∈L,m<=(vx x.g v).Priority) (fun i q hi hI=>?_) (fun q hI=>?_) L.length 0 m0 (by omega) ⟨.inl rfl,Int.le_refl _,fun v hv=>by cases hv⟩
 ·exact key
 ·obtain ⟨a,b,c⟩:=hI
  have hv:=aLV h (hL _ (List.getElem_mem hi))
  refine ⟨mnI q (vx x.g L[i]).Priority,?_,?_⟩
  ·show kT x L q (i:Int)=_
   unfold kT
   rw [if_pos (bV hi),bS hi,aA,ixV hv.1 hv.2,aA,bQ hi (by omega)]
  ·unfold mnI
   rw [List.take_succ_eq_append_getElem hi]
   split
   ·rename_i hlt
    refine ⟨.inr ⟨_,List.getElem_mem hi,rfl⟩,by omega,fun v hv=>?_⟩
    rcases List.mem_append.1 hv with hv|hv
    ·have:=c v hv;omega
    ·rw [List.mem_singleton] at hv;rw [hv];exact Int.le_refl _
   ·rename_i hlt
    refine ⟨a,b,fun v hv=>?_⟩
    rcases List.mem_append.1 hv with hv|hv
    ·exact c v hv
    ·rw [List.mem_singleton] at hv;rw [hv];omega
 ·refine ⟨q,?_,hI.1,hI.2.1,fun v hv=>hI.2.2 v (by rw [List.take_length];exact hv)⟩
  show kT x L q (L.length:Int)=_
  unfold kT
  rw [if_neg (by simp)]
theorem win_ok:∀ (n:Nat) (x:fS),AOk x->Live x->(onL x.in_).length < n->∃ r,rC n x=some r/\WinOk x r
 |0,x,_,_,h=>by omega
 |n+1,x,hx,hlive,hn=>by
  have hg:=hx.g.len
  have hil:=hx.inl
  show ∃ r,xS (rC n) x=some r/\_
  unfold xS
  rw [aOX _ (by omega),aA]
  show ∃ r,(if ((onL x.in_).length:Int) == 0 then _ else _)=some r/\_
  by_cases h0:(onL x.in_).length=0
  ·rw [if_pos (by simp [h0]),aBx _ (by unfold iE;omega),aA]
   refine ⟨_,rfl,by simp,fun q _=>aRc fun v hv=>?_⟩
   have:=tQ.2 hv.1
   rw [List.eq_nil_of_length_eq_zero h0] at this
   cases this
  ·rw [if_neg (by simpa using h0)]
   have hu:On x.in_ ((onL x.in_)[0]'(by omega)):=tQ.1 (List.getElem_mem _)
   have hur:=aLV hx hu
   have hll:(onL x.in_).length<=10000:=by
    unfold onL
    rw [List.length_map]
    exact Nat.le_trans (List.length_filter_le _ _) (by rw [List.length_range];omega)
   show ∃ r,(ob (ix (onL x.in_) ((0:Nat):Int)) _)=some r/\_
   rw [bS (by omega),aA,ixV hur.1 hur.2,aA]
   obtain ⟨m,e1,hm1,hm2,hm3⟩:=least_eq hx (L:=onL x.in_) (fun v hv=>tQ.1 hv) (by omega) (vx x.g ((onL x.in_)[0]'(by omega))).Priority
   show ∃ r,ob (loop (fun s:Int × Int=>kT x (onL x.in_) s.1 s.2) _) _=some r/\_
   rw [e1,aA]
   have hmw:∃ v,On x.in_ v/\(vx x.g v).Priority=m:=by
    rcases hm1 with e|⟨v,hv,e⟩
    ·exact ⟨_,hu,e.symm⟩
    ·exact ⟨v,tQ.1 hv,e⟩
   have hmle:∀ v,On x.in_ v->m<=(vx x.g v).Priority:=fun v hv=>hm3 v (tQ.2 hv)
   have hm0:0<=m:=by
    obtain ⟨v,_,e⟩:=hmw
    rw [←e]
    exact (hx.g.pr v).1
   have hp:m % 2=0\/m % 2=1:=by omega
   unfold vS
   rw [show rm m 2=some (m % 2) by unfold rm;rw [if_neg (by omega),Int.tmod_eq_emod_of_nonneg hm0],aA]
   generalize hpe:m % 2=p at hp ⊢
   have hpo:1 - p=0\/1 - p=1:=by omega
   have hw1:wr (1 - p)=1 - p:=bT (by omega) (by omega)
   rw [hw1]
   obtain ⟨S,e2,hS1,hS2⟩:=marked_eq hx m
   rw [e2,aA]
   obtain ⟨At,e3,hA1,rk,σ,hA2⟩:=aGO hx (pl:=p) hS1 fun v hv=>((hS2 v).1 hv).1
   rw [e3,aA]
   obtain ⟨N1,e4,hN1,hN2⟩:=aGP hx hA1
   rw [e4,aA]
   have hx1:=hx.sub hN1
   have hl1:Live ⟨x.g,x.back,N1⟩:=hlive.sub hx hA2 hN2
   obtain ⟨v0,hv0,hv0'⟩:=hmw
   have hlt1:(onL N1).length < (onL x.in_).length:=aRd (fun v hv=>((hN2 v).1 hv).1) hv0 fun h=>((hN2 v0).1 h).2 (hA2.sub v0 ((hS2 v0).2 ⟨hv0,hv0'⟩))
   obtain ⟨R1,e5,hR1⟩:=win_ok n ⟨x.g,x.back,N1⟩ hx1 hl1 (by simp only;omega)
   rw [e5,aA]
   obtain ⟨L,e6,hL1,hL2⟩:=aSa hx1 (w:=R1) hR1.len p
   rw [e6,aA,aRb _ (by simp only at hL1;omega),aA]
   have hown:∀ v,(gg x.g).own v=0\/(gg x.g).own v=1:=hx.g.own
   simp only at hL1 hL2
   by_cases hany:∃ v,On L v
   ·rw [if_neg (by rw [any_on.2 hany];simp)]
    have hLi:∀ v,On L v->On x.in_ v:=fun v hv=>((hN2 v).1 ((hL2 v).1 hv).1).1
    obtain ⟨Bt,e7,hB1,rk',σ',hB2⟩:=aGO hx (pl:=1 - p) hL1 hLi
    rw [e7,aA]
    obtain ⟨N2,e8,hM1,hM2⟩:=aGP hx hB1
    rw [e8,aA]
    have hx2:=hx.sub hM1
    have hl2:Live ⟨x.g,x.back,N2⟩:=hlive.sub hx hB2 hM2
    obtain ⟨u,hu1⟩:=hany
    have hlt2:(onL N2).length < (onL x.in_).length:=aRd (fun v hv=>((hM2 v).1 hv).1) (hLi u hu1) fun h=>((hM2 u).1 h).2 (hB2.sub u hu1)
    obtain ⟨R2,e9,hR2⟩:=win_ok n ⟨x.g,x.back,N2⟩ hx2 hl2 (by simp only;omega)
    rw [e9,aA]
    obtain ⟨r,e10,hr1,hr2⟩:=aSc hx (b:=Bt) (w:=R2) hB1 hR2.len p
    rw [e10,aA]
    refine ⟨r,rfl,hr1,?_⟩
    have hLreg:∃ σ,Reg (gg x.g) (On N1) (1 - p) (On L) σ:=Reg.of (fun v=>Iff.rfl) (fun v=>by
     show _<->On N1 v/\(On R1 v<->1 - p=1)
     rw [hL2]
     exact and_congr_right fun _=>by rw [show (1 - p=1)<->¬ p=1 by omega]) (hR1.reg (1 - p) hpo)
    obtain ⟨τ,hτ⟩:=hLreg
    have hLA:=aPT (A:=On x.in_) hτ (fun v hv=>((hN2 v).1 hv).1) fun v hv ho w hE hA=>by
     have h1:=(hN2 v).1 (hτ.sub v hv)
     have h2:(gg x.g).own v=p:=by have:=hown v;have ho':(gg x.g).own v≠1 - p:=ho;omega
     exact (hN2 w).2 ⟨hA,hA2.outM v h1.1 h1.2 h2 w hE⟩
    have hBreg:=attReg hLA hB2
    have hside:∀ q,q=0\/q=1->q=p\/q=1 - p:=fun q hq=>by omega
    intro q hq
    rcases hside q hq with rfl|rfl
    ·
     obtain ⟨ρ,hρ⟩:=hR2.reg q hq
     have:=aPT (A:=On x.in_) hρ (fun v hv=>((hM2 v).1 hv).1) fun v hv ho w hE hA=>by
      have h1:=(hM2 v).1 (hρ.sub v hv)
      have h2:(gg x.g).own v=1 - q:=by have:=hown v;have ho':(gg x.g).own v≠q:=ho;omega
      exact (hM2 w).2 ⟨hA,hB2.outM v h1.1 h1.2 h2 w hE⟩
     refine Reg.of (fun v=>Iff.rfl) (fun v=>?_) ⟨ρ,this⟩
     show On x.in_ v/\(On r v<->q=1)<->On N2 v/\(On R2 v<->q=1)
     rw [hr2,hM2]
     by_cases hb:On Bt v
     ·simp only [hb,true_and,not_true,false_and,or_false,and_false,false_and]
      by_cases hi:On x.in_ v
      ·simp only [hi,true_and,iff_false];omega
      ·simp [hi]
     ·by_cases hi:On x.in_ v<;>simp [hb,hi]
    ·
     obtain ⟨ρ,hρ⟩:=hR2.reg (1 - p) hq
     have:=aPU hBreg hρ fun v=>hM2 v
     refine Reg.of (fun v=>Iff.rfl) (fun v=>?_) ⟨_,this⟩
     show On x.in_ v/\(On r v<->1 - p=1)<->On Bt v\/(On N2 v/\(On R2 v<->1 - p=1))
     rw [hr2,hM2]
     by_cases hb:On Bt v
     ·have hi:=hB2.inA v hb
      simp only [hb,hi,true_and,not_true,false_and,or_false,true_or,iff_true]
      omega
     ·by_cases hi:On x.in_ v<;>simp [hb,hi]
   ·rw [if_pos (by
     cases hc:L.any fun b=>true == b with
     |true=>exact absurd (any_on.1 hc) hany
     |false=>rfl)]
    obtain ⟨r,e7,hr1,hr2⟩:=aSb hx p
    rw [e7,aA]
    refine ⟨r,rfl,hr1,?_⟩
    have hall:∃ σ,Reg (gg x.g) (On N1) p (On N1) σ:=Reg.of (fun v=>Iff.rfl) (fun v=>by
     show On N1 v<->On N1 v/\(On R1 v<->p=1)
     constructor
     ·intro hv
      refine ⟨hv,?_⟩
      have:¬ On L v:=fun h=>hany ⟨v,h⟩
      rw [hL2] at this
      have h2:¬ (On R1 v<->¬ p=1):=fun h=>this ⟨hv,h⟩
      by_cases h3:On R1 v<;>by_cases h4:p=1<;>simp [h3,h4] at h2 ⊢
     ·exact fun h=>h.1) (hR1.reg p hp)
    obtain ⟨τ,hτ⟩:=hall
    obtain ⟨ρ,hρ⟩:=allReg hpe hmle hS2 hA2 hN2 hτ hlive
    have hside:∀ q,q=0\/q=1->q=p\/q=1 - p:=fun q hq=>by omega
    intro q hq
    rcases hside q hq with rfl|rfl
    ·refine Reg.of (fun v=>Iff.rfl) (fun v=>?_) ⟨ρ,hρ⟩
     show On x.in_ v/\(On r v<->q=1)<->On x.in_ v
     rw [hr2]
     by_cases hi:On x.in_ v<;>simp [hi]
    ·refine aRc fun v hv=>?_
     obtain ⟨h1,h2⟩:=hv
     rw [hr2] at h2
     simp only [h1,true_and] at h2
     omega
end
end Gv
set_option linter.unusedVariables false
set_option linter.unusedSimpArgs false
namespace Gv
open Go
section
variable {g:List aO}
def uZ (g:List aO) (v:Int):Prop:=0<=v/\v < (g.length:Int)
def bkL (g:List aO) (k w:Nat):List Int:=((List.range k).filter fun v:Nat=>decide ((w:Int)∈(vx g (v:Int)).Next)).map fun v:Nat=>(v:Int)
theorem bkL_succ (g:List aO) (k w:Nat):bkL g (k+1) w=bkL g k w++(if (w:Int)∈(vx g (k:Int)).Next then [(k:Int)] else []):=by
 unfold bkL
 rw [List.range_succ,List.filter_append,List.map_append]
 by_cases h:(w:Int)∈(vx g (k:Int)).Next<;>simp [h]
theorem bkL_len (g:List aO) (k w:Nat):(bkL g k w).length<=k:=by
 unfold bkL
 rw [List.length_map]
 exact Nat.le_trans (List.length_filter_le _ _) (Nat.le_of_eq List.length_range)
theorem back_row (hg:GOk g) {k:Nat} (hk:k < g.length) {B:List (List Int)} (hB:B.length=g.length) (hb:∀ w,w < g.length->B.getD w []=bkL g k w):
  ∃ B',loop (fun s:List (List Int) × Int=>oF (k:Int) (vx g (k:Int)) s.1 s.2) (B,0)=some B'/\B'.length=g.length/\∀ w,w < g.length->B'.getD w []=bkL g (k+1) w:=by
 have hl:(vx g (k:Int)).Next.length<=g.length:=aGN (x:=⟨g,[],[]⟩) hg (k:Int)
 have hgl:=hg.len
 have hin:=hg.nx (k:Int)
 have hnd:=hg.nd (k:Int)
 have key:=dO (step:=fun s:List (List Int) × Int=>oF (k:Int) (vx g (k:Int)) s.1 s.2) (vx g (k:Int)).Next.length (fun i (q:List (List Int))=>(q,(i:Int)))
  (fun i q=>q.length=g.length/\∀ w,w < g.length->q.getD w []=bkL g k w++(if (w:Int)∈(vx g (k:Int)).Next.take i then [(k:Int)] else []))
  (fun r=>r.length=g.length/\∀ w,w < g.length->r.getD w []=bkL g (k+1) w) (fun i q hi hI=>?_) (fun q hI=>?_) (vx g (k:Int)).Next.length 0 B (by omega) ⟨hB,fun w hw=>by rw [hb w hw];simp⟩
 ·exact key
 ·obtain ⟨a,b⟩:=hI
  have he:=hin _ (List.getElem_mem hi)
  have hnt:(vx g (k:Int)).Next[i]∉(vx g (k:Int)).Next.take i:=fun hm=>by
   obtain ⟨j,hj,e⟩:=List.mem_take_iff_getElem.1 hm
   exact List.pairwise_iff_getElem.1 hnd j i (by omega) hi (by omega) e
  show ∃ q',oF (k:Int) (vx g (k:Int)) q (i:Int)=some (.inl (q',((i+1:Nat):Int)))/\_
  unfold oF aBG
  rw [if_pos (bV hi),bS hi,aA]
  generalize hee:(vx g (k:Int)).Next[i]=e at he hnt ⊢
  have hex:ix q e=some (bkL g k e.toNat):=by
   have:=b e.toNat (by omega)
   rw [show ((e.toNat:Nat):Int)=e by omega,if_neg hnt,List.append_nil] at this
   rw [←this]
   unfold ix
   rw [if_pos he.1,List.getD_eq_getElem?_getD,List.getElem?_eq_getElem (by omega)]
   rfl
  have hbl:=bkL_len g k e.toNat
  rw [hex,aA,cG (by simp only [List.length_singleton];unfold iE;omega),aA]
  unfold st
  rw [if_pos ⟨he.1,by omega⟩,aA,bQ hi (by omega)]
  refine ⟨_,rfl,by rw [List.length_set];exact a,fun w hw=>?_⟩
  rw [List.getD_eq_getElem?_getD,List.getElem?_set,List.take_succ_eq_append_getElem hi,hee]
  by_cases hwe:e.toNat=w
  ·subst hwe
   rw [if_pos rfl,if_pos (by omega),if_pos (by rw [show ((e.toNat:Nat):Int)=e by omega];simp)]
   rfl
  ·rw [if_neg hwe,←List.getD_eq_getElem?_getD,b w hw]
   congr 1
   have:(w:Int)∉[e]:=by rw [List.mem_singleton];omega
   simp only [List.mem_append,this,or_false]
 ·refine ⟨q,?_,hI.1,fun w hw=>?_⟩
  ·show oF (k:Int) (vx g (k:Int)) q ((vx g (k:Int)).Next.length:Int)=_
   unfold oF
   rw [if_neg (by simp)]
  ·rw [hI.2 w hw,List.take_length,bkL_succ]
theorem on_true {n:Nat} {v:Int}:On (List.replicate n true) v<->0<=v/\v < (n:Int):=by
 constructor
 ·intro h
  have:=h.lt
  rw [List.length_replicate] at this
  have:=h.1
  omega
 ·intro h
  refine ⟨h.1,?_⟩
  rw [getB (by rw [List.length_replicate];omega),List.getElem_replicate]
theorem aRe (hg:GOk g) (h1:1<=g.length):∃ B,aDV g=some (B,List.replicate g.length true)/\AOk ⟨g,B,List.replicate g.length true⟩:=by
 have hgl:=hg.len
 have key:=dO (step:=fun s:List (List Int) × Int=>oG g s.1 s.2) g.length (fun i (q:List (List Int))=>(q,(i:Int)))
  (fun i q=>q.length=g.length/\∀ w,w < g.length->q.getD w []=bkL g i w)
  (fun r=>r.length=g.length/\∀ w,w < g.length->r.getD w []=bkL g g.length w) (fun i q hi hI=>?_) (fun q hI=>?_) g.length 0 (List.replicate g.length []) (by omega) ⟨by simp,fun w hw=>by
   rw [List.getD_eq_getElem?_getD,List.getElem?_replicate,if_pos hw]
   rfl⟩
 ·obtain ⟨B,e1,e2,e3⟩:=key
  refine ⟨B,?_,hg,by simp,e2,fun v h0 hv k=>?_,fun v=>?_⟩
  ·unfold aDV aBH
   rw [aBx _ (by unfold iE;omega),aA,Repeat_eq true g.length h1 (by omega),aA]
   have e1':loop (fun s:List (List Int) × Int=>oG g s.1 s.2) (List.replicate g.length [],0)=some B:=e1
   rw [e1',aA]
   rfl
  ·show k∈B.getD v.toNat []<->0<=k/\k < (g.length:Int)/\v∈(vx g k).Next
   rw [e3 _ (show v.toNat < g.length by have:v < (g.length:Int):=hv;omega)]
   unfold bkL
   rw [List.mem_map]
   rw [show ((v.toNat:Nat):Int)=v by omega]
   constructor
   ·rintro ⟨j,hj,rfl⟩
    rw [List.mem_filter,List.mem_range,decide_eq_true_iff] at hj
    exact ⟨Int.natCast_nonneg j,by omega,hj.2⟩
   ·rintro ⟨a,b,c⟩
    refine ⟨k.toNat,List.mem_filter.2 ⟨List.mem_range.2 (by omega),?_⟩,by omega⟩
    rw [show ((k.toNat:Nat):Int)=k by omega]
    simpa using c
  ·show (B.getD v []).Nodup
   by_cases hv:v < g.length
   ·rw [e3 v hv]
    unfold bkL
    have hn:((List.range g.length).filter fun j:Nat=>decide ((v:Int)∈(vx g (j:Int)).Next)).Nodup:=List.nodup_range.filter _
    exact List.pairwise_map.2 (hn.imp fun h e=>h (by omega))
   ·rw [List.getD_eq_getElem?_getD,List.getElem?_eq_none (by omega)]
    exact List.nodup_nil
 ·show ∃ q',oG g q (i:Int)=some (.inl (q',((i+1:Nat):Int)))/\_
  obtain ⟨B',e1,e2,e3⟩:=back_row hg hi hI.1 hI.2
  refine ⟨B',?_,e2,e3⟩
  unfold oG aFs aBF
  rw [if_pos (bV hi),ixG hi,aA,e1,aA,bQ hi (by omega)]
 ·refine ⟨q,?_,hI⟩
  show oG g q (g.length:Int)=_
  unfold oG
  rw [if_neg (by simp)]
theorem aAX (b:Bool):yG b=some (if b=true then 1 else 0):=by
 unfold yG
 cases b<;>rfl
theorem aNK (hg:GOk g) (h1:1<=g.length):∃ out,sG g=some out/\out.length=g.length/\∀ v,uZ g v->∃ q,(q=0\/q=1)/\out.getD v.toNat 0=q/\∃ W σ,Reg (gg g) (uZ g) q W σ/\W v:=by
 have hgl:=hg.len
 obtain ⟨B,e1,hx⟩:=aRe hg h1
 have hin:∀ v,On (List.replicate g.length true) v<->uZ g v:=fun v=>on_true
 have hown:∀ v,(gg g).own v=0\/(gg g).own v=1:=hg.own
 obtain ⟨S0,f1,g1,g2⟩:=aNJ hx 0
 obtain ⟨T0,f2,g3,rk0,σ0,g4⟩:=aGO hx (pl:=1) g1 fun v hv=>((g2 v).1 hv).1
 obtain ⟨S1,f3,g5,g6⟩:=aNJ hx 1
 obtain ⟨T1,f4,g7,rk1,σ1,g8⟩:=aGO hx (pl:=0) g5 fun v hv=>((g6 v).1 hv).1
 obtain ⟨M0,f5,g9,g10⟩:=aGP hx g3
 have hx0:=hx.sub g9
 obtain ⟨M1,f6,g11,g12⟩:=aGP hx0 g7
 have hx1:=hx.sub g11
 simp only at g1 g2 g3 g4 g5 g6 g7 g8 g9 g10 g11 g12
 have hM:∀ v,On M1 v<->uZ g v/\¬ On T0 v/\¬ On T1 v:=fun v=>by rw [g12,g10,hin,and_assoc]
 have hlive:Live ⟨g,B,M1⟩:=by
  intro v hv
  have hv:On M1 v:=hv
  obtain ⟨a,b,c⟩:=(hM v).1 hv
  have hne:(vx g v).Next≠[]:=fun hn=>by
   rcases hown v with ho|ho
   ·exact b (g4.sub v ((g2 v).2 ⟨(hin v).2 a,ho,hn⟩))
   ·exact c (g8.sub v ((g6 v).2 ⟨(hin v).2 a,ho,hn⟩))
  obtain ⟨w0,hw0⟩:=List.exists_mem_of_ne_nil _ hne
  have hw0':∃ w,(gg g).E v w/\On (List.replicate g.length true) w:=⟨w0,hw0,(hin _).2 (hg.nx v w0 hw0)⟩
  rcases hown v with ho|ho
  ·obtain ⟨w,h2,h3,h4⟩:=g4.outT v ((hin v).2 a) b (by rw [ho];decide) hw0'
   exact ⟨w,h2,(hM w).2 ⟨(hin w).1 h3,h4,g8.outM v ((hin v).2 a) c ho w h2⟩⟩
  ·obtain ⟨w,h2,h3,h4⟩:=g8.outT v ((hin v).2 a) c (by rw [ho];decide) hw0'
   exact ⟨w,h2,(hM w).2 ⟨(hin w).1 h3,g4.outM v ((hin v).2 a) b ho w h2,h4⟩⟩
 have hcnt:(onL M1).length < 100000:=by
  unfold onL
  rw [List.length_map]
  refine Nat.lt_of_le_of_lt (List.length_filter_le _ _) ?_
  rw [List.length_range]
  omega
 obtain ⟨R,f7,hR⟩:=win_ok 100000 ⟨g,B,M1⟩ hx1 hlive hcnt
 have hRl:R.length=g.length:=hR.len
 have hdead:∀ {p o:Int} {S:List Bool},p≠o->(∀ v,On S v<->On (List.replicate g.length true) v/\(vx g v).Owner=o/\(vx g v).Next=[])->Reg (gg g) (On (List.replicate g.length true)) p (On S) id:=fun {p o S} hpo hS=>
  ⟨fun v hv=>((hS v).1 hv).1,
   fun v hv ho=>absurd (ho.symm.trans ((hS v).1 hv).2.1) hpo,
   fun v hv _ w hE _=>(by
    have h2:w∈(vx g v).Next:=hE
    rw [((hS v).1 hv).2.2] at h2
    cases h2),
   fun f hf hE _=>by
    have h2:f 1∈(vx g (f 0)).Next:=hE 0
    rw [((hS _).1 (hf 0)).2.2] at h2
    cases h2⟩
 have hT0:=attReg (hdead (by decide) g2) g4
 have hT1:=attReg (hdead (by decide) g6) g8
 have hfull:∀ {q:Int} {W:Int->Prop},(∃ σ,Reg (gg g) (On (List.replicate g.length true)) q W σ)->∃ σ,Reg (gg g) (uZ g) q W σ:=fun h=>Reg.of (fun v=>(hin v).symm) (fun _=>Iff.rfl) h
 have hW:∀ q,q=0\/q=1->∃ W,(∃ σ,Reg (gg g) (On (List.replicate g.length true)) q W σ)/\∀ v,On M1 v->(On R v<->q=1)->W v:=by
  intro q hq
  obtain ⟨ρ,hρ⟩:=hR.reg q hq
  rcases hq with rfl|rfl
  ·have h5:=aPT (A:=fun v=>On (List.replicate g.length true) v/\¬ On T1 v) hρ (fun v hv=>⟨(hin v).2 ((hM v).1 hv).1,((hM v).1 hv).2.2⟩) fun v hv ho w hE hA=>by
    obtain ⟨a,b,c⟩:=(hM v).1 (hρ.sub v hv)
    have ho':(gg g).own v=1:=by have:=hown v;have:(gg g).own v≠0:=ho;omega
    exact (hM w).2 ⟨(hin w).1 hA.1,g4.outM v ((hin v).2 a) b ho' w hE,hA.2⟩
   exact ⟨_,⟨_,aPU hT1 h5 fun v=>Iff.rfl⟩,fun v h6 h7=>.inr ⟨h6,h7⟩⟩
  ·have h5:=aPT (A:=fun v=>On (List.replicate g.length true) v/\¬ On T0 v) hρ (fun v hv=>⟨(hin v).2 ((hM v).1 hv).1,((hM v).1 hv).2.1⟩) fun v hv ho w hE hA=>by
    obtain ⟨a,b,c⟩:=(hM v).1 (hρ.sub v hv)
    have ho':(gg g).own v=0:=by have:=hown v;have:(gg g).own v≠1:=ho;omega
    exact (hM w).2 ⟨(hin w).1 hA.1,hA.2,g8.outM v ((hin v).2 a) c ho' w hE⟩
   exact ⟨_,⟨_,aPU hT0 h5 fun v=>Iff.rfl⟩,fun v h6 h7=>.inr ⟨h6,h7⟩⟩
 let F:Nat->Int:=fun k=>if On T0 (k:Int) then 1 else if On T1 (k:Int) then 0 else if On R (k:Int) then 1 else 0
 have key:=dO (step:=fun s:List Int × Int=>qS g T0 T1 R s.1 s.2) g.length (fun i (q:List Int)=>(q,(i:Int))) (fun i q=>q.length=g.length/\∀ j,j < i->j < g.length->q.getD j 0=F j)
  (fun r=>r.length=g.length/\∀ j,j < g.length->r.getD j 0=F j) (fun i q hi hI=>?_) (fun q hI=>?_) g.length 0 (List.replicate g.length 0) (by omega) ⟨by simp,fun j hj=>by omega⟩
 ·obtain ⟨out,e2,e3,e4⟩:=key
  refine ⟨out,?_,e3,fun v hv=>?_⟩
  ·have e2':loop (fun s:List Int × Int=>qS g T0 T1 R s.1 s.2) (List.replicate g.length 0,0)=some out:=e2
   have f1':kU ⟨g,B,List.replicate g.length true⟩ g 0=some S0:=f1
   have f3':kU ⟨g,B,List.replicate g.length true⟩ g 1=some S1:=f3
   have f7':aHT ⟨g,B,M1⟩=some R:=f7
   unfold sG aAD
   rw [e1,aA,f1',aA,aA,f2,aA,f3',aA,aA,f4,aA,f5,aA,f6,aA,f7',aA,aBx _ (by unfold iE;omega),aA,e2',aA]
   rfl
  ·have hv2:v.toNat < g.length:=by have:=hv.1;have:=hv.2;omega
   have hvv:((v.toNat:Nat):Int)=v:=by have:=hv.1;omega
   have e5:=e4 _ hv2
   have hF:F v.toNat=if On T0 v then 1 else if On T1 v then 0 else if On R v then 1 else 0:=by
    show (if On T0 ((v.toNat:Nat):Int) then (1:Int) else if On T1 ((v.toNat:Nat):Int) then 0 else if On R ((v.toNat:Nat):Int) then 1 else 0)=_
    rw [hvv]
   rw [hF] at e5
   by_cases c0:On T0 v
   ·rw [if_pos c0] at e5
    obtain ⟨σ,h2⟩:=hfull ⟨_,hT0⟩
    exact ⟨1,.inr rfl,e5,_,σ,h2,c0⟩
   ·rw [if_neg c0] at e5
    by_cases c1:On T1 v
    ·rw [if_pos c1] at e5
     obtain ⟨σ,h2⟩:=hfull ⟨_,hT1⟩
     exact ⟨0,.inl rfl,e5,_,σ,h2,c1⟩
    ·rw [if_neg c1] at e5
     have hm:=(hM v).2 ⟨hv,c0,c1⟩
     by_cases c2:On R v
     ·rw [if_pos c2] at e5
      obtain ⟨W,h2,h3⟩:=hW 1 (.inr rfl)
      obtain ⟨σ,h4⟩:=hfull h2
      exact ⟨1,.inr rfl,e5,W,σ,h4,h3 v hm (by simp [c2])⟩
     ·rw [if_neg c2] at e5
      obtain ⟨W,h2,h3⟩:=hW 0 (.inl rfl)
      obtain ⟨σ,h4⟩:=hfull h2
      exact ⟨0,.inl rfl,e5,W,σ,h4,h3 v hm (by simp [c2])⟩
 ·refine ⟨q.set i (F i),?_,by rw [List.length_set];exact hI.1,fun j hj hjn=>?_⟩
  ·show qS g T0 T1 R q (i:Int)=some (.inl (q.set i (F i),((i+1:Nat):Int)))
   have hql:=hI.1
   unfold qS wQ
   rw [if_pos (bV hi),ixO (by omega),aA,ixO (by omega),aA,ixO (by omega),aA,aAX,aAX,aAX,aA,aA,aA,bS (by omega),aA,aA,aA,pL _ (by omega),pL _ (by omega),pL _ (by omega),aA,aA,aA,bQ hi (by omega)]
   show _=some (Sum.inl (q.set i (if On T0 (i:Int) then (1:Int) else if On T1 (i:Int) then 0 else if On R (i:Int) then 1 else 0),((i+1:Nat):Int)))
   by_cases c0:On T0 (i:Int)
   ·simp [c0]
   ·by_cases c1:On T1 (i:Int)
    ·simp [c0,c1]
    ·by_cases c2:On R (i:Int)<;>simp [c0,c1,c2]
  ·rw [List.getD_eq_getElem?_getD,List.getElem?_set]
   by_cases e:i=j
   ·subst e
    rw [if_pos rfl,if_pos (by rw [hI.1];exact hi)]
    rfl
   ·rw [if_neg e,←List.getD_eq_getElem?_getD]
    exact hI.2 j (by omega) hjn
 ·refine ⟨q,?_,hI.1,fun j hj=>hI.2 j hj hj⟩
  show qS g T0 T1 R q (g.length:Int)=_
  unfold qS
  rw [if_neg (by simp)]
end
end Gv
set_option linter.unusedVariables false
set_option linter.unusedSimpArgs false
namespace Gv
open Go
def dG (f:List aT) (k:Nat):aT:=f.getD k default
noncomputable def tR (f:List aT) (k:Nat):List Int:=(jM f (k:Int)).getD []
noncomputable def bndF (f:List aT) (k:Nat):Int:=(sD f (k:Int)).getD 0
noncomputable def aMp (f:List aT) (k:Nat):Int:=(aAc f (k:Int)).getD 0
structure FOk (f:List aT):Prop where
 len:1<=f.length/\f.length<=30
 ops:∀ k,k < f.length->jM f (k:Int)=some (tR f k)/\(tR f k).length<=2/\∀ o∈tR f k,0<=o/\o < (f.length:Int)
 one:∀ k,k < f.length->((dG f k).Kind=4\/(dG f k).Kind=5)->(tR f k).length=1
 lab:∀ k,k < f.length->(dG f k).B.length < 1000
 bnd:∀ k,k < f.length->(dG f k).Kind=6->sD f (k:Int)=some (bndF f k)/\0<=bndF f k/\bndF f k < (f.length:Int)
 nst:∀ k,k < f.length->aAc f (k:Int)=some (aMp f k)/\0<=aMp f k/\aMp f k<=30
def aMq (n:aT):Int:=if n.Kind=0\/n.Kind=2\/n.Kind=5 then 1 else 0
noncomputable def prF (f:List aT) (k:Nat):Int:=if (dG f k).Kind=7\/(dG f k).Kind=8 then 2 * aMp f k+(if (dG f k).Kind=7 then 1 else 0) else 1000
noncomputable def nxF (f:List aT) (t:cN) (k:Nat) (x:Int):List Int:=
 if (dG f k).Kind=4\/(dG f k).Kind=5 then ((t.E.filter fun e=>e.F == x).filter fun e=>aMo (dG f k) (txt t e)).map fun e=>(tR f k).getD 0 0 * t.N+e.To
 else if (dG f k).Kind=6 then [bndF f k * t.N+x] else (tR f k).map fun o=>o * t.N+x
noncomputable def aJP (f:List aT) (t:cN) (k:Nat) (x:Int):aO:=⟨aMq (dG f k),prF f k,iW (srt iLt (nxF f t k x))⟩
noncomputable def rowF (f:List aT) (t:cN) (k:Nat):List aO:=(List.range t.N.toNat).map fun x:Nat=>aJP f t k (x:Int)
noncomputable def gR (f:List aT) (t:cN) (k:Nat):List aO:=(List.range k).flatMap (rowF f t)
section
variable {f:List aT} {t:cN}
theorem aNL (f:List aT) (t:cN) (k:Nat):gR f t (k+1)=gR f t k++rowF f t k:=by
 unfold gR
 rw [List.range_succ,List.flatMap_append]
 simp
theorem aNM (f:List aT) (t:cN) (k:Nat):(rowF f t k).length=t.N.toNat:=by unfold rowF;simp
theorem yN (f:List aT) (t:cN):∀ k,(gR f t k).length=k * t.N.toNat
 |0=>by simp [gR]
 |k+1=>by rw [aNL,List.length_append,yN f t k,aNM,Nat.succ_mul]
theorem aPX (f:List aT) (t:cN):∀ (m k x:Nat),k < m->x < t.N.toNat->(gR f t m)[k * t.N.toNat+x]?=some (aJP f t k (x:Int))
 |0,k,x,h,_=>by omega
 |m+1,k,x,h,hx=>by
  rw [aNL]
  by_cases hk:k < m
  ·have hlt:k * t.N.toNat+x < (gR f t m).length:=by
    rw [yN]
    have h1:=Nat.mul_le_mul_right t.N.toNat (show k+1<=m by omega)
    rw [Nat.succ_mul] at h1
    omega
   rw [List.getElem?_append_left hlt,aPX f t m k x hk hx]
  ·obtain rfl:k=m:=by omega
   rw [List.getElem?_append_right (by rw [yN];omega),yN,show k * t.N.toNat+x - k * t.N.toNat=x by omega]
   unfold rowF
   rw [List.getElem?_map,List.getElem?_range hx]
   rfl
theorem nx_some (hf:FOk f) (ht:cM t) (hlab:∀ s∈t.L,rK s=true/\s.length < 1000) {k:Nat} (hk:k < f.length) {x:Int} (hx:0<=x/\x < t.N):∀ w∈nxF f t k x,0<=w/\w < ((f.length * t.N.toNat:Nat):Int):=by
 intro w hw
 have hS:=ht.1
 have key:∀ o y:Int,0<=o->o < (f.length:Int)->0<=y->y < t.N->0<=o * t.N+y/\o * t.N+y < ((f.length * t.N.toNat:Nat):Int):=fun o y h1 h2 h3 h4=>by
  have a1:0<=o * t.N:=Int.mul_nonneg h1 (by omega)
  have a2:(o+1) * t.N<=(f.length:Int) * t.N:=Int.mul_le_mul_of_nonneg_right (by omega) (by omega)
  rw [Int.add_mul,Int.one_mul] at a2
  rw [Int.natCast_mul,show ((t.N.toNat:Nat):Int)=t.N by omega]
  omega
 unfold nxF at hw
 split at hw
 ·rename_i hm
  obtain ⟨e,he,rfl⟩:=List.mem_map.1 hw
  have he1:=(List.mem_filter.1 (List.mem_filter.1 he).1).1
  have h1:=aLr ht he1
  have ho:=hf.one k hk hm
  have h2:=(hf.ops k hk).2.2 ((tR f k).getD 0 0) (by rw [List.getD_eq_getElem?_getD,List.getElem?_eq_getElem (by omega)];exact List.getElem_mem _)
  exact key _ _ h2.1 h2.2 h1.2.1.1 h1.2.1.2
 ·split at hw
  ·rename_i h6
   rw [List.mem_singleton] at hw
   subst hw
   have:=hf.bnd k hk h6
   exact key _ _ this.2.1 this.2.2 hx.1 hx.2
  ·obtain ⟨o,ho,rfl⟩:=List.mem_map.1 hw
   have:=(hf.ops k hk).2.2 o ho
   exact key _ _ this.1 this.2 hx.1 hx.2
theorem prF_in (hf:FOk f) {k:Nat} (hk:k < f.length):0<=prF f k/\prF f k<=1000:=by
 have:=(hf.nst k hk).2
 unfold prF
 split
 ·split<;>omega
 ·omega
theorem aLu (hf:FOk f) (ht:cM t) (hS:t.N<=40) (hlab:∀ s∈t.L,rK s=true/\s.length < 1000):GOk (gR f t f.length)/\1<=(gR f t f.length).length:=by
 have h1:=ht.1
 have hl:=hf.len
 have hlen:=yN f t f.length
 have hm:f.length * t.N.toNat<=30 * 40:=Nat.mul_le_mul hl.2 (by omega)
 have hm1:1 * 1<=f.length * t.N.toNat:=Nat.mul_le_mul hl.1 (by omega)
 have hdef:∀ v:Int,vx (gR f t f.length) v=default\/∃ k x,k < f.length/\x < t.N.toNat/\vx (gR f t f.length) v=aJP f t k ((x:Nat):Int):=by
  intro v
  unfold vx
  rw [List.getD_eq_getElem?_getD]
  by_cases hv:v.toNat < f.length * t.N.toNat
  ·refine .inr ⟨v.toNat / t.N.toNat,v.toNat % t.N.toNat,(Nat.div_lt_iff_lt_mul (by omega)).2 hv,Nat.mod_lt _ (by omega),?_⟩
   have e:=aPX f t f.length (v.toNat / t.N.toNat) (v.toNat % t.N.toNat) ((Nat.div_lt_iff_lt_mul (by omega)).2 hv) (Nat.mod_lt _ (by omega))
   rw [Nat.mul_comm,Nat.div_add_mod] at e
   rw [e]
   rfl
  ·exact .inl (by rw [List.getElem?_eq_none (by rw [hlen];omega)];rfl)
 refine ⟨⟨by omega,fun v=>?_,fun v=>?_,fun v=>?_,fun v=>?_⟩,by omega⟩
 ·rcases hdef v with e|⟨k,x,_,_,e⟩<;>rw [e]
  ·exact .inl rfl
  ·show aMq _=0\/aMq _=1
   unfold aMq
   split<;>simp
 ·rcases hdef v with e|⟨k,x,hk,_,e⟩<;>rw [e]
  ·exact ⟨Int.le_refl _,by decide⟩
  ·show 0<=prF f k/\prF f k<=1000000
   have:=prF_in hf hk
   omega
 ·rcases hdef v with e|⟨k,x,hk,hx,e⟩<;>rw [e]
  ·intro w hw;cases hw
  ·intro w hw
   have hw:w∈iW (srt iLt (nxF f t k (x:Int))):=hw
   rw [aIS.2] at hw
   rw [hlen]
   exact nx_some hf ht hlab hk (by omega) w hw
 ·rcases hdef v with e|⟨k,x,hk,_,e⟩<;>rw [e]
  ·exact List.nodup_nil
  ·exact (aIS (xs:=nxF f t k (x:Int))).1.imp fun h=>by omega
end
end Gv
set_option linter.unusedVariables false
set_option linter.unusedSimpArgs false
namespace Gv
open Go
section
variable {f:List aT} {t:cN}
theorem rJ (n:aT):kQ n=some (decide (n.Kind=7\/n.Kind=8)):=by
 unfold kQ uY
 by_cases h:n.Kind=7
 ·simp [h]
 ·by_cases h':n.Kind=8<;>simp [h,h']
theorem yB (n:aT):kO n=some (decide (n.Kind=4\/n.Kind=5)):=by
 unfold kO qJ
 by_cases h:n.Kind=4
 ·simp [h]
 ·by_cases h':n.Kind=5<;>simp [h,h']
theorem sset_eq (l:List Int) (h:l.length < 100000):aAd l=some (iW (srt iLt l)):=by
 unfold aAd bL
 rw [cG (by simp only [List.length_nil];unfold iE;omega),aA,aA,List.nil_append,aKK (by omega),aA,aQR _ (by unfold srt;rw [List.length_mergeSort];omega),aA]
theorem gc1 {o y p0 p1:Int} {L:List Int} (ho:0<=o/\o < 1000) (hy:0<=y/\y < 1000) (hS:0<=t.N/\t.N<=1000) (hl:L.length<=10000):oQ o y p0 p1 L t=some (L++[o * t.N+y]):=by
 have h1:0<=o * t.N:=Int.mul_nonneg ho.1 hS.1
 have h2:o * t.N<=1000 * 1000:=Int.mul_le_mul (by omega) hS.2 hS.1 (by omega)
 unfold oQ
 rw [bT (x:=o * t.N) (by omega) (by omega),bT (by omega) (by omega),cG (by simp only [List.length_singleton];unfold iE;omega),aA]
theorem ix_mem {α:Type} {xs:List α} {k:Nat} {x:α} (h:ix xs (k:Int)=some x):x∈xs:=by
 rw [aFf] at h
 exact List.mem_of_getElem? h
theorem aNN (hf:FOk f) {k x:Nat} (hk:k < f.length) (hx:x < 10000) {out:List aO} (hout:out.length<=100000) {o:Int} (ho:o=aMq (dG f k)) {N:List Int} (hN:N=nxF f t k (x:Int)) (hl:N.length<=10000):
  jB f (k:Int) (dG f k) out (x:Int) o N=some (.inl (out++[aJP f t k (x:Int)],((x+1:Nat):Int))):=by
 have hns:=hf.nst k hk
 have hj5:∀ p:Int,p=prF f k->lD out (x:Int) o N p=some (.inl (out++[aJP f t k (x:Int)],((x+1:Nat):Int))):=fun p hp=>by
  unfold lD rQ
  rw [sset_eq _ (by omega),aA,cG (by simp only [List.length_singleton];unfold iE;omega),aA,bQ (n:=10000) hx (by omega)]
  unfold aJP
  rw [hp,ho,hN]
 unfold jB
 rw [rJ,aA]
 by_cases h:(dG f k).Kind=7\/(dG f k).Kind=8
 ·rw [if_pos (by simpa using h),hns.1,aA,aAX,aA,bT (x:=2 * aMp f k) (by omega) (by omega)]
  refine hj5 _ ?_
  unfold prF
  rw [if_pos h]
  by_cases h7:(dG f k).Kind=7
  ·simp only [h7,beq_self_eq_true,if_true]
   rw [bT (by omega) (by omega)]
  ·rw [if_neg h7,if_neg (by simpa using h7),bT (by omega) (by omega)]
 ·rw [if_neg (by simpa using h)]
  refine hj5 _ ?_
  unfold prF
  rw [if_neg h]
theorem game_step (hf:FOk f) (ht:cM t) (hS:t.N<=40) (hlab:∀ s∈t.L,rK s=true/\s.length < 1000) {k x:Nat} (hk:k < f.length) (hx:x < t.N.toNat) {out:List aO} (hout:out.length<=100000):
  fC f t (k:Int) (dG f k) (tR f k) out (x:Int)=some (.inl (out++[aJP f t k (x:Int)],((x+1:Nat):Int))):=by
 have h300:=ht.2.2.2.1
 have hlen:=hf.len
 have hop:=hf.ops k hk
 have hb:=hf.bnd k hk
 have hj13:∀ o,o=aMq (dG f k)->iH f t (k:Int) (dG f k) (tR f k) out (x:Int) o=some (.inl (out++[aJP f t k (x:Int)],((x+1:Nat):Int))):=by
  intro o ho
  have hj12:¬ ((dG f k).Kind=4\/(dG f k).Kind=5)->jY f t (k:Int) (dG f k) (tR f k) out (x:Int) o=some (.inl (out++[aJP f t k (x:Int)],((x+1:Nat):Int))):=by
   intro hm
   unfold jY
   by_cases h6:(dG f k).Kind=6
   ·have hb:=hb h6
    rw [if_pos (by simpa using h6),hb.1,aA,gc1 ⟨hb.2.1,by omega⟩ ⟨by omega,by omega⟩ (by omega) (by simp),aA]
    refine aNN hf hk (by omega) hout ho ?_ (by simp)
    unfold nxF
    rw [if_neg hm,if_pos h6]
    rfl
   ·rw [if_neg (by simpa using h6)]
    have key:=aDw (step:=fun s:List Int × Int=>iG t (tR f k) (x:Int) o s.1 s.2) (tR f k) (fun o=>o * t.N+(x:Int)) (fun r=>r) (fun j q a hj hq ha=>by
     show iG t (tR f k) (x:Int) o q (j:Int)=_
     have:=hop.2.2 a (ix_mem ha)
     unfold iG
     rw [if_pos (bV hj),ha,aA,gc1 ⟨this.1,by omega⟩ ⟨by omega,by omega⟩ (by omega) (by omega),aA,bQ hj (by omega)]) (fun q=>by
     show iG t (tR f k) (x:Int) o q ((tR f k).length:Int)=_
     unfold iG
     rw [if_neg (by simp)])
    rw [key,aA]
    unfold vO
    refine aNN hf hk (by omega) hout ho ?_ (by rw [List.length_map];omega)
    unfold nxF
    rw [if_neg hm,if_neg h6]
  unfold iH
  rw [yB,aA]
  by_cases hm:(dG f k).Kind=4\/(dG f k).Kind=5
  ·have h1:=hf.one k hk hm
   have ho0:ix (tR f k) 0=some ((tR f k).getD 0 0):=by
    show ix (tR f k) ((0:Nat):Int)=_
    rw [bS (by omega),List.getD_eq_getElem?_getD,List.getElem?_eq_getElem (by omega)]
    rfl
   have hor:=hop.2.2 ((tR f k).getD 0 0) (by rw [List.getD_eq_getElem?_getD,List.getElem?_eq_getElem (by omega)];exact List.getElem_mem _)
   rw [if_pos (by simpa using hm),out_eq _ _ (by omega),aA]
   have hfl:(t.E.filter fun e=>e.F == (x:Int)).length<=300:=Nat.le_trans (List.length_filter_le _ _) h300
   have key:=aIv (step:=fun s:List Int × Int=>jC t (dG f k) (tR f k) o (t.E.filter fun e=>e.F == (x:Int)) s.1 s.2) (t.E.filter fun e=>e.F == (x:Int)) (fun e=>aMo (dG f k) (txt t e)) (fun e=>(tR f k).getD 0 0 * t.N+e.To) (fun r=>r) (fun j q e hj hq he=>by
    show jC t (dG f k) (tR f k) o _ q (j:Int)=_
    have he1:=(List.mem_filter.1 (ix_mem he)).1
    have hbd:=aLr ht he1
    have hl:=hlab _ (txt_in ht he1)
    have hnl:=hf.lab k hk
    unfold jC nW
    rw [if_pos (bV hj),he,aA,aQL (aIO ht he1),aA,aJO (by omega) (by omega) hl.1,aA,ho0,aA,gc1 ⟨hor.1,by omega⟩ ⟨by omega,by omega⟩ (by omega) (by omega),aA,bQ hj (by omega)]
    cases aMo (dG f k) (txt t e)<;>simp) (fun q=>by
    show jC t (dG f k) (tR f k) o _ q _=_
    unfold jC
    rw [if_neg (by simp)])
   rw [key,aA]
   unfold xA
   refine aNN hf hk (by omega) hout ho ?_ (by rw [List.length_map];exact Nat.le_trans (List.length_filter_le _ _) (by omega))
   unfold nxF
   rw [if_pos hm]
  ·rw [if_neg (by simpa using hm)]
   split<;>exact hj12 hm
 unfold fC
 rw [if_pos (by simp;omega)]
 by_cases h0:(dG f k).Kind=0
 ·rw [if_pos (by simpa using h0),aAX,aA]
  exact hj13 _ (by rw [if_pos rfl];unfold aMq;rw [if_pos (Or.inl h0)])
 ·rw [if_neg (by simpa using h0)]
  by_cases h2:(dG f k).Kind=2
  ·rw [if_pos (by simpa using h2),aAX,aA]
   exact hj13 _ (by rw [if_pos rfl];unfold aMq;rw [if_pos (Or.inr (Or.inl h2))])
  ·rw [if_neg (by simpa using h2),aAX,aA]
   refine hj13 _ ?_
   unfold aMq
   by_cases h5:(dG f k).Kind=5
   ·rw [if_pos (by simpa using h5),if_pos (.inr (.inr h5))]
   ·rw [if_neg (by simpa using h5),if_neg (by rintro (h|h|h);exact h0 h;exact h2 h;exact h5 h)]
theorem game_eq (hf:FOk f) (ht:cM t) (hS:t.N<=40) (hlab:∀ s∈t.L,rK s=true/\s.length < 1000):oS f t=some (gR f t f.length):=by
 have hS1:=ht.1
 have hlen:=hf.len
 have hgl:∀ k,k<=f.length->(gR f t k).length<=1200:=fun k hk=>by
  rw [yN]
  exact Nat.le_trans (Nat.mul_le_mul (show k<=30 by omega) (show t.N.toNat<=40 by omega)) (Nat.le_refl _)
 have key:=dO (step:=fun s:List aO × Int=>fT f t s.1 s.2) f.length (fun i (q:List aO)=>(q,(i:Int))) (fun i q=>q=gR f t i) (fun r=>r=gR f t f.length) (fun k q hk hI=>?_) (fun q hI=>?_) f.length 0 [] (by omega) rfl
 ·obtain ⟨r,e1,e2⟩:=key
  have e1':loop (fun s:List aO × Int=>fT f t s.1 s.2) ([],0)=some r:=e1
  unfold oS
  rw [e1',aA,e2]
  rfl
 ·subst hI
  refine ⟨gR f t (k+1),?_,rfl⟩
  show fT f t (gR f t k) (k:Int)=_
  have hg:=hgl k (by omega)
  have hnd:f[k]=dG f k:=by unfold dG;rw [List.getD_eq_getElem?_getD,List.getElem?_eq_getElem hk];rfl
  have inner:=dO (step:=fun s:List aO × Int=>fC f t (k:Int) (dG f k) (tR f k) s.1 s.2) t.N.toNat (fun i (q:List aO)=>(q,(i:Int))) (fun i q=>q=gR f t k++(rowF f t k).take i) (fun r=>r=gR f t (k+1)) (fun x q hx hI=>?_) (fun q hI=>?_) t.N.toNat 0 (gR f t k) (by omega) (by simp)
  ·obtain ⟨r,e1,e2⟩:=inner
   have e1':loop (fun s:List aO × Int=>fC f t (k:Int) (dG f k) (tR f k) s.1 s.2) (gR f t k,0)=some r:=e1
   unfold fT rP rO
   rw [if_pos (bV hk),bS hk,aA,hnd,(hf.ops k hk).1,aA,e1',aA,e2,bQ hk (by omega)]
  ·subst hI
   refine ⟨gR f t k++(rowF f t k).take (x+1),?_,rfl⟩
   show fC f t (k:Int) (dG f k) (tR f k) (gR f t k++(rowF f t k).take x) (x:Int)=_
   have hr:=aNM f t k
   rw [game_step hf ht hS hlab hk hx (by rw [List.length_append,List.length_take];omega),List.take_succ_eq_append_getElem (by omega),List.append_assoc]
   unfold rowF
   rw [List.getElem_map,List.getElem_range]
  ·refine ⟨q,?_,?_⟩
   ·show fC f t (k:Int) (dG f k) (tR f k) q ((t.N.toNat:Nat):Int)=_
    unfold fC
    rw [if_neg (by simp;omega)]
   ·rw [hI,aNL,List.take_of_length_le (by rw [aNM];exact Nat.le_refl _)]
 ·refine ⟨q,?_,hI⟩
  show fT f t q (f.length:Int)=_
  unfold fT
  rw [if_neg (by simp)]
end
end Gv
set_option linter.unusedVariables false
set_option linter.unusedSimpArgs false
namespace Gv
open Go
theorem fY {σ ρ:Type} {step:σ->Option (σ ⊕ ρ)} {s s':σ} (h:step s=some (.inl s')):loop step s=loop step s':=by rw [cS,h]
theorem fP {σ ρ:Type} {step:σ->Option (σ ⊕ ρ)} {s:σ} {r:ρ} (h:step s=some (.inr r)):loop step s=some r:=by rw [cS,h]
def Pats:List aJ:=[[],[97],[98],[116,97,117],[103,101,116,42],[103,101,116,40,48,41],[99]]
def PatOk (l:aJ):Prop:=sT l=some true/\l.length < 1000
inductive Tm:List Int->List aT->Prop
 |leaf {b:List Int} {k:Int}:k=0\/k=1->Tm b [⟨k,0,[],false⟩]
 |var {b:List Int} {v:Int}:v∈b->0<=v/\v<=2->Tm b [⟨6,v,[],false⟩]
 |bin {b:List Int} {k:Int} {L M:List aT}:k=2\/k=3->Tm b L->Tm b M->Tm b (⟨k,0,[],false⟩::(L++M))
 |mod {b:List Int} {k:Int} {l:aJ} {n:Bool} {L:List aT}:k=4\/k=5->PatOk l->Tm b L->Tm b (⟨k,0,l,n⟩::L)
 |fix {b:List Int} {k v:Int} {L:List aT}:k=7\/k=8->0<=v/\v<=2->Tm (b++[v]) L->Tm b (⟨k,v,[],false⟩::L)
theorem Tm.pos {b:List Int} {L:List aT} (h:Tm b L):1<=L.length:=by
 cases h<;>simp
def arN (n:aT):Nat:=if n.Kind=2\/n.Kind=3 then 2 else if n.Kind=4\/n.Kind=5\/n.Kind=7\/n.Kind=8 then 1 else 0
theorem aAi (n:aT):nL n=some ((arN n:Nat):Int):=by
 unfold nL pE lW arN
 by_cases h2:n.Kind=2
 ·simp [h2]
 ·by_cases h3:n.Kind=3
  ·simp [h2,h3]
  ·by_cases h4:n.Kind=4
   ·simp [h2,h3,h4]
   ·by_cases h5:n.Kind=5
    ·simp [h2,h3,h4,h5]
    ·by_cases h7:n.Kind=7
     ·simp [h2,h3,h4,h5,h7]
     ·by_cases h8:n.Kind=8
      ·simp [h2,h3,h4,h5,h7,h8]
      ·simp [h2,h3,h4,h5,h7,h8]
section
variable {f:List aT}
theorem eA {o:Nat} {n:aT} {l:List aT} (h:f.drop o=n::l):o < f.length/\dG f o=n/\f.drop (o+1)=l:=by
 have hl:o < f.length:=by
  by_cases hl:o < f.length
  ·exact hl
  ·rw [List.drop_eq_nil_of_le (by omega)] at h;cases h
 rw [List.drop_eq_getElem_cons hl] at h
 obtain ⟨h1,h2⟩:=List.cons.inj h
 refine ⟨hl,?_,h2⟩
 unfold dG
 rw [List.getD_eq_getElem?_getD,List.getElem?_eq_getElem hl]
 exact h1
theorem kH {k:Nat} (h:k < f.length):ix f (k:Int)=some (dG f k):=by
 rw [bS h]
 unfold dG
 rw [List.getD_eq_getElem?_getD,List.getElem?_eq_getElem h]
 rfl
theorem aPY {σ ρ:Type} {step:σ->Option (σ ⊕ ρ)} (g:Nat->Nat->σ)
  (hs:∀ k need,k < f.length->1<=need->need<=1000->step (g k need)=some (.inl (g (k+1) (need+arN (dG f k) - 1)))) {b:List Int} {L:List aT} (h:Tm b L):
  ∀ (o:Nat) (post:List aT) (need:Nat),f.drop o=L++post->1<=need->need+L.length<=1000->loop step (g o need)=loop step (g (o+L.length) (need - 1)):=by
 induction h with
 |@leaf b k hk=>
  intro o post need hd h1 h2
  obtain ⟨a,c,d⟩:=eA hd
  rw [fY (hs o need a h1 (by simp only [List.length_singleton] at h2;omega)),c]
  have:arN ⟨k,0,[],false⟩=0:=by unfold arN;rw [if_neg (by simp only;omega),if_neg (by simp only;omega)]
  rw [this]
  rfl
 |@var b v hv hr=>
  intro o post need hd h1 h2
  obtain ⟨a,c,d⟩:=eA hd
  rw [fY (hs o need a h1 (by simp only [List.length_singleton] at h2;omega)),c]
  rfl
 |@bin b k L M hk hL hM ihL ihM=>
  intro o post need hd h1 h2
  rw [List.length_cons,List.length_append] at h2
  obtain ⟨a,c,d⟩:=eA hd
  rw [fY (hs o need a h1 (by omega)),c]
  have:arN ⟨k,0,[],false⟩=2:=by unfold arN;rw [if_pos hk]
  rw [this,ihL (o+1) (M++post) _ (d.trans (List.append_assoc L M post)) (by omega) (by omega),ihM (o+1+L.length) post _ (by rw [←List.drop_drop,d.trans (List.append_assoc L M post),List.drop_left]) (by omega) (by omega),List.length_cons,List.length_append]
  congr 2<;>omega
 |@mod b k l n L hk hl hL ih=>
  intro o post need hd h1 h2
  rw [List.length_cons] at h2
  obtain ⟨a,c,d⟩:=eA hd
  rw [fY (hs o need a h1 (by omega)),c]
  have:arN ⟨k,0,l,n⟩=1:=by unfold arN;rw [if_neg (by simp only;omega),if_pos (by simp only;omega)]
  rw [this,ih (o+1) post _ d (by omega) (by omega),List.length_cons]
  congr 2;omega
 |@fix b k v L hk hv hL ih=>
  intro o post need hd h1 h2
  rw [List.length_cons] at h2
  obtain ⟨a,c,d⟩:=eA hd
  rw [fY (hs o need a h1 (by omega)),c]
  have:arN ⟨k,v,[],false⟩=1:=by unfold arN;rw [if_neg (by simp only;omega),if_pos (by simp only;omega)]
  rw [this,ih (o+1) post _ d (by omega) (by omega),List.length_cons]
  congr 2;omega
def At (f:List aT) (o:Nat) (b:List Int) (L:List aT):Prop:=Tm b L/\∃ post,f.drop o=L++post
theorem At.len {o:Nat} {b:List Int} {L:List aT} (h:At f o b L):o+L.length<=f.length:=by
 obtain ⟨h1,post,h2⟩:=h
 have:=congrArg List.length h2
 rw [List.length_drop,List.length_append] at this
 have:=h1.pos
 omega
theorem aLv (hf:f.length<=100) {o:Nat} {b:List Int} {L:List aT} (h:At f o b L):mH f (o:Int)=some ((o+L.length:Nat):Int):=by
 have hl:=h.len
 obtain ⟨h1,post,h2⟩:=h
 have key:=aPY (f:=f) (step:=fun s:Int × Int=>nN f s.1 s.2) (fun k need=>((k:Int),(need:Int))) (fun k need hk h1 h3=>by
  show nN f (k:Int) (need:Int)=_
  have ha:arN (dG f k)<=2:=by unfold arN;split;omega;split<;>omega
  unfold nN
  rw [if_pos (by simp;omega),kH hk,aA,aAi,aA,bQ hk (by omega),bT (x:=((arN (dG f k):Nat):Int) - 1) (by omega) (by omega),bT (by omega) (by omega)]
  congr 3
  omega) h1 o post 1 h2 (by omega) (by omega)
 unfold mH
 show (ob (loop (fun s:Int × Int=>nN f s.1 s.2) ((o:Int),((1:Nat):Int))) fun r=>aCq r)=_
 rw [key,fP (r:=((o+L.length:Nat):Int)) (by
  show nN f _ ((1 - 1:Nat):Int)=_
  unfold nN
  rw [if_neg (by simp)]),aA]
 rfl
theorem shape_eq {b:List Int} (hf:f.length<=100) (h:Tm b f):aFO f=some true:=by
 have key:=aPY (f:=f) (step:=fun s:Int × Int=>tC f s.1 s.2) (fun k need=>((need:Int),(k:Int))) (fun k need hk h1 h3=>by
  show tC f (need:Int) (k:Int)=_
  have ha:arN (dG f k)<=2:=by unfold arN;split;omega;split<;>omega
  unfold tC
  rw [if_pos (bV hk),kH hk,aA,if_neg (by simp;omega),aAi,aA,bQ hk (by omega),bT (x:=((arN (dG f k):Nat):Int) - 1) (by omega) (by omega),bT (by omega) (by omega)]
  congr 3
  omega) h 0 [] 1 (by simp) (by omega) (by omega)
 unfold aFO
 show (ob (loop (fun s:Int × Int=>tC f s.1 s.2) (((1:Nat):Int),((0:Nat):Int))) _)=_
 rw [key,fP (r:=.inl 0) (by
  show tC f ((1 - 1:Nat):Int) ((0+f.length:Nat):Int)=_
  unfold tC
  rw [if_neg (by simp)]
  rfl),aA]
 rfl
def Cov (f:List aT) (b:List Int) (s e:Nat):Prop:=∀ v∈b,∃ i,i < s/\((dG f i).Kind=7\/(dG f i).Kind=8)/\(dG f i).Variable=v/\∃ c M,At f i c M/\e<=i+M.length
theorem Cov.mono {b:List Int} {s e s' e':Nat} (h:Cov f b s e) (hs:s<=s') (he:e'<=e):Cov f b s' e':=fun v hv=>by
 obtain ⟨i,h1,h2,h3,c,M,h4,h5⟩:=h v hv
 exact ⟨i,by omega,h2,h3,c,M,h4,by omega⟩
theorem parts2 {b:List Int} {L:List aT} (h:Tm b L):∀ (o:Nat) (post:List aT),f.drop o=L++post->∀ k,o<=k->k < o+L.length->∃ c M,At f k c M/\k+M.length<=o+L.length:=by
 induction h with
 |@leaf b k hk=>
  intro o post hd j h1 h2
  rw [List.length_singleton] at h2
  obtain rfl:j=o:=by omega
  exact ⟨b,_,⟨.leaf hk,post,hd⟩,Nat.le_refl _⟩
 |@var b v hv hr=>
  intro o post hd j h1 h2
  rw [List.length_singleton] at h2
  obtain rfl:j=o:=by omega
  exact ⟨b,_,⟨.var hv hr,post,hd⟩,Nat.le_refl _⟩
 |@bin b k L M hk hL hM ihL ihM=>
  intro o post hd j h1 h2
  obtain ⟨a,c,d⟩:=eA hd
  by_cases e:j=o
  ·subst e
   exact ⟨b,_,⟨.bin hk hL hM,post,hd⟩,Nat.le_refl _⟩
  ·rw [List.length_cons,List.length_append] at h2 ⊢
   by_cases e2:j < o+1+L.length
   ·obtain ⟨c',M',g1,g2⟩:=ihL (o+1) (M++post) (d.trans (List.append_assoc L M post)) j (by omega) e2
    exact ⟨c',M',g1,by omega⟩
   ·obtain ⟨c',M',g1,g2⟩:=ihM (o+1+L.length) post (by rw [←List.drop_drop,d.trans (List.append_assoc L M post),List.drop_left]) j (by omega) (by omega)
    exact ⟨c',M',g1,by omega⟩
 |@mod b k l n L hk hl hL ih=>
  intro o post hd j h1 h2
  obtain ⟨a,c,d⟩:=eA hd
  by_cases e:j=o
  ·subst e
   exact ⟨b,_,⟨.mod hk hl hL,post,hd⟩,Nat.le_refl _⟩
  ·rw [List.length_cons] at h2 ⊢
   obtain ⟨c',M',g1,g2⟩:=ih (o+1) post d j (by omega) (by omega)
   exact ⟨c',M',g1,by omega⟩
 |@fix b k v L hk hv hL ih=>
  intro o post hd j h1 h2
  obtain ⟨a,c,d⟩:=eA hd
  by_cases e:j=o
  ·subst e
   exact ⟨b,_,⟨.fix hk hv hL,post,hd⟩,Nat.le_refl _⟩
  ·rw [List.length_cons] at h2 ⊢
   obtain ⟨c',M',g1,g2⟩:=ih (o+1) post d j (by omega) (by omega)
   exact ⟨c',M',g1,by omega⟩
theorem aAY {b:List Int} (h:Tm b f) {k:Nat} (hk:k < f.length):∃ c M,At f k c M:=by
 obtain ⟨c,M,h1,_⟩:=parts2 (f:=f) h 0 [] (by rw [List.drop_zero,List.append_nil]) k (by omega) (by omega)
 exact ⟨c,M,h1⟩
theorem ops_of (hf:f.length<=100) {k:Nat} {b:List Int} {L:List aT} (h:At f k b L):∃ os,jM f (k:Int)=some os/\os.length<=2/\(∀ o∈os,(k:Int) < o/\o < ((k+L.length:Nat):Int))/\((dG f k).Kind=4\/(dG f k).Kind=5->os.length=1):=by
 obtain ⟨hT,post,hd⟩:=h
 have hk:k < f.length:=by
  have:=At.len ⟨hT,post,hd⟩
  have:=hT.pos
  omega
 have hno:arN (dG f k)=0->jM f (k:Int)=some []:=fun h0=>by
  unfold jM
  rw [kH hk,aA,aAi,aA,h0,fP (r:=[]) (by
   show bX f ((0:Nat):Int) [] _ 0=_
   unfold bX
   rw [if_neg (by simp)]),aA]
  rfl
 have hone:∀ {c M},arN (dG f k)=1->At f (k+1) c M->jM f (k:Int)=some [((k+1:Nat):Int)]:=fun {c M} h1 hM=>by
  have e1:=aLv hf hM
  unfold jM
  rw [kH hk,aA,aAi,aA,h1,bQ hk (by omega),fY (s':=([((k+1:Nat):Int)],((k+1+M.length:Nat):Int),1)) (by
   show bX f ((1:Nat):Int) [] _ 0=_
   unfold bX
   rw [if_pos (by simp),cG (by simp [iE]),aA,e1,aA,bT (by omega) (by omega)]
   rfl),fP (r:=[((k+1:Nat):Int)]) (by
   show bX f ((1:Nat):Int) _ _ 1=_
   unfold bX
   rw [if_neg (by simp)]),aA]
  rfl
 cases hT with
 |leaf hkd=>
  obtain ⟨a,c,d⟩:=eA hd
  refine ⟨[],hno (by rw [c];unfold arN;rw [if_neg (by simp only;omega),if_neg (by simp only;omega)]),by simp,fun o ho=>(by cases ho),fun h=>?_⟩
  rw [c] at h;simp only at h;omega
 |var hv hr=>
  obtain ⟨a,c,d⟩:=eA hd
  refine ⟨[],hno (by rw [c];rfl),by simp,fun o ho=>(by cases ho),fun h=>?_⟩
  rw [c] at h;simp only at h;omega
 |@bin _ kd L M hkd hL hM=>
  obtain ⟨a,c,d⟩:=eA hd
  have hL':At f (k+1) b L:=⟨hL,M++post,d.trans (List.append_assoc L M post)⟩
  have hM':At f (k+1+L.length) b M:=⟨hM,post,by rw [←List.drop_drop,d.trans (List.append_assoc L M post),List.drop_left]⟩
  have e1:=aLv hf hL'
  have e2:=aLv hf hM'
  have l1:=hL'.len
  have l2:=hM'.len
  have p1:=hL.pos
  have p2:=hM.pos
  have ha:arN (dG f k)=2:=by rw [c];unfold arN;rw [if_pos hkd]
  refine ⟨[((k+1:Nat):Int),((k+1+L.length:Nat):Int)],?_,by simp,fun o ho=>?_,fun h=>?_⟩
  ·unfold jM
   rw [kH hk,aA,aAi,aA,ha,bQ hk (by omega),fY (s':=([((k+1:Nat):Int)],((k+1+L.length:Nat):Int),1)) (by
    show bX f ((2:Nat):Int) [] _ 0=_
    unfold bX
    rw [if_pos (by simp),cG (by simp [iE]),aA,e1,aA,bT (by omega) (by omega)]
    rfl),fY (s':=([((k+1:Nat):Int),((k+1+L.length:Nat):Int)],((k+1+L.length+M.length:Nat):Int),2)) (by
    show bX f ((2:Nat):Int) [((k+1:Nat):Int)] _ 1=_
    unfold bX
    rw [if_pos (by simp),cG (by simp [iE]),aA,e2,aA,bT (by omega) (by omega)]
    rfl),fP (r:=[((k+1:Nat):Int),((k+1+L.length:Nat):Int)]) (by
    show bX f ((2:Nat):Int) _ _ 2=_
    unfold bX
    rw [if_neg (by simp)]),aA]
   rfl
  ·simp only [List.mem_cons,List.not_mem_nil,or_false] at ho
   rw [List.length_cons,List.length_append]
   rcases ho with rfl|rfl<;>omega
  ·rw [c] at h;simp only at h;omega
 |@mod _ kd l n L hkd hl hL=>
  obtain ⟨a,c,d⟩:=eA hd
  have hL':At f (k+1) b L:=⟨hL,post,d⟩
  have l1:=hL'.len
  have p1:=hL.pos
  refine ⟨_,hone (by rw [c];unfold arN;rw [if_neg (by simp only;omega),if_pos (by simp only;omega)]) hL',by simp,fun o ho=>?_,fun _=>rfl⟩
  rw [List.mem_singleton] at ho;subst ho;rw [List.length_cons];omega
 |@fix _ kd v L hkd hv hL=>
  obtain ⟨a,c,d⟩:=eA hd
  have hL':At f (k+1) (b++[v]) L:=⟨hL,post,d⟩
  have l1:=hL'.len
  have p1:=hL.pos
  refine ⟨_,hone (by rw [c];unfold arN;rw [if_neg (by simp only;omega),if_pos (by simp only;omega)]) hL',by simp,fun o ho=>?_,fun _=>rfl⟩
  rw [List.mem_singleton] at ho;subst ho;rw [List.length_cons];omega
theorem nest_of {b:List Int} (hf:f.length<=30) (h:Tm b f) {k:Nat} (hk:k < f.length):∃ n,aAc f (k:Int)=some n/\0<=n/\n<=30:=by
 have key:=dO (step:=fun s:Int × Int=>gT f (k:Int) s.1 s.2) k (fun i (q:Int)=>(q,(i:Int))) (fun i q=>0<=q/\q<=(i:Int)) (fun r=>0<=r/\r<=(k:Int)) (fun i q hi hI=>?_) (fun q hI=>?_) k 0 0 (by omega) ⟨by omega,by omega⟩
 ·obtain ⟨r,e1,e2⟩:=key
  have e1':loop (fun s:Int × Int=>gT f (k:Int) s.1 s.2) (0,0)=some r:=e1
  refine ⟨r,?_,by omega,by omega⟩
  unfold aAc
  rw [e1',aA]
  rfl
 ·obtain ⟨c,M,hM⟩:=aAY h (show i < f.length by omega)
  have e1:=aLv (by omega) hM
  have hj3:∀ v:Bool,∃ q',tE q (i:Int) v=some (.inl (q',((i+1:Nat):Int)))/\0<=q'/\q'<=((i+1:Nat):Int):=fun v=>by
   unfold tE wP
   rw [bQ hi (by omega),bT (x:=q+1) (by omega) (by omega)]
   cases v
   ·exact ⟨q,rfl,by omega,by omega⟩
   ·exact ⟨q+1,rfl,by omega,by omega⟩
  show ∃ q',gT f (k:Int) q (i:Int)=some (.inl (q',((i+1:Nat):Int)))/\_
  unfold gT
  rw [if_pos (bV hi),kH (by omega),aA,rJ,aA,e1,aA]
  split<;>exact hj3 _
 ·refine ⟨q,?_,hI⟩
  show gT f (k:Int) q (k:Int)=_
  unfold gT
  rw [if_neg (by simp)]
end
end Gv
set_option linter.unusedVariables false
set_option linter.unusedSimpArgs false
namespace Gv
open Go
theorem pat_ok:∀ l∈Pats,sT l=some true:=by
 intro l hl
 have hlen:∀ l∈Pats,l.length < 100:=by decide
 have h1:=hlen l hl
 have h2:∀ l∈Pats,(if (l == ([]:aJ))=true then true else if rK l=true then true else if (if (l.getLast? == some (42:UInt8))=true then (l.dropLast,true) else (l,false)).2=true then aBg (if (l.getLast? == some (42:UInt8))=true then (l.dropLast,true) else (l,false)).1 else false)=true:=by decide
 have h3:=h2 l hl
 have h4:((if (l.getLast? == some (42:UInt8))=true then (l.dropLast,true) else (l,false)).1:aJ).length < 1000:=by
  split
  ·show l.dropLast.length < 1000
   rw [List.length_dropLast];omega
  ·show l.length < 1000
   omega
 unfold sT pF
 rw [wW _ _ (by omega),aA,aGI _ (by omega),aA,aIu _ (by omega),aA]
 revert h3
 split
 ·intro;rfl
 ·split
  ·intro;rfl
  ·split
   ·intro h;simpa using h
   ·intro h;simpa using h
theorem aPZ {l:aJ} (h:l∈Pats):PatOk l:=by
 have hlen:∀ l∈Pats,l.length < 100:=by decide
 exact ⟨pat_ok l h,by have:=hlen l h;omega⟩
section
variable {f:List aT}
theorem nd_ok {k:Nat} {b:List Int} {L:List aT} (h:At f k b L):(0<=(dG f k).Kind/\(dG f k).Kind<=8)/\nM (dG f k)=some true/\sC (dG f k)=some true/\(dG f k).B.length < 1000:=by
 obtain ⟨hT,post,hd⟩:=h
 have hb:∀ n:aT,sC n=some (if n.Kind=7\/n.Kind=8\/n.Kind=6 then decide (0<=n.Variable)&&decide (n.Variable<=2) else (n.Variable == 0)):=fun n=>by
  unfold sC
  have hj:∀ v:Bool,qK n v=some (if v=true then decide (0<=n.Variable)&&decide (n.Variable<=2) else (n.Variable == 0)):=fun v=>by
   unfold qK
   cases v
   ·rfl
   ·rw [if_pos rfl,aAg,aA,if_pos rfl]
  rw [rJ,aA,hj,hj]
  by_cases h7:n.Kind=7
  ·simp [h7]
  ·by_cases h8:n.Kind=8
   ·simp [h7,h8]
   ·by_cases h6:n.Kind=6<;>simp [h7,h8,h6]
 have hf:∀ n:aT,¬ (n.Kind=4\/n.Kind=5)->n.B=[]->n.Not=false->nM n=some true:=fun n h1 h2 h3=>by
  unfold nM tD
  rw [yB,aA,if_neg (by simpa using h1),h2,h3]
  rfl
 cases hT with
 |@leaf _ kd hkd=>
  obtain ⟨_,c,_⟩:=eA hd
  rw [c]
  refine ⟨by simp only;omega,hf _ (by simp only;omega) rfl rfl,?_,by simp⟩
  rw [hb,if_neg (by simp only;omega)]
  rfl
 |@var _ v hv hr=>
  obtain ⟨_,c,_⟩:=eA hd
  rw [c]
  refine ⟨by simp only;omega,hf _ (by simp only;omega) rfl rfl,?_,by simp⟩
  rw [hb,if_pos (Or.inr (Or.inr rfl))]
  simp only [Option.some.injEq,Bool.and_eq_true,decide_eq_true_eq]
  exact hr
 |@bin _ kd L M hkd hL hM=>
  obtain ⟨_,c,_⟩:=eA hd
  rw [c]
  refine ⟨by simp only;omega,hf _ (by simp only;omega) rfl rfl,?_,by simp⟩
  rw [hb,if_neg (by simp only;omega)]
  rfl
 |@mod _ kd l n L hkd hl hL=>
  obtain ⟨_,c,_⟩:=eA hd
  rw [c]
  refine ⟨by simp only;omega,?_,?_,hl.2⟩
  ·unfold nM
   rw [yB,aA,if_pos (by simpa using hkd)]
   simp only
   rw [hl.1,aA]
  ·rw [hb,if_neg (by simp only;omega)]
   rfl
 |@fix _ kd v L hkd hv hL=>
  obtain ⟨_,c,_⟩:=eA hd
  rw [c]
  refine ⟨by simp only;omega,hf _ (by simp only;omega) rfl rfl,?_,by simp⟩
  rw [hb,if_pos (by simp only;omega)]
  simp only [Option.some.injEq,Bool.and_eq_true,decide_eq_true_eq]
  exact hv
theorem fok_any {b:List Int} (hf:f.length<=30) (h:Tm b f) (hb:∀ k,k < f.length->(dG f k).Kind=6->∃ n,sD f (k:Int)=some n/\0<=n/\n < (f.length:Int)):FOk f where
 len:=⟨h.pos,hf⟩
 ops:=fun k hk=>by
  obtain ⟨c,M,hM⟩:=aAY h hk
  obtain ⟨os,e,h1,h2,_⟩:=ops_of (by omega) hM
  have:tR f k=os:=by unfold tR;rw [e];rfl
  rw [this]
  have hl:=hM.len
  exact ⟨e,h1,fun o ho=>by have:=h2 o ho;omega⟩
 one:=fun k hk hm=>by
  obtain ⟨c,M,hM⟩:=aAY h hk
  obtain ⟨os,e,_,_,h3⟩:=ops_of (by omega) hM
  have:tR f k=os:=by unfold tR;rw [e];rfl
  rw [this]
  exact h3 hm
 lab:=fun k hk=>by
  obtain ⟨c,M,hM⟩:=aAY h hk
  exact (nd_ok hM).2.2.2
 bnd:=fun k hk h6=>by
  obtain ⟨n,e,h1,h2⟩:=hb k hk h6
  have:bndF f k=n:=by unfold bndF;rw [e];rfl
  rw [this]
  exact ⟨e,h1,h2⟩
 nst:=fun k hk=>by
  obtain ⟨n,e,h1,h2⟩:=nest_of hf h hk
  have:aMp f k=n:=by unfold aMp;rw [e];rfl
  rw [this]
  exact ⟨e,h1,h2⟩
theorem valid_any {b:List Int} (hf:f.length<=30) (h:Tm b f) (hb:∀ k,k < f.length->(dG f k).Kind=6->∃ n,sD f (k:Int)=some n/\0<=n/\n < (f.length:Int)):pG f=some true:=by
 have hp:=h.pos
 have key:=dO (step:=fun s:Int=>jF f s) f.length (fun i (_:Unit)=>(i:Int)) (fun _ _=>True) (fun r=>r=.inl ()) (fun k _ hk _=>?_) (fun _ _=>?_) f.length 0 () (by omega) trivial
 ·obtain ⟨r,e1,e2⟩:=key
  have e1':loop (fun s:Int=>jF f s) 0=some r:=e1
  unfold pG qL
  rw [aAg,aA,if_neg (by simp;omega),shape_eq (by omega) h,aA,if_neg (by simp),e1',aA,e2]
  rfl
 ·refine ⟨(),?_,trivial⟩
  show jF f (k:Int)=some (.inl ((k+1:Nat):Int))
  obtain ⟨c,M,hM⟩:=aAY h hk
  obtain ⟨h1,h2,h3,_⟩:=nd_ok hM
  unfold jF
  rw [if_pos (bV hk),kH hk,aA,aAg,aA,if_neg (by simp;omega),h2,aA,if_neg (by simp),h3,aA,if_neg (by simp)]
  have hj:jE (k:Int) false=some (.inl ((k+1:Nat):Int)):=by
   unfold jE
   rw [if_neg (by simp),bQ hk (by omega)]
  by_cases h6:(dG f k).Kind=6
  ·obtain ⟨n,e,g1,g2⟩:=hb k hk h6
   rw [if_pos (by simpa using h6),e,aA,decide_eq_false (by omega)]
   exact hj
  ·rw [if_neg (by simpa using h6)]
   exact hj
 ·refine ⟨.inl (),?_,rfl⟩
  show jF f (f.length:Int)=_
  unfold jF
  rw [if_neg (by simp)]
theorem code_of {t:cN} (ft:iD 999999999 t) (ht:cM t) (hv:pG f=some true):uJ t [f]=some 0:=by
 have hi:cX [f]=some (-1):=by
  unfold cX
  rw [fY (s':=1) (by
   show cD [f] 0=_
   unfold cD aBr
   rw [if_pos (by simp),show ix [f] 0=some f from rfl,aA,hv,aA,aA,if_neg (by simp)]
   rfl),fP (r:=.inl ()) (by
   show cD [f] 1=_
   unfold cD
   rw [if_neg (by simp)]),aA]
  rfl
 unfold uJ eY
 rw [aQK t ft,aJd ht,aA,if_neg (by simp),hi,aA,aA]
 rfl
end
end Gv
set_option linter.unusedVariables false
set_option linter.unusedSimpArgs false
namespace Gv
open Go
def aGh (t:cN):Prop:=∀ s∈t.L,rK s=true/\s.length < 1000
section
variable {f:List aT} {a b:cN} {R:Int->Int->Prop}
theorem aGQ {t:cN} (ht:cM t) {k:Nat} (hk:k < f.length) {x:Int} (hx:inT t x):vx (gR f t f.length) ((k:Int) * t.N+x)=aJP f t k x:=by
 have h1:=ht.1
 unfold inT at hx
 have e:((k:Int) * t.N+x).toNat=k * t.N.toNat+x.toNat:=by
  have:((k * t.N.toNat:Nat):Int)=(k:Int) * t.N:=by rw [Int.natCast_mul,show ((t.N.toNat:Nat):Int)=t.N by omega]
  omega
 unfold vx
 rw [e,List.getD_eq_getElem?_getD,aPX f t f.length k x.toNat hk (by omega),show ((x.toNat:Nat):Int)=x by omega]
 rfl
theorem aCn {l:List Int} {w:Int}:w∈iW (srt iLt l)<->w∈l:=aIS.2 w
theorem aQa {t:cN} (ht:cM t) {k:Nat} (hk:k < f.length) {x:Int} (hx:inT t x):uZ (gR f t f.length) ((k:Int) * t.N+x):=by
 have h1:=ht.1
 unfold inT at hx
 have a1:0<=(k:Int) * t.N:=Int.mul_nonneg (by omega) (by omega)
 have a2:((k:Int)+1) * t.N<=(f.length:Int) * t.N:=Int.mul_le_mul_of_nonneg_right (by omega) (by omega)
 rw [Int.add_mul,Int.one_mul] at a2
 unfold uZ
 rw [yN,Int.natCast_mul,show ((t.N.toNat:Nat):Int)=t.N by omega]
 omega
theorem sem_ok {t:cN} (hf:FOk f) (ht:cM t) (hl:aGh t):∃ m,kY f t 0=some m/\m.length=t.N.toNat/\∀ x,inT t x->∃ q,(q=0\/q=1)/\(On m x<->q=0)/\∃ W σ,Reg (gg (gR f t f.length)) (uZ (gR f t f.length)) q W σ/\W (((0:Nat):Int) * t.N+x):=by
 have h1:=ht.1
 have hlen:=hf.len
 obtain ⟨hg,hg1⟩:=aLu hf ht (by omega) hl
 obtain ⟨out,e1,e2,e3⟩:=aNK hg hg1
 have hol:t.N.toNat<=out.length:=by
  rw [e2,yN]
  have:=Nat.mul_le_mul_right t.N.toNat hlen.1
  omega
 have key:=zN (step:=fun s:List Bool × Int=>kX t 0 (List.replicate t.N.toNat false) out s.1 s.2) (n:=t.N.toNat) (List.replicate t.N.toNat false) (by simp) (fun k=>out.getD k 0 == 0) (fun k o hk ho _=>?_) fun o ho=>?_
 ·obtain ⟨m,f1,f2,f3⟩:=key
  refine ⟨m,?_,f2,fun x hx=>?_⟩
  ·unfold kY
   rw [show mkz t.N false=mkz ((t.N.toNat:Nat):Int) false by rw [show ((t.N.toNat:Nat):Int)=t.N by omega],aBx _ (by unfold iE;omega),aA,game_eq hf ht (by omega) hl,aA,e1,aA,f1,aA]
   rfl
  ·unfold inT at hx
   obtain ⟨q,g1,g2,W,σ,g3,g4⟩:=e3 (((0:Nat):Int) * t.N+x) (aQa ht hlen.1 hx)
   rw [show ((0:Nat):Int) * t.N+x=x by rw [show ((0:Nat):Int)=0 from rfl,Int.zero_mul,Int.zero_add]] at g2
   refine ⟨q,g1,?_,W,σ,g3,g4⟩
   rw [f3 x,g2,beq_iff_eq]
   constructor
   ·exact fun h=>h.2.2
   ·exact fun h=>⟨hx.1,by omega,h⟩
 ·show kX t 0 _ out o (k:Int)=_
  unfold kX
  rw [List.length_replicate,if_pos (bV hk),show wr (wr (0 * t.N)+(k:Int))=(k:Int) by rw [Int.zero_mul,bT (x:=0) (by omega) (by omega),bT (by omega) (by omega)];omega,bS (by omega),aA,bS (by omega),aA,pL _ (by omega),aA,bQ hk (by omega),List.getD_eq_getElem?_getD,List.getElem?_eq_getElem (by omega)]
  rfl
 ·show kX t 0 _ out o ((t.N.toNat:Nat):Int)=_
  unfold kX
  rw [List.length_replicate,if_neg (by simp)]
end
end Gv
set_option linter.unusedVariables false
namespace Gv
section
variable {V U:Type}
theorem lockG {G:PG V} {H:PG U} {R:V->U->Prop} {A:V->Prop} {A':U->Prop} {W:V->Prop} {W':U->Prop} {p q:Int} {σ:V->V} {τ:U->U}
  (hR:∀ x y,R x y->G.own x=H.own y/\(G.own x=p\/G.own x=q)/\(∀ x',G.E x x'->A x'/\∃ y',H.E y y'/\R x' y')/\(∀ y',H.E y y'->A' y'/\∃ x',G.E x x'/\R x' y'))
  (hG:∀ (f:Nat->V) (g:Nat->U),(∀ n,R (f n) (g n))->(∀ n,G.E (f n) (f (n+1)))->(∀ n,H.E (g n) (g (n+1)))->aCm G.pr p f->aCm H.pr p g)
  (h0:Reg G A p W σ) (h1:Reg H A' q W' τ) (hq:p≠q) {x:V} {y:U} (hxy:R x y) (hx:W x) (hy:W' y):False:=by
 have step:∀ s:{s:V × U // R s.1 s.2/\W s.1/\W' s.2},∃ s':{s:V × U // R s.1 s.2/\W s.1/\W' s.2},G.E s.1.1 s'.1.1/\H.E s.1.2 s'.1.2/\(G.own s.1.1=p->s'.1.1=σ s.1.1)/\(H.own s.1.2=q->s'.1.2=τ s.1.2):=by
  rintro ⟨⟨a,b⟩,hab,ha,hb⟩
  obtain ⟨e1,e3,e4,e5⟩:=hR a b hab
  simp only at hab ha hb ⊢
  by_cases ho:G.own a=p
  ·obtain ⟨m1,m2⟩:=h0.mine a ha ho
   obtain ⟨g1,b',g2,g3⟩:=e4 _ m1
   have hob:H.own b≠q:=by rw [←e1,ho];exact hq
   exact ⟨⟨(σ a,b'),g3,m2,h1.theirs b hb hob b' g2 (e5 b' g2).1⟩,m1,g2,fun _=>rfl,fun h=>absurd h hob⟩
  ·have hob:H.own b=q:=by rw [←e1];exact e3.resolve_left ho
   obtain ⟨m1,m2⟩:=h1.mine b hb hob
   obtain ⟨g1,a',g2,g3⟩:=e5 _ m1
   exact ⟨⟨(a',τ b),g3,h0.theirs a ha ho a' g2 (e4 a' g2).1,m2⟩,g2,m1,fun h=>absurd h ho,fun _=>rfl⟩
 obtain ⟨nx,hnx⟩:=Classical.axiomOfChoice step
 let f:Nat->{s:V × U // R s.1 s.2/\W s.1/\W' s.2}:=fun n=>Nat.rec ⟨(x,y),hxy,hx,hy⟩ (fun _ s=>nx s) n
 have hf:∀ n,f (n+1)=nx (f n):=fun n=>rfl
 have c1:∀ n,G.E (f n).1.1 (f (n+1)).1.1:=fun n=>by rw [hf];exact (hnx (f n)).1
 have c2:∀ n,H.E (f n).1.2 (f (n+1)).1.2:=fun n=>by rw [hf];exact (hnx (f n)).2.1
 have a1:=h0.good (fun n=>(f n).1.1) (fun n=>(f n).2.2.1) c1 fun n ho=>by rw [hf];exact (hnx (f n)).2.2.1 ho
 have a2:=h1.good (fun n=>(f n).1.2) (fun n=>(f n).2.2.2) c2 fun n ho=>by rw [hf];exact (hnx (f n)).2.2.2 ho
 exact hq (aCm.one (fun n=>rfl) (hG _ _ (fun n=>(f n).2.1) c1 c2 a1) a2)
end
theorem aRh (k:Nat->Nat):∀ B,(∃ N,∀ n,N<=n->k n < B)->∃ m,(∀ N,∃ n,N<=n/\k n=m)/\∃ N,∀ n,N<=n->m<=k n:=by
 intro B hB
 have key:∀ d b,b+d=B->(∃ N,∀ n,N<=n->b<=k n)->∃ m,(∀ N,∃ n,N<=n/\k n=m)/\∃ N,∀ n,N<=n->m<=k n:=by
  intro d
  induction d with
  |zero=>
   intro b hb ⟨N,hN⟩
   obtain ⟨N',hN'⟩:=hB
   have h1:=hN (max N N') (Nat.le_max_left _ _)
   have h2:=hN' (max N N') (Nat.le_max_right _ _)
   omega
  |succ d ih=>
   intro b hb hN
   by_cases h:∃ N,∀ n,N<=n->b+1<=k n
   ·exact ih (b+1) (by omega) h
   ·refine ⟨b,fun N=>?_,hN⟩
    obtain ⟨N0,h0⟩:=hN
    have h':=fun N=>Classical.not_forall.1 (fun h2=>h ⟨N,h2⟩)
    obtain ⟨n,hn⟩:=h' (max N N0)
    have hn1:max N N0<=n:=Classical.byContradiction fun hc=>hn fun hd=>absurd hd hc
    have hn2:¬ b+1<=k n:=fun hc=>hn fun _=>hc
    have:=h0 n (Nat.le_trans (Nat.le_max_right _ _) hn1)
    exact ⟨n,Nat.le_trans (Nat.le_max_left _ _) hn1,by omega⟩
 exact key B 0 (by omega) ⟨0,fun n _=>Nat.zero_le _⟩
end Gv
set_option linter.unusedVariables false
set_option linter.unusedSimpArgs false
namespace Gv
open Go
section
variable {f:List aT} {b:List Int}
def rM (n:aT):Bool:=decide (n.Kind=7\/n.Kind=8)
noncomputable def pQ (f:List aT) (k:Nat):Nat:=((mH f (k:Int)).getD 0).toNat
theorem aGR (hf:f.length<=100) {k:Nat} {c:List Int} {M:List aT} (h:At f k c M):pQ f k=k+M.length:=by
 unfold pQ
 rw [aLv hf h]
 rfl
theorem sO (hf:f.length<=100) (h:Tm b f) {k:Nat} (hk:k < f.length):mH f (k:Int)=some (pQ f k:Int)/\k < pQ f k/\pQ f k<=f.length:=by
 obtain ⟨c,M,hM⟩:=aAY h hk
 have h1:=aGR hf hM
 have h2:=hM.len
 have h3:=hM.1.pos
 rw [h1,aLv hf hM]
 exact ⟨rfl,by omega,h2⟩
theorem end_in (hf:f.length<=100) (h:Tm b f) {m k:Nat} (hm:m < f.length) (h1:m<=k) (h2:k < pQ f m):pQ f k<=pQ f m:=by
 obtain ⟨c,M,hM⟩:=aAY h hm
 have e:=aGR hf hM
 obtain ⟨hT,post,hd⟩:=hM
 obtain ⟨c',M',g1,g2⟩:=parts2 hT m post hd k h1 (by omega)
 rw [aGR hf g1,e]
 exact g2
theorem ops_in (hf:f.length<=30) (h:Tm b f) {k:Nat} (hk:k < f.length):∀ o∈tR f k,(k:Int) < o/\o < (pQ f k:Int):=by
 obtain ⟨c,M,hM⟩:=aAY h hk
 obtain ⟨os,e,_,h2,_⟩:=ops_of (by omega) hM
 have:tR f k=os:=by unfold tR;rw [e];rfl
 rw [this,aGR (by omega) hM]
 exact h2
theorem aLW (hf:f.length<=30) (h:Tm b f) {k:Nat} (hk:k < f.length):∃ r,sD f (k:Int)=some r/\(r=-1\/0<=r/\r < (k:Int)/\rM (dG f r.toNat)=true/\k < pQ f r.toNat):=by
 have key:=lQ (step:=fun s:Int=>fB f (k:Int) s) (fun s=>-1<=s/\s < (k:Int)) (fun s=>(s+1).toNat) (fun r=>r=.inl ()\/∃ n:Int,r=.inr n/\0<=n/\n < (k:Int)/\rM (dG f n.toNat)=true/\k < pQ f n.toNat) (fun s hs=>?_) (s:=(k:Int) - 1) (by omega)
 ·obtain ⟨r,e1,h1⟩:=key
  unfold sD
  rw [bT (x:=(k:Int) - 1) (by omega) (by omega),e1,aA]
  rcases h1 with rfl|⟨n,rfl,h2⟩
  ·exact ⟨-1,rfl,.inl rfl⟩
  ·exact ⟨n,rfl,.inr h2⟩
 ·by_cases h0:s=-1
  ·subst h0
   right
   refine ⟨.inl (),?_,.inl rfl⟩
   unfold fB
   rw [if_neg (by simp)]
  ·obtain ⟨i,rfl⟩:∃ i:Nat,s=(i:Int):=⟨s.toNat,by omega⟩
   have e1:=(sO (by omega) h (show i < f.length by omega)).1
   have hj:∀ v:Bool,(v=true->rM (dG f i)=true/\k < pQ f i)->(∃ s',oE (i:Int) v=some (.inl s')/\(-1<=s'/\s' < (k:Int))/\(s'+1).toNat < ((i:Int)+1).toNat)\/∃ r,oE (i:Int) v=some (.inr r)/\(r=.inl ()\/∃ n:Int,r=.inr n/\0<=n/\n < (k:Int)/\rM (dG f n.toNat)=true/\k < pQ f n.toNat):=fun v hv=>by
    unfold oE
    cases v with
    |true=>
     right
     obtain ⟨g1,g2⟩:=hv rfl
     exact ⟨.inr (i:Int),rfl,.inr ⟨_,rfl,by omega,by omega,by rw [Int.toNat_natCast];exact g1,by rw [Int.toNat_natCast];exact g2⟩⟩
    |false=>
     left
     rw [bT (x:=(i:Int) - 1) (by omega) (by omega)]
     exact ⟨(i:Int) - 1,rfl,⟨by omega,by omega⟩,by omega⟩
   show (∃ s',fB f (k:Int) (i:Int)=some (.inl s')/\_)\/∃ r,fB f (k:Int) (i:Int)=some (.inr r)/\_
   unfold fB
   rw [if_pos (by simp),kH (by omega),aA,rJ,aA,kH hk,aA,e1,aA]
   by_cases hfx:(dG f i).Kind=7\/(dG f i).Kind=8
   ·rw [if_pos (by simpa using hfx)]
    split
    ·exact hj _ fun hv=>⟨by unfold rM;simpa using hfx,by simp at hv;omega⟩
    ·exact hj _ fun hv=>by cases hv
   ·rw [if_neg (by simpa using hfx)]
    exact hj _ fun hv=>by cases hv
theorem nst_eq (hf:f.length<=30) (h:Tm b f) {k:Nat} (hk:k < f.length):aMp f k=(((List.range k).filter fun i=>rM (dG f i)&&decide (k < pQ f i)).length:Nat):=by
 have key:=dO (step:=fun s:Int × Int=>gT f (k:Int) s.1 s.2) k (fun i (q:Int)=>(q,(i:Int))) (fun i q=>q=(((List.range i).filter fun i=>rM (dG f i)&&decide (k < pQ f i)).length:Nat)) (fun r=>r=(((List.range k).filter fun i=>rM (dG f i)&&decide (k < pQ f i)).length:Nat)) (fun i q hi hI=>?_) (fun q hI=>?_) k 0 0 (by omega) rfl
 ·obtain ⟨r,e1,e2⟩:=key
  have e1':loop (fun s:Int × Int=>gT f (k:Int) s.1 s.2) (0,0)=some r:=e1
  unfold aMp aAc
  rw [e1',aA,←e2]
  rfl
 ·have e1:=(sO (by omega) h (show i < f.length by omega)).1
  have hc:((List.range i).filter fun i=>rM (dG f i)&&decide (k < pQ f i)).length<=i:=Nat.le_trans (List.length_filter_le _ _) (Nat.le_of_eq List.length_range)
  have hj3:∀ v:Bool,v=(rM (dG f i)&&decide (k < pQ f i))->∃ q',tE q (i:Int) v=some (.inl (q',((i+1:Nat):Int)))/\q'=(((List.range (i+1)).filter fun i=>rM (dG f i)&&decide (k < pQ f i)).length:Nat):=fun v hv=>by
   unfold tE wP
   rw [bQ hi (by omega),bT (x:=q+1) (by omega) (by omega),List.range_succ,List.filter_append,List.length_append]
   cases v with
   |false=>rw [if_neg (by simp)];exact ⟨q,rfl,by simp [←hv,hI]⟩
   |true=>rw [if_pos rfl];exact ⟨q+1,rfl,by simp [←hv,hI]⟩
  show ∃ q',gT f (k:Int) q (i:Int)=some (.inl (q',((i+1:Nat):Int)))/\_
  unfold gT
  rw [if_pos (bV hi),kH (by omega),aA,rJ,aA,e1,aA]
  by_cases hfx:(dG f i).Kind=7\/(dG f i).Kind=8
  ·rw [if_pos (by simpa using hfx)]
   refine hj3 _ ?_
   unfold rM
   rw [decide_eq_true hfx,Bool.true_and]
   exact decide_eq_decide.2 (by omega)
  ·rw [if_neg (by simpa using hfx)]
   refine hj3 _ ?_
   unfold rM
   rw [decide_eq_false hfx,Bool.false_and]
 ·refine ⟨q,?_,hI⟩
  show gT f (k:Int) q (k:Int)=_
  unfold gT
  rw [if_neg (by simp)]
theorem aPb {p q:Nat->Bool}:∀ l:List Nat,(∀ x∈l,p x=true->q x=true)->(l.filter p).length<=(l.filter q).length
 |[],_=>Nat.le_refl _
 |x::l,h=>by
  have ih:=aPb l fun y hy=>h y (List.mem_cons_of_mem _ hy)
  have hx:=h x List.mem_cons_self
  rw [List.filter_cons,List.filter_cons]
  by_cases hp:p x=true
  ·rw [if_pos hp,if_pos (hx hp),List.length_cons,List.length_cons];omega
  ·rw [if_neg hp]
   split
   ·rw [List.length_cons];omega
   ·exact ih
theorem nst_lt (hf:f.length<=30) (h:Tm b f) {m k:Nat} (hm:rM (dG f m)=true) (h1:m < k) (h2:k < pQ f m) (hk:k < f.length):aMp f m+1<=aMp f k:=by
 rw [nst_eq hf h (show m < f.length by omega),nst_eq hf h hk]
 have e1:List.range k=List.range m++(List.range (k - m)).map (m+·):=by
  rw [←List.range_add];congr 1;omega
 rw [e1,List.filter_append,List.length_append]
 have a1:((List.range m).filter fun i=>rM (dG f i)&&decide (m < pQ f i)).length<=((List.range m).filter fun i=>rM (dG f i)&&decide (k < pQ f i)).length:=by
  refine aPb _ fun i hi hp=>?_
  rw [List.mem_range] at hi
  simp only [Bool.and_eq_true,decide_eq_true_eq] at hp ⊢
  have:=end_in (by omega) h (show i < f.length by omega) (Nat.le_of_lt hi) hp.2
  exact ⟨hp.1,by omega⟩
 have a2:1<=(((List.range (k - m)).map (m+·)).filter fun i=>rM (dG f i)&&decide (k < pQ f i)).length:=by
  refine List.length_pos_of_mem (a:=m) (List.mem_filter.2 ⟨List.mem_map.2 ⟨0,List.mem_range.2 (by omega),rfl⟩,?_⟩)
  simp [hm,h2]
 omega
end
end Gv
set_option linter.unusedVariables false
set_option linter.unusedSimpArgs false
namespace Gv
open Go
section
variable {f:List aT} {b:List Int} {t:cN}
def bR (t:cN) (v:Int):Nat:=v.toNat / t.N.toNat
theorem aRi (ht:cM t) {k:Nat} {x:Int} (hx:inT t x):bR t ((k:Int) * t.N+x)=k:=by
 have h1:=ht.1
 unfold inT at hx
 have e:((k:Int) * t.N+x).toNat=t.N.toNat * k+x.toNat:=by
  have:((t.N.toNat * k:Nat):Int)=(k:Int) * t.N:=by rw [Int.natCast_mul,show ((t.N.toNat:Nat):Int)=t.N by omega,Int.mul_comm]
  omega
 unfold bR
 rw [e,Nat.mul_add_div (by omega),Nat.div_eq_of_lt (by omega)]
 omega
theorem sP (ht:cM t) {v:Int} (hv:uZ (gR f t f.length) v):∃ x,inT t x/\bR t v < f.length/\v=(bR t v:Int) * t.N+x:=by
 have h1:=ht.1
 obtain ⟨h2,h3⟩:=hv
 rw [yN] at h3
 have h4:=Nat.div_add_mod v.toNat t.N.toNat
 have h5:=Nat.mod_lt v.toNat (show t.N.toNat > 0 by omega)
 have h6:v.toNat / t.N.toNat < f.length:=(Nat.div_lt_iff_lt_mul (by omega)).2 (by omega)
 refine ⟨((v.toNat % t.N.toNat:Nat):Int),⟨by omega,by omega⟩,h6,?_⟩
 have:((t.N.toNat * (v.toNat / t.N.toNat):Nat):Int)=((bR t v:Nat):Int) * t.N:=by
  unfold bR
  rw [Int.natCast_mul,show ((t.N.toNat:Nat):Int)=t.N by omega,Int.mul_comm]
 rw [←this]
 omega
theorem aLw (hf:FOk f) (h:Tm b f) (ht:cM t) {v w:Int} (hv:uZ (gR f t f.length) v) (hE:(gg (gR f t f.length)).E v w):
  uZ (gR f t f.length) w/\((bR t v < bR t w/\bR t w < pQ f (bR t v))\/(bR t w < bR t v/\rM (dG f (bR t w))=true/\bR t v < pQ f (bR t w))):=by
 have hlen:=hf.len
 obtain ⟨x,hx,hk,e⟩:=sP ht hv
 generalize bR t v=k at hk e ⊢
 subst e
 have hE:w∈(vx (gR f t f.length) ((k:Int) * t.N+x)).Next:=hE
 rw [aGQ ht hk hx] at hE
 have hE:=aCn.1 hE
 have hop:∀ o∈tR f k,∀ y,inT t y->uZ (gR f t f.length) (o * t.N+y)/\((k < bR t (o * t.N+y)/\bR t (o * t.N+y) < pQ f k)\/(bR t (o * t.N+y) < k/\rM (dG f (bR t (o * t.N+y)))=true/\k < pQ f (bR t (o * t.N+y)))):=fun o ho y hy=>by
  have h1:=ops_in hlen.2 h hk o ho
  have h2:=(hf.ops k hk).2.2 o ho
  obtain ⟨j,rfl⟩:=Int.eq_ofNat_of_zero_le h2.1
  rw [aRi ht hy]
  exact ⟨aQa ht (by omega) hy,.inl ⟨by omega,by omega⟩⟩
 unfold nxF at hE
 split at hE
 ·rename_i hm
  obtain ⟨e,he,rfl⟩:=List.mem_map.1 hE
  have he1:=(List.mem_filter.1 (List.mem_filter.1 he).1).1
  have ho:=hf.one k hk hm
  exact hop _ (by rw [List.getD_eq_getElem?_getD,List.getElem?_eq_getElem (by omega)];exact List.getElem_mem _) _ (aLs ht he1).2.1
 ·split at hE
  ·rename_i h6
   rw [List.mem_singleton] at hE
   subst hE
   have hb:=hf.bnd k hk h6
   obtain ⟨r,e1,h1⟩:=aLW hlen.2 h hk
   rw [hb.1] at e1
   have e1:=Option.some.inj e1
   rw [←e1] at h1
   obtain ⟨j,hj⟩:=Int.eq_ofNat_of_zero_le hb.2.1
   rw [hj] at h1 hb ⊢
   rw [aRi ht hx]
   rcases h1 with h1|⟨g1,g2,g3,g4⟩
   ·omega
   ·rw [Int.toNat_natCast] at g3 g4
    exact ⟨aQa ht (by omega) hx,.inr ⟨by omega,g3,g4⟩⟩
  ·obtain ⟨o,ho,rfl⟩:=List.mem_map.1 hE
   exact hop o ho x hx
theorem aSi (hf:FOk f) (h:Tm b f) (ht:cM t) {F:Nat->Int} (h0:uZ (gR f t f.length) (F 0)) (hE:∀ n,(gg (gR f t f.length)).E (F n) (F (n+1))):
  (∀ n,uZ (gR f t f.length) (F n))/\∃ m,m < f.length/\rM (dG f m)=true/\(∀ N,∃ n,N<=n/\bR t (F n)=m)/\∃ N,∀ n,N<=n->m<=bR t (F n)/\bR t (F n) < pQ f m:=by
 have hlen:=hf.len
 have hin:∀ n,uZ (gR f t f.length) (F n):=fun n=>by
  induction n with
  |zero=>exact h0
  |succ n ih=>exact (aLw hf h ht ih (hE n)).1
 have hk:∀ n,bR t (F n) < f.length:=fun n=>(sP ht (hin n)).elim fun _ h=>h.2.1
 obtain ⟨m,h1,N,h2⟩:=aRh (fun n=>bR t (F n)) f.length ⟨0,fun n _=>hk n⟩
 refine ⟨hin,m,?_,?_,h1,?_⟩
 ·obtain ⟨n,_,e⟩:=h1 0
  rw [←e];exact hk n
 ·obtain ⟨n,hn,e⟩:=h1 (N+1)
  obtain ⟨n,rfl⟩:∃ j,n=j+1:=⟨n - 1,by omega⟩
  have g1:=h2 n (by omega)
  rcases (aLw hf h ht (hin n) (hE n)).2 with g|g
  ·omega
  ·rw [←e];exact g.2.1
 ·obtain ⟨n0,hn0,e0⟩:=h1 N
  refine ⟨n0,fun n hn=>?_⟩
  obtain ⟨d,rfl⟩:∃ d,n=n0+d:=⟨n - n0,by omega⟩
  have hm:m < f.length:=by rw [←e0];exact hk n0
  have hend:=(sO (by omega) h hm).2
  induction d with
  |zero=>simp only [Nat.add_zero];omega
  |succ d ih=>
   have ih:=ih (by omega)
   have g1:=h2 (n0+(d+1)) (by omega)
   have h5:=end_in (by omega) h hm ih.1 ih.2
   have hst:(gg (gR f t f.length)).E (F (n0+d)) (F (n0+(d+1))):=hE (n0+d)
   rcases (aLw hf h ht (hin (n0+d)) hst).2 with g|g
   ·exact ⟨g1,by omega⟩
   ·exact ⟨g1,by omega⟩
theorem play_good (hf:FOk f) (h:Tm b f) (ht:cM t) {F:Nat->Int} (h0:uZ (gR f t f.length) (F 0)) (hE:∀ n,(gg (gR f t f.length)).E (F n) (F (n+1))) {U:Type} {pr2:U->Int} {g:Nat->U}
  (hmono:∀ n n',bR t (F n)<=bR t (F n')->pr2 (g n)<=pr2 (g n')) (hpar:∀ n,rM (dG f (bR t (F n)))=true->pr2 (g n) % 2=if (dG f (bR t (F n))).Kind=7 then 1 else 0) {p:Int}
  (hp:aCm (gg (gR f t f.length)).pr p F):aCm pr2 p g:=by
 have hlen:=hf.len
 obtain ⟨hin,m,hm,hmf,h1,N,h2⟩:=aSi hf h ht h0 hE
 have hpr:∀ n,(gg (gR f t f.length)).pr (F n)=prF f (bR t (F n)):=fun n=>by
  obtain ⟨x,hx,hk,e⟩:=sP ht (hin n)
  show (vx (gR f t f.length) (F n)).Priority=_
  have hvx:vx (gR f t f.length) (F n)=aJP f t (bR t (F n)) x:=by
   have:=aGQ (f:=f) ht hk hx
   rw [←e] at this
   exact this
  rw [hvx]
  rfl
 have hm78:(dG f m).Kind=7\/(dG f m).Kind=8:=by unfold rM at hmf;simpa using hmf
 have hpm:prF f m=2 * aMp f m+(if (dG f m).Kind=7 then 1 else 0):=by unfold prF;rw [if_pos hm78]
 have hnm:=(hf.nst m hm).2
 have g1:aCm (gg (gR f t f.length)).pr (prF f m % 2) F:=by
  refine ⟨prF f m,rfl,fun N'=>?_,N,fun n hn=>?_⟩
  ·obtain ⟨n,hn,e⟩:=h1 N'
   exact ⟨n,hn,by rw [hpr,e]⟩
  ·rw [hpr]
   obtain ⟨g3,g4⟩:=h2 n hn
   obtain ⟨_,_,hk,_⟩:=sP ht (hin n)
   generalize bR t (F n)=k at g3 g4 hk
   by_cases e:k=m
   ·rw [e];exact Int.le_refl _
   ·by_cases hfx:(dG f k).Kind=7\/(dG f k).Kind=8
    ·have:=nst_lt hlen.2 h hmf (by omega) g4 hk
     rw [hpm]
     unfold prF
     rw [if_pos hfx]
     split<;>split<;>omega
    ·rw [hpm]
     unfold prF
     rw [if_neg hfx]
     split<;>omega
 have e:p=prF f m % 2:=aCm.one (fun _=>rfl) hp g1
 obtain ⟨n0,_,e0⟩:=h1 0
 refine ⟨pr2 (g n0),?_,fun N'=>?_,N,fun n hn=>?_⟩
 ·have h5:=hpar n0 (by rw [e0];exact hmf)
  rw [e0] at h5
  rw [h5,e,hpm]
  split<;>omega
 ·obtain ⟨n,hn,e1⟩:=h1 N'
  have a:=hmono n n0 (by rw [e1,e0];exact Nat.le_refl _)
  have b:=hmono n0 n (by rw [e1,e0];exact Nat.le_refl _)
  exact ⟨n,hn,by omega⟩
 ·exact hmono n0 n (by rw [e0];exact (h2 n hn).1)
end
end Gv
set_option linter.unusedVariables false
set_option linter.unusedSimpArgs false
namespace Gv
open Go
def mP (g:Nat->Bool):Nat->Nat
 |0=>0
 |i+1=>mP g i+(if g (i+1)=g i then 0 else 1)
theorem blkE_mono (g:Nat->Bool) {i j:Nat} (h:i<=j):mP g i<=mP g j:=by
 obtain ⟨d,rfl⟩:∃ d,j=i+d:=⟨j - i,by omega⟩
 clear h
 induction d with
 |zero=>exact Nat.le_refl _
 |succ d ih=>
  show _<=mP g (i+d)+_
  omega
theorem aPc (g:Nat->Bool) {i:Nat}:∀ d,(∀ k,k<=d->g (i+k)=g i)->mP g (i+d)=mP g i
 |0,_=>rfl
 |d+1,h=>by
  have ih:=aPc g d fun k hk=>h k (by omega)
  show mP g (i+d)+(if g (i+d+1)=g (i+d) then 0 else 1)=_
  rw [ih,if_pos (by rw [h d (by omega)];exact h (d+1) (Nat.le_refl _))]
  rfl
theorem aRj (g:Nat->Bool):∀ i,mP g i % 2=if g i=g 0 then 0 else 1
 |0=>by simp [mP]
 |i+1=>by
  have ih:=aRj g i
  show (mP g i+(if g (i+1)=g i then 0 else 1)) % 2=_
  cases h0:g 0<;>cases h1:g i<;>cases h2:g (i+1)<;>simp [h0,h1,h2] at ih ⊢<;>omega
section
variable {f:List aT} {b:List Int} {t:cN}
structure EqG (f:List aT) (t:cN) (N:List Int) (eg:List aO) (gr:Nat->Bool):Prop where
 len:eg.length=N.length
 srt:N.Pairwise (· < ·)
 inn:∀ v∈N,uZ (gR f t f.length) v
 own:∀ i,i < N.length->(vx eg (i:Int)).Owner=(vx (gR f t f.length) (N.getD i 0)).Owner
 nx:∀ i,i < N.length->∀ w,w∈(vx eg (i:Int)).Next<->∃ j:Nat,j < N.length/\w=(j:Int)/\N.getD j 0∈(vx (gR f t f.length) (N.getD i 0)).Next
 cl:∀ v∈N,∀ w∈(vx (gR f t f.length) v).Next,w∈N
 pr:∀ i,i < N.length->(vx eg (i:Int)).Priority=(mP (fun i=>gr (bR t (N.getD i 0))) i:Int)+(if gr (bR t (N.getD 0 0))=true then 0 else 1)
 par:∀ k,k < f.length->rM (dG f k)=true->gr k=decide ((dG f k).Kind=8)
theorem aCo {N:List Int} {i:Nat} (h:i < N.length):N.getD i 0∈N:=by
 rw [List.getD_eq_getElem?_getD,List.getElem?_eq_getElem h]
 exact List.getElem_mem _
theorem aQb {N:List Int} (hs:N.Pairwise (· < ·)) {i j:Nat} (hj:j < N.length) (h:i < j):N.getD i 0 < N.getD j 0:=by
 rw [List.getD_eq_getElem?_getD,List.getD_eq_getElem?_getD,List.getElem?_eq_getElem hj,List.getElem?_eq_getElem (by omega)]
 exact List.pairwise_iff_getElem.1 hs i j (by omega) hj h
theorem aJQ {v w:Int} (h:v<=w):bR t v<=bR t w:=by
 unfold bR
 exact Nat.div_le_div_right (by omega)
theorem eq_good (hf:FOk f) (hT:Tm b f) (ht:cM t) {N:List Int} {eg:List aO} {gr:Nat->Bool} (h:EqG f t N eg gr) {p:Int} {F g:Nat->Int} (hR:∀ n,∃ k:Nat,k < N.length/\g n=(k:Int)/\F n=N.getD k 0)
  (hE:∀ n,(gg (gR f t f.length)).E (F n) (F (n+1))) (hg:aCm (gg (gR f t f.length)).pr p F):aCm (gg eg).pr p g:=by
 have hk:∀ n,∃ k:Nat,k < N.length/\g n=(k:Int)/\F n=N.getD k 0:=hR
 obtain ⟨k0,hk0,_,e0⟩:=hk 0
 refine play_good hf hT ht (by rw [e0];exact h.inn _ (aCo hk0)) hE (g:=g) (pr2:=(gg eg).pr) (fun n n' hn=>?_) (fun n hn=>?_) hg
 ·obtain ⟨k,hk1,hk2,hk3⟩:=hk n
  obtain ⟨k',hk1',hk2',hk3'⟩:=hk n'
  show (vx eg (g n)).Priority<=(vx eg (g n')).Priority
  rw [hk2,hk2',h.pr k hk1,h.pr k' hk1']
  rw [hk3,hk3'] at hn
  by_cases hkk:k<=k'
  ·have:=blkE_mono (fun i=>gr (bR t (N.getD i 0))) hkk
   omega
  ·
   have hlt:=aQb h.srt hk1 (show k' < k by omega)
   have hnode:=aJQ (t:=t) (Int.le_of_lt hlt)
   have hsame:∀ d,d<=k - k'->bR t (N.getD (k'+d) 0)=bR t (N.getD k' 0):=fun d hd=>by
    have a1:bR t (N.getD k' 0)<=bR t (N.getD (k'+d) 0):=by
     by_cases hd0:d=0
     ·subst hd0;exact Nat.le_refl _
     ·exact aJQ (Int.le_of_lt (aQb h.srt (by omega) (by omega)))
    have a2:bR t (N.getD (k'+d) 0)<=bR t (N.getD k 0):=by
     by_cases hd0:k'+d=k
     ·rw [hd0];exact Nat.le_refl _
     ·exact aJQ (Int.le_of_lt (aQb h.srt hk1 (by omega)))
    omega
   have:=aPc (fun i=>gr (bR t (N.getD i 0))) (i:=k') (k - k') fun d hd=>by rw [hsame d hd]
   rw [show k'+(k - k')=k by omega] at this
   omega
 ·obtain ⟨k,hk1,hk2,hk3⟩:=hk n
  show (vx eg (g n)).Priority % 2=_
  rw [hk2,h.pr k hk1]
  rw [hk3] at hn ⊢
  obtain ⟨_,_,hkf,_⟩:=sP ht (h.inn _ (aCo hk1))
  have hg1:=h.par _ hkf hn
  have h2:=aRj (fun i=>gr (bR t (N.getD i 0))) k
  have h78:(dG f (bR t (N.getD k 0))).Kind=7\/(dG f (bR t (N.getD k 0))).Kind=8:=by unfold rM at hn;simpa using hn
  generalize mP (fun i=>gr (bR t (N.getD i 0))) k=B at h2 ⊢
  generalize gr (bR t (N.getD 0 0))=z at h2 ⊢
  generalize gr (bR t (N.getD k 0))=y at h2 hg1
  rcases h78 with h7|h7
  ·rw [decide_eq_false (by omega)] at hg1
   subst hg1
   rw [if_pos h7]
   cases z<;>simp at h2 ⊢<;>omega
  ·rw [decide_eq_true h7] at hg1
   subst hg1
   rw [if_neg (show ¬ (dG f (bR t (N.getD k 0))).Kind=7 by omega)]
   cases z<;>simp at h2 ⊢<;>omega
theorem eq_won (hf:FOk f) (hT:Tm b f) (ht:cM t) {N:List Int} {eg:List aO} {gr:Nat->Bool} (h:EqG f t N eg gr) {p q:Int} (hp:p=0\/p=1) (hq:q=0\/q=1) {W W':Int->Prop} {σ τ:Int->Int}
  (h0:Reg (gg (gR f t f.length)) (uZ (gR f t f.length)) p W σ) (h1:Reg (gg eg) (uZ eg) q W' τ) {i:Nat} (hi:i < N.length) (hx:W (N.getD i 0)) (hy:W' (i:Int)):p=q:=by
 refine Classical.byContradiction fun hne=>?_
 refine lockG (R:=fun v (w:Int)=>∃ k:Nat,k < N.length/\w=(k:Int)/\v=N.getD k 0) (A:=uZ (gR f t f.length)) (A':=uZ eg) (fun v w hR=>?_) (fun F g hR hE hE' hg=>?_) h0 h1 hne ⟨i,hi,rfl,rfl⟩ hx hy
 ·obtain ⟨k,hk,rfl,rfl⟩:=hR
  have hown:=h.own k hk
  refine ⟨hown.symm,?_,fun v' hE=>?_,fun w' hE=>?_⟩
  ·show (vx _ _).Owner=p\/(vx _ _).Owner=q
   have:(vx (gR f t f.length) (N.getD k 0)).Owner=0\/(vx (gR f t f.length) (N.getD k 0)).Owner=1:=by
    obtain ⟨x,hx,hk',e⟩:=sP ht (h.inn _ (aCo hk))
    rw [e,aGQ ht hk' hx]
    show aMq _=0\/aMq _=1
    unfold aMq
    split<;>simp
   omega
  ·have hE:v'∈(vx (gR f t f.length) (N.getD k 0)).Next:=hE
   have hm:=h.cl _ (aCo hk) v' hE
   obtain ⟨j,hj,e⟩:=List.getElem_of_mem hm
   have e':N.getD j 0=v':=by rw [List.getD_eq_getElem?_getD,List.getElem?_eq_getElem hj];exact e
   refine ⟨h.inn _ hm,(j:Int),(h.nx k hk _).2 ⟨j,hj,rfl,by rw [e'];exact hE⟩,j,hj,rfl,e'.symm⟩
  ·obtain ⟨j,hj,rfl,h2⟩:=(h.nx k hk _).1 hE
   exact ⟨⟨by omega,by rw [h.len];omega⟩,N.getD j 0,h2,j,hj,rfl,rfl⟩
 ·exact eq_good hf hT ht h hR hE hg
end
theorem one_won {g:List aO} (hg:GOk g) {p q:Int} (hp:p=0\/p=1) (hq:q=0\/q=1) {W W':Int->Prop} {σ τ:Int->Int} (h0:Reg (gg g) (uZ g) p W σ) (h1:Reg (gg g) (uZ g) q W' τ) {v:Int} (hx:W v) (hy:W' v):p=q:=by
 refine Classical.byContradiction fun hne=>?_
 refine lockstep (R:=fun x y:Int=>x=y) (A:=uZ g) (A':=uZ g) (fun x y e _ _=>?_) h0 h1 hne rfl hx hy
 subst e
 have ho:=hg.own x
 refine ⟨rfl,rfl,?_,fun x' hE=>⟨hg.nx x x' hE,x',hE,rfl⟩,fun x' hE=>⟨hg.nx x x' hE,x',hE,rfl⟩⟩
 show (vx g x).Owner=p\/(vx g x).Owner=q
 omega
end Gv
set_option linter.unusedVariables false
set_option linter.unusedSimpArgs false
namespace Gv
open Go
def eqA (e:List bB) (i:Nat):bB:=e.getD i default
def grE (e:List bB) (i:Nat):Bool:=(eqA e i).Greatest
theorem ixE {e:List bB} {i:Nat} (h:i < e.length):ix e (i:Int)=some (eqA e i):=by
 rw [bS h]
 unfold eqA
 rw [List.getD_eq_getElem?_getD,List.getElem?_eq_getElem h]
 rfl
def aLx (e:List bB):List Int:=(List.range e.length).map fun i:Nat=>(mP (grE e) i:Int)
theorem aKM (g:Nat->Bool):∀ i,mP g i<=i
 |0=>Nat.le_refl _
 |i+1=>by
  have:=aKM g i
  show mP g i+(if g (i+1)=g i then 0 else 1)<=i+1
  split<;>omega
theorem aPd (e:List bB) (h:e.length<=1000):oR e=some (aLx e):=by
 have key:=dO (step:=fun s:List Int × Int × Int=>gN e s.1 s.2.1 s.2.2) e.length (fun i (q:List Int × Int)=>(q.1,q.2,(i:Int))) (fun i q=>q.1=(List.range i).map (fun i:Nat=>(mP (grE e) i:Int))/\q.2=(mP (grE e) (i - 1):Int)) (fun r=>r=aLx e) (fun i q hi hI=>?_) (fun q hI=>?_) e.length 0 ([],0) (by omega) ⟨rfl,rfl⟩
 ·obtain ⟨r,e1,e2⟩:=key
  have e1':loop (fun s:List Int × Int × Int=>gN e s.1 s.2.1 s.2.2) ([],0,0)=some r:=e1
  unfold oR
  rw [e1',aA,e2]
  rfl
 ·obtain ⟨o,b⟩:=q
  obtain ⟨h1,h2⟩:=hI
  simp only at h1 h2
  subst h1
  subst h2
  have hj:∀ c:Int,c=(mP (grE e) i:Int)->∃ q:List Int × Int,nV ((List.range i).map (fun i:Nat=>(mP (grE e) i:Int))) (i:Int) c=some (.inl (q.1,q.2,((i+1:Nat):Int)))/\q.1=(List.range (i+1)).map (fun i:Nat=>(mP (grE e) i:Int))/\q.2=(mP (grE e) (i+1 - 1):Int):=fun c hc=>by
   unfold nV
   rw [cG (by simp [iE];omega),aA,bQ hi (by omega)]
   refine ⟨(_,c),rfl,?_,by rw [hc];rfl⟩
   rw [List.range_succ,List.map_append,hc]
   rfl
  show ∃ q:List Int × Int,gN e _ (mP (grE e) (i - 1):Int) (i:Int)=some (.inl (q.1,q.2,((i+1:Nat):Int)))/\_
  unfold gN rN
  rw [if_pos (bV hi),ixE hi,aA]
  by_cases h0:i=0
  ·subst h0
   rw [if_neg (by simp),if_neg (by simp)]
   exact hj _ rfl
  ·obtain ⟨k,rfl⟩:∃ k,i=k+1:=⟨i - 1,by omega⟩
   have hle:=aKM (grE e) k
   rw [if_pos (by rw [decide_eq_true_iff];omega),bT (x:=((k+1:Nat):Int) - 1) (by omega) (by omega),show (((k+1:Nat):Int) - 1)=((k:Nat):Int) by omega,ixE (show k < e.length by omega),aA,show k+1 - 1=k from rfl,bT (x:=(mP (grE e) k:Int)+1) (by omega) (by omega)]
   have hs:mP (grE e) (k+1)=mP (grE e) k+(if grE e (k+1)=grE e k then 0 else 1):=rfl
   by_cases hg:grE e (k+1)=grE e k
   ·have hg':(eqA e (k+1)).Greatest=(eqA e k).Greatest:=hg
    rw [hg',if_neg (by simp)]
    exact hj _ (by rw [hs,if_pos hg];omega)
   ·have hg':(eqA e (k+1)).Greatest≠(eqA e k).Greatest:=hg
    rw [if_pos (by simpa using hg')]
    exact hj _ (by rw [hs,if_neg hg];omega)
 ·refine ⟨q.1,?_,hI.1⟩
  show gN e q.1 q.2 (e.length:Int)=_
  unfold gN
  rw [if_neg (by simp)]
theorem fit_eq (e:List bB) (h0:1<=e.length) (h:e.length<=1000):aEP e=some (decide (mP (grE e) (e.length - 1) < 9)):=by
 unfold aEP aFr
 have hl:(aLx e).length=e.length:=by unfold aLx;simp
 rw [aPd e h,aA,hl,bT (x:=(e.length:Int) - 1) (by omega) (by omega),show ((e.length:Int) - 1)=((e.length - 1:Nat):Int) by omega,bS (by omega),aA,aA]
 congr 1
 unfold aLx
 rw [List.getElem_map,List.getElem_range]
 exact decide_eq_decide.2 (by omega)
def vtE (e:List bB) (i:Nat):aO:=⟨if (eqA e i).All=true then 1 else 0,(mP (grE e) i:Int)+(if grE e 0=true then 0 else 1),(eqA e i).Terms⟩
def wB (e:List bB):List aO:=(List.range e.length).map (vtE e)
theorem game_eqE (e:List bB) (h:e.length<=1000) (hT:∀ i,i < e.length->(eqA e i).Terms.length<=100000):aJB e=some (wB e):=by
 have hl:(aLx e).length=e.length:=by unfold aLx;simp
 have key:=dO (step:=fun s:List aO × Int=>aAe e (aLx e) s.1 s.2) e.length (fun i (q:List aO)=>(q,(i:Int))) (fun i q=>q=(List.range i).map (vtE e)) (fun r=>r=wB e) (fun i q hi hI=>?_) (fun q hI=>?_) e.length 0 [] (by omega) rfl
 ·obtain ⟨r,e1,e2⟩:=key
  have e1':loop (fun s:List aO × Int=>aAe e (aLx e) s.1 s.2) ([],0)=some r:=e1
  unfold aJB
  rw [aPd e h,aA,e1',aA,e2]
  rfl
 ·subst hI
  refine ⟨_,?_,rfl⟩
  show aAe e (aLx e) ((List.range i).map (vtE e)) (i:Int)=_
  have hle:=aKM (grE e) i
  have hb:(aLx e)[i]'(by omega)=(mP (grE e) i:Int):=by unfold aLx;rw [List.getElem_map,List.getElem_range]
  unfold aAe bL
  rw [if_pos (bV hi),ixE hi,aA,bS (by omega),hb,aA,show ix e 0=ix e ((0:Nat):Int) from rfl,ixE (by omega),aA,aAX,aA,aAX,aA,cG (by have:=hT i hi;simp only [List.length_nil];unfold iE;omega),aA,aA,List.nil_append,cG (by simp [iE];omega),aA,bQ hi (by omega),List.range_succ,List.map_append]
  have hw:∀ (g:Bool) (B:Nat),B<=1000->wr ((B:Int)+(if (!g)=true then 1 else 0))=(B:Int)+(if g=true then 0 else 1):=fun g B hB=>by
   cases g
   ·show wr ((B:Int)+1)=_
    rw [bT (by omega) (by omega)]
    rfl
   ·show wr ((B:Int)+0)=_
    rw [bT (by omega) (by omega)]
    rfl
  rw [hw _ _ (by omega)]
  rfl
 ·refine ⟨q,?_,hI⟩
  show aAe e (aLx e) q (e.length:Int)=_
  unfold aAe
  rw [if_neg (by simp)]
theorem gmE_vx {e:List bB} {i:Nat} (h:i < e.length):vx (wB e) (i:Int)=vtE e i:=by
 unfold vx wB
 rw [Int.toNat_natCast,List.getD_eq_getElem?_getD,List.getElem?_map,List.getElem?_range h]
 rfl
structure EqOk (e:List bB):Prop where
 len:1<=e.length/\e.length<=120
 fit:mP (grE e) (e.length - 1) < 9
 tm:∀ i,i < e.length->(eqA e i).Terms.Pairwise (· < ·)/\∀ w∈(eqA e i).Terms,0<=w/\w < (e.length:Int)
theorem srt_len {l:List Int} {n:Nat} (h:l.Pairwise (· < ·)) (hr:∀ w∈l,0<=w/\w < (n:Int)):l.length<=n:=by
 have:=List.Nodup.length_le_of_subset (l₂:=(List.range n).map fun (i:Nat)=>(i:Int)) (h.imp fun h e=>by omega) (fun w hw=>by
  have:=hr w hw
  rw [List.mem_map]
  exact ⟨w.toNat,List.mem_range.2 (by omega),by omega⟩)
 simpa using this
theorem gmE_ok {e:List bB} (h:EqOk e):GOk (wB e)/\1<=(wB e).length/\(wB e).length=e.length:=by
 have hl:=h.len
 have hg:(wB e).length=e.length:=by unfold wB;simp
 have hdef:∀ v:Int,vx (wB e) v=default\/∃ i,i < e.length/\vx (wB e) v=vtE e i:=by
  intro v
  by_cases hv:v.toNat < e.length
  ·refine .inr ⟨v.toNat,hv,?_⟩
   have:=gmE_vx hv
   unfold vx at this ⊢
   rw [Int.toNat_natCast] at this
   exact this
  ·refine .inl ?_
   unfold vx
   rw [List.getD_eq_getElem?_getD,List.getElem?_eq_none (by rw [hg];omega)]
   rfl
 refine ⟨⟨by omega,fun v=>?_,fun v=>?_,fun v=>?_,fun v=>?_⟩,by omega,hg⟩
 ·rcases hdef v with q|⟨i,_,q⟩<;>rw [q]
  ·exact .inl rfl
  ·show (if (eqA e i).All=true then (1:Int) else 0)=0\/(if (eqA e i).All=true then (1:Int) else 0)=1
   split<;>simp
 ·rcases hdef v with q|⟨i,hi,q⟩<;>rw [q]
  ·exact ⟨Int.le_refl _,by decide⟩
  ·have:=aKM (grE e) i
   show 0<=(mP (grE e) i:Int)+_/\(mP (grE e) i:Int)+_<=1000000
   split<;>omega
 ·rcases hdef v with q|⟨i,hi,q⟩<;>rw [q]
  ·intro w hw;cases hw
  ·intro w hw
   rw [hg]
   exact (h.tm i hi).2 w hw
 ·rcases hdef v with q|⟨i,hi,q⟩<;>rw [q]
  ·exact List.nodup_nil
  ·exact (h.tm i hi).1.imp fun h e=>by omega
end Gv
set_option linter.unusedVariables false
set_option linter.unusedSimpArgs false
namespace Gv
open Go
theorem aJR {k q:Int} {v:Bool}:∀ {m:List (Int × Bool)},mF (wD m k v) q=if q=k then some v else mF m q
 |[]=>by simp [wD,mF]
 |(x,u)::m=>by
  have ih:=aJR (k:=k) (q:=q) (v:=v) (m:=m)
  unfold wD
  by_cases e:k=x
  ·subst e
   rw [if_pos rfl,mF,mF]
   by_cases h:q=k
   ·rw [if_pos h,if_pos h]
   ·rw [if_neg h,if_neg h,if_neg h]
  ·rw [if_neg e,mF,mF,ih]
   by_cases h:q=x
   ·subst h
    rw [if_pos rfl,if_pos rfl,if_neg (fun h=>e h.symm)]
   ·rw [if_neg h,if_neg h]
section
variable {f:List aT} {t:cN}
inductive RchF (G:List aO) (s:Int):Int->Prop
 |base:RchF G s s
 |step {v w:Int}:RchF G s v->w∈(vx G v).Next->RchF G s w
def wC (t:cN) (v:Int):List Int:=[v / t.N,v % t.N]
def prP (t:cN) (v:Int):Int × Int:=(v / t.N,v % t.N)
theorem qu_pos {a b:Int} (h:0<=a) (h':a<=1000000) (hb:1<=b):qu a b=some (a / b)/\rm a b=some (a % b):=by
 have h1:a / b<=a:=Int.ediv_le_self _ h
 have h2:0<=a / b:=Int.ediv_nonneg h (by omega)
 unfold qu rm
 rw [if_neg (by omega),if_neg (by omega),Int.tdiv_eq_ediv_of_nonneg h,Int.tmod_eq_emod_of_nonneg h,bT (by omega) (by omega)]
 exact ⟨rfl,rfl⟩
theorem key_eq (ht:cM t) {v:Int} (h:0<=v) (h':v<=1000000):wr (wr ((v / t.N) * t.N)+v % t.N)=v:=by
 have h1:=ht.1
 have h2:=Int.mul_ediv_add_emod v t.N
 have h3:=Int.emod_nonneg v (show t.N≠0 by omega)
 have h4:=Int.emod_lt_of_pos v (show 0 < t.N by omega)
 rw [Int.mul_comm] at h2
 rw [bT (x:=v / t.N * t.N) (by omega) (by omega),h2,bT (by omega) (by omega)]
theorem posT_eq (ht:cM t) {G:List aO} (hg:GOk G) {v:Int} (hv:uZ G v):tX G t.N (wC t v)=some ((vx G v).Next.map (wC t)):=by
 have h1:=ht.1
 have hgl:=hg.len
 have hnl:(vx G v).Next.length<=G.length:=aGN (x:=⟨G,[],[]⟩) hg v
 have key:=aDw (step:=fun s:List (List Int) × Int=>jR t.N (vx G v) s.1 s.2) (vx G v).Next (wC t) (fun r=>r) (fun k out w hk ho hw=>by
  show jR t.N (vx G v) out (k:Int)=_
  have hr:=hg.nx v w (ix_mem hw)
  obtain ⟨q1,q2⟩:=qu_pos (a:=w) (b:=t.N) hr.1 (by omega) (by omega)
  unfold jR
  rw [if_pos (bV hk),hw,aA,q1,aA,q2,aA,cG (by simp only [List.length_singleton];unfold iE;omega),aA,bQ hk (by omega)]
  rfl) (fun out=>by
  show jR t.N (vx G v) out ((vx G v).Next.length:Int)=_
  unfold jR
  rw [if_neg (by simp)])
 unfold tX
 rw [show ix (wC t v) 0=some (v / t.N) from rfl,aA,show ix (wC t v) 1=some (v % t.N) from rfl,aA,key_eq ht hv.1 (by have:=hv.2;omega),ixV hv.1 hv.2,aA,key,aA]
 rfl
def SeenB (m:List (Int × Bool)) (V:List Int):Prop:=∀ w,(mF m w).getD false=decide (w∈V)
theorem bfs_row (ht:cM t) {N:List Int} (hN:∀ w∈N,0<=w/\w<=1000000) (hl:N.length<=100000) {V:List Int} (hV:V.length<=100000) {m:List (Int × Bool)} (hm:SeenB m V):
  ∃ m',loop (fun s:List (List Int) × List (Int × Bool) × Int=>gF t (N.map (wC t)) s.1 s.2.1 s.2.2) (V.map (wC t),m,0)=some ((N.foldl mO V).map (wC t),m')/\SeenB m' (N.foldl mO V):=by
 have key:=dO (step:=fun s:List (List Int) × List (Int × Bool) × Int=>gF t (N.map (wC t)) s.1 s.2.1 s.2.2) N.length (fun i (q:List (List Int) × List (Int × Bool))=>(q.1,q.2,(i:Int)))
  (fun i q=>q.1=((N.take i).foldl mO V).map (wC t)/\SeenB q.2 ((N.take i).foldl mO V)/\((N.take i).foldl mO V).length<=V.length+i)
  (fun r=>r.1=(N.foldl mO V).map (wC t)/\SeenB r.2 (N.foldl mO V)) (fun i q hi hI=>?_) (fun q hI=>?_) N.length 0 (V.map (wC t),m) (by omega) ⟨rfl,hm,by simp⟩
 ·obtain ⟨r,e1,e2,e3⟩:=key
  have e1':loop (fun s:List (List Int) × List (Int × Bool) × Int=>gF t (N.map (wC t)) s.1 s.2.1 s.2.2) (V.map (wC t),m,0)=some r:=e1
  exact ⟨r.2,by rw [e1',←e2],e3⟩
 ·obtain ⟨P,m1⟩:=q
  obtain ⟨h1,h2,h3⟩:=hI
  simp only at h1 h2 h3
  subst h1
  generalize hA:(N.take i).foldl mO V=A at h2 h3
  have hw:=hN _ (List.getElem_mem hi)
  have htk:(N.take (i+1)).foldl mO V=mO A N[i]:=by rw [List.take_succ_eq_append_getElem hi,List.foldl_append,hA];rfl
  rw [htk]
  show ∃ q:List (List Int) × List (Int × Bool),gF t (N.map (wC t)) (A.map (wC t)) m1 (i:Int)=some (.inl (q.1,q.2,((i+1:Nat):Int)))/\_
  have hj:∀ P m,lX (i:Int) P m=some (.inl (P,m,((i+1:Nat):Int))):=fun P m=>by
   unfold lX
   rw [bQ hi (by omega)]
  unfold gF
  rw [List.length_map,if_pos (bV hi),bS (by rw [List.length_map];exact hi),List.getElem_map,aA,show ix (wC t N[i]) 0=some (N[i] / t.N) from rfl,aA,show ix (wC t N[i]) 1=some (N[i] % t.N) from rfl,aA,key_eq ht hw.1 hw.2,h2]
  unfold mO
  by_cases hin:N[i]∈A
  ·rw [if_neg (by simp [hin]),hj,if_pos hin]
   exact ⟨(_,_),rfl,rfl,h2,by omega⟩
  ·rw [if_pos (by simp [hin]),aA,cG (by simp only [List.length_map,List.length_singleton];unfold iE;omega),aA,hj,if_neg hin]
   refine ⟨(_,_),rfl,by simp,fun w=>?_,by rw [List.length_append,List.length_singleton];omega⟩
   simp only
   rw [aJR]
   by_cases e:w=N[i]
   ·rw [if_pos e,Option.getD_some,decide_eq_true (by simp [e])]
   ·rw [if_neg e,h2 w]
    exact decide_eq_decide.2 (by simp [e])
 ·refine ⟨(q.1,q.2),?_,?_,?_⟩
  ·show gF t (N.map (wC t)) q.1 q.2 (N.length:Int)=_
   unfold gF
   rw [List.length_map,if_neg (by simp)]
  ·have:=hI.1;rw [List.take_length] at this;exact this
  ·have:=hI.2.1;rw [List.take_length] at this;exact this
theorem bfs_all (ht:cM t) {G:List aO} (hg:GOk G) {s:Int}:∀ (n i:Nat) (V:List Int) (m:List (Int × Bool)),i<=V.length->G.length+1<=n+i->V.Nodup->s∈V->(∀ v∈V,RchF G s v/\uZ G v)->SeenB m V->(∀ j,j < i->∀ w∈(vx G (V.getD j 0)).Next,w∈V)->
  ∃ V':List Int,loop (fun q:List (List Int) × List (Int × Bool) × Int=>gO t G q.1 q.2.1 q.2.2) (V.map (wC t),m,(i:Int))=some (V'.map (wC t))/\V'.Nodup/\s∈V'/\(∀ v∈V',RchF G s v/\uZ G v)/\(V'.length<=120->∀ v∈V',∀ w∈(vx G v).Next,w∈V'):=by
 intro n
 induction n with
 |zero=>
  intro i V m hi hn hnd hs hr hm hc
  exfalso
  have:=List.Nodup.length_le_of_subset (l₂:=(List.range G.length).map fun (i:Nat)=>(i:Int)) hnd (fun w hw=>by
   have:=(hr w hw).2
   unfold uZ at this
   rw [List.mem_map]
   exact ⟨w.toNat,List.mem_range.2 (by omega),by omega⟩)
  rw [List.length_map,List.length_range] at this
  omega
 |succ n ih=>
  intro i V m hi hn hnd hs hr hm hc
  have hgl:=hg.len
  have hVl:V.length<=G.length:=by
   have:=List.Nodup.length_le_of_subset (l₂:=(List.range G.length).map fun (i:Nat)=>(i:Int)) hnd (fun w hw=>by
    have:=(hr w hw).2
    unfold uZ at this
    rw [List.mem_map]
    exact ⟨w.toNat,List.mem_range.2 (by omega),by omega⟩)
   rwa [List.length_map,List.length_range] at this
  by_cases hend:i < V.length/\V.length<=120
  ·obtain ⟨h1,h2⟩:=hend
   have hvi:V.getD i 0=V[i]:=by rw [List.getD_eq_getElem?_getD,List.getElem?_eq_getElem h1];rfl
   have hv:=hr _ (List.getElem_mem h1)
   have hnl:(vx G V[i]).Next.length<=G.length:=aGN (x:=⟨G,[],[]⟩) hg _
   obtain ⟨m',e1,hm'⟩:=bfs_row ht (N:=(vx G V[i]).Next) (fun w hw=>by have:=hg.nx _ w hw;omega) (by omega) (V:=V) (by omega) hm
   obtain ⟨f1,f2,f3,f4⟩:=aIT (vx G V[i]).Next V hnd
   have hst:gO t G (V.map (wC t)) m (i:Int)=some (.inl (((vx G V[i]).Next.foldl mO V).map (wC t),m',((i+1:Nat):Int))):=by
    unfold gO lE
    rw [List.length_map,if_pos (bV h1),if_pos (by rw [decide_eq_true_iff];omega),bS (by rw [List.length_map];exact h1),List.getElem_map,aA,posT_eq ht hg hv.2,aA,e1,aA]
    unfold yV tI
    rw [bQ h1 (by omega)]
   have hpre:∀ j,j < V.length->((vx G V[i]).Next.foldl mO V).getD j 0=V.getD j 0:=fun j hj=>by
    obtain ⟨r,e⟩:=f1
    rw [←e,List.getD_eq_getElem?_getD,List.getD_eq_getElem?_getD,List.getElem?_append_left hj]
   obtain ⟨V',g1,g2⟩:=ih (i+1) ((vx G V[i]).Next.foldl mO V) m' (by have:=f1.length_le;omega) (by omega) f2 ((f3 s).2 (.inl hs)) (fun v hv'=>by
     rcases (f3 v).1 hv' with h|h
     ·exact hr v h
     ·exact ⟨.step hv.1 h,hg.nx _ v h⟩) hm' (fun j hj w hw=>by
     rw [hpre j (by omega)] at hw
     by_cases hji:j < i
     ·exact (f3 w).2 (.inl (hc j hji w hw))
     ·obtain rfl:j=i:=by omega
      rw [hvi] at hw
      exact (f3 w).2 (.inr hw))
   refine ⟨V',?_,g2⟩
   rw [fY (s':=(((vx G V[i]).Next.foldl mO V).map (wC t),m',((i+1:Nat):Int))) hst]
   exact g1
  ·refine ⟨V,fP ?_,hnd,hs,hr,fun hl v hv w hw=>?_⟩
   ·show gO t G (V.map (wC t)) m (i:Int)=_
    unfold gO lE
    rw [List.length_map]
    by_cases h1:i < V.length
    ·rw [if_pos (bV h1),if_neg (by rw [decide_eq_true_iff];omega)]
    ·rw [if_neg (by rw [decide_eq_true_iff];omega),if_neg (by simp)]
   ·obtain ⟨j,hj,rfl⟩:=List.getElem_of_mem hv
    have:V.getD j 0=V[j]:=by rw [List.getD_eq_getElem?_getD,List.getElem?_eq_getElem hj];rfl
    exact hc j (by omega) w (by rw [this];exact hw)
end
end Gv
set_option linter.unusedVariables false
set_option linter.unusedSimpArgs false
namespace Gv
open Go
section
variable {f:List aT} {b:List Int} {t:cN}
noncomputable def ugF (f:List aT) (k:Nat):Bool:=(jN f (k:Int)).getD false
theorem ug_spec (hf:f.length<=30) (h:Tm b f) {k:Nat} (hk:k < f.length):jN f (k:Int)=some (ugF f k)/\(rM (dG f k)=true->ugF f k=decide ((dG f k).Kind=8)):=by
 have hj:∀ (i:Nat),i<=k->∀ v:Bool,(∃ s',gE f (i:Int) v=some (.inl s')/\(-1<=s'/\s'<=(k:Int))/\(s'+1).toNat < ((i:Int)+1).toNat)\/∃ r,gE f (i:Int) v=some (.inr r)/\True:=fun i hi v=>by
  unfold gE
  cases v with
  |true=>
   right
   rw [if_pos rfl,kH (by omega),aA]
   exact ⟨_,rfl,trivial⟩
  |false=>
   left
   rw [if_neg (by simp),bT (x:=(i:Int) - 1) (by omega) (by omega)]
   exact ⟨(i:Int) - 1,rfl,⟨by omega,by omega⟩,by omega⟩
 have key:∃ r,jN f (k:Int)=some r/\(rM (dG f k)=true->r=decide ((dG f k).Kind=8)):=by
  have hend:=sO (by omega) h hk
  by_cases hx:rM (dG f k)=true
  ·refine ⟨decide ((dG f k).Kind=8),?_,fun _=>rfl⟩
   have hfx:(dG f k).Kind=7\/(dG f k).Kind=8:=by unfold rM at hx;simpa using hx
   unfold jN
   rw [fP (r:=.inr (decide ((dG f k).Kind=8))) (by
    show dA f (k:Int) (k:Int)=_
    unfold dA
    rw [if_pos (by simp),kH hk,aA,rJ,aA,if_pos (by simpa using hfx),hend.1,aA,decide_eq_true (by omega)]
    unfold gE
    rw [if_pos rfl,kH hk,aA]
    by_cases h8:(dG f k).Kind=8<;>simp [h8]),aA]
  ·have key:=lQ (step:=fun s:Int=>dA f (k:Int) s) (fun s=>-1<=s/\s<=(k:Int)) (fun s=>(s+1).toNat) (fun _=>True) (fun s hs=>?_) (s:=(k:Int)) (by omega)
   ·obtain ⟨r,e1,_⟩:=key
    unfold jN
    rw [e1,aA]
    cases r with
    |inl r=>exact ⟨false,rfl,fun h=>absurd h hx⟩
    |inr r=>exact ⟨r,rfl,fun h=>absurd h hx⟩
   ·by_cases h0:s=-1
    ·subst h0
     right
     refine ⟨.inl (),?_,trivial⟩
     unfold dA
     rw [if_neg (by simp)]
    ·obtain ⟨i,rfl⟩:∃ i:Nat,s=(i:Int):=⟨s.toNat,by omega⟩
     have e1:=(sO (by omega) h (show i < f.length by omega)).1
     show (∃ s',dA f (k:Int) (i:Int)=some (.inl s')/\_)\/∃ r,dA f (k:Int) (i:Int)=some (.inr r)/\_
     unfold dA
     rw [if_pos (by simp),kH (by omega),aA,rJ,aA,e1,aA]
     split<;>exact hj i (by omega) _
 obtain ⟨r,e,h2⟩:=key
 unfold ugF
 rw [e]
 exact ⟨rfl,h2⟩
theorem rw_lt (ht:cM t) {a c:Int} (ha:0<=a) (hc:0<=c):jU (wC t a) (wC t c)=iLt a c:=by
 have h1:=ht.1
 have e1:wC t a=R2 (prP t a):=rfl
 have e2:wC t c=R2 (prP t c):=rfl
 rw [e1,e2,qLt_row]
 have a1:=Int.mul_ediv_add_emod a t.N
 have a2:=Int.emod_nonneg a (show t.N≠0 by omega)
 have a3:=Int.emod_lt_of_pos a (show 0 < t.N by omega)
 have c1:=Int.mul_ediv_add_emod c t.N
 have c2:=Int.emod_nonneg c (show t.N≠0 by omega)
 have c3:=Int.emod_lt_of_pos c (show 0 < t.N by omega)
 have key:∀ {x y:Int},x < y->t.N * x+t.N<=t.N * y:=fun {x y} h=>by
  have:=Int.mul_le_mul_of_nonneg_left (show x+1<=y by omega) (show 0<=t.N by omega)
  rw [Int.mul_add,Int.mul_one] at this
  exact this
 have hq:qLt (prP t a) (prP t c)=true<->iLt a c=true:=by
  rw [qLt_iff]
  unfold iLt prP
  rw [decide_eq_true_iff]
  simp only
  constructor
  ·rintro (h|⟨h,h'⟩)
   ·have:=key h
    omega
   ·rw [h] at a1
    omega
  ·intro h
   rcases Int.lt_trichotomy (a / t.N) (c / t.N) with g|g|g
   ·exact .inl g
   ·refine .inr ⟨g,?_⟩
    rw [g] at a1
    omega
   ·have:=key g
    omega
 cases h1:qLt (prP t a) (prP t c) with
 |true=>rw [hq.1 h1]
 |false=>
  cases h2:iLt a c with
  |false=>rfl
  |true=>rw [hq.2 h2] at h1;cases h1
theorem rows_srt (ht:cM t) {V:List Int} (hV:∀ v∈V,0<=v) (hl:V.length<=100000):aBP (V.map (wC t))=some ((srt iLt V).map (wC t)):=by
 unfold aBP
 rw [if_pos ⟨by rw [List.length_map];unfold iE;omega,fun x hx=>by
  obtain ⟨v,_,rfl⟩:=List.mem_map.1 hx
  show 2 < iE
  unfold iE;omega⟩]
 congr 1
 unfold srt
 exact (List.map_mergeSort (r:=fun a b=>!iLt b a) (s:=fun a b=>!jU b a) (f:=wC t) (l:=V) (fun a ha c hc=>by rw [rw_lt ht (hV c hc) (hV a ha)])).symm
theorem aSn (ht:cM t) {N:List Int} (hN:∀ v∈N,0<=v/\v<=1000000) (hl:N.length<=1000):loop (fun s:List Int × Int=>iJ t (N.map (wC t)) s.1 s.2) ([],0)=some N:=by
 have key:=dO (step:=fun s:List Int × Int=>iJ t (N.map (wC t)) s.1 s.2) N.length (fun i (q:List Int)=>(q,(i:Int))) (fun i q=>q=N.take i) (fun r=>r=N) (fun i q hi hI=>?_) (fun q hI=>?_) N.length 0 [] (by omega) rfl
 ·obtain ⟨r,e1,e2⟩:=key
  rw [e2] at e1
  exact e1
 ·subst hI
  have hv:=hN _ (List.getElem_mem hi)
  refine ⟨_,?_,rfl⟩
  show iJ t (N.map (wC t)) (N.take i) (i:Int)=_
  unfold iJ
  rw [List.length_map,if_pos (bV hi),bS (by rw [List.length_map];exact hi),List.getElem_map,aA,show ix (wC t N[i]) 0=some (N[i] / t.N) from rfl,aA,show ix (wC t N[i]) 1=some (N[i] % t.N) from rfl,aA,key_eq ht hv.1 hv.2,cG (by simp [iE];omega),aA,bQ hi (by omega),List.take_succ_eq_append_getElem hi]
 ·refine ⟨q,?_,by rw [hI,List.take_length]⟩
  show iJ t (N.map (wC t)) q (N.length:Int)=_
  unfold iJ
  rw [List.length_map,if_neg (by simp)]
theorem places_eq {N L:List Int} (hN:N.length<=1000) (hL:L.length<=10000):aDU N L=some (iW (srt iLt (L.map (pos N)))):=by
 have key:=aDw (step:=fun s:List Int × Int=>uK N L s.1 s.2) L (pos N) (fun r=>r) (fun k out w hk ho hw=>by
  show uK N L out (k:Int)=_
  unfold uK
  rw [if_pos (bV hk),hw,aA,aOI _ _ (by omega),aA,cG (by simp only [List.length_singleton];unfold iE;omega),aA,bQ hk (by omega)]) (fun out=>by
  show uK N L out (L.length:Int)=_
  unfold uK
  rw [if_neg (by simp)])
 unfold aDU aFq
 rw [key,aA,sset_eq _ (by rw [List.length_map];omega),aA]
noncomputable def mkE (f:List aT) (t:cN) (N:List Int) (v:Int):bB:=⟨ugF f (bR t v),(vx (gR f t f.length) v).Owner == 1,iW (srt iLt ((vx (gR f t f.length) v).Next.map (pos N)))⟩
noncomputable def oU (f:List aT) (t:cN) (N:List Int):List bB:=N.map (mkE f t N)
theorem eqs_eq (hf:FOk f) (hT:Tm b f) (ht:cM t) (hg:GOk (gR f t f.length)) {N:List Int} (hN:∀ v∈N,uZ (gR f t f.length) v) (hl:N.length<=1000):
  loop (fun s:List bB × Int=>iI f (gR f t f.length) (N.map (wC t)) N s.1 s.2) ([],0)=some (oU f t N):=by
 have hlen:=hf.len
 have hgl:=hg.len
 have key:=dO (step:=fun s:List bB × Int=>iI f (gR f t f.length) (N.map (wC t)) N s.1 s.2) N.length (fun i (q:List bB)=>(q,(i:Int))) (fun i q=>q=(N.take i).map (mkE f t N)) (fun r=>r=oU f t N) (fun i q hi hI=>?_) (fun q hI=>?_) N.length 0 [] (by omega) rfl
 ·obtain ⟨r,e1,e2⟩:=key
  rw [e2] at e1
  exact e1
 ·subst hI
  have hv:=hN _ (List.getElem_mem hi)
  obtain ⟨x,hx,hk,e⟩:=sP ht hv
  have hnl:(vx (gR f t f.length) N[i]).Next.length<=(gR f t f.length).length:=aGN (x:=⟨gR f t f.length,[],[]⟩) hg _
  have hnd:N[i] / t.N=((bR t N[i]:Nat):Int):=by
   have h1:=ht.1
   unfold bR
   have:=hv.1
   rw [Int.natCast_ediv,show ((N[i].toNat:Nat):Int)=N[i] by omega,show ((t.N.toNat:Nat):Int)=t.N by omega]
  refine ⟨_,?_,rfl⟩
  show iI f (gR f t f.length) (N.map (wC t)) N ((N.take i).map (mkE f t N)) (i:Int)=_
  unfold iI
  rw [List.length_map,if_pos (bV hi),bS (by rw [List.length_map];exact hi),List.getElem_map,aA,bS hi,aA,ixV hv.1 hv.2,aA,show ix (wC t N[i]) 0=some (N[i] / t.N) from rfl,aA,hnd,(ug_spec hlen.2 hT hk).1,aA,places_eq hl (by omega),aA,cG (by simp [iE];omega),aA,bQ hi (by omega),List.take_succ_eq_append_getElem hi,List.map_append]
  rfl
 ·refine ⟨q,?_,by rw [hI,List.take_length];rfl⟩
  show iI f (gR f t f.length) (N.map (wC t)) N q (N.length:Int)=_
  unfold iI
  rw [List.length_map,if_neg (by simp)]
theorem makeE_ok (hf:FOk f) (hT:Tm b f) (ht:cM t) (hlab:aGh t):∃ V:List Int,V.Nodup/\t.I∈V/\(∀ v∈V,RchF (gR f t f.length) t.I v/\uZ (gR f t f.length) v)/\(V.length<=120->∀ v∈V,∀ w∈(vx (gR f t f.length) v).Next,w∈V)/\
  pW f t=some (if 120 < V.length then ([],[],false) else (oU f t (srt iLt V),(srt iLt V).map (wC t),decide (mP (grE (oU f t (srt iLt V))) (V.length - 1) < 9))):=by
 have hS:=ht.1
 have hI:=ht.2.1
 have hlen:=hf.len
 obtain ⟨hg,hg1⟩:=aLu hf ht (by omega) hlab
 have hgl:=hg.len
 have hin:uZ (gR f t f.length) t.I:=by
  have:=aQa (f:=f) ht hlen.1 (x:=t.I) ⟨hI.1,by omega⟩
  rwa [show ((0:Nat):Int) * t.N+t.I=t.I by rw [show ((0:Nat):Int)=0 from rfl,Int.zero_mul,Int.zero_add]] at this
 have hr0:[([0,t.I]:List Int)]=[t.I].map (wC t):=by
  show _=[[t.I / t.N,t.I % t.N]]
  rw [Int.ediv_eq_zero_of_lt hI.1 (by omega),Int.emod_eq_of_lt hI.1 (by omega)]
 obtain ⟨V,e1,h1,h2,h3,h4⟩:=bfs_all ht hg (s:=t.I) ((gR f t f.length).length+1) 0 [t.I] (wD [] t.I true) (by simp) (by omega) (by simp) (by simp) (fun v hv=>by
  rw [List.mem_singleton] at hv
  subst hv
  exact ⟨.base,hin⟩) (fun w=>by
  rw [aJR]
  by_cases e:w=t.I
  ·rw [if_pos e,Option.getD_some,decide_eq_true (by simp [e])]
  ·rw [if_neg e,decide_eq_false (by simp [e])]
   rfl) (fun j hj=>by omega)
 refine ⟨V,h1,h2,h3,h4,?_⟩
 have hVl:V.length<=(gR f t f.length).length:=by
  have:=List.Nodup.length_le_of_subset (l₂:=(List.range (gR f t f.length).length).map fun (i:Nat)=>(i:Int)) h1 (fun w hw=>by
   have:=(h3 w hw).2
   unfold uZ at this
   rw [List.mem_map]
   exact ⟨w.toNat,List.mem_range.2 (by omega),by omega⟩)
  rwa [List.length_map,List.length_range] at this
 have hsl:(srt iLt V).length=V.length:=List.length_mergeSort _
 have hsm:∀ v∈srt iLt V,uZ (gR f t f.length) v:=fun v hv=>(h3 v (by unfold srt at hv;rwa [List.mem_mergeSort] at hv)).2
 unfold pW
 have e1':loop (fun s:List (List Int) × List (Int × Bool) × Int=>gO t (gR f t f.length) s.1 s.2.1 s.2.2) ([([0,t.I]:List Int)],wD [] t.I true,0)=some (V.map (wC t)):=by
  rw [hr0]
  exact e1
 rw [game_eq hf ht (by omega) hlab,aA,aA,e1',aA]
 unfold tH
 rw [List.length_map]
 by_cases h120:120 < V.length
 ·rw [if_pos (by rw [decide_eq_true_iff];omega),if_pos h120]
 ·rw [if_neg (by rw [decide_eq_true_iff];omega),if_neg h120,rows_srt ht (fun v hv=>(h3 v hv).2.1) (by omega),aA,aSn ht (fun v hv=>by have:=hsm v hv;unfold uZ at this;omega) (by omega),aA]
  unfold tG tF
  have hel:(oU f t (srt iLt V)).length=V.length:=by unfold oU;rw [List.length_map,hsl]
  have hV1:1<=V.length:=List.length_pos_of_mem h2
  rw [eqs_eq hf hT ht hg hsm (by omega),aA,fit_eq _ (by omega) (by omega),hel,aA]
end
end Gv
set_option linter.unusedVariables false
set_option linter.unusedSimpArgs false
namespace Gv
open Go
section
variable (cs:aJ)
theorem aQc {s1:Int} (s2:Int) (h:0<=s1/\s1<=100000000000) {l:List aJ} (hl:l≠[]):∃ v s1' s2',qZ cs s1 s2 l=some (v,s1',s2')/\v∈l/\s1<=s1'/\s1'<=s1+2:=by
 have h1:1<=(l.length:Int):=by
  have:=List.length_pos_iff.2 hl
  omega
 obtain ⟨v,a,b,e,hv,h2,h3⟩:=fL cs s2 h h1
 unfold qZ
 rw [e,aA]
 simp only
 rw [aHq hv.1 (by omega),aA]
 exact ⟨_,_,_,rfl,List.getElem_mem _,h2,h3⟩
theorem aRl {s1:Int} (s2:Int) (h:0<=s1/\s1<=10000000000):∃ k l n s1' s2',sA cs s1 s2=some (⟨k,0,l,n⟩,s1',s2')/\(k=4\/k=5)/\PatOk l/\s1<=s1'/\s1'<=s1+6:=by
 unfold sA
 obtain ⟨v,a,b,e,hv,h2,h3⟩:=fL cs s2 (s1:=s1) (n:=2) (by omega) (by omega)
 rw [e,aA]
 obtain ⟨l,a',b',e',hl,h4,h5⟩:=aQc cs b (s1:=a) (by omega) (l:=[([]:aJ),([]:aJ),([97]:aJ),([98]:aJ),([116,97,117]:aJ),([103,101,116,42]:aJ),([103,101,116,40,48,41]:aJ),([99]:aJ)]) (by simp)
 rw [e',aA]
 obtain ⟨n,a2,b2,e2,h6,h7⟩:=aIy cs b' (s1:=a') (n:=6) (by omega) (by omega)
 rw [e2,aA,bT (by simp only;omega) (by simp only;omega)]
 refine ⟨_,_,_,_,_,rfl,by simp only;omega,?_,by simp only;omega,by simp only;omega⟩
 have:∀ x∈[([]:aJ),([]:aJ),([97]:aJ),([98]:aJ),([116,97,117]:aJ),([103,101,116,42]:aJ),([103,101,116,40,48,41]:aJ),([99]:aJ)],x∈Pats:=by decide
 exact aPZ (this _ hl)
theorem qu2 {a:Int} (h:0<=a) (h':a<=1000000):qu a 2=some (a / 2):=by
 unfold qu
 rw [if_neg (by omega),Int.tdiv_eq_ediv_of_nonneg h,bT (by omega) (by omega)]
theorem part_ok:∀ (n:Nat) (most:Int),0<=most->most<=100->most < n->∀ (b:List Int),(∀ v∈b,0<=v/\v<=2)->(b.length:Int)+most<=1000->∀ s1 s2:Int,0<=s1->s1+80 * most+20<=1000000000->
  ∃ L s1' s2',lJ n cs s1 s2 b most=some (L,s1',s2')/\Tm b L/\(L.length:Int)<=4 * most+1/\s1<=s1'/\s1'<=s1+80 * most+20
 |0,most,h0,_,h1,_,_,_,_,_,_,_=>by omega
 |n+1,most,h0,h100,h1,b,hb,hbl,s1,s2,hs0,hs1=>by
  have ih:=part_ok n
  show ∃ L s1' s2',tW (lJ n) cs s1 s2 b most=some (L,s1',s2')/\_
  generalize lJ n=rec_ at ih
  unfold tW
  have hleaf:∀ x y,s1<=x->x<=s1+2->∀ v:Bool,(v=true->b≠[])->∃ L s1' s2',oN cs b x y v=some (L,s1',s2')/\Tm b L/\(L.length:Int)<=4 * most+1/\s1<=s1'/\s1'<=s1+80 * most+20:=by
   intro x y hx1 hx2 v hv
   unfold oN
   cases v with
   |true=>
    obtain ⟨w,a,c,e,hw,h2,h3⟩:=aEw cs y (s1:=x) (by omega) (hv rfl)
    rw [if_pos rfl,e,aA]
    exact ⟨_,_,_,rfl,.var hw (hb w hw),by simp;omega,by simp only;omega,by simp only;omega⟩
   |false=>
    obtain ⟨w,a,c,e,hw,h2,h3⟩:=fL cs y (s1:=x) (n:=2) (by omega) (by omega)
    rw [if_neg (by simp),e,aA]
    exact ⟨_,_,_,rfl,.leaf (by simp only;omega),by simp;omega,by simp only;omega,by simp only;omega⟩
  by_cases hm:most<=0
  ·rw [if_pos (by simpa using hm)]
   by_cases hbz:0 < (b.length:Int)
   ·rw [if_pos (by simpa using hbz)]
    obtain ⟨w,a,c,e,hw,h2,h3⟩:=fL cs s2 (s1:=s1) (n:=4) (by omega) (by omega)
    rw [e,aA]
    exact hleaf a c h2 h3 _ fun _ hz=>by rw [hz] at hbz;simp at hbz
   ·rw [if_neg (by simpa using hbz)]
    exact hleaf s1 s2 (by omega) (by omega) false fun h=>by cases h
  ·rw [if_neg (by simpa using hm)]
   obtain ⟨w,a,c,e,hw,h2,h3⟩:=fL cs s2 (s1:=s1) (n:=6) (by omega) (by omega)
   rw [e,aA]
   have hj6:∀ v:Bool,∃ L s1' s2',oP rec_ cs b most (w,a,c) v=some (L,s1',s2')/\Tm b L/\(L.length:Int)<=4 * most+1/\s1<=s1'/\s1'<=s1+80 * most+20:=by
    intro v
    unfold oP
    cases v with
    |true=>
     obtain ⟨p,a1,c1,e1,hp,h4,h5⟩:=fL cs c (s1:=a) (n:=2) (by omega) (by omega)
     rw [if_pos rfl]
     simp only
     rw [e1,aA,bT (x:=most - 1) (by omega) (by omega),qu2 (by omega) (by omega),aA]
     obtain ⟨L,a2,c2,e2,hL,hl,h6,h7⟩:=ih ((most - 1) / 2) (by omega) (by omega) (by omega) b hb (by omega) a1 c1 (by omega) (by omega)
     simp only
     rw [e2,aA,aA]
     obtain ⟨M,a3,c3,e3,hM,hl',h8,h9⟩:=ih ((most - 1) / 2) (by omega) (by omega) (by omega) b hb (by omega) a2 c2 (by omega) (by omega)
     simp only
     rw [e3,aA,bT (x:=2+p) (by omega) (by omega),cG (by simp only [List.length_singleton];unfold iE;omega),aA,cG (by simp only [List.length_singleton,List.length_append];unfold iE;omega),aA]
     refine ⟨_,_,_,rfl,?_,?_,by simp only;omega,by simp only;omega⟩
     ·have:=Tm.bin (b:=b) (k:=2+p) (by omega) hL hM
      simpa using this
     ·simp only [List.length_append,List.length_singleton];omega
    |false=>
     rw [if_neg (by simp)]
     simp only
     by_cases h4:w=4
     ·rw [if_pos (by simpa using h4)]
      obtain ⟨p,a1,c1,e1,hp,g1,g2⟩:=fL cs c (s1:=a) (n:=2) (by omega) (by omega)
      rw [e1,aA]
      obtain ⟨q,a2,c2,e2,hq,g3,g4⟩:=fL cs c1 (s1:=a1) (n:=3) (by omega) (by omega)
      simp only
      unfold aBU
      rw [e2,aA,cG (by simp only [List.length_nil];unfold iE;omega),aA,aA,List.nil_append,cG (by simp only [List.length_singleton];unfold iE;omega),aA]
      obtain ⟨L,a3,c3,e3,hL,hl,g5,g6⟩:=ih (most - 1) (by omega) (by omega) (by omega) (b++[q]) (fun v hv=>by
       rcases List.mem_append.1 hv with hv|hv
       ·exact hb v hv
       ·rw [List.mem_singleton] at hv;omega) (by rw [List.length_append,List.length_singleton];omega) a2 c2 (by omega) (by omega)
      unfold wK aBp
      rw [bT (x:=most - 1) (by omega) (by omega)]
      simp only
      rw [e3,aA,bT (x:=7+p) (by omega) (by omega),cG (by simp only [List.length_singleton];unfold iE;omega),aA]
      refine ⟨_,_,_,rfl,?_,?_,by simp only;omega,by simp only;omega⟩
      ·exact Tm.fix (by omega) (by omega) hL
      ·simp only [List.length_append,List.length_singleton];omega
     ·rw [if_neg (by simpa using h4)]
      obtain ⟨d,a1,c1,e1,g1,g2⟩:=aIy cs c (s1:=a) (n:=2) (by omega) (by omega)
      rw [e1,aA]
      simp only
      cases d with
      |true=>
       rw [if_pos rfl,qu2 (by omega) (by omega),aA]
       obtain ⟨L,a2,c2,e2,hL,hl,g5,g6⟩:=ih (most / 2) (by omega) (by omega) (by omega) b hb (by omega) a1 c1 (by omega) (by omega)
       rw [e2,aA]
       exact ⟨_,_,_,rfl,hL,by simp only;omega,by simp only;omega,by simp only;omega⟩
      |false=>
       rw [if_neg (by simp)]
       obtain ⟨p,a2,c2,e2,hp,g3,g4⟩:=fL cs c1 (s1:=a1) (n:=2) (by omega) (by omega)
       rw [e2,aA]
       obtain ⟨q,a3,c3,e3,hq,g5,g6⟩:=fL cs c2 (s1:=a2) (n:=2) (by omega) (by omega)
       simp only
       rw [e3,aA]
       have hj5:∀ k:Int,k=2\/k=3->∃ L s1' s2',oO rec_ cs b most (p,a2,c2) (q,a3,c3) k=some (L,s1',s2')/\Tm b L/\(L.length:Int)<=4 * most+1/\s1<=s1'/\s1'<=s1+80 * most+20:=by
        intro k hk
        unfold oO aBU
        rw [cG (by simp only [List.length_nil];unfold iE;omega),aA,aA,List.nil_append,cG (by simp only [List.length_singleton];unfold iE;omega),aA]
        obtain ⟨L,a4,c4,e4,hL,hl,g7,g8⟩:=ih (most / 2) (by omega) (by omega) (by omega) (b++[q]) (fun v hv=>by
         rcases List.mem_append.1 hv with hv|hv
         ·exact hb v hv
         ·rw [List.mem_singleton] at hv;omega) (by rw [List.length_append,List.length_singleton];omega) a3 c3 (by omega) (by omega)
        unfold wL
        rw [qu2 (by omega) (by omega),aA]
        simp only
        rw [e4,aA,bT (x:=7+p) (by omega) (by omega),cG (by simp only [List.length_cons,List.length_nil];unfold iE;omega),aA]
        obtain ⟨mk,ml,mn,a5,c5,e5,g9,g10,g11,g12⟩:=aRl cs c4 (s1:=a4) (by omega)
        simp only
        rw [e5,aA,cG (by simp only [List.length_append,List.length_cons,List.length_nil];unfold iE;omega),aA,cG (by simp only [List.length_append,List.length_cons,List.length_nil];unfold iE;omega),aA]
        refine ⟨_,_,_,rfl,?_,?_,by simp only;omega,by simp only;omega⟩
        ·have hv:Tm (b++[q]) [⟨6,q,[],false⟩]:=.var (by simp) (by omega)
         have:=Tm.fix (b:=b) (k:=7+p) (v:=q) (by omega) (by omega) (Tm.bin (k:=k) hk hL (Tm.mod (k:=mk) (l:=ml) (n:=mn) g9 g10 hv))
         simpa using this
        ·simp only [List.length_append,List.length_cons,List.length_nil];omega
       split
       ·exact hj5 2 (.inl rfl)
       ·exact hj5 3 (.inr rfl)
   have hj7t:∃ L s1' s2',jW rec_ cs b most (w,a,c) true=some (L,s1',s2')/\Tm b L/\(L.length:Int)<=4 * most+1/\s1<=s1'/\s1'<=s1+80 * most+20:=by
    unfold jW
    rw [if_pos rfl]
    obtain ⟨mk,ml,mn,a5,c5,e5,g9,g10,g11,g12⟩:=aRl cs c (s1:=a) (by omega)
    simp only
    rw [e5,aA,bT (x:=most - 1) (by omega) (by omega)]
    obtain ⟨L,a2,c2,e2,hL,hl,g5,g6⟩:=ih (most - 1) (by omega) (by omega) (by omega) b hb (by omega) a5 c5 (by omega) (by omega)
    simp only
    rw [e2,aA,cG (by simp only [List.length_singleton];unfold iE;omega),aA]
    refine ⟨_,_,_,rfl,Tm.mod g9 g10 hL,?_,by simp only;omega,by simp only;omega⟩
    simp only [List.length_append,List.length_singleton];omega
   have hj7:∀ v:Bool,∃ L s1' s2',jW rec_ cs b most (w,a,c) v=some (L,s1',s2')/\Tm b L/\(L.length:Int)<=4 * most+1/\s1<=s1'/\s1'<=s1+80 * most+20:=by
    intro v
    cases v with
    |true=>exact hj7t
    |false=>
     unfold jW
     rw [if_neg (by simp)]
     split<;>exact hj6 _
   simp only
   split<;>exact hj7 _
end
end Gv
