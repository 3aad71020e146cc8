/- Heaps: what is known of memory as a readable part K and a list L of owned pieces; readings of slices. No program in sight. -/
import Derived.Test.YthbfapccpmppoaaGreatDoorJA
import Derived.Test.YthbfapccpmppoaaGreatDoorJM
import Derived.Test.YthbfapccpmppoaaGreatDoorJV
import Derived.Deep.Draws
import Derived.Below
set_option linter.all false
namespace Gv
open Go
abbrev Hp:=Nat->Option Obj
def Hp.le (h g:Hp):Prop:=∀ b o,h b=some o->g b=some o
def Hp.dj (h g:Hp):Prop:=∀ b,h b=none\/g b=none
def Hp.un (h g:Hp):Hp:=fun b=>(h b).or (g b)
def Hp.one (b:Nat) (o:Obj):Hp:=fun x=>if x=b then some o else none
def hp (w:World):Hp:=fun b=>w.heap[b]?
theorem Hp.le_refl (h:Hp):h.le h:=fun _ _ x=>x
theorem Hp.le_trans {h g k:Hp} (a:h.le g) (b:g.le k):h.le k:=fun x o e=>b x o (a x o e)
theorem Hp.le_un_left (h g:Hp):h.le (h.un g):=fun b o e=>by simp [Hp.un,e]
theorem Hp.le_un_right {h g:Hp} (d:h.dj g):g.le (h.un g):=fun b o e=>by
 rcases d b with x|x
 ·simp [Hp.un,x,e]
 ·rw [x] at e;cases e
theorem Hp.un_le {h g k:Hp} (a:h.le k) (b:g.le k):(h.un g).le k:=fun x o e=>by
 simp only [Hp.un] at e
 cases hx:h x with
 |none=>rw [hx] at e;exact b x o (by simpa using e)
 |some o'=>rw [hx] at e;simp at e;subst e;exact a x o' hx
theorem Hp.dj_symm {h g:Hp} (d:h.dj g):g.dj h:=fun b=>(d b).symm
theorem Hp.dj_mono {h g h' g':Hp} (d:h.dj g) (a:h'.le h) (b:g'.le g):h'.dj g':=fun x=>by
 rcases d x with e|e
 ·left;cases hx:h' x with
  |none=>rfl
  |some o=>have:=a x o hx;rw [e] at this;cases this
 ·right;cases hx:g' x with
  |none=>rfl
  |some o=>have:=b x o hx;rw [e] at this;cases this
theorem Hp.un_dj {h g k:Hp} (a:h.dj k) (b:g.dj k):(h.un g).dj k:=fun x=>by
 rcases a x with e|e
 ·rcases b x with e'|e'
  ·left;simp [Hp.un,e,e']
  ·exact .inr e'
 ·exact .inr e
theorem Hp.one_self (b:Nat) (o:Obj):Hp.one b o b=some o:=by simp [Hp.one]
theorem Hp.one_le {b:Nat} {o:Obj} {h:Hp} (e:h b=some o):(Hp.one b o).le h:=fun x o' hx=>by
 unfold Hp.one at hx
 split at hx
 ·rename_i hb;subst hb;cases hx;exact e
 ·cases hx
theorem Hp.one_dj {b:Nat} {o:Obj} {h:Hp} (e:h b=none):(Hp.one b o).dj h:=fun x=>by
 by_cases hx:x=b
 ·subst hx;exact .inr e
 ·left;simp [Hp.one,hx]
abbrev eW:=Hp->Prop
def Laid (g:Hp):Prop:=∀ w,g.le (hp w)->aIe w
def fQ:List eW->Hp->Prop
 |[],_=>True
 |A::L,h=>∃ h1 h2,A h1/\h1.dj h2/\h1.le h/\h2.le h/\fQ L h2
theorem fQ.le:∀ {L:List eW} {h g:Hp},fQ L h->h.le g->fQ L g
 |[],_,_,_,_=>trivial
 |_::_,_,_,⟨h1,h2,a,d,l1,l2,r⟩,l=>⟨h1,h2,a,d,Hp.le_trans l1 l,Hp.le_trans l2 l,r⟩
theorem fQ.pick:∀ {L:List eW} {h:Hp} {i:Nat} {A:eW},fQ L h->L[i]?=some A->
  ∃ h1 h2,A h1/\h1.dj h2/\h1.le h/\h2.le h/\fQ (L.eraseIdx i) h2
 |[],_,_,_,_,e=>by simp at e
 |B::L,h,0,A,⟨h1,h2,a,d,l1,l2,r⟩,e=>by
  simp at e;subst e
  exact ⟨h1,h2,a,d,l1,l2,r⟩
 |B::L,h,i+1,A,⟨h1,h2,a,d,l1,l2,r⟩,e=>by
  obtain ⟨g1,g2,a',d',m1,m2,r'⟩:=r.pick (i:=i) (A:=A) (by simpa using e)
  refine ⟨g1,h1.un g2,a',?_,Hp.le_trans m1 l2,Hp.un_le l1 (Hp.le_trans m2 l2),?_⟩
  ·exact Hp.dj_symm (Hp.un_dj (Hp.dj_mono d (Hp.le_refl _) m1) (Hp.dj_symm d'))
  ·exact ⟨h1,g2,a,Hp.dj_mono d (Hp.le_refl _) m2,Hp.le_un_left _ _,Hp.le_un_right (Hp.dj_mono d (Hp.le_refl _) m2),r'⟩
theorem fQ.put:∀ {L:List eW} {i:Nat} {A:eW} {h1 h2:Hp},A h1->h1.dj h2->fQ (L.eraseIdx i) h2->i < L.length->
  fQ (L.set i A) (h1.un h2)
 |[],_,_,_,_,_,_,_,e=>by simp at e
 |B::L,0,A,h1,h2,a,d,r,_=>⟨h1,h2,a,d,Hp.le_un_left _ _,Hp.le_un_right d,r⟩
 |B::L,i+1,A,h1,h2,a,d,⟨g1,g2,b,d',l1,l2,r⟩,e=>by
  have:=fQ.put (L:=L) (i:=i) a (Hp.dj_mono d (Hp.le_refl _) l2) r (by simpa using e)
  refine ⟨g1,h1.un g2,b,?_,Hp.le_trans l1 (Hp.le_un_right d),?_,this⟩
  ·exact Hp.dj_symm (Hp.un_dj (Hp.dj_mono d (Hp.le_refl _) l1) (Hp.dj_symm d'))
  ·exact Hp.un_le (Hp.le_un_left _ _) (Hp.le_trans l2 (Hp.le_un_right d))
structure Env0 where
 os:Os
 tape:Nat->Question->Nat
 output:Array (Nat × ByteArray)
def env (w:World):Env0:=⟨w.os,w.tape,w.output⟩
structure kH where
 base:Env0
 lo:Nat
 glob:Hp
 laid:Laid glob
structure eI (w w':World):Prop where
 env:env w'=env w
 dr:w.drawn<=w'.drawn
 le:(hp w).le (hp w')
def EnvOk (G:kH) (w:World):Prop:=env w=G.base/\G.lo<=w.drawn
def Same (w w':World):Prop:=env w'=env w/\w.drawn<=w'.drawn
theorem Same.ok {G:kH} {w w':World} (h:Same w w') (e:EnvOk G w):EnvOk G w':=⟨h.1.trans e.1,Nat.le_trans e.2 h.2⟩
theorem eI.same {w w':World} (h:eI w w'):Same w w':=⟨h.env,h.dr⟩
theorem Same.refl (w:World):Same w w:=⟨rfl,Nat.le_refl _⟩
theorem eI.refl (w:World):eI w w:=⟨rfl,Nat.le_refl _,Hp.le_refl _⟩
theorem eI.trans {a b c:World} (h:eI a b) (k:eI b c):eI a c:=⟨k.env.trans h.env,Nat.le_trans h.dr k.dr,Hp.le_trans h.le k.le⟩
def aF (G:kH) (K:Hp) (L:List eW) (w:World):Prop:=EnvOk G w/\∃ h,G.glob.dj h/\G.glob.le (hp w)/\K.dj h/\K.le (hp w)/\h.le (hp w)/\fQ L h
namespace aF
variable {G:kH} {K K':Hp} {L L':List eW} {w w':World} {A:eW}
theorem know (s:aF G K L w):K.le (hp w):=let ⟨_,_,_,_,_,k,_⟩:=s;k
theorem globs (s:aF G K L w):G.glob.le (hp w):=let ⟨_,_,_,k,_⟩:=s;k
theorem mono (s:aF G K L w) (h:eI w w'):aF G K L w':=
 let ⟨e,g,gd,gl,d,k,l,r⟩:=s;⟨h.same.ok e,g,gd,Hp.le_trans gl h.le,d,Hp.le_trans k h.le,Hp.le_trans l h.le,r⟩
theorem weakK (s:aF G K L w) (h:K'.le K):aF G K' L w:=
 let ⟨e,g,gd,gl,d,k,l,r⟩:=s;⟨e,g,gd,gl,Hp.dj_mono d h (Hp.le_refl _),Hp.le_trans h k,l,r⟩
theorem drop (s:aF G K (A::L) w):aF G K L w:=
 let ⟨e,_,gd,gl,d,k,l,⟨_,h2,_,_,_,l2,r⟩⟩:=s;⟨e,h2,Hp.dj_mono gd (Hp.le_refl _) l2,gl,Hp.dj_mono d (Hp.le_refl _) l2,k,Hp.le_trans l2 l,r⟩
theorem entry {i:Nat} (s:aF G K L w) (e:L[i]?=some A):∃ h1,A h1/\h1.le (hp w)/\K.dj h1:=by
 obtain ⟨_,g,_,_,d,_,l,r⟩:=s
 obtain ⟨h1,_,a,_,l1,_,_⟩:=r.pick e
 exact ⟨h1,a,Hp.le_trans l1 l,Hp.dj_mono d (Hp.le_refl _) l1⟩
theorem lend {i:Nat} (s:aF G K L w) (e:L[i]?=some A):
  ∃ K' h1,A h1/\h1.le K'/\K.le K'/\aF G K' (L.eraseIdx i) w/\∀ L' w',aF G K' L' w'->aF G K (A::L') w':=by
 obtain ⟨en,g,gd,gl,d,k,l,r⟩:=s
 obtain ⟨h1,h2,a,d12,l1,l2,r'⟩:=r.pick e
 have dk1:K.dj h1:=Hp.dj_mono d (Hp.le_refl _) l1
 have dg1:G.glob.dj h1:=Hp.dj_mono gd (Hp.le_refl _) l1
 refine ⟨K.un h1,h1,a,Hp.le_un_right dk1,Hp.le_un_left _ _,⟨en,h2,Hp.dj_mono gd (Hp.le_refl _) l2,gl,Hp.un_dj (Hp.dj_mono d (Hp.le_refl _) l2) d12,Hp.un_le k (Hp.le_trans l1 l),Hp.le_trans l2 l,r'⟩,?_⟩
 rintro L' w' ⟨en',g',gd',gl',d',k',l',r''⟩
 have e1:h1.dj g':=Hp.dj_mono d' (Hp.le_un_right dk1) (Hp.le_refl _)
 have e2:K.dj g':=Hp.dj_mono d' (Hp.le_un_left _ _) (Hp.le_refl _)
 exact ⟨en',h1.un g',Hp.dj_symm (Hp.un_dj (Hp.dj_symm dg1) (Hp.dj_symm gd')),gl',Hp.dj_symm (Hp.un_dj (Hp.dj_symm dk1) (Hp.dj_symm e2)),Hp.le_trans (Hp.le_un_left _ _) k',Hp.un_le (Hp.le_trans (Hp.le_un_right dk1) k') l',h1,g',a,e1,Hp.le_un_left _ _,Hp.le_un_right e1,r''⟩
theorem new (s:aF G K L w) (h:eI w w') {h1:Hp} (a:A h1) (l1:h1.le (hp w')) (f:h1.dj (hp w)):aF G K (A::L) w':=by
 obtain ⟨e,g,gd,gl,d,k,l,r⟩:=s
 have d1:h1.dj g:=Hp.dj_mono f (Hp.le_refl _) l
 have d2:h1.dj K:=Hp.dj_mono f (Hp.le_refl _) k
 have d3:h1.dj G.glob:=Hp.dj_mono f (Hp.le_refl _) gl
 exact ⟨h.same.ok e,h1.un g,Hp.dj_symm (Hp.un_dj d3 (Hp.dj_symm gd)),Hp.le_trans gl h.le,Hp.dj_symm (Hp.un_dj d2 (Hp.dj_symm d)),Hp.le_trans k h.le,Hp.un_le l1 (Hp.le_trans l h.le),h1,g,a,d1,Hp.le_un_left _ _,Hp.le_un_right d1,r⟩
theorem change {i:Nat} (s:aF G K L w) (e:L[i]?=some A):∃ h1,A h1/\h1.le (hp w)/\K.dj h1/\
  ∀ (A':eW) w' h1',Same w w'->(∀ b o,h1 b=none->hp w b=some o->hp w' b=some o)->h1'.le (hp w')->(∀ b,h1' b=none\/(h1 b).isSome\/hp w b=none)->A' h1'->
   aF G K (L.set i A') w':=by
 obtain ⟨en,g,gd,gl,d,k,l,r⟩:=s
 obtain ⟨h1,h2,a,d12,l1,l2,r'⟩:=r.pick e
 have dk1:K.dj h1:=Hp.dj_mono d (Hp.le_refl _) l1
 have dg1:G.glob.dj h1:=Hp.dj_mono gd (Hp.le_refl _) l1
 refine ⟨h1,a,Hp.le_trans l1 l,dk1,fun A' w' h1' en' keep le1 foot a'=>?_⟩
 have hi:i < L.length:=by
  rcases Nat.lt_or_ge i L.length with h|h
  ·exact h
  ·rw [List.getElem?_eq_none h] at e;cases e
 have dd:∀ {g':Hp},g'.le (hp w)->h1.dj g'->h1'.dj g':=fun {g'} lg dg b=>by
  rcases foot b with x|x|x
  ·exact .inl x
  ·rcases dg b with y|y
   ·rw [y] at x;cases x
   ·exact .inr y
  ·right
   cases hg:g' b with
   |none=>rfl
   |some o=>have:=lg b o hg;rw [x] at this;cases this
 have keepg:∀ {g':Hp},g'.le (hp w)->h1.dj g'->g'.le (hp w'):=fun {g'} lg dg b o hb=>by
  rcases dg b with y|y
  ·exact keep b o y (lg b o hb)
  ·rw [y] at hb;cases hb
 have d':=dd (Hp.le_trans l2 l) d12
 refine ⟨en'.ok en,h1'.un h2,?_,keepg gl (Hp.dj_symm dg1),?_,keepg k (Hp.dj_symm dk1),Hp.un_le le1 (keepg (Hp.le_trans l2 l) d12),fQ.put a' d' r' hi⟩
 ·exact Hp.dj_symm (Hp.un_dj (dd gl (Hp.dj_symm dg1)) (Hp.dj_symm (Hp.dj_mono gd (Hp.le_refl _) l2)))
 ·exact Hp.dj_symm (Hp.un_dj (dd k (Hp.dj_symm dk1)) (Hp.dj_symm (Hp.dj_mono d (Hp.le_refl _) l2)))
theorem weak {i:Nat} {A':eW} (s:aF G K L w) (e:L[i]?=some A) (h:∀ h1,A h1->A' h1):aF G K (L.set i A') w:=by
 obtain ⟨h1,a,l1,_,c⟩:=s.change e
 refine c A' w h1 (Same.refl _) (fun _ _ _ x=>x) l1 (fun b=>?_) (h _ a)
 cases h1 b<;>simp
theorem pull {i:Nat} (s:aF G K L w) (e:L[i]?=some A):aF G K (A::L.eraseIdx i) w:=by
 obtain ⟨en,g,gd,gl,d,k,l,r⟩:=s
 obtain ⟨h1,h2,a,d12,l1,l2,r'⟩:=r.pick e
 exact ⟨en,g,gd,gl,d,k,l,h1,h2,a,d12,l1,l2,r'⟩
end aF
theorem eI.alloc (w:World) (o:Obj):eI w (w.alloc o):=⟨rfl,Nat.le_refl _,fun b x h=>by
 have hb:b < w.heap.size:=(Array.getElem?_eq_some_iff.1 h).1
 have:=heap_alloc_old w o b hb
 unfold hp at *;rw [this];exact h⟩
theorem aEA (w:World) (o:Obj):hp (w.alloc o) w.heap.size=some o:=heap_alloc_new w o
theorem aOO (w:World):hp w w.heap.size=none:=by simp [hp]
theorem eI.drew (w:World):eI w w.drew:=⟨rfl,Nat.le_succ _,Hp.le_refl _⟩
theorem eI.drewN (w:World) (n:Nat):eI w (w.drewN n):=⟨rfl,Nat.le_add_right _ _,Hp.le_refl _⟩
theorem eI.below {w w':World} (h:RowKit.Below w.heap.size w w') (hd:w.drawn<=w'.drawn):eI w w':=⟨by simp [Gv.env,h.os,h.tape,h.output],hd,fun b o e=>by
 have hb:b < w.heap.size:=(Array.getElem?_eq_some_iff.1 e).1
 have:=h.block b hb
 unfold hp at *;rw [this];exact e⟩
theorem aF.alloc {G:kH} {K:Hp} {L:List eW} {w:World} {A:eW} (s:aF G K L w) (o:Obj) (a:A (Hp.one w.heap.size o)):aF G K (A::L) (w.alloc o):=
 s.new (eI.alloc w o) a (Hp.one_le (aEA w o)) (Hp.one_dj (aOO w))
class El (α:Type) where
 sz:Nat
 rd:Hp->List Value->α->Prop
 mono:∀ {K K':Hp} {cs:List Value} {d:α},K.le K'->rd K cs d->rd K' cs d
 len:∀ {K:Hp} {cs:List Value} {d:α},rd K cs d->cs.length=sz
 one:∀ {K:Hp} {cs:List Value} {d:α},rd K cs d->∀ v∈cs,v.oneCell'=true
 pos:0 < sz
class iQ (α:Type) where
 sz:Nat
 enc:α->List Value
 len:∀ d,(enc d).length=sz
 one:∀ d,∀ v∈enc d,v.oneCell'=true
 pos:0 < sz
instance (priority:=100) {α:Type} [iQ α]:El α where
 sz:=iQ.sz α
 rd:=fun _ cs d=>cs=iQ.enc d
 mono:=fun _ h=>h
 len:=fun h=>by rw [h];exact iQ.len _
 one:=fun h=>by rw [h];exact iQ.one _
 pos:=iQ.pos
def str (s:aL):Value:=.string ⟨⟨s⟩⟩
def i64 (x:Int):Value:=.int .i64 x
def u8 (x:UInt8):Value:=.int .u8 x.toNat
instance:iQ Int where
 sz:=1
 enc x:=[i64 x]
 len _:=rfl
 one _ v h:=by simp at h;subst h;rfl
 pos:=Nat.one_pos
instance:iQ Bool where
 sz:=1
 enc x:=[.bool x]
 len _:=rfl
 one _ v h:=by simp at h;subst h;rfl
 pos:=Nat.one_pos
instance:iQ aL where
 sz:=1
 enc x:=[str x]
 len _:=rfl
 one _ v h:=by simp at h;subst h;rfl
 pos:=Nat.one_pos
instance:iQ UInt8 where
 sz:=1
 enc x:=[u8 x]
 len _:=rfl
 one _ v h:=by simp at h;subst h;rfl
 pos:=Nat.one_pos
def eR (K:Hp) (a:Option Addr) (k:Nat) (cs:List Value):Prop:=
 ∃ ad c E fr,a=some ad/\ad.spot=none/\K ad.block=some (.cells c E fr)/\∀ t v,cs[t]?=some v->c[ad.off+k+t]?=some v
theorem eR.mono {K K':Hp} {a:Option Addr} {k:Nat} {cs:List Value} (h:K.le K') (c:eR K a k cs):eR K' a k cs:=
 let ⟨ad,c,E,fr,e,s,m,r⟩:=c;⟨ad,c,E,fr,e,s,h _ _ m,r⟩
theorem eR.sub {K:Hp} {a:Option Addr} {k t m:Nat} {cs vs:List Value} (c:eR K a k cs) (h:(cs.drop t).take m=vs):eR K a (k+t) vs:=by
 obtain ⟨ad,c,E,fr,e,s,hm,r⟩:=c
 refine ⟨ad,c,E,fr,e,s,hm,fun i v hv=>?_⟩
 rw [←h] at hv
 have hlt:i < m:=by have:=(List.getElem?_eq_some_iff.1 hv).1;simp at this;omega
 rw [List.getElem?_take_of_lt hlt,List.getElem?_drop] at hv
 have:=r _ _ hv
 rw [←this];congr 1;omega
variable {α:Type} [El α]
structure aW (K:Hp) (a:Option Addr) (cap:Nat) (xs:List α):Prop where
 room:xs.length<=cap
 nil:a=none->xs=[]/\cap=0
 cell:∀ i d,xs[i]?=some d->∃ cs,eR K a (i * El.sz α) cs/\El.rd K cs d
theorem aW.mono {K K':Hp} {a:Option Addr} {cap:Nat} {xs:List α} (h:K.le K') (r:aW K a cap xs):aW K' a cap xs:=
 ⟨r.room,r.nil,fun i d e=>let ⟨cs,c,x⟩:=r.cell i d e;⟨cs,c.mono h,El.mono h x⟩⟩
instance (priority:=50):El (List α) where
 sz:=1
 rd:=fun K cs d=>∃ a c,cs=[.slice a d.length c]/\aW K a c d
 mono:=fun h ⟨a,c,e,r⟩=>⟨a,c,e,r.mono h⟩
 len:=fun ⟨_,_,e,_⟩=>by rw [e];rfl
 one:=fun ⟨_,_,e,_⟩ v hv=>by rw [e] at hv;simp at hv;subst hv;rfl
 pos:=Nat.one_pos
theorem vI (K:Hp):aW K none 0 ([]:List α):=⟨Nat.le_refl _,fun _=>⟨rfl,rfl⟩,fun i d e=>by simp at e⟩
def aV (E:TypeId) (K:Hp) (a:Option Addr) (cap:Nat) (xs:List α):eW:=fun h=>
 xs.length<=cap/\
 ((a=none/\xs=[]/\cap=0)\/
  ∃ (ad:Addr) (c:Array Value) (rows:List Value),a=some ad/\ad.spot=none/\h ad.block=some (.cells c E (0,0))/\ad.off+cap * El.sz α<=c.size/\
   (rows:List Value).length=xs.length * El.sz α/\(∀ t v,rows[t]?=some v->c[ad.off+t]?=some v)/\
   (∀ i d,xs[i]?=some d->El.rd K ((rows.drop (i * El.sz α)).take (El.sz α)) d))
theorem aV.mono {E:TypeId} {K K':Hp} {a:Option Addr} {cap:Nat} {xs:List α} (h:K.le K') {g:Hp} (r:aV E K a cap xs g):aV E K' a cap xs g:=by
 obtain ⟨h1,h3⟩:=r
 refine ⟨h1,?_⟩
 rcases h3 with h3|⟨ad,c,rows,e,s,m,z,l,r1,r2⟩
 ·exact .inl h3
 ·exact .inr ⟨ad,c,rows,e,s,m,z,l,r1,fun i d e=>El.mono h (r2 i d e)⟩
theorem aV.nil (E:TypeId) (K:Hp) (g:Hp):aV E K none 0 ([]:List α) g:=
 ⟨Nat.le_refl _,.inl ⟨rfl,rfl,rfl⟩⟩
theorem aV.rd {E:TypeId} {K K':Hp} {a:Option Addr} {cap:Nat} {xs:List α} {g:Hp} (r:aV E K a cap xs g) (hg:g.le K') (hK:K.le K'):aW K' a cap xs:=by
 obtain ⟨h1,h3⟩:=r
 rcases h3 with ⟨rfl,rfl,rfl⟩|⟨ad,c,rows,rfl,s,m,z,l,r1,r2⟩
 ·exact ⟨Nat.le_refl _,fun _=>⟨rfl,rfl⟩,fun i d e=>by simp at e⟩
 ·refine ⟨h1,fun e=>(by cases e),fun i d e=>?_⟩
  refine ⟨_,⟨ad,c,E,_,rfl,s,hg _ _ m,fun t v ht=>?_⟩,El.mono hK (r2 i d e)⟩
  have ht':t < El.sz α:=by
   have:=(List.getElem?_eq_some_iff.1 ht).1
   simp only [List.length_take,List.length_drop] at this
   omega
  rw [List.getElem?_take_of_lt ht',List.getElem?_drop] at ht
  have:=r1 _ _ ht
  rw [←Nat.add_assoc] at this
  exact this
theorem aF.lendS {G:kH} {E:TypeId} {K Ke:Hp} {L:List eW} {w:World} {i:Nat} {a:Option Addr} {cap:Nat} {xs:List α} (s:aF G K L w) (hK:Ke.le K) (e:L[i]?=some (aV E Ke a cap xs)):
  ∃ K',K.le K'/\aW K' a cap xs/\aF G K' (L.eraseIdx i) w/\∀ L' w',aF G K' L' w'->aF G K (aV E Ke a cap xs::L') w':=by
 obtain ⟨K',h1,a,l1,lk,s',back⟩:=s.lend e
 exact ⟨K',lk,a.rd l1 (Hp.le_trans hK lk),s',back⟩
def box (b:Nat) (E:TypeId) (vs:List Value):eW:=fun h=>h b=some (.cells vs.toArray E (0,0))
theorem aF.nil {G:kH} {K:Hp} {L:List eW} {w:World} (s:aF G K L w) (E:TypeId) (Ke:Hp):aF G K (aV E Ke Option.none 0 ([]:List α)::L) w:=
 s.new (eI.refl w) (h1:=fun _=>Option.none) (aV.nil E Ke _) (fun _ _ h=>by cases h) (fun _=>.inl rfl)
theorem aF.lendB {G:kH} {E:TypeId} {K:Hp} {L:List eW} {w:World} {i b:Nat} {vs:List Value} (s:aF G K L w) (e:L[i]?=some (box b E vs)):
  ∃ K',K.le K'/\eR K' (some ⟨b,0,none⟩) 0 vs/\aF G K' (L.eraseIdx i) w/\∀ L' w',aF G K' L' w'->aF G K (box b E vs::L') w':=by
 obtain ⟨K',h1,a,l1,lk,s',back⟩:=s.lend e
 exact ⟨K',lk,⟨⟨b,0,none⟩,vs.toArray,E,(0,0),rfl,rfl,l1 _ _ a,fun t v h=>by simpa using h⟩,s',back⟩
inductive Pck:List eW->eW->List eW->Prop
 |head {x:eW} {l:List eW}:Pck (x::l) x l
 |tail {z x:eW} {l m:List eW} (h:Pck l x m):Pck (z::l) x (z::m)
theorem zt1 {a x:eW} {l:List eW}:Pck (a::x::l) x (a::l):=.tail .head
theorem zt2 {a b x:eW} {l:List eW}:Pck (a::b::x::l) x (a::b::l):=.tail zt1
theorem zt3 {a b c x:eW} {l:List eW}:Pck (a::b::c::x::l) x (a::b::c::l):=.tail zt2
theorem zt4 {a b c d x:eW} {l:List eW}:Pck (a::b::c::d::x::l) x (a::b::c::d::l):=.tail zt3
theorem zt5 {a b c d e x:eW} {l:List eW}:Pck (a::b::c::d::e::x::l) x (a::b::c::d::e::l):=.tail zt4
theorem zt6 {a b c d e f x:eW} {l:List eW}:Pck (a::b::c::d::e::f::x::l) x (a::b::c::d::e::f::l):=.tail zt5
theorem zt7 {a b c d e f g x:eW} {l:List eW}:Pck (a::b::c::d::e::f::g::x::l) x (a::b::c::d::e::f::g::l):=.tail zt6
theorem zt8 {a b c d e f g h x:eW} {l:List eW}:Pck (a::b::c::d::e::f::g::h::x::l) x (a::b::c::d::e::f::g::h::l):=.tail zt7
theorem zt9 {a b c d e f g h i x:eW} {l:List eW}:Pck (a::b::c::d::e::f::g::h::i::x::l) x (a::b::c::d::e::f::g::h::i::l):=.tail zt8
theorem zt10 {a b c d e f g h i j x:eW} {l:List eW}:Pck (a::b::c::d::e::f::g::h::i::j::x::l) x (a::b::c::d::e::f::g::h::i::j::l):=.tail zt9
theorem zt11 {a b c d e f g h i j k x:eW} {l:List eW}:Pck (a::b::c::d::e::f::g::h::i::j::k::x::l) x (a::b::c::d::e::f::g::h::i::j::k::l):=.tail zt10
theorem zt12 {a b c d e f g h i j k m x:eW} {l:List eW}:Pck (a::b::c::d::e::f::g::h::i::j::k::m::x::l) x (a::b::c::d::e::f::g::h::i::j::k::m::l):=.tail zt11
theorem Pck.ix {L M:List eW} {x:eW} (h:Pck L x M):∃ i:Nat,L[i]?=some x/\L.eraseIdx i=M:=by
 induction h with
 |head=>exact ⟨0,rfl,rfl⟩
 |tail h ih=>obtain ⟨i,h1,h2⟩:=ih;exact ⟨i+1,h1,by rw [List.eraseIdx_cons_succ,h2]⟩
theorem aF.lendSp {G:kH} {E:TypeId} {K Ke:Hp} {L M:List eW} {w:World} {a:Option Addr} {cap:Nat} {xs:List α} (s:aF G K L w) (hK:Ke.le K) (p:Pck L (aV E Ke a cap xs) M):
  ∃ K',K.le K'/\aW K' a cap xs/\aF G K' M w/\∀ L' w',aF G K' L' w'->aF G K (aV E Ke a cap xs::L') w':=by
 obtain ⟨i,h1,rfl⟩:=p.ix
 exact s.lendS hK h1
theorem aF.lendBp {G:kH} {E:TypeId} {K:Hp} {L M:List eW} {w:World} {b:Nat} {vs:List Value} (s:aF G K L w) (p:Pck L (box b E vs) M):
  ∃ K',K.le K'/\eR K' (some ⟨b,0,none⟩) 0 vs/\aF G K' M w/\∀ L' w',aF G K' L' w'->aF G K (box b E vs::L') w':=by
 obtain ⟨i,h1,rfl⟩:=p.ix
 exact s.lendB h1
def cE (a:Option Addr) (k:Nat):Value:=.pointer (a.map fun ad=>⟨ad.block,ad.off+k,none⟩)
theorem qH {K:Hp} {w:World} (h:K.le (hp w)) {b o:Nat} {c:Array Value} {E:TypeId} {fr:Nat × Nat} {v:Value} (e:K b=some (.cells c E fr)) (hv:c[o]?=some v):
  w.cell? ⟨b,o,none⟩=some v:=by
 have:=h _ _ e
 unfold hp at this
 simp [World.cell?,this,hv]
end Gv
