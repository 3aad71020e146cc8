/- Words of the models: partial functions on data, loops. Plain Lean: no program, no memory. -/
set_option linter.all false
namespace Gv
abbrev aL:=List UInt8
def wr (x:Int):Int:=(x+9223372036854775808) % 18446744073709551616 - 9223372036854775808
theorem dW {x:Int} (h1:-9223372036854775808<=x) (h2:x<=9223372036854775807):wr x=x:=by unfold wr;omega
def wu8 (x:Int):Int:=x % 256
def ob {α β:Type} (o:Option α) (f:α->Option β):Option β:=match o with|none=>none|some x=>f x
theorem aB {α β:Type} {o:Option α} {f:α->Option β} {r:β} (h:ob o f=some r):∃ x,o=some x/\f x=some r:=by
 cases o with
 |none=>cases h
 |some x=>exact ⟨x,rfl,h⟩
@[simp] theorem ob_none' {α β:Type} (f:α->Option β):ob none f=none:=rfl
@[simp] theorem aA {α β:Type} (x:α) (f:α->Option β):ob (some x) f=f x:=rfl
theorem aI {α:Type} {c:Bool} {a b:Option α} {r:α} (h:(if c=true then a else b)=some r):(c=true/\a=some r)\/(¬ c=true/\b=some r):=by
 cases c
 ·exact .inr ⟨by simp,by simpa using h⟩
 ·exact .inl ⟨rfl,by simpa using h⟩
def aBI {σ ρ:Type} (step:σ->Option (σ ⊕ ρ)):Nat->σ->Option ρ
 |0,_=>none
 |n+1,s=>match step s with
  |none=>none
  |some (.inl s')=>aBI step n s'
  |some (.inr r)=>some r
theorem aOj {σ ρ:Type} {step:σ->Option (σ ⊕ ρ)}:∀ {n:Nat} {s:σ} {r:ρ},aBI step n s=some r->aBI step (n+1) s=some r
 |0,_,_,h=>by cases h
 |n+1,s,r,h=>by
  unfold aBI at h ⊢
  cases hs:step s with
  |none=>rw [hs] at h;cases h
  |some x=>cases x with
   |inl s'=>rw [hs] at h;exact aOj h
   |inr r'=>rw [hs] at h;exact h
theorem aLY {σ ρ:Type} {step:σ->Option (σ ⊕ ρ)} {n:Nat} {s:σ} {r:ρ} (h:aBI step n s=some r):∀ k,aBI step (n+k) s=some r
 |0=>h
 |k+1=>aOj (aLY h k)
theorem iter_one {σ ρ:Type} {step:σ->Option (σ ⊕ ρ)} {n m:Nat} {s:σ} {r r':ρ} (h:aBI step n s=some r) (h':aBI step m s=some r'):r=r':=by
 have a:=aLY h m
 have b:=aLY h' n
 rw [Nat.add_comm] at b
 rw [a] at b
 exact Option.some.inj b
open Classical in
noncomputable def loop {σ ρ:Type} (step:σ->Option (σ ⊕ ρ)) (s:σ):Option ρ:=
 if h:∃ r n,aBI step n s=some r then some (Classical.choose h) else none
theorem uS {σ ρ:Type} {step:σ->Option (σ ⊕ ρ)} {s:σ} {r:ρ}:loop step s=some r<->∃ n,aBI step n s=some r:=by
 unfold loop
 constructor
 ·intro h
  split at h
  ·rename_i hx
   obtain ⟨n,hn⟩:=Classical.choose_spec hx
   exact ⟨n,by rw [hn];exact h⟩
  ·cases h
 ·rintro ⟨n,hn⟩
  have hx:∃ r n,aBI step n s=some r:=⟨r,n,hn⟩
  rw [dif_pos hx]
  obtain ⟨m,hm⟩:=Classical.choose_spec hx
  rw [iter_one hm hn]
theorem aBJ {σ ρ:Type} {step:σ->Option (σ ⊕ ρ)} (I:σ->Prop) (μ:σ->Nat) (R:ρ->Prop)
  (hstep:∀ s,I s->(∃ s',step s=some (.inl s')/\I s'/\μ s' < μ s)\/(∃ r,step s=some (.inr r)/\R r)) {s:σ} (hs:I s):∃ r,loop step s=some r/\R r:=by
 have key:∀ n s,I s->μ s<=n->∃ r m,aBI step m s=some r/\R r:=by
  intro n
  induction n with
  |zero=>
   intro s hI hm
   rcases hstep s hI with ⟨s',e,_,l⟩|⟨r,e,hr⟩
   ·omega
   ·exact ⟨r,1,by simp [aBI,e],hr⟩
  |succ n ih=>
   intro s hI hm
   rcases hstep s hI with ⟨s',e,hI',l⟩|⟨r,e,hr⟩
   ·obtain ⟨r,m,hm',hr⟩:=ih s' hI' (by omega)
    exact ⟨r,m+1,by simp [aBI,e,hm'],hr⟩
   ·exact ⟨r,1,by simp [aBI,e],hr⟩
 obtain ⟨r,m,hm,hr⟩:=key _ s hs (Nat.le_refl _)
 exact ⟨r,uS.2 ⟨m,hm⟩,hr⟩
theorem bD {σ ρ:Type} (step:σ->Option (σ ⊕ ρ)) (s:σ):loop step s=match step s with
  |none=>none
  |some (.inl s')=>loop step s'
  |some (.inr r)=>some r:=by
 cases hs:step s with
 |none=>
  cases h:loop step s with
  |none=>rfl
  |some r=>obtain ⟨n,hn⟩:=uS.1 h;cases n with
   |zero=>cases hn
   |succ n=>simp [aBI,hs] at hn
 |some x=>cases x with
  |inl s'=>
   cases h:loop step s' with
   |none=>
    cases h':loop step s with
    |none=>simp [h]
    |some r=>obtain ⟨n,hn⟩:=uS.1 h';cases n with
     |zero=>cases hn
     |succ n=>simp only [aBI,hs] at hn;rw [uS.2 ⟨n,hn⟩] at h;cases h
   |some r=>obtain ⟨n,hn⟩:=uS.1 h;simp only [h];exact uS.2 ⟨n+1,by simp [aBI,hs,hn]⟩
  |inr r=>exact uS.2 ⟨1,by simp [aBI,hs]⟩
def iK:Nat:=1099511627776
def ix {α:Type} (xs:List α) (j:Int):Option α:=if 0<=j then xs[j.toNat]? else none
def st {α:Type} (xs:List α) (j:Int) (v:α):Option (List α):=if 0<=j/\j.toNat < xs.length then some (xs.set j.toNat v) else none
def oH {α:Type} (xs ys:List α):Option (List α):=if xs.length+ys.length<=iK then some (xs++ys) else none
def mkz {α:Type} (n:Int) (z:α):Option (List α):=if 0<=n/\n.toNat<=iK then some (List.replicate n.toNat z) else none
def slc {α:Type} (xs:List α) (lo hi:Int):Option (List α):=if 0<=lo/\lo<=hi/\hi.toNat<=xs.length then some ((xs.drop lo.toNat).take (hi.toNat - lo.toNat)) else none
def eK (a b:List UInt8):Option (List UInt8):=if a.length+b.length<=iK then some (a++b) else none
def qu (a b:Int):Option Int:=if b=0 then none else some (wr (a.tdiv b))
def rm (a b:Int):Option Int:=if b=0 then none else some (a.tmod b)
def pM:List UInt8->List UInt8->Bool
 |_,[]=>false
 |[],_::_=>true
 |a::x,b::y=>a < b||(a == b&&pM x y)
theorem aAO {α:Type} {xs:List α} {j:Int} {d:α} (h:ix xs j=some d):0<=j/\j.toNat < xs.length/\xs[j.toNat]?=some d:=by
 unfold ix at h
 split at h
 ·rename_i hj;exact ⟨hj,(List.getElem?_eq_some_iff.1 h).1,h⟩
 ·cases h
theorem dQ {α:Type} (xs:List α) (j:Nat):ix xs (j:Int)=xs[j]?:=by simp [ix]
theorem aIP {α:Type} {xs ys:List α} {j:Int} {v:α} (h:st xs j v=some ys):0<=j/\j.toNat < xs.length/\ys=xs.set j.toNat v:=by
 unfold st at h;split at h
 ·rename_i hj;exact ⟨hj.1,hj.2,(Option.some.inj h).symm⟩
 ·cases h
theorem vH {α:Type} {xs ys:List α} {j:Int} {v:α} (h:st xs j v=some ys):xs.length=ys.length:=by obtain ⟨_,_,rfl⟩:=aIP h;simp
theorem aPP {α:Type} {xs ys zs:List α} (h:oH xs ys=some zs):xs.length+ys.length<=iK/\zs=xs++ys:=by
 unfold oH at h;split at h
 ·rename_i hj;exact ⟨hj,(Option.some.inj h).symm⟩
 ·cases h
theorem mkz_some {α:Type} {n:Int} {z:α} {zs:List α} (h:mkz n z=some zs):0<=n/\n.toNat<=iK/\zs=List.replicate n.toNat z:=by
 unfold mkz at h;split at h
 ·rename_i hj;exact ⟨hj.1,hj.2,(Option.some.inj h).symm⟩
 ·cases h
theorem aIQ {α:Type} {xs zs:List α} {lo hi:Int} (h:slc xs lo hi=some zs):0<=lo/\lo<=hi/\hi.toNat<=xs.length/\zs=(xs.drop lo.toNat).take (hi.toNat - lo.toNat):=by
 unfold slc at h;split at h
 ·rename_i hj;exact ⟨hj.1,hj.2.1,hj.2.2,(Option.some.inj h).symm⟩
 ·cases h
theorem cat_some {a b c:List UInt8} (h:eK a b=some c):a.length+b.length<=iK/\c=a++b:=by
 unfold eK at h;split at h
 ·rename_i hj;exact ⟨hj,(Option.some.inj h).symm⟩
 ·cases h
end Gv
