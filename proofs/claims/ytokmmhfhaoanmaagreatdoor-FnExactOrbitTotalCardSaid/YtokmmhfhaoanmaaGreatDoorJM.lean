/- Words of the models: partial functions on data, loops. Plain Lean: no program, no memory. -/
set_option linter.all false
namespace Gv
abbrev aH:=List UInt8
def wr (x:Int):Int:=(x+9223372036854775808) % 18446744073709551616 - 9223372036854775808
theorem eG {x:Int} (h1:-9223372036854775808<=x) (h2:x<=9223372036854775807):wr x=x:=by unfold wr;omega
def wu8 (x:Int):Int:=x % 256
def ob {α β:Type} (o:Option α) (f:α->Option β):Option β:=match o with|none=>none|some x=>f x
theorem aB {α β:Type} {o:Option α} {f:α->Option β} {r:β} (h:ob o f=some r):∃ x,o=some x/\f x=some r:=by
 cases o with
 |none=>cases h
 |some x=>exact ⟨x,rfl,h⟩
@[simp] theorem ob_none' {α β:Type} (f:α->Option β):ob none f=none:=rfl
@[simp] theorem aA {α β:Type} (x:α) (f:α->Option β):ob (some x) f=f x:=rfl
theorem aG {α:Type} {c:Bool} {a b:Option α} {r:α} (h:(if c=true then a else b)=some r):(c=true/\a=some r)\/(¬ c=true/\b=some r):=by
 cases c
 ·exact .inr ⟨by simp,by simpa using h⟩
 ·exact .inl ⟨rfl,by simpa using h⟩
def aDA {σ ρ:Type} (step:σ->Option (σ ⊕ ρ)):Nat->σ->Option ρ
 |0,_=>none
 |n+1,s=>match step s with
  |none=>none
  |some (.inl s')=>aDA step n s'
  |some (.inr r)=>some r
theorem aQQ {σ ρ:Type} {step:σ->Option (σ ⊕ ρ)}:∀ {n:Nat} {s:σ} {r:ρ},aDA step n s=some r->aDA step (n+1) s=some r
 |0,_,_,h=>by cases h
 |n+1,s,r,h=>by
  unfold aDA at h ⊢
  cases hs:step s with
  |none=>rw [hs] at h;cases h
  |some x=>cases x with
   |inl s'=>rw [hs] at h;exact aQQ h
   |inr r'=>rw [hs] at h;exact h
theorem aOL {σ ρ:Type} {step:σ->Option (σ ⊕ ρ)} {n:Nat} {s:σ} {r:ρ} (h:aDA step n s=some r):∀ k,aDA step (n+k) s=some r
 |0=>h
 |k+1=>aQQ (aOL h k)
theorem iter_one {σ ρ:Type} {step:σ->Option (σ ⊕ ρ)} {n m:Nat} {s:σ} {r r':ρ} (h:aDA step n s=some r) (h':aDA step m s=some r'):r=r':=by
 have a:=aOL h m
 have b:=aOL h' n
 rw [Nat.add_comm] at b
 rw [a] at b
 exact Option.some.inj b
open Classical in
noncomputable def loop {σ ρ:Type} (step:σ->Option (σ ⊕ ρ)) (s:σ):Option ρ:=
 if h:∃ r n,aDA step n s=some r then some (Classical.choose h) else none
theorem xS {σ ρ:Type} {step:σ->Option (σ ⊕ ρ)} {s:σ} {r:ρ}:loop step s=some r<->∃ n,aDA step n s=some r:=by
 unfold loop
 constructor
 ·intro h
  split at h
  ·rename_i hx
   obtain ⟨n,hn⟩:=Classical.choose_spec hx
   exact ⟨n,by rw [hn];exact h⟩
  ·cases h
 ·rintro ⟨n,hn⟩
  have hx:∃ r n,aDA step n s=some r:=⟨r,n,hn⟩
  rw [dif_pos hx]
  obtain ⟨m,hm⟩:=Classical.choose_spec hx
  rw [iter_one hm hn]
theorem yU {σ ρ:Type} {step:σ->Option (σ ⊕ ρ)} (I:σ->Prop) (μ:σ->Nat) (R:ρ->Prop)
  (hstep:∀ s,I s->(∃ s',step s=some (.inl s')/\I s'/\μ s' < μ s)\/(∃ r,step s=some (.inr r)/\R r)) {s:σ} (hs:I s):∃ r,loop step s=some r/\R r:=by
 have key:∀ n s,I s->μ s<=n->∃ r m,aDA step m s=some r/\R r:=by
  intro n
  induction n with
  |zero=>
   intro s hI hm
   rcases hstep s hI with ⟨s',e,_,l⟩|⟨r,e,hr⟩
   ·omega
   ·exact ⟨r,1,by simp [aDA,e],hr⟩
  |succ n ih=>
   intro s hI hm
   rcases hstep s hI with ⟨s',e,hI',l⟩|⟨r,e,hr⟩
   ·obtain ⟨r,m,hm',hr⟩:=ih s' hI' (by omega)
    exact ⟨r,m+1,by simp [aDA,e,hm'],hr⟩
   ·exact ⟨r,1,by simp [aDA,e],hr⟩
 obtain ⟨r,m,hm,hr⟩:=key _ s hs (Nat.le_refl _)
 exact ⟨r,xS.2 ⟨m,hm⟩,hr⟩
theorem aQ {σ ρ:Type} (step:σ->Option (σ ⊕ ρ)) (s:σ):loop step s=match step s with
  |none=>none
  |some (.inl s')=>loop step s'
  |some (.inr r)=>some r:=by
 cases hs:step s with
 |none=>
  cases h:loop step s with
  |none=>rfl
  |some r=>obtain ⟨n,hn⟩:=xS.1 h;cases n with
   |zero=>cases hn
   |succ n=>simp [aDA,hs] at hn
 |some x=>cases x with
  |inl s'=>
   cases h:loop step s' with
   |none=>
    cases h':loop step s with
    |none=>simp [h]
    |some r=>obtain ⟨n,hn⟩:=xS.1 h';cases n with
     |zero=>cases hn
     |succ n=>simp only [aDA,hs] at hn;rw [xS.2 ⟨n,hn⟩] at h;cases h
   |some r=>obtain ⟨n,hn⟩:=xS.1 h;simp only [h];exact xS.2 ⟨n+1,by simp [aDA,hs,hn]⟩
  |inr r=>exact xS.2 ⟨1,by simp [aDA,hs]⟩
def fG:Nat:=1099511627776
def ix {α:Type} (xs:List α) (j:Int):Option α:=if 0<=j then xs[j.toNat]? else none
def st {α:Type} (xs:List α) (j:Int) (v:α):Option (List α):=if 0<=j/\j.toNat < xs.length then some (xs.set j.toNat v) else none
def wR {α:Type} (xs ys:List α):Option (List α):=if xs.length+ys.length<=fG then some (xs++ys) else none
def mkz {α:Type} (n:Int) (z:α):Option (List α):=if 0<=n/\n.toNat<=fG then some (List.replicate n.toNat z) else none
def slc {α:Type} (xs:List α) (lo hi:Int):Option (List α):=if 0<=lo/\lo<=hi/\hi.toNat<=xs.length then some ((xs.drop lo.toNat).take (hi.toNat - lo.toNat)) else none
def ovw {α:Type} (xs:List α) (lo:Int) (ys:List α):Option (List α):=if 0<=lo/\lo.toNat+ys.length<=xs.length then some (xs.take lo.toNat++ys++xs.drop (lo.toNat+ys.length)) else none
theorem aLq {α:Type} {xs ys zs:List α} {lo:Int} (h:ovw xs lo ys=some zs):0<=lo/\lo.toNat+ys.length<=xs.length/\zs=xs.take lo.toNat++ys++xs.drop (lo.toNat+ys.length):=by
 unfold ovw at h;split at h
 ·rename_i hj;exact ⟨hj.1,hj.2,(Option.some.inj h).symm⟩
 ·cases h
theorem aRG {α:Type} {xs ys zs:List α} {lo:Int} (h:ovw xs lo ys=some zs):xs.length=zs.length:=by obtain ⟨_,_,rfl⟩:=aLq h;simp;omega
def cat (a b:List UInt8):Option (List UInt8):=if a.length+b.length<=fG then some (a++b) else none
def qu (a b:Int):Option Int:=if b=0 then none else some (wr (a.tdiv b))
def rm (a b:Int):Option Int:=if b=0 then none else some (a.tmod b)
def mW:List UInt8->List UInt8->Bool
 |_,[]=>false
 |[],_::_=>true
 |a::x,b::y=>a < b||(a == b&&mW x y)
def qL {κ ν:Type} [DecidableEq κ]:List (κ × ν)->κ->Option ν
 |[],_=>none
 |(k',v)::l,k=>if k=k' then some v else qL l k
def vA {κ ν:Type} [DecidableEq κ]:List (κ × ν)->κ->ν->List (κ × ν)
 |[],k,v=>[(k,v)]
 |(k',v')::l,k,v=>if k=k' then (k,v)::l else (k',v')::vA l k v
def mnI (a b:Int):Int:=if b < a then b else a
def mxI (a b:Int):Int:=if b > a then b else a
theorem aBG {α:Type} {xs:List α} {j:Int} {d:α} (h:ix xs j=some d):0<=j/\j.toNat < xs.length/\xs[j.toNat]?=some d:=by
 unfold ix at h
 split at h
 ·rename_i hj;exact ⟨hj,(List.getElem?_eq_some_iff.1 h).1,h⟩
 ·cases h
theorem gK {α:Type} (xs:List α) (j:Nat):ix xs (j:Int)=xs[j]?:=by simp [ix]
theorem ix_of {α:Type} {xs:List α} {j:Int} (h0:0<=j) (h:j.toNat < xs.length):ix xs j=some (xs[j.toNat]):=by
 unfold ix;rw [if_pos h0,List.getElem?_eq_getElem h]
theorem aJu {α:Type} {xs ys:List α} {j:Int} {v:α} (h:st xs j v=some ys):0<=j/\j.toNat < xs.length/\ys=xs.set j.toNat v:=by
 unfold st at h;split at h
 ·rename_i hj;exact ⟨hj.1,hj.2,(Option.some.inj h).symm⟩
 ·cases h
theorem fB {α:Type} {xs ys:List α} {j:Int} {v:α} (h:st xs j v=some ys):xs.length=ys.length:=by obtain ⟨_,_,rfl⟩:=aJu h;simp
theorem aHX {α:Type} {xs ys zs:List α} (h:wR xs ys=some zs):xs.length+ys.length<=fG/\zs=xs++ys:=by
 unfold wR at h;split at h
 ·rename_i hj;exact ⟨hj,(Option.some.inj h).symm⟩
 ·cases h
theorem mkz_some {α:Type} {n:Int} {z:α} {zs:List α} (h:mkz n z=some zs):0<=n/\n.toNat<=fG/\zs=List.replicate n.toNat z:=by
 unfold mkz at h;split at h
 ·rename_i hj;exact ⟨hj.1,hj.2,(Option.some.inj h).symm⟩
 ·cases h
theorem aFH {α:Type} {xs zs:List α} {lo hi:Int} (h:slc xs lo hi=some zs):0<=lo/\lo<=hi/\hi.toNat<=xs.length/\zs=(xs.drop lo.toNat).take (hi.toNat - lo.toNat):=by
 unfold slc at h;split at h
 ·rename_i hj;exact ⟨hj.1,hj.2.1,hj.2.2,(Option.some.inj h).symm⟩
 ·cases h
theorem cat_some {a b c:List UInt8} (h:cat a b=some c):a.length+b.length<=fG/\c=a++b:=by
 unfold cat at h;split at h
 ·rename_i hj;exact ⟨hj,(Option.some.inj h).symm⟩
 ·cases h
end Gv
