/- More rules: bytes to strings; what is given for good. No program in sight. -/
import Derived.Test.YthbfapccpmppoaaGreatDoorJJ
import Derived.Laws.IdiomStrings
set_option linter.all false
namespace Gv
open Go
section
variable {P:Program} {n:Nat} {ops:Array Oper} {rest:List Oper} {Q:lI} {f:Nat->Value} {w:World}
variable {d:Nat} {x y z:Operand} {ty:TypeId} {pos:String} {af:Array Edge}
variable {G:kH} {K:Hp} {L:List eW} {α:Type} [El α]
theorem aQY {S T E:TypeId} {a:Option Addr} {cap:Nat} {xs:aL} (hS:P.underlying S=some (.slice E)) (hE:P.underlying E=some (.int .u8)) (hT:P.underlying T=some .string) (hk:K.le (hp w)) (hr:aW K a cap xs):
  (convert S T (.slice a xs.length cap)).run P w=.ok (str xs) w:=by
 cases a with
 |none=>
  obtain ⟨rfl,rfl⟩:=hr.nil rfl
  rw [run_convert_bytes_string w S T E _ _ _ hS hE hT]
  simp [Conv.bytesToString,str]
  rfl
 |some ad=>
  have key:∀ j (hj:j < xs.length),ad.spot=none/\w.cell? ⟨ad.block,ad.off+j,none⟩=some (.int .u8 (xs[j].toNat:Int)):=fun j hj=>by
   obtain ⟨cs,⟨ad',c,E',fr,e1,s,m,r⟩,e2⟩:=hr.cell j xs[j] (by simp [hj])
   cases e1
   cases e2
   have hv:=r 0 (u8 xs[j]) rfl
   refine ⟨s,?_⟩
   have hz:El.sz UInt8=1:=rfl
   rw [hz,Nat.mul_one,Nat.add_zero] at hv
   exact qH hk m hv
  exact run_convert_bytes_back w S T E ad cap xs hS hE hT (fun j hj=>by
   obtain ⟨s,hc⟩:=key j hj
   have:ad=⟨ad.block,ad.off,none⟩:=by cases ad;simp at s;subst s;rfl
   rw [this,mM]
   exact hc)
theorem R_convBSO {S T E E':TypeId} {Ke:Hp} {i:Nat} {a:Option Addr} {l cap:Nat} {xs:aL} (hS:P.underlying S=some (.slice E)) (hE:P.underlying E=some (.int .u8)) (hT:P.underlying T=some .string) (hs:aF G K L w) (hi:L[i]?=some (aV E' Ke a cap xs))
  (hx:ev f x=.slice a l cap) (hl:l=xs.length):(execOp (ev f) ⟨some d,.convert S T x,ty,pos,af,none⟩).run P w=.ok (.value (str xs)) w:=by
 subst hl
 obtain ⟨h1,hA,hle,_⟩:=hs.entry hi
 have hr:aW (hp w) a cap xs:=aV.rd (K:=fun _=>none) hA hle (fun _ _ h=>by cases h)
 simp only [execOp,hx,Sem.run_bind,aQY hS hE hT (Hp.le_refl _) hr]
 simp
theorem R_convu8' {S T:TypeId} {k:IntKind} {a:Int} (hT:∀ w,(underlying T).run P w=.ok (.int .u8) w) (hx:ev f x=.int k a) (hS:∃ d,∀ w,(underlying S).run P w=.ok d w):
  (execOp (ev f) ⟨some d,.convert S T x,ty,pos,af,none⟩).run P w=.ok (.value (.int .u8 ((UInt8.ofInt a).toNat:Int))) w:=by
 rw [R_convu8 hT hx hS]
 congr 3
 simp only [wu8,UInt8.ofInt,UInt8.toNat_ofNat']
 try omega
theorem aPV {a b:UInt8} {T U:TypeId} (hx:ev f x=.int .u8 (a.toNat:Int)) (hy:ev f y=.int .u8 (b.toNat:Int)):
  (execOp (ev f) ⟨some d,.binOp .sub T x y U,ty,pos,af,none⟩).run P w=.ok (.value (.int .u8 ((a - b).toNat:Int))) w:=by
 rw [R_u8sub hx hy];congr 3;have:=a.toNat_lt;have:=b.toNat_lt;simp only [wu8,UInt8.toNat_sub];omega
end
theorem aF.giveSp {α:Type} [El α] {G:kH} {E:TypeId} {K Ke:Hp} {L M:List eW} {w:World} {a:Option Addr} {cap:Nat} {xs:List α} (s:aF G K L w) (hK:Ke.le K) (p:Pck L (aV E Ke a cap xs) M):
  ∃ K',K.le K'/\aW K' a cap xs/\aF G K' M w:=by
 obtain ⟨K',h1,h2,h3,_⟩:=aF.lendSp s hK p
 exact ⟨K',h1,h2,h3⟩
end Gv
