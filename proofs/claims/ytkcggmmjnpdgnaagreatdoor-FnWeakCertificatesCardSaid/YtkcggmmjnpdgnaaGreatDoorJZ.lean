/- Arguments: what a reading of the statement's kind gives, in words of pieces. -/
import Derived.Lib.SmallJoins
import Derived.Test.YtkcggmmjnpdgnaaGreatDoorJWk11
import Derived.Test.YtkcggmmjnpdgnaaGreatDoorJP300
import Derived.Test.YtkcggmmjnpdgnaaGreatDoorCards
import Derived.Test.YtkcggmmjnpdgnaaGreatDoorTie
import Derived.Deep.DeepWitnessRowRef
import Derived.Stop.LaidErr
set_option linter.all false
namespace Gv
open Go Go.Deep
def Opn (P:Program) (W:World) (α:Type) [El α] (t:TypeId) (ok:α->Prop):Prop:=
 ∀ (H:Type) (enc:TypeId × Value->H) (sp:Nat->Bool) (hd:Bool) (fuel:Nat) (cs:List Value) (x:DataW H × List MemPlace),DataW.trod enc P W 0 sp hd fuel t cs=some x->∃ d:α,El.rd (hp W) cs d/\ok d
section
variable {P:Program} {W:World} {t:TypeId}
theorem aIf (a:Addr) (k:Nat):(a.add k).block=a.block:=by unfold Addr.add;split<;>rfl
theorem add_off (a:Addr) (k:Nat):(a.add k).off=a.off+k:=by
 unfold Addr.add;split
 ·rename_i h;subst h;rfl
 ·rfl
theorem aOQ {a:Addr} (h:a.spot=none) (k:Nat):(a.add k).spot=none:=by
 unfold Addr.add;split
 ·exact h
 ·rfl
theorem opn_slice {α:Type} [El α] {e:TypeId} {ok:α->Prop} (ht:P.underlying t=some (.slice e)) (hc:P.cellsOf e=El.sz α) (he:Opn P W α e ok):Opn P W (List α) t (fun xs=>xs.length<=9223372036854775807/\∀ d∈xs,ok d):=by
 intro H enc sp hd fuel cs x h
 rcases open_slice ht h with ⟨rfl,_⟩|⟨a,len,cap,m,n,D,Pl,rfl,hb,hl,hm,hmm,_,hx⟩
 ·exact ⟨[],⟨none,0,rfl,aKn _⟩,by simp,by simp⟩
 ·have hlm:len<=m:=by rw [hmm];split<;>omega
  have hex:∀ i,i < len->∃ d:α,(∃ cs',W.cells? 0 (a.add (i * P.cellsOf e)) (P.cellsOf e)=some cs'/\El.rd (hp W) cs' d)/\ok d:=fun i hi=>by
   obtain ⟨cs',h1,h2⟩:=hx i (by omega)
   obtain ⟨d,h3,h4⟩:=he H enc sp hd n cs' _ h2
   exact ⟨d,⟨cs',h1,h3⟩,h4⟩
  have hf:∃ f:(i:Nat)->i < len->α,∀ i hi,(∃ cs',W.cells? 0 (a.add (i * P.cellsOf e)) (P.cellsOf e)=some cs'/\El.rd (hp W) cs' (f i hi))/\ok (f i hi):=
   ⟨fun i hi=>Classical.choose (hex i hi),fun i hi=>Classical.choose_spec (hex i hi)⟩
  obtain ⟨f,hf⟩:=hf
  have hlen:(List.ofFn fun i:Fin len=>f i.1 i.2).length=len:=by simp
  refine ⟨List.ofFn fun i:Fin len=>f i.1 i.2,⟨some a,cap,by rw [hlen],⟨by rw [hlen];exact hl,fun e=>(by cases e),fun i d hd'=>?_⟩⟩,?_,fun d hd'=>?_⟩
  rotate_left
  ·show (List.ofFn fun i:Fin len=>f i.1 i.2).length<=_
   rw [hlen]
   have:maxLen=9223372036854775807:=by decide
   omega
  rotate_left
  ·have hi:i < len:=by have:=(List.getElem?_eq_some_iff.1 hd').1;omega
   rw [List.getElem?_ofFn,dif_pos hi] at hd'
   cases hd'
   obtain ⟨⟨cs',h1,h2⟩,_⟩:=hf i hi
   refine ⟨cs',?_,h2⟩
   obtain ⟨_,h3,h4⟩:=World.cells?_some h1
   have hz:=El.pos (α:=α)
   have hasp:a.spot=none:=by
    obtain ⟨⟨cs0,g1,_⟩,_⟩:=hf 0 (by omega)
    obtain ⟨_,g3,g4⟩:=World.cells?_some g1
    have g0:=g4 0 (by omega)
    rw [List.getElem?_eq_getElem (by omega)] at g0
    have:=World.cell?_spot g0
    simpa [Addr.add] using this
   have h0:=h4 0 (by omega)
   rw [List.getElem?_eq_getElem (by omega)] at h0
   unfold World.cell? at h0
   split at h0
   ·rename_i c E fr hblk
    rw [aIf,aIf] at hblk
    refine ⟨a,c,E,fr,rfl,hasp,hblk,fun j v hv=>?_⟩
    have hj:j < P.cellsOf e:=by have:=(List.getElem?_eq_some_iff.1 hv).1;omega
    have h5:=h4 j hj
    unfold World.cell? at h5
    rw [aIf,aIf,hblk,aOQ (aOQ hasp _) _,add_off,add_off,hv,hc] at h5
    simpa using h5
   ·cases h0
  ·rw [List.mem_ofFn] at hd'
   obtain ⟨i,rfl⟩:=hd'
   exact (hf i.1 i.2).2
end
end Gv
namespace Gv
open Go Go.Proofs Go.Deep
theorem opn_u8 {P:Program} {W:World} {t:TypeId} (ht:P.underlying t=some (.int .u8)):Opn P W UInt8 t (fun _=>True):=by
 intro H enc sp hd fuel cs x h
 obtain ⟨n,rfl,_,hw⟩:=DataW.trod_int ht h
 simp only [Lit.wf,Bool.and_eq_true,decide_eq_true_eq] at hw
 rw [show IntKind.u8.min=0 by decide,show IntKind.u8.max=255 by decide] at hw
 refine ⟨UInt8.ofNat n.toNat,?_,trivial⟩
 have h:((UInt8.ofNat n.toNat).toNat:Int)=n:=by
  rw [UInt8.toNat_ofNat']
  omega
 show [Value.int .u8 n]=[u8 (UInt8.ofNat n.toNat)]
 unfold u8
 rw [h]
theorem opn_bs (W:World):@Opn Tryz.prog W (List UInt8) instElList 22 (fun xs=>xs.length<=9223372036854775807/\∀ d∈xs,True):=opn_slice (e:=5) (by kernel_rfl) (by kernel_rfl) (opn_u8 (by kernel_rfl))
end Gv
namespace Gv
open Go Go.Proofs Go.Deep Go.ChangeShapes Go.WideShapes Go.ChangeAt Go.RowKit Go.Shelf
theorem aI.start0 (w:World) (hl:Laid (hp w)):aI ⟨env w,0,hp w,hl⟩ (hp w) [] w:=
 ⟨⟨rfl,Nat.zero_le _⟩,fun _=>none,fun _=>.inr rfl,Hp.le_refl _,fun _=>.inr rfl,Hp.le_refl _,fun _ _ h=>(by cases h),trivial⟩
theorem aI.below0 {w w':World} {hl:Laid (hp w)} (s:aI ⟨env w,0,hp w,hl⟩ (hp w) [] w'):Below w.heap.size w w':=by
 obtain ⟨⟨he,_⟩,_,_,_,_,hk,_⟩:=s
 have hb:∀ k,k < w.heap.size->w'.heap[k]?=w.heap[k]?:=fun k hk'=>by
  have:=hk k w.heap[k] (by simp [hp,hk'])
  unfold hp at this
  rw [this];simp [hk']
 simp only [Gv.env,Env0.mk.injEq] at he
 refine ⟨he.1,he.2.1,he.2.2,?_,hb⟩
 rcases Nat.lt_or_ge w'.heap.size w.heap.size with h|h
 ·have:=hb w'.heap.size h
  simp [h] at this
 ·exact h
theorem laid_all {W:World} (h:aIw W):Laid (hp W):=by
 intro w hle
 obtain ⟨⟨m,h1⟩,⟨E,fr,h2⟩,⟨v,h3,h4⟩,u,h5,h6⟩:=h
 have cell:∀ (b o:Nat) v,W.cell? ⟨b,o,none⟩=some v->w.cell? ⟨b,o,none⟩=some v:=by
  intro b o v hv
  unfold World.cell? at hv ⊢
  split at hv
  ·rename_i c E fr hc
   have hc':w.heap[b]?=some (.cells c E fr):=hle b _ hc
   simp only [hc'];exact hv
  ·cases hv
 exact ⟨⟨m,cell _ _ _ h1⟩,⟨E,fr,hle _ _ h2⟩,⟨v,cell _ _ _ h3,h4⟩,u,cell _ _ _ h5,h6⟩
theorem walk0 {H:Type} {enc:TypeId × Value->H} {W:World} (hL:aIw W) {b0 b1:Option Addr} {l0 m0 l1 m1:Nat} {d0 d1:DataW H} {p0 p1:List MemPlace}
  (h0:DataW.Trod enc Tryz.prog W 0 (fun _=>true) true 22 (.slice b0 l0 m0) d0 p0) (h1:DataW.Trod enc Tryz.prog W 0 (fun _=>true) true 22 (.slice b1 l1 m1) d1 p1):
  Calls Tryz.prog 3 #[.slice b0 l0 m0,.slice b1 l1 m1] W fun e W'=>e=.returned (.bool true)/\Below W.heap.size W W':=by
 obtain ⟨n0,g0⟩:=h0
 obtain ⟨n1,g1⟩:=h1
 obtain ⟨t0,⟨a0,k0,e0,r0⟩,o0,_⟩:=opn_bs W H enc _ _ _ _ _ g0
 obtain ⟨t1,⟨a1,k1,e1,r1⟩,o1,_⟩:=opn_bs W H enc _ _ _ _ _ g1
 have hc0:[Value.slice b0 l0 m0]=[Value.slice a0 t0.length k0]:=e0
 cases hc0
 have hc1:[Value.slice b1 l1 m1]=[Value.slice a1 t1.length k1]:=e1
 cases hc1
 refine (yG (lawWeak t0 t1) (aI.start0 W (laid_all hL)) rfl r0 r1).mono ?_
 rintro e W' ⟨v,rfl,rfl,hs⟩
 exact ⟨rfl,hs.below0⟩
theorem starErr: "*"++ "errors.errorString"= "*errors.errorString":=by decide
theorem rowErr (u:TypeId) (h:Tryz.prog.typeName? 3 u=some "*errors.errorString"):u=253:=
 typeName_ptr_named (nm:= "errors.errorString") (by rw [starErr];kernel_rfl) (by kernel_rfl) (by decide) u (by rw [starErr];exact h)
theorem laid0 {W:World} (hL:laidMetH Tryz.prog YtkcggmmjnpdgnaaGreatDoor.Rows.fnWeakCertificatesRow.laid W) (hS:W.ShapedOpen Tryz.prog):aIw W:=by
 have h:laidMet Tryz.prog YtkcggmmjnpdgnaaGreatDoor.Rows.fnWeakCertificatesRow.laid W:=hL
 have h2:laidMet Tryz.prog (("internal/strconv.uint64pow10",Lib.tabData .u64 Lib.pow10Tab)::_) W:=h.tail.tail
 have hT:=Lib.tabIs_of_head (g:=5) (t:=257) (e:=54) (n:=20) (by kernel_rfl) (by kernel_rfl) (by kernel_rfl) (by kernel_rfl) (by kernel_rfl) (by kernel_rfl) h2
 obtain ⟨a0,s0,hv0,_⟩:=laid_sentinel h2.tail.tail (g:=2) (ti:=201) (ms:=#[("Error",225)]) (tp:=253) (te:=255) (ts:=9) (f:=⟨ "s",9,0,false,"","errors",0⟩) (by kernel_rfl) (by kernel_rfl) (by kernel_rfl) rowErr (by kernel_rfl) (by kernel_rfl) rfl rfl (by kernel_rfl) (by kernel_rfl) (by kernel_rfl)
 obtain ⟨a1,s1,hv1,_⟩:=laid_sentinel h2.tail.tail.tail (g:=1) (ti:=201) (ms:=#[("Error",225)]) (tp:=253) (te:=255) (ts:=9) (f:=⟨ "s",9,0,false,"","errors",0⟩) (by kernel_rfl) (by kernel_rfl) (by kernel_rfl) rowErr (by kernel_rfl) (by kernel_rfl) rfl rfl (by kernel_rfl) (by kernel_rfl) (by kernel_rfl)
 refine ⟨cell_of_shapedOpen_int (t:=3) (zero:=#[.int .i64 0]) hS (by decide+kernel) (by kernel_rfl) rfl (by kernel_rfl) (by kernel_rfl) (by kernel_rfl),?_,⟨_,by have h0:=World.var?_cell (show Tryz.prog.globalNamed "strconv.ErrSyntax"=some 1 by kernel_rfl) hv1 0;simpa using h0,.inr ⟨_,_,rfl⟩⟩,_,by have h0:=World.var?_cell (show Tryz.prog.globalNamed "strconv.ErrRange"=some 2 by kernel_rfl) hv0 0;simpa using h0,.inr ⟨_,_,rfl⟩⟩
 unfold Lib.TabIs World.var? at hT
 rw [show Tryz.prog.globalNamed "internal/strconv.uint64pow10"=some 5 by kernel_rfl] at hT
 simp only [Option.bind_some] at hT
 split at hT
 ·rename_i cs E fr hc
  cases hT
  exact ⟨E,fr,hc⟩
 ·cases hT
end Gv
