/- Arguments: what a reading of the statement's kind gives, in words of pieces. -/
import Derived.Lib.SmallJoins
import Derived.Test.YtokmmhfhaoanmaaGreatDoorJWk11
import Derived.Test.YtokmmhfhaoanmaaGreatDoorJP345
import Derived.Test.YtokmmhfhaoanmaaGreatDoorCards
import Derived.Test.YtokmmhfhaoanmaaGreatDoorTie
import Derived.Deep.DeepWitnessRowRef
import Derived.Stop.LaidErr
set_option linter.all false
namespace Gv
open Go Go.Deep
def Opn (P:Program) (W:World) (α:Type) [El α] (t:TypeId) (ok:α->Prop):Prop:=
 ∀ (H:Type) (enc:TypeId × Value->H) (sp:Nat->Bool) (hd:Bool) (fuel:Nat) (cs:List Value) (x:DataW H × List MemPlace),DataW.trod enc P W 0 sp hd fuel t cs=some x->∃ d:α,El.rd (hp W) cs d/\ok d
section
variable {P:Program} {W:World} {t:TypeId}
def i64ok (n:Int):Prop:=-9223372036854775808<=n/\n<=9223372036854775807
def strok (s:aH):Prop:=s.length<=9223372036854775807
theorem opn_int (ht:P.underlying t=some (.int .i64)):Opn P W Int t i64ok:=by
 intro H enc sp hd fuel cs x h
 obtain ⟨n,rfl,_,hw⟩:=DataW.trod_int ht h
 refine ⟨n,rfl,?_⟩
 simp only [Lit.wf,Bool.and_eq_true,decide_eq_true_eq] at hw
 rw [show IntKind.i64.min=-9223372036854775808 by decide,show IntKind.i64.max=9223372036854775807 by decide] at hw
 exact hw
theorem opn_str (ht:P.underlying t=some .string):Opn P W aH t strok:=by
 intro H enc sp hd fuel cs x h
 obtain ⟨⟨⟨s⟩⟩,rfl,_,hw⟩:=DataW.trod_string ht h
 exact ⟨s,rfl,hw⟩
theorem aJS (a:Addr) (k:Nat):(a.add k).block=a.block:=by unfold Addr.add;split<;>rfl
theorem add_off (a:Addr) (k:Nat):(a.add k).off=a.off+k:=by
 unfold Addr.add;split
 ·rename_i h;subst h;rfl
 ·rfl
theorem aUI {a:Addr} (h:a.spot=none) (k:Nat):(a.add k).spot=none:=by
 unfold Addr.add;split
 ·exact h
 ·rfl
theorem yR {α:Type} [El α] {e:TypeId} {ok:α->Prop} (ht:P.underlying t=some (.slice e)) (hc:P.cellsOf e=El.sz α) (he:Opn P W α e ok):Opn P W (List α) t (fun xs=>xs.length<=9223372036854775807/\∀ d∈xs,ok d):=by
 intro H enc sp hd fuel cs x h
 rcases open_slice ht h with ⟨rfl,_⟩|⟨a,len,cap,m,n,D,Pl,rfl,hb,hl,hm,hmm,_,hx⟩
 ·exact ⟨[],⟨none,0,rfl,wT _⟩,by simp,by simp⟩
 ·have hlm:len<=m:=by rw [hmm];split<;>omega
  have hex:∀ i,i < len->∃ d:α,(∃ cs',W.cells? 0 (a.add (i * P.cellsOf e)) (P.cellsOf e)=some cs'/\El.rd (hp W) cs' d)/\ok d:=fun i hi=>by
   obtain ⟨cs',h1,h2⟩:=hx i (by omega)
   obtain ⟨d,h3,h4⟩:=he H enc sp hd n cs' _ h2
   exact ⟨d,⟨cs',h1,h3⟩,h4⟩
  have hf:∃ f:(i:Nat)->i < len->α,∀ i hi,(∃ cs',W.cells? 0 (a.add (i * P.cellsOf e)) (P.cellsOf e)=some cs'/\El.rd (hp W) cs' (f i hi))/\ok (f i hi):=
   ⟨fun i hi=>Classical.choose (hex i hi),fun i hi=>Classical.choose_spec (hex i hi)⟩
  obtain ⟨f,hf⟩:=hf
  have hlen:(List.ofFn fun i:Fin len=>f i.1 i.2).length=len:=by simp
  refine ⟨List.ofFn fun i:Fin len=>f i.1 i.2,⟨some a,cap,by rw [hlen],⟨by rw [hlen];exact hl,fun e=>(by cases e),fun i d hd'=>?_⟩⟩,?_,fun d hd'=>?_⟩
  rotate_left
  ·show (List.ofFn fun i:Fin len=>f i.1 i.2).length<=_
   rw [hlen]
   have:maxLen=9223372036854775807:=by decide
   omega
  rotate_left
  ·have hi:i < len:=by have:=(List.getElem?_eq_some_iff.1 hd').1;omega
   rw [List.getElem?_ofFn,dif_pos hi] at hd'
   cases hd'
   obtain ⟨⟨cs',h1,h2⟩,_⟩:=hf i hi
   refine ⟨cs',?_,h2⟩
   obtain ⟨_,h3,h4⟩:=World.cells?_some h1
   have hz:=El.pos (α:=α)
   have hasp:a.spot=none:=by
    obtain ⟨⟨cs0,g1,_⟩,_⟩:=hf 0 (by omega)
    obtain ⟨_,g3,g4⟩:=World.cells?_some g1
    have g0:=g4 0 (by omega)
    rw [List.getElem?_eq_getElem (by omega)] at g0
    have:=World.cell?_spot g0
    simpa [Addr.add] using this
   have h0:=h4 0 (by omega)
   rw [List.getElem?_eq_getElem (by omega)] at h0
   unfold World.cell? at h0
   split at h0
   ·rename_i c E fr hblk
    rw [aJS,aJS] at hblk
    refine ⟨a,c,E,fr,rfl,hasp,hblk,fun j v hv=>?_⟩
    have hj:j < P.cellsOf e:=by have:=(List.getElem?_eq_some_iff.1 hv).1;omega
    have h5:=h4 j hj
    unfold World.cell? at h5
    rw [aJS,aJS,hblk,aUI (aUI hasp _) _,add_off,add_off,hv,hc] at h5
    simpa using h5
   ·cases h0
  ·rw [List.mem_ofFn] at hd'
   obtain ⟨i,rfl⟩:=hd'
   exact (hf i.1 i.2).2
end
end Gv
namespace Gv
open Go.Value renaming slice→zS
open Go Go.Proofs Go.Deep
theorem lec2 {α:Type} {cs:List α} (h:cs.length=2):∃ a b,cs=[a,b]:=by
 match cs,h with
 |[a,b],_=>exact ⟨a,b,rfl⟩
theorem lec3 {α:Type} {cs:List α} (h:cs.length=3):∃ a b c,cs=[a,b,c]:=by
 match cs,h with
 |[a,b,c],_=>exact ⟨a,b,c,rfl⟩
theorem lec4 {α:Type} {cs:List α} (h:cs.length=4):∃ a b c d,cs=[a,b,c,d]:=by
 match cs,h with
 |[a,b,c,d],_=>exact ⟨a,b,c,d,rfl⟩
theorem lec5 {α:Type} {cs:List α} (h:cs.length=5):∃ a b c d e,cs=[a,b,c,d,e]:=by
 match cs,h with
 |[a,b,c,d,e],_=>exact ⟨a,b,c,d,e,rfl⟩
def ok_9 (x:aH):Prop:=strok x
theorem aRF (W:World):Opn Tryz.prog W aH 9 ok_9:=opn_str (by kernel_rfl)
def ok_2 (x:Int):Prop:=i64ok x
theorem aQr (W:World):Opn Tryz.prog W Int 2 ok_2:=opn_int (by kernel_rfl)
def ok_341 (x:aP):Prop:=ok_2 x.Kind/\ok_2 x.Value
theorem opn_341 (W:World):Opn Tryz.prog W aP 341 ok_341:=by
 intro H enc sp hd fuel cs x h
 obtain ⟨xs,n,_,_,hl,hxl,hf⟩:=DataW.trod_struct (fs:=#[⟨ "Kind",2,0,false,"","",0⟩,⟨ "Value",2,1,false,"","",8⟩]) (by kernel_rfl) h
 have c2:Tryz.prog.cellsOf 2=1:=by kernel_rfl
 have c:Tryz.prog.cellsOf 341=2:=by kernel_rfl
 rw [c] at hl
 obtain ⟨u0,u1,rfl⟩:=lec2 hl
 have g:∀ i (hi:i < xs.length),xs[i]?=some xs[i]:=fun i hi=>List.getElem?_eq_getElem hi
 have h0:=hf 0 ⟨ "Kind",2,0,false,"","",0⟩ rfl
 have h1:=hf 1 ⟨ "Value",2,1,false,"","",8⟩ rfl
 dsimp only at h0 h1
 rw [c2] at h0 h1
 simp only [List.drop_zero,List.drop_succ_cons,List.take_succ_cons,List.take_zero] at h0 h1
 rw [g 0 (by rw [hxl];decide)] at h0
 rw [g 1 (by rw [hxl];decide)] at h1
 obtain ⟨d0,e0,o0⟩:=aQr W H enc sp hd _ _ _ h0
 obtain ⟨d1,e1,o1⟩:=aQr W H enc sp hd _ _ _ h1
 have e0:[u0]=[i64 d0]:=e0
 have e1:[u1]=[i64 d1]:=e1
 cases e0;cases e1
 exact ⟨⟨d0,d1⟩,rfl,o0,o1⟩
def ok_287 (x:(List aP)):Prop:=(x).length<=9223372036854775807/\∀ d∈x,ok_341 d
theorem opn_287 (W:World):Opn Tryz.prog W (List aP) 287 ok_287:=yR (by kernel_rfl) (by kernel_rfl) (opn_341 W)
def ok_169 (x:(List (List aP))):Prop:=(x).length<=9223372036854775807/\∀ d∈x,ok_287 d
theorem opn_169 (W:World):Opn Tryz.prog W (List (List aP)) 169 ok_169:=yR (by kernel_rfl) (by kernel_rfl) (opn_287 W)
def ok_171 (x:Part):Prop:=ok_2 x.Kind/\ok_2 x.Number/\ok_9 x.Name/\ok_169 x.Arguments
theorem opn_171 (W:World):Opn Tryz.prog W Part 171 ok_171:=by
 intro H enc sp hd fuel cs x h
 obtain ⟨xs,n,_,_,hl,hxl,hf⟩:=DataW.trod_struct (fs:=#[⟨ "Kind",2,0,false,"","",0⟩,⟨ "Number",2,1,false,"","",8⟩,⟨ "Name",9,2,false,"","",16⟩,⟨ "Arguments",169,3,false,"","",32⟩]) (by kernel_rfl) h
 have c2:Tryz.prog.cellsOf 2=1:=by kernel_rfl
 have c9:Tryz.prog.cellsOf 9=1:=by kernel_rfl
 have c169:Tryz.prog.cellsOf 169=1:=by kernel_rfl
 have c:Tryz.prog.cellsOf 171=4:=by kernel_rfl
 rw [c] at hl
 obtain ⟨u0,u1,u2,u3,rfl⟩:=lec4 hl
 have g:∀ i (hi:i < xs.length),xs[i]?=some xs[i]:=fun i hi=>List.getElem?_eq_getElem hi
 have h0:=hf 0 ⟨ "Kind",2,0,false,"","",0⟩ rfl
 have h1:=hf 1 ⟨ "Number",2,1,false,"","",8⟩ rfl
 have h2:=hf 2 ⟨ "Name",9,2,false,"","",16⟩ rfl
 have h3:=hf 3 ⟨ "Arguments",169,3,false,"","",32⟩ rfl
 dsimp only at h0 h1 h2 h3
 rw [c2] at h0 h1
 rw [c9] at h2
 rw [c169] at h3
 simp only [List.drop_zero,List.drop_succ_cons,List.take_succ_cons,List.take_zero] at h0 h1 h2 h3
 rw [g 0 (by rw [hxl];decide)] at h0
 rw [g 1 (by rw [hxl];decide)] at h1
 rw [g 2 (by rw [hxl];decide)] at h2
 rw [g 3 (by rw [hxl];decide)] at h3
 obtain ⟨d0,e0,o0⟩:=aQr W H enc sp hd _ _ _ h0
 obtain ⟨d1,e1,o1⟩:=aQr W H enc sp hd _ _ _ h1
 obtain ⟨d2,e2,o2⟩:=aRF W H enc sp hd _ _ _ h2
 obtain ⟨d3,⟨a3,k3,e3,r3⟩,o3⟩:=opn_169 W H enc sp hd _ _ _ h3
 have e0:[u0]=[i64 d0]:=e0
 have e1:[u1]=[i64 d1]:=e1
 have e2:[u2]=[str d2]:=e2
 have e3:[u3]=[zS a3 d3.length k3]:=e3
 cases e0;cases e1;cases e2;cases e3
 exact ⟨⟨d0,d1,d2,d3⟩,⟨a3,k3,rfl,r3⟩,o0,o1,o2,o3⟩
def ok_64 (x:(List Part)):Prop:=(x).length<=9223372036854775807/\∀ d∈x,ok_171 d
theorem opn_64 (W:World):Opn Tryz.prog W (List Part) 64 ok_64:=yR (by kernel_rfl) (by kernel_rfl) (opn_171 W)
def ok_66 (x:Definition):Prop:=ok_9 x.Name/\ok_2 x.Parameters/\ok_64 x.Body
theorem opn_66 (W:World):Opn Tryz.prog W Definition 66 ok_66:=by
 intro H enc sp hd fuel cs x h
 obtain ⟨xs,n,_,_,hl,hxl,hf⟩:=DataW.trod_struct (fs:=#[⟨ "Name",9,0,false,"","",0⟩,⟨ "Parameters",2,1,false,"","",16⟩,⟨ "Body",64,2,false,"","",24⟩]) (by kernel_rfl) h
 have c2:Tryz.prog.cellsOf 2=1:=by kernel_rfl
 have c9:Tryz.prog.cellsOf 9=1:=by kernel_rfl
 have c64:Tryz.prog.cellsOf 64=1:=by kernel_rfl
 have c:Tryz.prog.cellsOf 66=3:=by kernel_rfl
 rw [c] at hl
 obtain ⟨u0,u1,u2,rfl⟩:=lec3 hl
 have g:∀ i (hi:i < xs.length),xs[i]?=some xs[i]:=fun i hi=>List.getElem?_eq_getElem hi
 have h0:=hf 0 ⟨ "Name",9,0,false,"","",0⟩ rfl
 have h1:=hf 1 ⟨ "Parameters",2,1,false,"","",16⟩ rfl
 have h2:=hf 2 ⟨ "Body",64,2,false,"","",24⟩ rfl
 dsimp only at h0 h1 h2
 rw [c2] at h1
 rw [c9] at h0
 rw [c64] at h2
 simp only [List.drop_zero,List.drop_succ_cons,List.take_succ_cons,List.take_zero] at h0 h1 h2
 rw [g 0 (by rw [hxl];decide)] at h0
 rw [g 1 (by rw [hxl];decide)] at h1
 rw [g 2 (by rw [hxl];decide)] at h2
 obtain ⟨d0,e0,o0⟩:=aRF W H enc sp hd _ _ _ h0
 obtain ⟨d1,e1,o1⟩:=aQr W H enc sp hd _ _ _ h1
 obtain ⟨d2,⟨a2,k2,e2,r2⟩,o2⟩:=opn_64 W H enc sp hd _ _ _ h2
 have e0:[u0]=[str d0]:=e0
 have e1:[u1]=[i64 d1]:=e1
 have e2:[u2]=[zS a2 d2.length k2]:=e2
 cases e0;cases e1;cases e2
 exact ⟨⟨d0,d1,d2⟩,⟨a2,k2,rfl,r2⟩,o0,o1,o2⟩
def ok_22 (x:(List Definition)):Prop:=(x).length<=9223372036854775807/\∀ d∈x,ok_66 d
theorem opn_22 (W:World):Opn Tryz.prog W (List Definition) 22 ok_22:=yR (by kernel_rfl) (by kernel_rfl) (opn_66 W)
def ok_68 (x:(List Int)):Prop:=(x).length<=9223372036854775807/\∀ d∈x,ok_2 d
theorem opn_68 (W:World):Opn Tryz.prog W (List Int) 68 ok_68:=yR (by kernel_rfl) (by kernel_rfl) (aQr W)
def ok_70 (x:aZ):Prop:=ok_2 x.Definition/\ok_68 x.Values
theorem opn_70 (W:World):Opn Tryz.prog W aZ 70 ok_70:=by
 intro H enc sp hd fuel cs x h
 obtain ⟨xs,n,_,_,hl,hxl,hf⟩:=DataW.trod_struct (fs:=#[⟨ "Definition",2,0,false,"","",0⟩,⟨ "Values",68,1,false,"","",8⟩]) (by kernel_rfl) h
 have c2:Tryz.prog.cellsOf 2=1:=by kernel_rfl
 have c68:Tryz.prog.cellsOf 68=1:=by kernel_rfl
 have c:Tryz.prog.cellsOf 70=2:=by kernel_rfl
 rw [c] at hl
 obtain ⟨u0,u1,rfl⟩:=lec2 hl
 have g:∀ i (hi:i < xs.length),xs[i]?=some xs[i]:=fun i hi=>List.getElem?_eq_getElem hi
 have h0:=hf 0 ⟨ "Definition",2,0,false,"","",0⟩ rfl
 have h1:=hf 1 ⟨ "Values",68,1,false,"","",8⟩ rfl
 dsimp only at h0 h1
 rw [c2] at h0
 rw [c68] at h1
 simp only [List.drop_zero,List.drop_succ_cons,List.take_succ_cons,List.take_zero] at h0 h1
 rw [g 0 (by rw [hxl];decide)] at h0
 rw [g 1 (by rw [hxl];decide)] at h1
 obtain ⟨d0,e0,o0⟩:=aQr W H enc sp hd _ _ _ h0
 obtain ⟨d1,⟨a1,k1,e1,r1⟩,o1⟩:=opn_68 W H enc sp hd _ _ _ h1
 have e0:[u0]=[i64 d0]:=e0
 have e1:[u1]=[zS a1 d1.length k1]:=e1
 cases e0;cases e1
 exact ⟨⟨d0,d1⟩,⟨a1,k1,rfl,r1⟩,o0,o1⟩
def ok_23 (x:(List aZ)):Prop:=(x).length<=9223372036854775807/\∀ d∈x,ok_70 d
theorem opn_23 (W:World):Opn Tryz.prog W (List aZ) 23 ok_23:=yR (by kernel_rfl) (by kernel_rfl) (opn_70 W)
def ok_73 (x:aT):Prop:=ok_9 x.Left/\ok_9 x.Right/\ok_9 x.Result
theorem opn_73 (W:World):Opn Tryz.prog W aT 73 ok_73:=by
 intro H enc sp hd fuel cs x h
 obtain ⟨xs,n,_,_,hl,hxl,hf⟩:=DataW.trod_struct (fs:=#[⟨ "Left",9,0,false,"","",0⟩,⟨ "Right",9,1,false,"","",16⟩,⟨ "Result",9,2,false,"","",32⟩]) (by kernel_rfl) h
 have c9:Tryz.prog.cellsOf 9=1:=by kernel_rfl
 have c:Tryz.prog.cellsOf 73=3:=by kernel_rfl
 rw [c] at hl
 obtain ⟨u0,u1,u2,rfl⟩:=lec3 hl
 have g:∀ i (hi:i < xs.length),xs[i]?=some xs[i]:=fun i hi=>List.getElem?_eq_getElem hi
 have h0:=hf 0 ⟨ "Left",9,0,false,"","",0⟩ rfl
 have h1:=hf 1 ⟨ "Right",9,1,false,"","",16⟩ rfl
 have h2:=hf 2 ⟨ "Result",9,2,false,"","",32⟩ rfl
 dsimp only at h0 h1 h2
 rw [c9] at h0 h1 h2
 simp only [List.drop_zero,List.drop_succ_cons,List.take_succ_cons,List.take_zero] at h0 h1 h2
 rw [g 0 (by rw [hxl];decide)] at h0
 rw [g 1 (by rw [hxl];decide)] at h1
 rw [g 2 (by rw [hxl];decide)] at h2
 obtain ⟨d0,e0,o0⟩:=aRF W H enc sp hd _ _ _ h0
 obtain ⟨d1,e1,o1⟩:=aRF W H enc sp hd _ _ _ h1
 obtain ⟨d2,e2,o2⟩:=aRF W H enc sp hd _ _ _ h2
 have e0:[u0]=[str d0]:=e0
 have e1:[u1]=[str d1]:=e1
 have e2:[u2]=[str d2]:=e2
 cases e0;cases e1;cases e2
 exact ⟨⟨d0,d1,d2⟩,rfl,o0,o1,o2⟩
def ok_24 (x:(List aT)):Prop:=(x).length<=9223372036854775807/\∀ d∈x,ok_73 d
theorem opn_24 (W:World):Opn Tryz.prog W (List aT) 24 ok_24:=yR (by kernel_rfl) (by kernel_rfl) (opn_73 W)
def ok_25 (x:(List aH)):Prop:=(x).length<=9223372036854775807/\∀ d∈x,ok_9 d
theorem opn_25 (W:World):Opn Tryz.prog W (List aH) 25 ok_25:=yR (by kernel_rfl) (by kernel_rfl) (aRF W)
def ok_27 (x:aR):Prop:=ok_22 x.Definitions/\ok_23 x.Components/\ok_24 x.Meetings/\ok_25 x.Allowed/\ok_25 x.Hidden
theorem opn_27 (W:World):Opn Tryz.prog W aR 27 ok_27:=by
 intro H enc sp hd fuel cs x h
 obtain ⟨xs,n,_,_,hl,hxl,hf⟩:=DataW.trod_struct (fs:=#[⟨ "Definitions",22,0,false,"","",0⟩,⟨ "Components",23,1,false,"","",24⟩,⟨ "Meetings",24,2,false,"","",48⟩,⟨ "Allowed",25,3,false,"","",72⟩,⟨ "Hidden",25,4,false,"","",96⟩]) (by kernel_rfl) h
 have c22:Tryz.prog.cellsOf 22=1:=by kernel_rfl
 have c23:Tryz.prog.cellsOf 23=1:=by kernel_rfl
 have c24:Tryz.prog.cellsOf 24=1:=by kernel_rfl
 have c25:Tryz.prog.cellsOf 25=1:=by kernel_rfl
 have c:Tryz.prog.cellsOf 27=5:=by kernel_rfl
 rw [c] at hl
 obtain ⟨u0,u1,u2,u3,u4,rfl⟩:=lec5 hl
 have g:∀ i (hi:i < xs.length),xs[i]?=some xs[i]:=fun i hi=>List.getElem?_eq_getElem hi
 have h0:=hf 0 ⟨ "Definitions",22,0,false,"","",0⟩ rfl
 have h1:=hf 1 ⟨ "Components",23,1,false,"","",24⟩ rfl
 have h2:=hf 2 ⟨ "Meetings",24,2,false,"","",48⟩ rfl
 have h3:=hf 3 ⟨ "Allowed",25,3,false,"","",72⟩ rfl
 have h4:=hf 4 ⟨ "Hidden",25,4,false,"","",96⟩ rfl
 dsimp only at h0 h1 h2 h3 h4
 rw [c22] at h0
 rw [c23] at h1
 rw [c24] at h2
 rw [c25] at h3 h4
 simp only [List.drop_zero,List.drop_succ_cons,List.take_succ_cons,List.take_zero] at h0 h1 h2 h3 h4
 rw [g 0 (by rw [hxl];decide)] at h0
 rw [g 1 (by rw [hxl];decide)] at h1
 rw [g 2 (by rw [hxl];decide)] at h2
 rw [g 3 (by rw [hxl];decide)] at h3
 rw [g 4 (by rw [hxl];decide)] at h4
 obtain ⟨d0,⟨a0,k0,e0,r0⟩,o0⟩:=opn_22 W H enc sp hd _ _ _ h0
 obtain ⟨d1,⟨a1,k1,e1,r1⟩,o1⟩:=opn_23 W H enc sp hd _ _ _ h1
 obtain ⟨d2,⟨a2,k2,e2,r2⟩,o2⟩:=opn_24 W H enc sp hd _ _ _ h2
 obtain ⟨d3,⟨a3,k3,e3,r3⟩,o3⟩:=opn_25 W H enc sp hd _ _ _ h3
 obtain ⟨d4,⟨a4,k4,e4,r4⟩,o4⟩:=opn_25 W H enc sp hd _ _ _ h4
 have e0:[u0]=[zS a0 d0.length k0]:=e0
 have e1:[u1]=[zS a1 d1.length k1]:=e1
 have e2:[u2]=[zS a2 d2.length k2]:=e2
 have e3:[u3]=[zS a3 d3.length k3]:=e3
 have e4:[u4]=[zS a4 d4.length k4]:=e4
 cases e0;cases e1;cases e2;cases e3;cases e4
 exact ⟨⟨d0,d1,d2,d3,d4⟩,⟨a0,k0,a1,k1,a2,k2,a3,k3,a4,k4,rfl,r0,r1,r2,r3,r4⟩,o0,o1,o2,o3,o4⟩
end Gv
namespace Gv
open Go.Value renaming slice→zS
open Go Go.Proofs Go.Deep Go.ChangeShapes Go.WideShapes Go.ChangeAt Go.RowKit Go.Shelf
theorem aD.start0 (w:World) (hl:Laid (hp w)):aD ⟨env w,0,hp w,hl⟩ (hp w) [] w:=
 ⟨⟨rfl,Nat.zero_le _⟩,fun _=>none,fun _=>.inr rfl,Hp.le_refl _,fun _=>.inr rfl,Hp.le_refl _,fun _ _ h=>(by cases h),trivial⟩
theorem aD.below0 {w w':World} {hl:Laid (hp w)} (s:aD ⟨env w,0,hp w,hl⟩ (hp w) [] w'):Below w.heap.size w w':=by
 obtain ⟨⟨he,_⟩,_,_,_,_,hk,_⟩:=s
 have hb:∀ k,k < w.heap.size->w'.heap[k]?=w.heap[k]?:=fun k hk'=>by
  have:=hk k w.heap[k] (by simp [hp,hk'])
  unfold hp at this
  rw [this];simp [hk']
 simp only [Gv.env,Env0.mk.injEq] at he
 refine ⟨he.1,he.2.1,he.2.2,?_,hb⟩
 rcases Nat.lt_or_ge w'.heap.size w.heap.size with h|h
 ·have:=hb w'.heap.size h
  simp [h] at this
 ·exact h
theorem laid_all {W:World} (h:aKA W):Laid (hp W):=by
 intro w hle
 obtain ⟨⟨m,h1⟩,⟨E,fr,h2⟩,⟨v,h3,h4⟩,u,h5,h6⟩:=h
 have cell:∀ (b o:Nat) v,W.cell? ⟨b,o,none⟩=some v->w.cell? ⟨b,o,none⟩=some v:=by
  intro b o v hv
  unfold World.cell? at hv ⊢
  split at hv
  ·rename_i c E fr hc
   have hc':w.heap[b]?=some (.cells c E fr):=hle b _ hc
   simp only [hc'];exact hv
  ·cases hv
 exact ⟨⟨m,cell _ _ _ h1⟩,⟨E,fr,hle _ _ h2⟩,⟨v,cell _ _ _ h3,h4⟩,u,cell _ _ _ h5,h6⟩
theorem walk0 {H:Type} {enc:TypeId × Value->H} {W:World} (hL:aKA W) {c0:Array Value} {d0:DataW H} {p0:List MemPlace}
  (h0:DataW.Trod enc Tryz.prog W 0 (fun _=>true) true 27 (.agg c0) d0 p0):
  Calls Tryz.prog 3 #[.agg c0] W fun e W'=>e=.returned (.bool true)/\Below W.heap.size W W':=by
 obtain ⟨n0,g0⟩:=h0
 obtain ⟨t0,⟨a0_0,k0_0,a0_1,k0_1,a0_2,k0_2,a0_3,k0_3,a0_4,k0_4,e0,r0_0,r0_1,r0_2,r0_3,r0_4⟩,o0⟩:=opn_27 W H enc _ _ _ _ _ g0
 have hc0:c0=#[zS a0_0 t0.Definitions.length k0_0,zS a0_1 t0.Components.length k0_1,zS a0_2 t0.Meetings.length k0_2,zS a0_3 t0.Allowed.length k0_3,zS a0_4 t0.Hidden.length k0_4]:=by
  have:c0.toList=_:=e0
  exact Array.toList_inj.1 this
 subst hc0
 refine (wP (lawTot t0 ⟨o0.1.1,fun d hd=>⟨(o0.1.2 d hd).1,(o0.1.2 d hd).2.2.1,fun p hp=>⟨((o0.1.2 d hd).2.2.2 p hp).2.2.1,((o0.1.2 d hd).2.2.2 p hp).2.2.2.1,fun e he=>(((o0.1.2 d hd).2.2.2 p hp).2.2.2.2 e he).1⟩⟩,o0.2.1.1,fun c hc=>(o0.2.1.2 c hc).2.1,o0.2.2.1.1,fun m hm=>⟨(o0.2.2.1.2 m hm).1,(o0.2.2.1.2 m hm).2.1,(o0.2.2.1.2 m hm).2.2⟩,o0.2.2.2.1.1,fun t ht=>o0.2.2.2.1.2 t ht,o0.2.2.2.2.1,fun t ht=>o0.2.2.2.2.2 t ht⟩) (aD.start0 W (laid_all hL)) rfl r0_0 r0_1 r0_2 r0_3 r0_4).mono ?_
 rintro e W' ⟨v,rfl,rfl,hs⟩
 exact ⟨rfl,hs.below0⟩
theorem starErr: "*"++ "errors.errorString"= "*errors.errorString":=by decide
theorem rowErr (u:TypeId) (h:Tryz.prog.typeName? 3 u=some "*errors.errorString"):u=395:=
 typeName_ptr_named (nm:= "errors.errorString") (by rw [starErr];kernel_rfl) (by kernel_rfl) (by decide) u (by rw [starErr];exact h)
theorem laid0 {W:World} (hL:laidMetH Tryz.prog YtokmmhfhaoanmaaGreatDoor.Rows.fnExactOrbitTotalRow.laid W) (hS:W.ShapedOpen Tryz.prog):aKA W:=by
 have h:laidMet Tryz.prog YtokmmhfhaoanmaaGreatDoor.Rows.fnExactOrbitTotalRow.laid W:=hL
 have h2:laidMet Tryz.prog (("internal/strconv.uint64pow10",Lib.tabData .u64 Lib.pow10Tab)::_) W:=h.tail.tail
 have hT:=Lib.tabIs_of_head (g:=1) (t:=374) (e:=241) (n:=20) (by kernel_rfl) (by kernel_rfl) (by kernel_rfl) (by kernel_rfl) (by kernel_rfl) (by kernel_rfl) h2
 obtain ⟨a0,s0,hv0,_⟩:=laid_sentinel h2.tail.tail (g:=3) (ti:=211) (ms:=#[("Error",214)]) (tp:=395) (te:=397) (ts:=9) (f:=⟨ "s",9,0,false,"","errors",0⟩) (by kernel_rfl) (by kernel_rfl) (by kernel_rfl) rowErr (by kernel_rfl) (by kernel_rfl) rfl rfl (by kernel_rfl) (by kernel_rfl) (by kernel_rfl)
 obtain ⟨a1,s1,hv1,_⟩:=laid_sentinel h2.tail.tail.tail (g:=2) (ti:=211) (ms:=#[("Error",214)]) (tp:=395) (te:=397) (ts:=9) (f:=⟨ "s",9,0,false,"","errors",0⟩) (by kernel_rfl) (by kernel_rfl) (by kernel_rfl) rowErr (by kernel_rfl) (by kernel_rfl) rfl rfl (by kernel_rfl) (by kernel_rfl) (by kernel_rfl)
 refine ⟨cell_of_shapedOpen_int (t:=3) (zero:=#[.int .i64 0]) hS (by decide+kernel) (by kernel_rfl) rfl (by kernel_rfl) (by kernel_rfl) (by kernel_rfl),?_,⟨_,by have h0:=World.var?_cell (show Tryz.prog.globalNamed "strconv.ErrSyntax"=some 2 by kernel_rfl) hv1 0;simpa using h0,.inr ⟨_,_,rfl⟩⟩,_,by have h0:=World.var?_cell (show Tryz.prog.globalNamed "strconv.ErrRange"=some 3 by kernel_rfl) hv0 0;simpa using h0,.inr ⟨_,_,rfl⟩⟩
 unfold Lib.TabIs World.var? at hT
 rw [show Tryz.prog.globalNamed "internal/strconv.uint64pow10"=some 1 by kernel_rfl] at hT
 simp only [Option.bind_some] at hT
 split at hT
 ·rename_i cs E fr hc
  cases hT
  exact ⟨E,fr,hc⟩
 ·cases hT
end Gv
