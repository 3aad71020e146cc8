/- Arguments: what a reading of the statement's kind gives, in words of pieces. -/
import Derived.Lib.SmallJoins
import Derived.Test.YthbfapccpmppoaaGreatDoorJWk11
import Derived.Test.YthbfapccpmppoaaGreatDoorJP360
import Derived.Test.YthbfapccpmppoaaGreatDoorCards
import Derived.Test.YthbfapccpmppoaaGreatDoorTie
import Derived.Deep.DeepWitnessRowRef
import Derived.Stop.LaidErr
set_option linter.all false
namespace Gv
open Go Go.Deep
def Opn (P:Program) (W:World) (α:Type) [El α] (t:TypeId) (ok:α->Prop):Prop:=
 ∀ (H:Type) (enc:TypeId × Value->H) (sp:Nat->Bool) (hd:Bool) (fuel:Nat) (cs:List Value) (x:DataW H × List MemPlace),DataW.trod enc P W 0 sp hd fuel t cs=some x->∃ d:α,El.rd (hp W) cs d/\ok d
section
variable {P:Program} {W:World} {t:TypeId}
def i64ok (n:Int):Prop:=-9223372036854775808<=n/\n<=9223372036854775807
def strok (s:aL):Prop:=s.length<=9223372036854775807
theorem opn_int (ht:P.underlying t=some (.int .i64)):Opn P W Int t i64ok:=by
 intro H enc sp hd fuel cs x h
 obtain ⟨n,rfl,_,hw⟩:=DataW.trod_int ht h
 refine ⟨n,rfl,?_⟩
 simp only [Lit.wf,Bool.and_eq_true,decide_eq_true_eq] at hw
 rw [show IntKind.i64.min=-9223372036854775808 by decide,show IntKind.i64.max=9223372036854775807 by decide] at hw
 exact hw
theorem opn_bool (ht:P.underlying t=some .bool):Opn P W Bool t (fun _=>True):=by
 intro H enc sp hd fuel cs x h
 obtain ⟨b,rfl,_⟩:=DataW.trod_bool ht h
 exact ⟨b,rfl,trivial⟩
theorem opn_str (ht:P.underlying t=some .string):Opn P W aL t strok:=by
 intro H enc sp hd fuel cs x h
 obtain ⟨⟨⟨s⟩⟩,rfl,_,hw⟩:=DataW.trod_string ht h
 exact ⟨s,rfl,hw⟩
theorem aHs (a:Addr) (k:Nat):(a.add k).block=a.block:=by unfold Addr.add;split<;>rfl
theorem add_off (a:Addr) (k:Nat):(a.add k).off=a.off+k:=by
 unfold Addr.add;split
 ·rename_i h;subst h;rfl
 ·rfl
theorem aQQ {a:Addr} (h:a.spot=none) (k:Nat):(a.add k).spot=none:=by
 unfold Addr.add;split
 ·exact h
 ·rfl
theorem pK {α:Type} [El α] {e:TypeId} {ok:α->Prop} (ht:P.underlying t=some (.slice e)) (hc:P.cellsOf e=El.sz α) (he:Opn P W α e ok):Opn P W (List α) t (fun xs=>xs.length<=9223372036854775807/\∀ d∈xs,ok d):=by
 intro H enc sp hd fuel cs x h
 rcases open_slice ht h with ⟨rfl,_⟩|⟨a,len,cap,m,n,D,Pl,rfl,hb,hl,hm,hmm,_,hx⟩
 ·exact ⟨[],⟨none,0,rfl,vI _⟩,by simp,by simp⟩
 ·have hlm:len<=m:=by rw [hmm];split<;>omega
  have hex:∀ i,i < len->∃ d:α,(∃ cs',W.cells? 0 (a.add (i * P.cellsOf e)) (P.cellsOf e)=some cs'/\El.rd (hp W) cs' d)/\ok d:=fun i hi=>by
   obtain ⟨cs',h1,h2⟩:=hx i (by omega)
   obtain ⟨d,h3,h4⟩:=he H enc sp hd n cs' _ h2
   exact ⟨d,⟨cs',h1,h3⟩,h4⟩
  have hf:∃ f:(i:Nat)->i < len->α,∀ i hi,(∃ cs',W.cells? 0 (a.add (i * P.cellsOf e)) (P.cellsOf e)=some cs'/\El.rd (hp W) cs' (f i hi))/\ok (f i hi):=
   ⟨fun i hi=>Classical.choose (hex i hi),fun i hi=>Classical.choose_spec (hex i hi)⟩
  obtain ⟨f,hf⟩:=hf
  have hlen:(List.ofFn fun i:Fin len=>f i.1 i.2).length=len:=by simp
  refine ⟨List.ofFn fun i:Fin len=>f i.1 i.2,⟨some a,cap,by rw [hlen],⟨by rw [hlen];exact hl,fun e=>(by cases e),fun i d hd'=>?_⟩⟩,?_,fun d hd'=>?_⟩
  rotate_left
  ·show (List.ofFn fun i:Fin len=>f i.1 i.2).length<=_
   rw [hlen]
   have:maxLen=9223372036854775807:=by decide
   omega
  rotate_left
  ·have hi:i < len:=by have:=(List.getElem?_eq_some_iff.1 hd').1;omega
   rw [List.getElem?_ofFn,dif_pos hi] at hd'
   cases hd'
   obtain ⟨⟨cs',h1,h2⟩,_⟩:=hf i hi
   refine ⟨cs',?_,h2⟩
   obtain ⟨_,h3,h4⟩:=World.cells?_some h1
   have hz:=El.pos (α:=α)
   have hasp:a.spot=none:=by
    obtain ⟨⟨cs0,g1,_⟩,_⟩:=hf 0 (by omega)
    obtain ⟨_,g3,g4⟩:=World.cells?_some g1
    have g0:=g4 0 (by omega)
    rw [List.getElem?_eq_getElem (by omega)] at g0
    have:=World.cell?_spot g0
    simpa [Addr.add] using this
   have h0:=h4 0 (by omega)
   rw [List.getElem?_eq_getElem (by omega)] at h0
   unfold World.cell? at h0
   split at h0
   ·rename_i c E fr hblk
    rw [aHs,aHs] at hblk
    refine ⟨a,c,E,fr,rfl,hasp,hblk,fun j v hv=>?_⟩
    have hj:j < P.cellsOf e:=by have:=(List.getElem?_eq_some_iff.1 hv).1;omega
    have h5:=h4 j hj
    unfold World.cell? at h5
    rw [aHs,aHs,hblk,aQQ (aQQ hasp _) _,add_off,add_off,hv,hc] at h5
    simpa using h5
   ·cases h0
  ·rw [List.mem_ofFn] at hd'
   obtain ⟨i,rfl⟩:=hd'
   exact (hf i.1 i.2).2
end
end Gv
namespace Gv
open Go.Value renaming slice→zS
open Go Go.Proofs Go.Deep
theorem lec2 {α:Type} {cs:List α} (h:cs.length=2):∃ a b,cs=[a,b]:=by
 match cs,h with
 |[a,b],_=>exact ⟨a,b,rfl⟩
theorem lec3 {α:Type} {cs:List α} (h:cs.length=3):∃ a b c,cs=[a,b,c]:=by
 match cs,h with
 |[a,b,c],_=>exact ⟨a,b,c,rfl⟩
theorem lec4 {α:Type} {cs:List α} (h:cs.length=4):∃ a b c d,cs=[a,b,c,d]:=by
 match cs,h with
 |[a,b,c,d],_=>exact ⟨a,b,c,d,rfl⟩
theorem lec5 {α:Type} {cs:List α} (h:cs.length=5):∃ a b c d e,cs=[a,b,c,d,e]:=by
 match cs,h with
 |[a,b,c,d,e],_=>exact ⟨a,b,c,d,e,rfl⟩
theorem lec12 {α:Type} {cs:List α} (h:cs.length=12):∃ a b c d e f g h i j k l,cs=[a,b,c,d,e,f,g,h,i,j,k,l]:=by
 match cs,h with
 |[a,b,c,d,e,f,g,h,i,j,k,l],_=>exact ⟨a,b,c,d,e,f,g,h,i,j,k,l,rfl⟩
def ok_9 (x:aL):Prop:=strok x
theorem aLq (W:World):Opn Tryz.prog W aL 9 ok_9:=opn_str (by kernel_rfl)
def aHE (x:Int):Prop:=i64ok x
theorem aCK (W:World):Opn Tryz.prog W Int 2 aHE:=opn_int (by kernel_rfl)
def ok_22 (x:(List aL)):Prop:=(x).length<=9223372036854775807/\∀ d∈x,ok_9 d
theorem opn_22 (W:World):Opn Tryz.prog W (List aL) 22 ok_22:=pK (by kernel_rfl) (by kernel_rfl) (aLq W)
def ok_128 (x:Edge):Prop:=aHE x.F/\aHE x.B/\aHE x.To
theorem opn_128 (W:World):Opn Tryz.prog W Edge 128 ok_128:=by
 intro H enc sp hd fuel cs x h
 obtain ⟨xs,n,_,_,hl,hxl,hf⟩:=DataW.trod_struct (fs:=#[⟨ "From",2,0,false,"","",0⟩,⟨ "Label",2,1,false,"","",8⟩,⟨ "To",2,2,false,"","",16⟩]) (by kernel_rfl) h
 have c2:Tryz.prog.cellsOf 2=1:=by kernel_rfl
 have c:Tryz.prog.cellsOf 128=3:=by kernel_rfl
 rw [c] at hl
 obtain ⟨u0,u1,u2,rfl⟩:=lec3 hl
 have g:∀ i (hi:i < xs.length),xs[i]?=some xs[i]:=fun i hi=>List.getElem?_eq_getElem hi
 have h0:=hf 0 ⟨ "From",2,0,false,"","",0⟩ rfl
 have h1:=hf 1 ⟨ "Label",2,1,false,"","",8⟩ rfl
 have h2:=hf 2 ⟨ "To",2,2,false,"","",16⟩ rfl
 dsimp only at h0 h1 h2
 rw [c2] at h0 h1 h2
 simp only [List.drop_zero,List.drop_succ_cons,List.take_succ_cons,List.take_zero] at h0 h1 h2
 rw [g 0 (by rw [hxl];decide)] at h0
 rw [g 1 (by rw [hxl];decide)] at h1
 rw [g 2 (by rw [hxl];decide)] at h2
 obtain ⟨d0,e0,o0⟩:=aCK W H enc sp hd _ _ _ h0
 obtain ⟨d1,e1,o1⟩:=aCK W H enc sp hd _ _ _ h1
 obtain ⟨d2,e2,o2⟩:=aCK W H enc sp hd _ _ _ h2
 have e0:[u0]=[i64 d0]:=e0
 have e1:[u1]=[i64 d1]:=e1
 have e2:[u2]=[i64 d2]:=e2
 cases e0;cases e1;cases e2
 exact ⟨⟨d0,d1,d2⟩,rfl,o0,o1,o2⟩
def ok_23 (x:(List Edge)):Prop:=(x).length<=9223372036854775807/\∀ d∈x,ok_128 d
theorem opn_23 (W:World):Opn Tryz.prog W (List Edge) 23 ok_23:=pK (by kernel_rfl) (by kernel_rfl) (opn_128 W)
def ok_25 (x:gM):Prop:=aHE x.N/\aHE x.I/\ok_22 x.L/\ok_23 x.E
theorem opn_25 (W:World):Opn Tryz.prog W gM 25 ok_25:=by
 intro H enc sp hd fuel cs x h
 obtain ⟨xs,n,_,_,hl,hxl,hf⟩:=DataW.trod_struct (fs:=#[⟨ "States",2,0,false,"","",0⟩,⟨ "Initial",2,1,false,"","",8⟩,⟨ "Labels",22,2,false,"","",16⟩,⟨ "Edges",23,3,false,"","",40⟩]) (by kernel_rfl) h
 have c2:Tryz.prog.cellsOf 2=1:=by kernel_rfl
 have c22:Tryz.prog.cellsOf 22=1:=by kernel_rfl
 have c23:Tryz.prog.cellsOf 23=1:=by kernel_rfl
 have c:Tryz.prog.cellsOf 25=4:=by kernel_rfl
 rw [c] at hl
 obtain ⟨u0,u1,u2,u3,rfl⟩:=lec4 hl
 have g:∀ i (hi:i < xs.length),xs[i]?=some xs[i]:=fun i hi=>List.getElem?_eq_getElem hi
 have h0:=hf 0 ⟨ "States",2,0,false,"","",0⟩ rfl
 have h1:=hf 1 ⟨ "Initial",2,1,false,"","",8⟩ rfl
 have h2:=hf 2 ⟨ "Labels",22,2,false,"","",16⟩ rfl
 have h3:=hf 3 ⟨ "Edges",23,3,false,"","",40⟩ rfl
 dsimp only at h0 h1 h2 h3
 rw [c2] at h0 h1
 rw [c22] at h2
 rw [c23] at h3
 simp only [List.drop_zero,List.drop_succ_cons,List.take_succ_cons,List.take_zero] at h0 h1 h2 h3
 rw [g 0 (by rw [hxl];decide)] at h0
 rw [g 1 (by rw [hxl];decide)] at h1
 rw [g 2 (by rw [hxl];decide)] at h2
 rw [g 3 (by rw [hxl];decide)] at h3
 obtain ⟨d0,e0,o0⟩:=aCK W H enc sp hd _ _ _ h0
 obtain ⟨d1,e1,o1⟩:=aCK W H enc sp hd _ _ _ h1
 obtain ⟨d2,⟨a2,k2,e2,r2⟩,o2⟩:=opn_22 W H enc sp hd _ _ _ h2
 obtain ⟨d3,⟨a3,k3,e3,r3⟩,o3⟩:=opn_23 W H enc sp hd _ _ _ h3
 have e0:[u0]=[i64 d0]:=e0
 have e1:[u1]=[i64 d1]:=e1
 have e2:[u2]=[zS a2 d2.length k2]:=e2
 have e3:[u3]=[zS a3 d3.length k3]:=e3
 cases e0;cases e1;cases e2;cases e3
 exact ⟨⟨d0,d1,d2,d3⟩,⟨a2,k2,a3,k3,rfl,r2,r3⟩,o0,o1,o2,o3⟩
def ok_4 (x:Bool):Prop:=True
theorem opn_4 (W:World):Opn Tryz.prog W Bool 4 ok_4:=opn_bool (by kernel_rfl)
def ok_67 (x:bI):Prop:=aHE x.Kind/\aHE x.Variable/\ok_9 x.B/\ok_4 x.Not
theorem opn_67 (W:World):Opn Tryz.prog W bI 67 ok_67:=by
 intro H enc sp hd fuel cs x h
 obtain ⟨xs,n,_,_,hl,hxl,hf⟩:=DataW.trod_struct (fs:=#[⟨ "Kind",2,0,false,"","",0⟩,⟨ "Variable",2,1,false,"","",8⟩,⟨ "Label",9,2,false,"","",16⟩,⟨ "Not",4,3,false,"","",32⟩]) (by kernel_rfl) h
 have c2:Tryz.prog.cellsOf 2=1:=by kernel_rfl
 have c4:Tryz.prog.cellsOf 4=1:=by kernel_rfl
 have c9:Tryz.prog.cellsOf 9=1:=by kernel_rfl
 have c:Tryz.prog.cellsOf 67=4:=by kernel_rfl
 rw [c] at hl
 obtain ⟨u0,u1,u2,u3,rfl⟩:=lec4 hl
 have g:∀ i (hi:i < xs.length),xs[i]?=some xs[i]:=fun i hi=>List.getElem?_eq_getElem hi
 have h0:=hf 0 ⟨ "Kind",2,0,false,"","",0⟩ rfl
 have h1:=hf 1 ⟨ "Variable",2,1,false,"","",8⟩ rfl
 have h2:=hf 2 ⟨ "Label",9,2,false,"","",16⟩ rfl
 have h3:=hf 3 ⟨ "Not",4,3,false,"","",32⟩ rfl
 dsimp only at h0 h1 h2 h3
 rw [c2] at h0 h1
 rw [c4] at h3
 rw [c9] at h2
 simp only [List.drop_zero,List.drop_succ_cons,List.take_succ_cons,List.take_zero] at h0 h1 h2 h3
 rw [g 0 (by rw [hxl];decide)] at h0
 rw [g 1 (by rw [hxl];decide)] at h1
 rw [g 2 (by rw [hxl];decide)] at h2
 rw [g 3 (by rw [hxl];decide)] at h3
 obtain ⟨d0,e0,o0⟩:=aCK W H enc sp hd _ _ _ h0
 obtain ⟨d1,e1,o1⟩:=aCK W H enc sp hd _ _ _ h1
 obtain ⟨d2,e2,o2⟩:=aLq W H enc sp hd _ _ _ h2
 obtain ⟨d3,e3,o3⟩:=opn_4 W H enc sp hd _ _ _ h3
 have e0:[u0]=[i64 d0]:=e0
 have e1:[u1]=[i64 d1]:=e1
 have e2:[u2]=[str d2]:=e2
 have e3:[u3]=[Value.bool d3]:=e3
 cases e0;cases e1;cases e2;cases e3
 exact ⟨⟨d0,d1,d2,d3⟩,rfl,o0,o1,o2,o3⟩
def ok_26 (x:(List bI)):Prop:=(x).length<=9223372036854775807/\∀ d∈x,ok_67 d
theorem opn_26 (W:World):Opn Tryz.prog W (List bI) 26 ok_26:=pK (by kernel_rfl) (by kernel_rfl) (opn_67 W)
def ok_320 (x:aR):Prop:=aHE x.Kind/\aHE x.Value
theorem opn_320 (W:World):Opn Tryz.prog W aR 320 ok_320:=by
 intro H enc sp hd fuel cs x h
 obtain ⟨xs,n,_,_,hl,hxl,hf⟩:=DataW.trod_struct (fs:=#[⟨ "Kind",2,0,false,"","",0⟩,⟨ "Value",2,1,false,"","",8⟩]) (by kernel_rfl) h
 have c2:Tryz.prog.cellsOf 2=1:=by kernel_rfl
 have c:Tryz.prog.cellsOf 320=2:=by kernel_rfl
 rw [c] at hl
 obtain ⟨u0,u1,rfl⟩:=lec2 hl
 have g:∀ i (hi:i < xs.length),xs[i]?=some xs[i]:=fun i hi=>List.getElem?_eq_getElem hi
 have h0:=hf 0 ⟨ "Kind",2,0,false,"","",0⟩ rfl
 have h1:=hf 1 ⟨ "Value",2,1,false,"","",8⟩ rfl
 dsimp only at h0 h1
 rw [c2] at h0 h1
 simp only [List.drop_zero,List.drop_succ_cons,List.take_succ_cons,List.take_zero] at h0 h1
 rw [g 0 (by rw [hxl];decide)] at h0
 rw [g 1 (by rw [hxl];decide)] at h1
 obtain ⟨d0,e0,o0⟩:=aCK W H enc sp hd _ _ _ h0
 obtain ⟨d1,e1,o1⟩:=aCK W H enc sp hd _ _ _ h1
 have e0:[u0]=[i64 d0]:=e0
 have e1:[u1]=[i64 d1]:=e1
 cases e0;cases e1
 exact ⟨⟨d0,d1⟩,rfl,o0,o1⟩
def ok_283 (x:(List aR)):Prop:=(x).length<=9223372036854775807/\∀ d∈x,ok_320 d
theorem opn_283 (W:World):Opn Tryz.prog W (List aR) 283 ok_283:=pK (by kernel_rfl) (by kernel_rfl) (opn_320 W)
def ok_203 (x:(List (List aR))):Prop:=(x).length<=9223372036854775807/\∀ d∈x,ok_283 d
theorem opn_203 (W:World):Opn Tryz.prog W (List (List aR)) 203 ok_203:=pK (by kernel_rfl) (by kernel_rfl) (opn_283 W)
def ok_205 (x:bG):Prop:=aHE x.Kind/\aHE x.Number/\ok_9 x.Name/\ok_203 x.Arguments
theorem opn_205 (W:World):Opn Tryz.prog W bG 205 ok_205:=by
 intro H enc sp hd fuel cs x h
 obtain ⟨xs,n,_,_,hl,hxl,hf⟩:=DataW.trod_struct (fs:=#[⟨ "Kind",2,0,false,"","",0⟩,⟨ "Number",2,1,false,"","",8⟩,⟨ "Name",9,2,false,"","",16⟩,⟨ "Arguments",203,3,false,"","",32⟩]) (by kernel_rfl) h
 have c2:Tryz.prog.cellsOf 2=1:=by kernel_rfl
 have c9:Tryz.prog.cellsOf 9=1:=by kernel_rfl
 have c203:Tryz.prog.cellsOf 203=1:=by kernel_rfl
 have c:Tryz.prog.cellsOf 205=4:=by kernel_rfl
 rw [c] at hl
 obtain ⟨u0,u1,u2,u3,rfl⟩:=lec4 hl
 have g:∀ i (hi:i < xs.length),xs[i]?=some xs[i]:=fun i hi=>List.getElem?_eq_getElem hi
 have h0:=hf 0 ⟨ "Kind",2,0,false,"","",0⟩ rfl
 have h1:=hf 1 ⟨ "Number",2,1,false,"","",8⟩ rfl
 have h2:=hf 2 ⟨ "Name",9,2,false,"","",16⟩ rfl
 have h3:=hf 3 ⟨ "Arguments",203,3,false,"","",32⟩ rfl
 dsimp only at h0 h1 h2 h3
 rw [c2] at h0 h1
 rw [c9] at h2
 rw [c203] at h3
 simp only [List.drop_zero,List.drop_succ_cons,List.take_succ_cons,List.take_zero] at h0 h1 h2 h3
 rw [g 0 (by rw [hxl];decide)] at h0
 rw [g 1 (by rw [hxl];decide)] at h1
 rw [g 2 (by rw [hxl];decide)] at h2
 rw [g 3 (by rw [hxl];decide)] at h3
 obtain ⟨d0,e0,o0⟩:=aCK W H enc sp hd _ _ _ h0
 obtain ⟨d1,e1,o1⟩:=aCK W H enc sp hd _ _ _ h1
 obtain ⟨d2,e2,o2⟩:=aLq W H enc sp hd _ _ _ h2
 obtain ⟨d3,⟨a3,k3,e3,r3⟩,o3⟩:=opn_203 W H enc sp hd _ _ _ h3
 have e0:[u0]=[i64 d0]:=e0
 have e1:[u1]=[i64 d1]:=e1
 have e2:[u2]=[str d2]:=e2
 have e3:[u3]=[zS a3 d3.length k3]:=e3
 cases e0;cases e1;cases e2;cases e3
 exact ⟨⟨d0,d1,d2,d3⟩,⟨a3,k3,rfl,r3⟩,o0,o1,o2,o3⟩
def ok_100 (x:(List bG)):Prop:=(x).length<=9223372036854775807/\∀ d∈x,ok_205 d
theorem opn_100 (W:World):Opn Tryz.prog W (List bG) 100 ok_100:=pK (by kernel_rfl) (by kernel_rfl) (opn_205 W)
def ok_102 (x:Definition):Prop:=ok_9 x.Name/\aHE x.Parameters/\ok_100 x.Body
theorem opn_102 (W:World):Opn Tryz.prog W Definition 102 ok_102:=by
 intro H enc sp hd fuel cs x h
 obtain ⟨xs,n,_,_,hl,hxl,hf⟩:=DataW.trod_struct (fs:=#[⟨ "Name",9,0,false,"","",0⟩,⟨ "Parameters",2,1,false,"","",16⟩,⟨ "Body",100,2,false,"","",24⟩]) (by kernel_rfl) h
 have c2:Tryz.prog.cellsOf 2=1:=by kernel_rfl
 have c9:Tryz.prog.cellsOf 9=1:=by kernel_rfl
 have c100:Tryz.prog.cellsOf 100=1:=by kernel_rfl
 have c:Tryz.prog.cellsOf 102=3:=by kernel_rfl
 rw [c] at hl
 obtain ⟨u0,u1,u2,rfl⟩:=lec3 hl
 have g:∀ i (hi:i < xs.length),xs[i]?=some xs[i]:=fun i hi=>List.getElem?_eq_getElem hi
 have h0:=hf 0 ⟨ "Name",9,0,false,"","",0⟩ rfl
 have h1:=hf 1 ⟨ "Parameters",2,1,false,"","",16⟩ rfl
 have h2:=hf 2 ⟨ "Body",100,2,false,"","",24⟩ rfl
 dsimp only at h0 h1 h2
 rw [c2] at h1
 rw [c9] at h0
 rw [c100] at h2
 simp only [List.drop_zero,List.drop_succ_cons,List.take_succ_cons,List.take_zero] at h0 h1 h2
 rw [g 0 (by rw [hxl];decide)] at h0
 rw [g 1 (by rw [hxl];decide)] at h1
 rw [g 2 (by rw [hxl];decide)] at h2
 obtain ⟨d0,e0,o0⟩:=aLq W H enc sp hd _ _ _ h0
 obtain ⟨d1,e1,o1⟩:=aCK W H enc sp hd _ _ _ h1
 obtain ⟨d2,⟨a2,k2,e2,r2⟩,o2⟩:=opn_100 W H enc sp hd _ _ _ h2
 have e0:[u0]=[str d0]:=e0
 have e1:[u1]=[i64 d1]:=e1
 have e2:[u2]=[zS a2 d2.length k2]:=e2
 cases e0;cases e1;cases e2
 exact ⟨⟨d0,d1,d2⟩,⟨a2,k2,rfl,r2⟩,o0,o1,o2⟩
def ok_27 (x:(List Definition)):Prop:=(x).length<=9223372036854775807/\∀ d∈x,ok_102 d
theorem opn_27 (W:World):Opn Tryz.prog W (List Definition) 27 ok_27:=pK (by kernel_rfl) (by kernel_rfl) (opn_102 W)
def ok_104 (x:(List Int)):Prop:=(x).length<=9223372036854775807/\∀ d∈x,aHE d
theorem opn_104 (W:World):Opn Tryz.prog W (List Int) 104 ok_104:=pK (by kernel_rfl) (by kernel_rfl) (aCK W)
def ok_106 (x:aY):Prop:=aHE x.Definition/\ok_104 x.Values
theorem opn_106 (W:World):Opn Tryz.prog W aY 106 ok_106:=by
 intro H enc sp hd fuel cs x h
 obtain ⟨xs,n,_,_,hl,hxl,hf⟩:=DataW.trod_struct (fs:=#[⟨ "Definition",2,0,false,"","",0⟩,⟨ "Values",104,1,false,"","",8⟩]) (by kernel_rfl) h
 have c2:Tryz.prog.cellsOf 2=1:=by kernel_rfl
 have c104:Tryz.prog.cellsOf 104=1:=by kernel_rfl
 have c:Tryz.prog.cellsOf 106=2:=by kernel_rfl
 rw [c] at hl
 obtain ⟨u0,u1,rfl⟩:=lec2 hl
 have g:∀ i (hi:i < xs.length),xs[i]?=some xs[i]:=fun i hi=>List.getElem?_eq_getElem hi
 have h0:=hf 0 ⟨ "Definition",2,0,false,"","",0⟩ rfl
 have h1:=hf 1 ⟨ "Values",104,1,false,"","",8⟩ rfl
 dsimp only at h0 h1
 rw [c2] at h0
 rw [c104] at h1
 simp only [List.drop_zero,List.drop_succ_cons,List.take_succ_cons,List.take_zero] at h0 h1
 rw [g 0 (by rw [hxl];decide)] at h0
 rw [g 1 (by rw [hxl];decide)] at h1
 obtain ⟨d0,e0,o0⟩:=aCK W H enc sp hd _ _ _ h0
 obtain ⟨d1,⟨a1,k1,e1,r1⟩,o1⟩:=opn_104 W H enc sp hd _ _ _ h1
 have e0:[u0]=[i64 d0]:=e0
 have e1:[u1]=[zS a1 d1.length k1]:=e1
 cases e0;cases e1
 exact ⟨⟨d0,d1⟩,⟨a1,k1,rfl,r1⟩,o0,o1⟩
def ok_28 (x:(List aY)):Prop:=(x).length<=9223372036854775807/\∀ d∈x,ok_106 d
theorem opn_28 (W:World):Opn Tryz.prog W (List aY) 28 ok_28:=pK (by kernel_rfl) (by kernel_rfl) (opn_106 W)
def ok_109 (x:bB):Prop:=ok_9 x.Left/\ok_9 x.Right/\ok_9 x.Result
theorem opn_109 (W:World):Opn Tryz.prog W bB 109 ok_109:=by
 intro H enc sp hd fuel cs x h
 obtain ⟨xs,n,_,_,hl,hxl,hf⟩:=DataW.trod_struct (fs:=#[⟨ "Left",9,0,false,"","",0⟩,⟨ "Right",9,1,false,"","",16⟩,⟨ "Result",9,2,false,"","",32⟩]) (by kernel_rfl) h
 have c9:Tryz.prog.cellsOf 9=1:=by kernel_rfl
 have c:Tryz.prog.cellsOf 109=3:=by kernel_rfl
 rw [c] at hl
 obtain ⟨u0,u1,u2,rfl⟩:=lec3 hl
 have g:∀ i (hi:i < xs.length),xs[i]?=some xs[i]:=fun i hi=>List.getElem?_eq_getElem hi
 have h0:=hf 0 ⟨ "Left",9,0,false,"","",0⟩ rfl
 have h1:=hf 1 ⟨ "Right",9,1,false,"","",16⟩ rfl
 have h2:=hf 2 ⟨ "Result",9,2,false,"","",32⟩ rfl
 dsimp only at h0 h1 h2
 rw [c9] at h0 h1 h2
 simp only [List.drop_zero,List.drop_succ_cons,List.take_succ_cons,List.take_zero] at h0 h1 h2
 rw [g 0 (by rw [hxl];decide)] at h0
 rw [g 1 (by rw [hxl];decide)] at h1
 rw [g 2 (by rw [hxl];decide)] at h2
 obtain ⟨d0,e0,o0⟩:=aLq W H enc sp hd _ _ _ h0
 obtain ⟨d1,e1,o1⟩:=aLq W H enc sp hd _ _ _ h1
 obtain ⟨d2,e2,o2⟩:=aLq W H enc sp hd _ _ _ h2
 have e0:[u0]=[str d0]:=e0
 have e1:[u1]=[str d1]:=e1
 have e2:[u2]=[str d2]:=e2
 cases e0;cases e1;cases e2
 exact ⟨⟨d0,d1,d2⟩,rfl,o0,o1,o2⟩
def ok_29 (x:(List bB)):Prop:=(x).length<=9223372036854775807/\∀ d∈x,ok_109 d
theorem opn_29 (W:World):Opn Tryz.prog W (List bB) 29 ok_29:=pK (by kernel_rfl) (by kernel_rfl) (opn_109 W)
def ok_31 (x:bM):Prop:=ok_27 x.Definitions/\ok_28 x.Components/\ok_29 x.Meetings/\ok_22 x.Allowed/\ok_22 x.Hidden
theorem opn_31 (W:World):Opn Tryz.prog W bM 31 ok_31:=by
 intro H enc sp hd fuel cs x h
 obtain ⟨xs,n,_,_,hl,hxl,hf⟩:=DataW.trod_struct (fs:=#[⟨ "Definitions",27,0,false,"","",0⟩,⟨ "Components",28,1,false,"","",24⟩,⟨ "Meetings",29,2,false,"","",48⟩,⟨ "Allowed",22,3,false,"","",72⟩,⟨ "Hidden",22,4,false,"","",96⟩]) (by kernel_rfl) h
 have c22:Tryz.prog.cellsOf 22=1:=by kernel_rfl
 have c27:Tryz.prog.cellsOf 27=1:=by kernel_rfl
 have c28:Tryz.prog.cellsOf 28=1:=by kernel_rfl
 have c29:Tryz.prog.cellsOf 29=1:=by kernel_rfl
 have c:Tryz.prog.cellsOf 31=5:=by kernel_rfl
 rw [c] at hl
 obtain ⟨u0,u1,u2,u3,u4,rfl⟩:=lec5 hl
 have g:∀ i (hi:i < xs.length),xs[i]?=some xs[i]:=fun i hi=>List.getElem?_eq_getElem hi
 have h0:=hf 0 ⟨ "Definitions",27,0,false,"","",0⟩ rfl
 have h1:=hf 1 ⟨ "Components",28,1,false,"","",24⟩ rfl
 have h2:=hf 2 ⟨ "Meetings",29,2,false,"","",48⟩ rfl
 have h3:=hf 3 ⟨ "Allowed",22,3,false,"","",72⟩ rfl
 have h4:=hf 4 ⟨ "Hidden",22,4,false,"","",96⟩ rfl
 dsimp only at h0 h1 h2 h3 h4
 rw [c22] at h3 h4
 rw [c27] at h0
 rw [c28] at h1
 rw [c29] at h2
 simp only [List.drop_zero,List.drop_succ_cons,List.take_succ_cons,List.take_zero] at h0 h1 h2 h3 h4
 rw [g 0 (by rw [hxl];decide)] at h0
 rw [g 1 (by rw [hxl];decide)] at h1
 rw [g 2 (by rw [hxl];decide)] at h2
 rw [g 3 (by rw [hxl];decide)] at h3
 rw [g 4 (by rw [hxl];decide)] at h4
 obtain ⟨d0,⟨a0,k0,e0,r0⟩,o0⟩:=opn_27 W H enc sp hd _ _ _ h0
 obtain ⟨d1,⟨a1,k1,e1,r1⟩,o1⟩:=opn_28 W H enc sp hd _ _ _ h1
 obtain ⟨d2,⟨a2,k2,e2,r2⟩,o2⟩:=opn_29 W H enc sp hd _ _ _ h2
 obtain ⟨d3,⟨a3,k3,e3,r3⟩,o3⟩:=opn_22 W H enc sp hd _ _ _ h3
 obtain ⟨d4,⟨a4,k4,e4,r4⟩,o4⟩:=opn_22 W H enc sp hd _ _ _ h4
 have e0:[u0]=[zS a0 d0.length k0]:=e0
 have e1:[u1]=[zS a1 d1.length k1]:=e1
 have e2:[u2]=[zS a2 d2.length k2]:=e2
 have e3:[u3]=[zS a3 d3.length k3]:=e3
 have e4:[u4]=[zS a4 d4.length k4]:=e4
 cases e0;cases e1;cases e2;cases e3;cases e4
 exact ⟨⟨d0,d1,d2,d3,d4⟩,⟨a0,k0,a1,k1,a2,k2,a3,k3,a4,k4,rfl,r0,r1,r2,r3,r4⟩,o0,o1,o2,o3,o4⟩
def ok_33 (x:pL):Prop:=ok_9 x.Name/\aHE x.Kind/\ok_25 x.S/\ok_26 x.Formula/\ok_31 x.Source
theorem opn_33 (W:World):Opn Tryz.prog W pL 33 ok_33:=by
 intro H enc sp hd fuel cs x h
 obtain ⟨xs,n,_,_,hl,hxl,hf⟩:=DataW.trod_struct (fs:=#[⟨ "Name",9,0,false,"","",0⟩,⟨ "Kind",2,1,false,"","",16⟩,⟨ "System",25,2,false,"","",24⟩,⟨ "Formula",26,6,false,"","",88⟩,⟨ "Source",31,7,false,"","",112⟩]) (by kernel_rfl) h
 have c2:Tryz.prog.cellsOf 2=1:=by kernel_rfl
 have c9:Tryz.prog.cellsOf 9=1:=by kernel_rfl
 have c25:Tryz.prog.cellsOf 25=4:=by kernel_rfl
 have c26:Tryz.prog.cellsOf 26=1:=by kernel_rfl
 have c31:Tryz.prog.cellsOf 31=5:=by kernel_rfl
 have c:Tryz.prog.cellsOf 33=12:=by kernel_rfl
 rw [c] at hl
 obtain ⟨u0,u1,u2,u3,u4,u5,u6,u7,u8,u9,u10,u11,rfl⟩:=lec12 hl
 have g:∀ i (hi:i < xs.length),xs[i]?=some xs[i]:=fun i hi=>List.getElem?_eq_getElem hi
 have h0:=hf 0 ⟨ "Name",9,0,false,"","",0⟩ rfl
 have h1:=hf 1 ⟨ "Kind",2,1,false,"","",16⟩ rfl
 have h2:=hf 2 ⟨ "System",25,2,false,"","",24⟩ rfl
 have h3:=hf 3 ⟨ "Formula",26,6,false,"","",88⟩ rfl
 have h4:=hf 4 ⟨ "Source",31,7,false,"","",112⟩ rfl
 dsimp only at h0 h1 h2 h3 h4
 rw [c2] at h1
 rw [c9] at h0
 rw [c25] at h2
 rw [c26] at h3
 rw [c31] at h4
 simp only [List.drop_zero,List.drop_succ_cons,List.take_succ_cons,List.take_zero] at h0 h1 h2 h3 h4
 rw [g 0 (by rw [hxl];decide)] at h0
 rw [g 1 (by rw [hxl];decide)] at h1
 rw [g 2 (by rw [hxl];decide)] at h2
 rw [g 3 (by rw [hxl];decide)] at h3
 rw [g 4 (by rw [hxl];decide)] at h4
 obtain ⟨d0,e0,o0⟩:=aLq W H enc sp hd _ _ _ h0
 obtain ⟨d1,e1,o1⟩:=aCK W H enc sp hd _ _ _ h1
 obtain ⟨d2,⟨a2_2,k2_2,a2_3,k2_3,e2,r2_2,r2_3⟩,o2⟩:=opn_25 W H enc sp hd _ _ _ h2
 obtain ⟨d3,⟨a3,k3,e3,r3⟩,o3⟩:=opn_26 W H enc sp hd _ _ _ h3
 obtain ⟨d4,⟨a4_0,k4_0,a4_1,k4_1,a4_2,k4_2,a4_3,k4_3,a4_4,k4_4,e4,r4_0,r4_1,r4_2,r4_3,r4_4⟩,o4⟩:=opn_31 W H enc sp hd _ _ _ h4
 have e0:[u0]=[str d0]:=e0
 have e1:[u1]=[i64 d1]:=e1
 have e2:[u2,u3,u4,u5]=[i64 d2.N,i64 d2.I,zS a2_2 d2.L.length k2_2,zS a2_3 d2.E.length k2_3]:=e2
 have e3:[u6]=[zS a3 d3.length k3]:=e3
 have e4:[u7,u8,u9,u10,u11]=[zS a4_0 d4.Definitions.length k4_0,zS a4_1 d4.Components.length k4_1,zS a4_2 d4.Meetings.length k4_2,zS a4_3 d4.Allowed.length k4_3,zS a4_4 d4.Hidden.length k4_4]:=e4
 cases e0;cases e1;cases e2;cases e3;cases e4
 exact ⟨⟨d0,d1,d2,d3,d4⟩,⟨a2_2,k2_2,a2_3,k2_3,a3,k3,a4_0,k4_0,a4_1,k4_1,a4_2,k4_2,a4_3,k4_3,a4_4,k4_4,rfl,r2_2,r2_3,r3,r4_0,r4_1,r4_2,r4_3,r4_4⟩,o0,o1,o2,o3,o4⟩
end Gv
namespace Gv
open _root_.Go _root_.Go.RowKit _root_.Go.WideElems
theorem aOh {H:Type} {enc:TypeId × Value->H} {P:Program} {w:World} {base:Nat} {sp:Nat->Bool} {held:Bool} {fuel:Nat} {t e:TypeId} {n:Nat} {cs:List Value} {zs:List (List UInt8)} {p:List MemPlace}
  (ht:P.underlying t=some (.array n e)) (he:P.underlying e=some .string) (hce:P.cellsOf e=1) (hct:P.cellsOf t=n)
  (h:DataW.trod enc P w base sp held fuel t cs=some (.agg (zs.map fun z=>.lit (.string z)),p)):cs=zs.map fun z=>Value.string ⟨⟨z⟩⟩:=by
 cases fuel with
 |zero=>simp [DataW.trod] at h
 |succ fuel=>
  simp only [DataW.trod,ht,hce,hct,Nat.mul_one] at h
  split at h
  ·rename_i hl
   obtain ⟨xs,hm,hx⟩:=Option.map_eq_some_iff.1 h
   have hxs:xs.map (·.1)=zs.map fun z=>(DataW.lit (.string z):DataW H):=by
    have:=congrArg Prod.fst hx
    simpa using this
   have hxl:xs.length=n:=by simpa using Lib.mapM_length hm
   have hzl:zs.length=n:=by
    have:=congrArg List.length hxs
    simp at this
    omega
   refine List.ext_getElem? fun i=>?_
   by_cases hi:i < n
   ·obtain ⟨b,hb,hf⟩:=Lib.mapM_at hm i i (by simp [hi])
    obtain ⟨z,hc,rfl,_⟩:=DataW.trod_string he hf
    have h1:cs[i]?=some (.string z):=by
     have:=congrArg (·[0]?) hc
     simpa [List.getElem?_take,List.getElem?_drop] using this
    have h2:(xs.map (·.1))[i]?=some (DataW.lit (.string z.data.toList):DataW H):=by simp [hb]
    rw [hxs] at h2
    simp only [List.getElem?_map,Option.map_eq_some_iff,DataW.lit.injEq,Lit.string.injEq] at h2
    obtain ⟨z',hz',e'⟩:=h2
    rw [h1,List.getElem?_map,hz']
    simp [e']
   ·rw [List.getElem?_eq_none (by omega),List.getElem?_eq_none (by simp;omega)]
  ·cases h
theorem aGQ {P:Program} {W:World} {name:String} {g:Nat} {cs:Array Value} (hg:P.globalNamed name=some g) (h:W.var? P name=some cs):∃ E fr,W.heap[g]?=some (.cells cs E fr):=by
 unfold World.var? at h
 rw [hg] at h
 simp only [Option.bind_some] at h
 split at h
 ·rename_i c E fr hc
  cases h
  exact ⟨E,fr,hc⟩
 ·cases h
theorem strs_laid {P:Program} {W:World} {name:String} {zs:List (List UInt8)} {rest:List (String × DataW Unit)} {g:Nat} {t e:TypeId} {n:Nat}
  (hg:P.globalNamed name=some g) (hty:(P.globals[g]?).map (·.type)=some t) (ht:P.underlying t=some (.array n e)) (he:P.underlying e=some .string) (hce:P.cellsOf e=1) (hct:P.cellsOf t=n)
  (h:laidMet P ((name,.agg (zs.map fun z=>.lit (.string z)))::rest) W):∃ E fr,W.heap[g]?=some (.cells (zs.map fun z=>Value.string ⟨⟨z⟩⟩).toArray E fr):=by
 obtain ⟨ps,⟨g',t',cs,fuel,p,q,hg',ht',hvar,hd,_,_⟩,_⟩:=h
 obtain rfl:=Option.some.inj (hg.symm.trans hg')
 obtain rfl:=Option.some.inj (hty.symm.trans ht')
 refine aGQ hg ?_
 rw [hvar,←aOh ht he hce hct hd]
theorem ints_laid {P:Program} {W:World} {name:String} {k:IntKind} {zs:List Int} {rest:List (String × DataW Unit)} {g:Nat} {t e:TypeId} {n:Nat}
  (hg:P.globalNamed name=some g) (hty:(P.globals[g]?).map (·.type)=some t) (ht:P.underlying t=some (.array n e)) (he:P.underlying e=some (.int k)) (hce:P.cellsOf e=1) (hct:P.cellsOf t=n)
  (h:laidMet P ((name,Lib.tabData k zs)::rest) W):∃ E fr,W.heap[g]?=some (.cells (zs.map fun z=>Value.int k z).toArray E fr):=
 aGQ hg (Lib.tabIs_of_head hg hty ht he hce hct h)
def varsOk (P:Program) (ns:List String):Bool:=ns.all fun n=>((P.globalNamed n).bind (P.globals[·]?)).all fun gl=>P.readableRec gl.type&&decide (gl.type < P.types.size)
theorem trodVars_sp {H:Type} {enc:TypeId × Value->H} {P:Program} (hl:laidOutB P=true) {W W':World} (hb:Below W.heap.size W W') {sp:Nat->Bool}:
  ∀ {ns:List String} {gs:List (DataW H)} {ps:List MemPlace},varsOk P ns=true->DataW.TrodVars enc P W (fun _=>true) ns gs ps->(∀ x∈ps,sp x.block=true)->DataW.TrodVars enc P W' sp ns gs ps
 |[],[],_,_,h,_=>h
 |[],_::_,_,_,h,_=>h.elim
 |_::_,[],_,_,h,_=>h.elim
 |n::ns,d::ds,ps,hv,h,hsp=>by
  have hlt:=h.lt
  obtain ⟨g,t,cs,fuel,p,q,h1,h2,h3,h4,hs,e⟩:=h
  simp only [varsOk,List.all_cons,Bool.and_eq_true] at hv
  have ht:P.readableRec t=true/\t < P.types.size:=by
   have:=hv.1
   rw [h1] at this
   cases hg:P.globals[g]? with
   |none=>rw [hg] at h2;cases h2
   |some gl=>
    rw [hg] at h2
    obtain rfl:gl.type=t:=Option.some.inj h2
    simpa [hg] using this
  have hp:∀ x∈p,x.block < W.heap.size:=fun x hx=>hlt x (by rw [e];simp [hx])
  have hg:g < W.heap.size:=by
   obtain ⟨E,fr,hh⟩:=aGQ h1 h3
   exact (Array.getElem?_eq_some_iff.1 hh).1
  have h3':W'.var? P n=some cs:=by
   unfold World.var? at h3 ⊢
   rw [h1] at h3 ⊢
   simp only [Option.bind_some] at h3 ⊢
   rw [hb.block g hg];exact h3
  exact ⟨g,t,cs,fuel,p,q,h1,h2,h3',DataW.trod_stays (kids_book hl ht.1) (book_sized ht.1) (fun h=>by cases h) ⟨ht.2,book_self t⟩ h4 (fun x hx=>hb.same (hp x hx)) (fun x hx=>hsp x (by rw [e];simp [hx])),
   trodVars_sp hl hb (by simpa [varsOk] using hv.2) hs (fun x hx=>hsp x (by rw [e];simp [hx])),e⟩
end Gv
namespace Gv
open Go.Value renaming slice→zS
open Go Go.Proofs Go.Deep Go.ChangeShapes Go.WideShapes Go.ChangeAt Go.RowKit Go.Shelf
theorem aF.start0 (w:World) (hl:Laid (hp w)):aF ⟨env w,0,hp w,hl⟩ (hp w) [] w:=
 ⟨⟨rfl,Nat.zero_le _⟩,fun _=>none,fun _=>.inr rfl,Hp.le_refl _,fun _=>.inr rfl,Hp.le_refl _,fun _ _ h=>(by cases h),trivial⟩
theorem aF.below0 {w w':World} {hl:Laid (hp w)} (s:aF ⟨env w,0,hp w,hl⟩ (hp w) [] w'):Below w.heap.size w w':=by
 obtain ⟨⟨he,_⟩,_,_,_,_,hk,_⟩:=s
 have hb:∀ k,k < w.heap.size->w'.heap[k]?=w.heap[k]?:=fun k hk'=>by
  have:=hk k w.heap[k] (by simp [hp,hk'])
  unfold hp at this
  rw [this];simp [hk']
 simp only [Gv.env,Env0.mk.injEq] at he
 refine ⟨he.1,he.2.1,he.2.2,?_,hb⟩
 rcases Nat.lt_or_ge w'.heap.size w.heap.size with h|h
 ·have:=hb w'.heap.size h
  simp [h] at this
 ·exact h
theorem laid_all {W:World} (h:aIe W):Laid (hp W):=by
 intro w hle
 obtain ⟨⟨m,h1⟩,⟨E,fr,h2⟩,⟨v,h3,h4⟩,⟨u,h5,h6⟩,⟨E0,fr0,tb0⟩,⟨E1,fr1,tb1⟩⟩:=h
 have cell:∀ (b o:Nat) v,W.cell? ⟨b,o,none⟩=some v->w.cell? ⟨b,o,none⟩=some v:=by
  intro b o v hv
  unfold World.cell? at hv ⊢
  split at hv
  ·rename_i c E fr hc
   have hc':w.heap[b]?=some (.cells c E fr):=hle b _ hc
   simp only [hc'];exact hv
  ·cases hv
 exact ⟨⟨m,cell _ _ _ h1⟩,⟨E,fr,hle _ _ h2⟩,⟨v,cell _ _ _ h3,h4⟩,⟨u,cell _ _ _ h5,h6⟩,⟨E0,fr0,hle _ _ tb0⟩,⟨E1,fr1,hle _ _ tb1⟩⟩
theorem walk0 {H:Type} {enc:TypeId × Value->H} {W:World} (hL:aIe W) {c0:Array Value} {d0:DataW H} {p0:List MemPlace}
  (h0:DataW.Trod enc Tryz.prog W 0 (fun _=>true) true 33 (.agg c0) d0 p0):
  Calls Tryz.prog 3 #[.agg c0] W fun e W'=>e=.returned (.bool true)/\Below W.heap.size W W':=by
 obtain ⟨n0,g0⟩:=h0
 obtain ⟨t0,⟨a0_4,k0_4,a0_5,k0_5,a0_6,k0_6,a0_7,k0_7,a0_8,k0_8,a0_9,k0_9,a0_10,k0_10,a0_11,k0_11,e0,r0_4,r0_5,r0_6,r0_7,r0_8,r0_9,r0_10,r0_11⟩,o0⟩:=opn_33 W H enc _ _ _ _ _ g0
 have hc0:c0=#[str t0.Name,i64 t0.Kind,i64 t0.S.N,i64 t0.S.I,zS a0_4 t0.S.L.length k0_4,zS a0_5 t0.S.E.length k0_5,zS a0_6 t0.Formula.length k0_6,zS a0_7 t0.Source.Definitions.length k0_7,zS a0_8 t0.Source.Components.length k0_8,zS a0_9 t0.Source.Meetings.length k0_9,zS a0_10 t0.Source.Allowed.length k0_10,zS a0_11 t0.Source.Hidden.length k0_11]:=by
  have:c0.toList=_:=e0
  exact Array.toList_inj.1 this
 subst hc0
 refine (xH (lawKpT t0 ⟨o0.1,⟨(o0.2.2.1).2.2.1.1,fun s hs=>(o0.2.2.1).2.2.1.2 s hs,(o0.2.2.1).2.2.2.1⟩,(o0.2.2.2.1).1,fun x hx=>((o0.2.2.2.1).2 x hx).2.2.1,⟨(o0.2.2.2.2).1.1,fun d hd=>⟨((o0.2.2.2.2).1.2 d hd).1,((o0.2.2.2.2).1.2 d hd).2.2.1,fun p hp=>⟨(((o0.2.2.2.2).1.2 d hd).2.2.2 p hp).2.2.1,(((o0.2.2.2.2).1.2 d hd).2.2.2 p hp).2.2.2.1,fun e he=>((((o0.2.2.2.2).1.2 d hd).2.2.2 p hp).2.2.2.2 e he).1⟩⟩,(o0.2.2.2.2).2.1.1,fun c hc=>((o0.2.2.2.2).2.1.2 c hc).2.1,(o0.2.2.2.2).2.2.1.1,fun m hm=>⟨((o0.2.2.2.2).2.2.1.2 m hm).1,((o0.2.2.2.2).2.2.1.2 m hm).2.1,((o0.2.2.2.2).2.2.1.2 m hm).2.2⟩,(o0.2.2.2.2).2.2.2.1.1,fun t ht=>(o0.2.2.2.2).2.2.2.1.2 t ht,(o0.2.2.2.2).2.2.2.2.1,fun t ht=>(o0.2.2.2.2).2.2.2.2.2 t ht⟩⟩) (aF.start0 W (laid_all hL)) rfl r0_4 r0_5 r0_6 r0_7 r0_8 r0_9 r0_10 r0_11).mono ?_
 rintro e W' ⟨v,rfl,rfl,hs⟩
 exact ⟨rfl,hs.below0⟩
theorem starErr: "*"++ "errors.errorString"= "*errors.errorString":=by decide
theorem rowErr (u:TypeId) (h:Tryz.prog.typeName? 3 u=some "*errors.errorString"):u=339:=
 typeName_ptr_named (nm:= "errors.errorString") (by rw [starErr];kernel_rfl) (by kernel_rfl) (by decide) u (by rw [starErr];exact h)
theorem laid0 {W:World} (hL:laidMetH Tryz.prog YthbfapccpmppoaaGreatDoor.Rows.fnExactKeptTextRow.laid W) (hS:W.ShapedOpen Tryz.prog):aIe W:=by
 have h:laidMet Tryz.prog YthbfapccpmppoaaGreatDoor.Rows.fnExactKeptTextRow.laid W:=hL
 have h2:laidMet Tryz.prog (("internal/strconv.uint64pow10",Lib.tabData .u64 Lib.pow10Tab)::_) W:=h.tail.tail
 have hT:=Lib.tabIs_of_head (g:=4) (t:=308) (e:=271) (n:=20) (by kernel_rfl) (by kernel_rfl) (by kernel_rfl) (by kernel_rfl) (by kernel_rfl) (by kernel_rfl) h2
 obtain ⟨a0,s0,hv0,_⟩:=laid_sentinel h2.tail.tail (g:=9) (ti:=193) (ms:=#[("Error",148)]) (tp:=339) (te:=341) (ts:=9) (f:=⟨ "s",9,0,false,"","errors",0⟩) (by kernel_rfl) (by kernel_rfl) (by kernel_rfl) rowErr (by kernel_rfl) (by kernel_rfl) rfl rfl (by kernel_rfl) (by kernel_rfl) (by kernel_rfl)
 obtain ⟨a1,s1,hv1,_⟩:=laid_sentinel h2.tail.tail.tail (g:=8) (ti:=193) (ms:=#[("Error",148)]) (tp:=339) (te:=341) (ts:=9) (f:=⟨ "s",9,0,false,"","errors",0⟩) (by kernel_rfl) (by kernel_rfl) (by kernel_rfl) rowErr (by kernel_rfl) (by kernel_rfl) rfl rfl (by kernel_rfl) (by kernel_rfl) (by kernel_rfl)
 have ht0:laidMet Tryz.prog (("loop.example/g01075/impl.operatorTexts",(.agg (([[43],[45],[42],[61],[35],[60],[60,61],[38],[124]]:List (List UInt8)).map fun z=>.lit (.string z))))::_) W:=h.tail.tail.tail.tail.tail.tail
 have hs0:=Gv.strs_laid (g:=3) (t:=306) (e:=9) (n:=9) (zs:=[[43],[45],[42],[61],[35],[60],[60,61],[38],[124]]) (by kernel_rfl) (by kernel_rfl) (by kernel_rfl) (by kernel_rfl) (by kernel_rfl) (by kernel_rfl) ht0
 have ht1:laidMet Tryz.prog (("loop.example/g01075/impl.levels",Go.Lib.tabData .i64 [4,4,5,3,3,3,3,2,1])::_) W:=h.tail.tail.tail.tail.tail.tail.tail
 have hs1:=Gv.ints_laid (g:=5) (t:=323) (e:=2) (n:=9) (zs:=[4,4,5,3,3,3,3,2,1]) (by kernel_rfl) (by kernel_rfl) (by kernel_rfl) (by kernel_rfl) (by kernel_rfl) (by kernel_rfl) ht1
 refine ⟨cell_of_shapedOpen_int (t:=3) (zero:=#[.int .i64 0]) hS (by decide+kernel) (by kernel_rfl) rfl (by kernel_rfl) (by kernel_rfl) (by kernel_rfl),?_,⟨_,by have h0:=World.var?_cell (show Tryz.prog.globalNamed "strconv.ErrSyntax"=some 8 by kernel_rfl) hv1 0;simpa using h0,.inr ⟨_,_,rfl⟩⟩,⟨_,by have h0:=World.var?_cell (show Tryz.prog.globalNamed "strconv.ErrRange"=some 9 by kernel_rfl) hv0 0;simpa using h0,.inr ⟨_,_,rfl⟩⟩,hs0,hs1⟩
 unfold Lib.TabIs World.var? at hT
 rw [show Tryz.prog.globalNamed "internal/strconv.uint64pow10"=some 4 by kernel_rfl] at hT
 simp only [Option.bind_some] at hT
 split at hT
 ·rename_i cs E fr hc
  cases hT
  exact ⟨E,fr,hc⟩
 ·cases hT
end Gv
