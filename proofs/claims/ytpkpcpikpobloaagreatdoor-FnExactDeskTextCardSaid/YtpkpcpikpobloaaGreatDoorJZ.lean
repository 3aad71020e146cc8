/- Arguments: what a reading of the statement's kind gives, in words of pieces. -/
import Derived.Lib.SmallJoins
import Derived.Test.YtpkpcpikpobloaaGreatDoorJWk11
import Derived.Test.YtpkpcpikpobloaaGreatDoorJP360
import Derived.Test.YtpkpcpikpobloaaGreatDoorCards
import Derived.Test.YtpkpcpikpobloaaGreatDoorTie
import Derived.Deep.DeepWitnessRowRef
import Derived.Stop.LaidErr
set_option linter.all false
namespace Gv
open Go Go.Deep
def Opn (P:Program) (W:World) (α:Type) [El α] (t:TypeId) (ok:α->Prop):Prop:=
 ∀ (H:Type) (enc:TypeId × Value->H) (sp:Nat->Bool) (hd:Bool) (fuel:Nat) (cs:List Value) (x:DataW H × List MemPlace),DataW.trod enc P W 0 sp hd fuel t cs=some x->∃ d:α,El.rd (hp W) cs d/\ok d
section
variable {P:Program} {W:World} {t:TypeId}
def i64ok (n:Int):Prop:=-9223372036854775808<=n/\n<=9223372036854775807
def strok (s:aK):Prop:=s.length<=9223372036854775807
theorem opn_int (ht:P.underlying t=some (.int .i64)):Opn P W Int t i64ok:=by
 intro H enc sp hd fuel cs x h
 obtain ⟨n,rfl,_,hw⟩:=DataW.trod_int ht h
 refine ⟨n,rfl,?_⟩
 simp only [Lit.wf,Bool.and_eq_true,decide_eq_true_eq] at hw
 rw [show IntKind.i64.min=-9223372036854775808 by decide,show IntKind.i64.max=9223372036854775807 by decide] at hw
 exact hw
theorem opn_bool (ht:P.underlying t=some .bool):Opn P W Bool t (fun _=>True):=by
 intro H enc sp hd fuel cs x h
 obtain ⟨b,rfl,_⟩:=DataW.trod_bool ht h
 exact ⟨b,rfl,trivial⟩
theorem opn_str (ht:P.underlying t=some .string):Opn P W aK t strok:=by
 intro H enc sp hd fuel cs x h
 obtain ⟨⟨⟨s⟩⟩,rfl,_,hw⟩:=DataW.trod_string ht h
 exact ⟨s,rfl,hw⟩
theorem aHU (a:Addr) (k:Nat):(a.add k).block=a.block:=by unfold Addr.add;split<;>rfl
theorem add_off (a:Addr) (k:Nat):(a.add k).off=a.off+k:=by
 unfold Addr.add;split
 ·rename_i h;subst h;rfl
 ·rfl
theorem aRR {a:Addr} (h:a.spot=none) (k:Nat):(a.add k).spot=none:=by
 unfold Addr.add;split
 ·exact h
 ·rfl
theorem nM {α:Type} [El α] {e:TypeId} {ok:α->Prop} (ht:P.underlying t=some (.slice e)) (hc:P.cellsOf e=El.sz α) (he:Opn P W α e ok):Opn P W (List α) t (fun xs=>xs.length<=9223372036854775807/\∀ d∈xs,ok d):=by
 intro H enc sp hd fuel cs x h
 rcases open_slice ht h with ⟨rfl,_⟩|⟨a,len,cap,m,n,D,Pl,rfl,hb,hl,hm,hmm,_,hx⟩
 ·exact ⟨[],⟨none,0,rfl,kM _⟩,by simp,by simp⟩
 ·have hlm:len<=m:=by rw [hmm];split<;>omega
  have hex:∀ i,i < len->∃ d:α,(∃ cs',W.cells? 0 (a.add (i * P.cellsOf e)) (P.cellsOf e)=some cs'/\El.rd (hp W) cs' d)/\ok d:=fun i hi=>by
   obtain ⟨cs',h1,h2⟩:=hx i (by omega)
   obtain ⟨d,h3,h4⟩:=he H enc sp hd n cs' _ h2
   exact ⟨d,⟨cs',h1,h3⟩,h4⟩
  have hf:∃ f:(i:Nat)->i < len->α,∀ i hi,(∃ cs',W.cells? 0 (a.add (i * P.cellsOf e)) (P.cellsOf e)=some cs'/\El.rd (hp W) cs' (f i hi))/\ok (f i hi):=
   ⟨fun i hi=>Classical.choose (hex i hi),fun i hi=>Classical.choose_spec (hex i hi)⟩
  obtain ⟨f,hf⟩:=hf
  have hlen:(List.ofFn fun i:Fin len=>f i.1 i.2).length=len:=by simp
  refine ⟨List.ofFn fun i:Fin len=>f i.1 i.2,⟨some a,cap,by rw [hlen],⟨by rw [hlen];exact hl,fun e=>(by cases e),fun i d hd'=>?_⟩⟩,?_,fun d hd'=>?_⟩
  rotate_left
  ·show (List.ofFn fun i:Fin len=>f i.1 i.2).length<=_
   rw [hlen]
   have:maxLen=9223372036854775807:=by decide
   omega
  rotate_left
  ·have hi:i < len:=by have:=(List.getElem?_eq_some_iff.1 hd').1;omega
   rw [List.getElem?_ofFn,dif_pos hi] at hd'
   cases hd'
   obtain ⟨⟨cs',h1,h2⟩,_⟩:=hf i hi
   refine ⟨cs',?_,h2⟩
   obtain ⟨_,h3,h4⟩:=World.cells?_some h1
   have hz:=El.pos (α:=α)
   have hasp:a.spot=none:=by
    obtain ⟨⟨cs0,g1,_⟩,_⟩:=hf 0 (by omega)
    obtain ⟨_,g3,g4⟩:=World.cells?_some g1
    have g0:=g4 0 (by omega)
    rw [List.getElem?_eq_getElem (by omega)] at g0
    have:=World.cell?_spot g0
    simpa [Addr.add] using this
   have h0:=h4 0 (by omega)
   rw [List.getElem?_eq_getElem (by omega)] at h0
   unfold World.cell? at h0
   split at h0
   ·rename_i c E fr hblk
    rw [aHU,aHU] at hblk
    refine ⟨a,c,E,fr,rfl,hasp,hblk,fun j v hv=>?_⟩
    have hj:j < P.cellsOf e:=by have:=(List.getElem?_eq_some_iff.1 hv).1;omega
    have h5:=h4 j hj
    unfold World.cell? at h5
    rw [aHU,aHU,hblk,aRR (aRR hasp _) _,add_off,add_off,hv,hc] at h5
    simpa using h5
   ·cases h0
  ·rw [List.mem_ofFn] at hd'
   obtain ⟨i,rfl⟩:=hd'
   exact (hf i.1 i.2).2
end
end Gv
namespace Gv
open Go.Value renaming slice→zS
open Go Go.Proofs Go.Deep
theorem lec1 {α:Type} {cs:List α} (h:cs.length=1):∃ a,cs=[a]:=by
 match cs,h with
 |[a],_=>exact ⟨a,rfl⟩
theorem lec2 {α:Type} {cs:List α} (h:cs.length=2):∃ a b,cs=[a,b]:=by
 match cs,h with
 |[a,b],_=>exact ⟨a,b,rfl⟩
theorem lec3 {α:Type} {cs:List α} (h:cs.length=3):∃ a b c,cs=[a,b,c]:=by
 match cs,h with
 |[a,b,c],_=>exact ⟨a,b,c,rfl⟩
theorem lec4 {α:Type} {cs:List α} (h:cs.length=4):∃ a b c d,cs=[a,b,c,d]:=by
 match cs,h with
 |[a,b,c,d],_=>exact ⟨a,b,c,d,rfl⟩
theorem lec5 {α:Type} {cs:List α} (h:cs.length=5):∃ a b c d e,cs=[a,b,c,d,e]:=by
 match cs,h with
 |[a,b,c,d,e],_=>exact ⟨a,b,c,d,e,rfl⟩
theorem lec12 {α:Type} {cs:List α} (h:cs.length=12):∃ a b c d e f g h i j k l,cs=[a,b,c,d,e,f,g,h,i,j,k,l]:=by
 match cs,h with
 |[a,b,c,d,e,f,g,h,i,j,k,l],_=>exact ⟨a,b,c,d,e,f,g,h,i,j,k,l,rfl⟩
def ok_9 (x:aK):Prop:=strok x
theorem aMd (W:World):Opn Tryz.prog W aK 9 ok_9:=opn_str (by kernel_rfl)
def aIg (x:Int):Prop:=i64ok x
theorem aCX (W:World):Opn Tryz.prog W Int 2 aIg:=opn_int (by kernel_rfl)
def ok_39 (x:(List aK)):Prop:=(x).length<=9223372036854775807/\∀ d∈x,ok_9 d
theorem opn_39 (W:World):Opn Tryz.prog W (List aK) 39 ok_39:=nM (by kernel_rfl) (by kernel_rfl) (aMd W)
def ok_199 (x:Edge):Prop:=aIg x.F/\aIg x.B/\aIg x.To
theorem opn_199 (W:World):Opn Tryz.prog W Edge 199 ok_199:=by
 intro H enc sp hd fuel cs x h
 obtain ⟨xs,n,_,_,hl,hxl,hf⟩:=DataW.trod_struct (fs:=#[⟨ "From",2,0,false,"","",0⟩,⟨ "Label",2,1,false,"","",8⟩,⟨ "To",2,2,false,"","",16⟩]) (by kernel_rfl) h
 have c2:Tryz.prog.cellsOf 2=1:=by kernel_rfl
 have c:Tryz.prog.cellsOf 199=3:=by kernel_rfl
 rw [c] at hl
 obtain ⟨u0,u1,u2,rfl⟩:=lec3 hl
 have g:∀ i (hi:i < xs.length),xs[i]?=some xs[i]:=fun i hi=>List.getElem?_eq_getElem hi
 have h0:=hf 0 ⟨ "From",2,0,false,"","",0⟩ rfl
 have h1:=hf 1 ⟨ "Label",2,1,false,"","",8⟩ rfl
 have h2:=hf 2 ⟨ "To",2,2,false,"","",16⟩ rfl
 dsimp only at h0 h1 h2
 rw [c2] at h0 h1 h2
 simp only [List.drop_zero,List.drop_succ_cons,List.take_succ_cons,List.take_zero] at h0 h1 h2
 rw [g 0 (by rw [hxl];decide)] at h0
 rw [g 1 (by rw [hxl];decide)] at h1
 rw [g 2 (by rw [hxl];decide)] at h2
 obtain ⟨d0,e0,o0⟩:=aCX W H enc sp hd _ _ _ h0
 obtain ⟨d1,e1,o1⟩:=aCX W H enc sp hd _ _ _ h1
 obtain ⟨d2,e2,o2⟩:=aCX W H enc sp hd _ _ _ h2
 have e0:[u0]=[i64 d0]:=e0
 have e1:[u1]=[i64 d1]:=e1
 have e2:[u2]=[i64 d2]:=e2
 cases e0;cases e1;cases e2
 exact ⟨⟨d0,d1,d2⟩,rfl,o0,o1,o2⟩
def ok_56 (x:(List Edge)):Prop:=(x).length<=9223372036854775807/\∀ d∈x,ok_199 d
theorem opn_56 (W:World):Opn Tryz.prog W (List Edge) 56 ok_56:=nM (by kernel_rfl) (by kernel_rfl) (opn_199 W)
def ok_58 (x:gM):Prop:=aIg x.N/\aIg x.I/\ok_39 x.L/\ok_56 x.E
theorem opn_58 (W:World):Opn Tryz.prog W gM 58 ok_58:=by
 intro H enc sp hd fuel cs x h
 obtain ⟨xs,n,_,_,hl,hxl,hf⟩:=DataW.trod_struct (fs:=#[⟨ "States",2,0,false,"","",0⟩,⟨ "Initial",2,1,false,"","",8⟩,⟨ "Labels",39,2,false,"","",16⟩,⟨ "Edges",56,3,false,"","",40⟩]) (by kernel_rfl) h
 have c2:Tryz.prog.cellsOf 2=1:=by kernel_rfl
 have c39:Tryz.prog.cellsOf 39=1:=by kernel_rfl
 have c56:Tryz.prog.cellsOf 56=1:=by kernel_rfl
 have c:Tryz.prog.cellsOf 58=4:=by kernel_rfl
 rw [c] at hl
 obtain ⟨u0,u1,u2,u3,rfl⟩:=lec4 hl
 have g:∀ i (hi:i < xs.length),xs[i]?=some xs[i]:=fun i hi=>List.getElem?_eq_getElem hi
 have h0:=hf 0 ⟨ "States",2,0,false,"","",0⟩ rfl
 have h1:=hf 1 ⟨ "Initial",2,1,false,"","",8⟩ rfl
 have h2:=hf 2 ⟨ "Labels",39,2,false,"","",16⟩ rfl
 have h3:=hf 3 ⟨ "Edges",56,3,false,"","",40⟩ rfl
 dsimp only at h0 h1 h2 h3
 rw [c2] at h0 h1
 rw [c39] at h2
 rw [c56] at h3
 simp only [List.drop_zero,List.drop_succ_cons,List.take_succ_cons,List.take_zero] at h0 h1 h2 h3
 rw [g 0 (by rw [hxl];decide)] at h0
 rw [g 1 (by rw [hxl];decide)] at h1
 rw [g 2 (by rw [hxl];decide)] at h2
 rw [g 3 (by rw [hxl];decide)] at h3
 obtain ⟨d0,e0,o0⟩:=aCX W H enc sp hd _ _ _ h0
 obtain ⟨d1,e1,o1⟩:=aCX W H enc sp hd _ _ _ h1
 obtain ⟨d2,⟨a2,k2,e2,r2⟩,o2⟩:=opn_39 W H enc sp hd _ _ _ h2
 obtain ⟨d3,⟨a3,k3,e3,r3⟩,o3⟩:=opn_56 W H enc sp hd _ _ _ h3
 have e0:[u0]=[i64 d0]:=e0
 have e1:[u1]=[i64 d1]:=e1
 have e2:[u2]=[zS a2 d2.length k2]:=e2
 have e3:[u3]=[zS a3 d3.length k3]:=e3
 cases e0;cases e1;cases e2;cases e3
 exact ⟨⟨d0,d1,d2,d3⟩,⟨a2,k2,a3,k3,rfl,r2,r3⟩,o0,o1,o2,o3⟩
def ok_4 (x:Bool):Prop:=True
theorem opn_4 (W:World):Opn Tryz.prog W Bool 4 ok_4:=opn_bool (by kernel_rfl)
def ok_120 (x:bI):Prop:=aIg x.Kind/\aIg x.Variable/\ok_9 x.B/\ok_4 x.Not
theorem opn_120 (W:World):Opn Tryz.prog W bI 120 ok_120:=by
 intro H enc sp hd fuel cs x h
 obtain ⟨xs,n,_,_,hl,hxl,hf⟩:=DataW.trod_struct (fs:=#[⟨ "Kind",2,0,false,"","",0⟩,⟨ "Variable",2,1,false,"","",8⟩,⟨ "Label",9,2,false,"","",16⟩,⟨ "Not",4,3,false,"","",32⟩]) (by kernel_rfl) h
 have c2:Tryz.prog.cellsOf 2=1:=by kernel_rfl
 have c4:Tryz.prog.cellsOf 4=1:=by kernel_rfl
 have c9:Tryz.prog.cellsOf 9=1:=by kernel_rfl
 have c:Tryz.prog.cellsOf 120=4:=by kernel_rfl
 rw [c] at hl
 obtain ⟨u0,u1,u2,u3,rfl⟩:=lec4 hl
 have g:∀ i (hi:i < xs.length),xs[i]?=some xs[i]:=fun i hi=>List.getElem?_eq_getElem hi
 have h0:=hf 0 ⟨ "Kind",2,0,false,"","",0⟩ rfl
 have h1:=hf 1 ⟨ "Variable",2,1,false,"","",8⟩ rfl
 have h2:=hf 2 ⟨ "Label",9,2,false,"","",16⟩ rfl
 have h3:=hf 3 ⟨ "Not",4,3,false,"","",32⟩ rfl
 dsimp only at h0 h1 h2 h3
 rw [c2] at h0 h1
 rw [c4] at h3
 rw [c9] at h2
 simp only [List.drop_zero,List.drop_succ_cons,List.take_succ_cons,List.take_zero] at h0 h1 h2 h3
 rw [g 0 (by rw [hxl];decide)] at h0
 rw [g 1 (by rw [hxl];decide)] at h1
 rw [g 2 (by rw [hxl];decide)] at h2
 rw [g 3 (by rw [hxl];decide)] at h3
 obtain ⟨d0,e0,o0⟩:=aCX W H enc sp hd _ _ _ h0
 obtain ⟨d1,e1,o1⟩:=aCX W H enc sp hd _ _ _ h1
 obtain ⟨d2,e2,o2⟩:=aMd W H enc sp hd _ _ _ h2
 obtain ⟨d3,e3,o3⟩:=opn_4 W H enc sp hd _ _ _ h3
 have e0:[u0]=[i64 d0]:=e0
 have e1:[u1]=[i64 d1]:=e1
 have e2:[u2]=[str d2]:=e2
 have e3:[u3]=[Value.bool d3]:=e3
 cases e0;cases e1;cases e2;cases e3
 exact ⟨⟨d0,d1,d2,d3⟩,rfl,o0,o1,o2,o3⟩
def ok_59 (x:(List bI)):Prop:=(x).length<=9223372036854775807/\∀ d∈x,ok_120 d
theorem opn_59 (W:World):Opn Tryz.prog W (List bI) 59 ok_59:=nM (by kernel_rfl) (by kernel_rfl) (opn_120 W)
def ok_344 (x:aS):Prop:=aIg x.Kind/\aIg x.Value
theorem opn_344 (W:World):Opn Tryz.prog W aS 344 ok_344:=by
 intro H enc sp hd fuel cs x h
 obtain ⟨xs,n,_,_,hl,hxl,hf⟩:=DataW.trod_struct (fs:=#[⟨ "Kind",2,0,false,"","",0⟩,⟨ "Value",2,1,false,"","",8⟩]) (by kernel_rfl) h
 have c2:Tryz.prog.cellsOf 2=1:=by kernel_rfl
 have c:Tryz.prog.cellsOf 344=2:=by kernel_rfl
 rw [c] at hl
 obtain ⟨u0,u1,rfl⟩:=lec2 hl
 have g:∀ i (hi:i < xs.length),xs[i]?=some xs[i]:=fun i hi=>List.getElem?_eq_getElem hi
 have h0:=hf 0 ⟨ "Kind",2,0,false,"","",0⟩ rfl
 have h1:=hf 1 ⟨ "Value",2,1,false,"","",8⟩ rfl
 dsimp only at h0 h1
 rw [c2] at h0 h1
 simp only [List.drop_zero,List.drop_succ_cons,List.take_succ_cons,List.take_zero] at h0 h1
 rw [g 0 (by rw [hxl];decide)] at h0
 rw [g 1 (by rw [hxl];decide)] at h1
 obtain ⟨d0,e0,o0⟩:=aCX W H enc sp hd _ _ _ h0
 obtain ⟨d1,e1,o1⟩:=aCX W H enc sp hd _ _ _ h1
 have e0:[u0]=[i64 d0]:=e0
 have e1:[u1]=[i64 d1]:=e1
 cases e0;cases e1
 exact ⟨⟨d0,d1⟩,rfl,o0,o1⟩
def ok_333 (x:(List aS)):Prop:=(x).length<=9223372036854775807/\∀ d∈x,ok_344 d
theorem opn_333 (W:World):Opn Tryz.prog W (List aS) 333 ok_333:=nM (by kernel_rfl) (by kernel_rfl) (opn_344 W)
def ok_274 (x:(List (List aS))):Prop:=(x).length<=9223372036854775807/\∀ d∈x,ok_333 d
theorem opn_274 (W:World):Opn Tryz.prog W (List (List aS)) 274 ok_274:=nM (by kernel_rfl) (by kernel_rfl) (opn_333 W)
def ok_276 (x:bH):Prop:=aIg x.Kind/\aIg x.Number/\ok_9 x.Name/\ok_274 x.Arguments
theorem opn_276 (W:World):Opn Tryz.prog W bH 276 ok_276:=by
 intro H enc sp hd fuel cs x h
 obtain ⟨xs,n,_,_,hl,hxl,hf⟩:=DataW.trod_struct (fs:=#[⟨ "Kind",2,0,false,"","",0⟩,⟨ "Number",2,1,false,"","",8⟩,⟨ "Name",9,2,false,"","",16⟩,⟨ "Arguments",274,3,false,"","",32⟩]) (by kernel_rfl) h
 have c2:Tryz.prog.cellsOf 2=1:=by kernel_rfl
 have c9:Tryz.prog.cellsOf 9=1:=by kernel_rfl
 have c274:Tryz.prog.cellsOf 274=1:=by kernel_rfl
 have c:Tryz.prog.cellsOf 276=4:=by kernel_rfl
 rw [c] at hl
 obtain ⟨u0,u1,u2,u3,rfl⟩:=lec4 hl
 have g:∀ i (hi:i < xs.length),xs[i]?=some xs[i]:=fun i hi=>List.getElem?_eq_getElem hi
 have h0:=hf 0 ⟨ "Kind",2,0,false,"","",0⟩ rfl
 have h1:=hf 1 ⟨ "Number",2,1,false,"","",8⟩ rfl
 have h2:=hf 2 ⟨ "Name",9,2,false,"","",16⟩ rfl
 have h3:=hf 3 ⟨ "Arguments",274,3,false,"","",32⟩ rfl
 dsimp only at h0 h1 h2 h3
 rw [c2] at h0 h1
 rw [c9] at h2
 rw [c274] at h3
 simp only [List.drop_zero,List.drop_succ_cons,List.take_succ_cons,List.take_zero] at h0 h1 h2 h3
 rw [g 0 (by rw [hxl];decide)] at h0
 rw [g 1 (by rw [hxl];decide)] at h1
 rw [g 2 (by rw [hxl];decide)] at h2
 rw [g 3 (by rw [hxl];decide)] at h3
 obtain ⟨d0,e0,o0⟩:=aCX W H enc sp hd _ _ _ h0
 obtain ⟨d1,e1,o1⟩:=aCX W H enc sp hd _ _ _ h1
 obtain ⟨d2,e2,o2⟩:=aMd W H enc sp hd _ _ _ h2
 obtain ⟨d3,⟨a3,k3,e3,r3⟩,o3⟩:=opn_274 W H enc sp hd _ _ _ h3
 have e0:[u0]=[i64 d0]:=e0
 have e1:[u1]=[i64 d1]:=e1
 have e2:[u2]=[str d2]:=e2
 have e3:[u3]=[zS a3 d3.length k3]:=e3
 cases e0;cases e1;cases e2;cases e3
 exact ⟨⟨d0,d1,d2,d3⟩,⟨a3,k3,rfl,r3⟩,o0,o1,o2,o3⟩
def ok_185 (x:(List bH)):Prop:=(x).length<=9223372036854775807/\∀ d∈x,ok_276 d
theorem opn_185 (W:World):Opn Tryz.prog W (List bH) 185 ok_185:=nM (by kernel_rfl) (by kernel_rfl) (opn_276 W)
def ok_187 (x:Definition):Prop:=ok_9 x.Name/\aIg x.Parameters/\ok_185 x.Body
theorem opn_187 (W:World):Opn Tryz.prog W Definition 187 ok_187:=by
 intro H enc sp hd fuel cs x h
 obtain ⟨xs,n,_,_,hl,hxl,hf⟩:=DataW.trod_struct (fs:=#[⟨ "Name",9,0,false,"","",0⟩,⟨ "Parameters",2,1,false,"","",16⟩,⟨ "Body",185,2,false,"","",24⟩]) (by kernel_rfl) h
 have c2:Tryz.prog.cellsOf 2=1:=by kernel_rfl
 have c9:Tryz.prog.cellsOf 9=1:=by kernel_rfl
 have c185:Tryz.prog.cellsOf 185=1:=by kernel_rfl
 have c:Tryz.prog.cellsOf 187=3:=by kernel_rfl
 rw [c] at hl
 obtain ⟨u0,u1,u2,rfl⟩:=lec3 hl
 have g:∀ i (hi:i < xs.length),xs[i]?=some xs[i]:=fun i hi=>List.getElem?_eq_getElem hi
 have h0:=hf 0 ⟨ "Name",9,0,false,"","",0⟩ rfl
 have h1:=hf 1 ⟨ "Parameters",2,1,false,"","",16⟩ rfl
 have h2:=hf 2 ⟨ "Body",185,2,false,"","",24⟩ rfl
 dsimp only at h0 h1 h2
 rw [c2] at h1
 rw [c9] at h0
 rw [c185] at h2
 simp only [List.drop_zero,List.drop_succ_cons,List.take_succ_cons,List.take_zero] at h0 h1 h2
 rw [g 0 (by rw [hxl];decide)] at h0
 rw [g 1 (by rw [hxl];decide)] at h1
 rw [g 2 (by rw [hxl];decide)] at h2
 obtain ⟨d0,e0,o0⟩:=aMd W H enc sp hd _ _ _ h0
 obtain ⟨d1,e1,o1⟩:=aCX W H enc sp hd _ _ _ h1
 obtain ⟨d2,⟨a2,k2,e2,r2⟩,o2⟩:=opn_185 W H enc sp hd _ _ _ h2
 have e0:[u0]=[str d0]:=e0
 have e1:[u1]=[i64 d1]:=e1
 have e2:[u2]=[zS a2 d2.length k2]:=e2
 cases e0;cases e1;cases e2
 exact ⟨⟨d0,d1,d2⟩,⟨a2,k2,rfl,r2⟩,o0,o1,o2⟩
def ok_60 (x:(List Definition)):Prop:=(x).length<=9223372036854775807/\∀ d∈x,ok_187 d
theorem opn_60 (W:World):Opn Tryz.prog W (List Definition) 60 ok_60:=nM (by kernel_rfl) (by kernel_rfl) (opn_187 W)
def ok_108 (x:(List Int)):Prop:=(x).length<=9223372036854775807/\∀ d∈x,aIg d
theorem opn_108 (W:World):Opn Tryz.prog W (List Int) 108 ok_108:=nM (by kernel_rfl) (by kernel_rfl) (aCX W)
def ok_189 (x:bA):Prop:=aIg x.Definition/\ok_108 x.Values
theorem opn_189 (W:World):Opn Tryz.prog W bA 189 ok_189:=by
 intro H enc sp hd fuel cs x h
 obtain ⟨xs,n,_,_,hl,hxl,hf⟩:=DataW.trod_struct (fs:=#[⟨ "Definition",2,0,false,"","",0⟩,⟨ "Values",108,1,false,"","",8⟩]) (by kernel_rfl) h
 have c2:Tryz.prog.cellsOf 2=1:=by kernel_rfl
 have c108:Tryz.prog.cellsOf 108=1:=by kernel_rfl
 have c:Tryz.prog.cellsOf 189=2:=by kernel_rfl
 rw [c] at hl
 obtain ⟨u0,u1,rfl⟩:=lec2 hl
 have g:∀ i (hi:i < xs.length),xs[i]?=some xs[i]:=fun i hi=>List.getElem?_eq_getElem hi
 have h0:=hf 0 ⟨ "Definition",2,0,false,"","",0⟩ rfl
 have h1:=hf 1 ⟨ "Values",108,1,false,"","",8⟩ rfl
 dsimp only at h0 h1
 rw [c2] at h0
 rw [c108] at h1
 simp only [List.drop_zero,List.drop_succ_cons,List.take_succ_cons,List.take_zero] at h0 h1
 rw [g 0 (by rw [hxl];decide)] at h0
 rw [g 1 (by rw [hxl];decide)] at h1
 obtain ⟨d0,e0,o0⟩:=aCX W H enc sp hd _ _ _ h0
 obtain ⟨d1,⟨a1,k1,e1,r1⟩,o1⟩:=opn_108 W H enc sp hd _ _ _ h1
 have e0:[u0]=[i64 d0]:=e0
 have e1:[u1]=[zS a1 d1.length k1]:=e1
 cases e0;cases e1
 exact ⟨⟨d0,d1⟩,⟨a1,k1,rfl,r1⟩,o0,o1⟩
def ok_61 (x:(List bA)):Prop:=(x).length<=9223372036854775807/\∀ d∈x,ok_189 d
theorem opn_61 (W:World):Opn Tryz.prog W (List bA) 61 ok_61:=nM (by kernel_rfl) (by kernel_rfl) (opn_189 W)
def ok_191 (x:bD):Prop:=ok_9 x.Left/\ok_9 x.Right/\ok_9 x.Result
theorem opn_191 (W:World):Opn Tryz.prog W bD 191 ok_191:=by
 intro H enc sp hd fuel cs x h
 obtain ⟨xs,n,_,_,hl,hxl,hf⟩:=DataW.trod_struct (fs:=#[⟨ "Left",9,0,false,"","",0⟩,⟨ "Right",9,1,false,"","",16⟩,⟨ "Result",9,2,false,"","",32⟩]) (by kernel_rfl) h
 have c9:Tryz.prog.cellsOf 9=1:=by kernel_rfl
 have c:Tryz.prog.cellsOf 191=3:=by kernel_rfl
 rw [c] at hl
 obtain ⟨u0,u1,u2,rfl⟩:=lec3 hl
 have g:∀ i (hi:i < xs.length),xs[i]?=some xs[i]:=fun i hi=>List.getElem?_eq_getElem hi
 have h0:=hf 0 ⟨ "Left",9,0,false,"","",0⟩ rfl
 have h1:=hf 1 ⟨ "Right",9,1,false,"","",16⟩ rfl
 have h2:=hf 2 ⟨ "Result",9,2,false,"","",32⟩ rfl
 dsimp only at h0 h1 h2
 rw [c9] at h0 h1 h2
 simp only [List.drop_zero,List.drop_succ_cons,List.take_succ_cons,List.take_zero] at h0 h1 h2
 rw [g 0 (by rw [hxl];decide)] at h0
 rw [g 1 (by rw [hxl];decide)] at h1
 rw [g 2 (by rw [hxl];decide)] at h2
 obtain ⟨d0,e0,o0⟩:=aMd W H enc sp hd _ _ _ h0
 obtain ⟨d1,e1,o1⟩:=aMd W H enc sp hd _ _ _ h1
 obtain ⟨d2,e2,o2⟩:=aMd W H enc sp hd _ _ _ h2
 have e0:[u0]=[str d0]:=e0
 have e1:[u1]=[str d1]:=e1
 have e2:[u2]=[str d2]:=e2
 cases e0;cases e1;cases e2
 exact ⟨⟨d0,d1,d2⟩,rfl,o0,o1,o2⟩
def ok_62 (x:(List bD)):Prop:=(x).length<=9223372036854775807/\∀ d∈x,ok_191 d
theorem opn_62 (W:World):Opn Tryz.prog W (List bD) 62 ok_62:=nM (by kernel_rfl) (by kernel_rfl) (opn_191 W)
def ok_64 (x:bM):Prop:=ok_60 x.Definitions/\ok_61 x.Components/\ok_62 x.Meetings/\ok_39 x.Allowed/\ok_39 x.Hidden
theorem opn_64 (W:World):Opn Tryz.prog W bM 64 ok_64:=by
 intro H enc sp hd fuel cs x h
 obtain ⟨xs,n,_,_,hl,hxl,hf⟩:=DataW.trod_struct (fs:=#[⟨ "Definitions",60,0,false,"","",0⟩,⟨ "Components",61,1,false,"","",24⟩,⟨ "Meetings",62,2,false,"","",48⟩,⟨ "Allowed",39,3,false,"","",72⟩,⟨ "Hidden",39,4,false,"","",96⟩]) (by kernel_rfl) h
 have c39:Tryz.prog.cellsOf 39=1:=by kernel_rfl
 have c60:Tryz.prog.cellsOf 60=1:=by kernel_rfl
 have c61:Tryz.prog.cellsOf 61=1:=by kernel_rfl
 have c62:Tryz.prog.cellsOf 62=1:=by kernel_rfl
 have c:Tryz.prog.cellsOf 64=5:=by kernel_rfl
 rw [c] at hl
 obtain ⟨u0,u1,u2,u3,u4,rfl⟩:=lec5 hl
 have g:∀ i (hi:i < xs.length),xs[i]?=some xs[i]:=fun i hi=>List.getElem?_eq_getElem hi
 have h0:=hf 0 ⟨ "Definitions",60,0,false,"","",0⟩ rfl
 have h1:=hf 1 ⟨ "Components",61,1,false,"","",24⟩ rfl
 have h2:=hf 2 ⟨ "Meetings",62,2,false,"","",48⟩ rfl
 have h3:=hf 3 ⟨ "Allowed",39,3,false,"","",72⟩ rfl
 have h4:=hf 4 ⟨ "Hidden",39,4,false,"","",96⟩ rfl
 dsimp only at h0 h1 h2 h3 h4
 rw [c39] at h3 h4
 rw [c60] at h0
 rw [c61] at h1
 rw [c62] at h2
 simp only [List.drop_zero,List.drop_succ_cons,List.take_succ_cons,List.take_zero] at h0 h1 h2 h3 h4
 rw [g 0 (by rw [hxl];decide)] at h0
 rw [g 1 (by rw [hxl];decide)] at h1
 rw [g 2 (by rw [hxl];decide)] at h2
 rw [g 3 (by rw [hxl];decide)] at h3
 rw [g 4 (by rw [hxl];decide)] at h4
 obtain ⟨d0,⟨a0,k0,e0,r0⟩,o0⟩:=opn_60 W H enc sp hd _ _ _ h0
 obtain ⟨d1,⟨a1,k1,e1,r1⟩,o1⟩:=opn_61 W H enc sp hd _ _ _ h1
 obtain ⟨d2,⟨a2,k2,e2,r2⟩,o2⟩:=opn_62 W H enc sp hd _ _ _ h2
 obtain ⟨d3,⟨a3,k3,e3,r3⟩,o3⟩:=opn_39 W H enc sp hd _ _ _ h3
 obtain ⟨d4,⟨a4,k4,e4,r4⟩,o4⟩:=opn_39 W H enc sp hd _ _ _ h4
 have e0:[u0]=[zS a0 d0.length k0]:=e0
 have e1:[u1]=[zS a1 d1.length k1]:=e1
 have e2:[u2]=[zS a2 d2.length k2]:=e2
 have e3:[u3]=[zS a3 d3.length k3]:=e3
 have e4:[u4]=[zS a4 d4.length k4]:=e4
 cases e0;cases e1;cases e2;cases e3;cases e4
 exact ⟨⟨d0,d1,d2,d3,d4⟩,⟨a0,k0,a1,k1,a2,k2,a3,k3,a4,k4,rfl,r0,r1,r2,r3,r4⟩,o0,o1,o2,o3,o4⟩
def ok_66 (x:Kept):Prop:=ok_9 x.Name/\aIg x.Kind/\ok_58 x.S/\ok_59 x.Formula/\ok_64 x.Source
theorem opn_66 (W:World):Opn Tryz.prog W Kept 66 ok_66:=by
 intro H enc sp hd fuel cs x h
 obtain ⟨xs,n,_,_,hl,hxl,hf⟩:=DataW.trod_struct (fs:=#[⟨ "Name",9,0,false,"","",0⟩,⟨ "Kind",2,1,false,"","",16⟩,⟨ "System",58,2,false,"","",24⟩,⟨ "Formula",59,6,false,"","",88⟩,⟨ "Source",64,7,false,"","",112⟩]) (by kernel_rfl) h
 have c2:Tryz.prog.cellsOf 2=1:=by kernel_rfl
 have c9:Tryz.prog.cellsOf 9=1:=by kernel_rfl
 have c58:Tryz.prog.cellsOf 58=4:=by kernel_rfl
 have c59:Tryz.prog.cellsOf 59=1:=by kernel_rfl
 have c64:Tryz.prog.cellsOf 64=5:=by kernel_rfl
 have c:Tryz.prog.cellsOf 66=12:=by kernel_rfl
 rw [c] at hl
 obtain ⟨u0,u1,u2,u3,u4,u5,u6,u7,u8,u9,u10,u11,rfl⟩:=lec12 hl
 have g:∀ i (hi:i < xs.length),xs[i]?=some xs[i]:=fun i hi=>List.getElem?_eq_getElem hi
 have h0:=hf 0 ⟨ "Name",9,0,false,"","",0⟩ rfl
 have h1:=hf 1 ⟨ "Kind",2,1,false,"","",16⟩ rfl
 have h2:=hf 2 ⟨ "System",58,2,false,"","",24⟩ rfl
 have h3:=hf 3 ⟨ "Formula",59,6,false,"","",88⟩ rfl
 have h4:=hf 4 ⟨ "Source",64,7,false,"","",112⟩ rfl
 dsimp only at h0 h1 h2 h3 h4
 rw [c2] at h1
 rw [c9] at h0
 rw [c58] at h2
 rw [c59] at h3
 rw [c64] at h4
 simp only [List.drop_zero,List.drop_succ_cons,List.take_succ_cons,List.take_zero] at h0 h1 h2 h3 h4
 rw [g 0 (by rw [hxl];decide)] at h0
 rw [g 1 (by rw [hxl];decide)] at h1
 rw [g 2 (by rw [hxl];decide)] at h2
 rw [g 3 (by rw [hxl];decide)] at h3
 rw [g 4 (by rw [hxl];decide)] at h4
 obtain ⟨d0,e0,o0⟩:=aMd W H enc sp hd _ _ _ h0
 obtain ⟨d1,e1,o1⟩:=aCX W H enc sp hd _ _ _ h1
 obtain ⟨d2,⟨a2_2,k2_2,a2_3,k2_3,e2,r2_2,r2_3⟩,o2⟩:=opn_58 W H enc sp hd _ _ _ h2
 obtain ⟨d3,⟨a3,k3,e3,r3⟩,o3⟩:=opn_59 W H enc sp hd _ _ _ h3
 obtain ⟨d4,⟨a4_0,k4_0,a4_1,k4_1,a4_2,k4_2,a4_3,k4_3,a4_4,k4_4,e4,r4_0,r4_1,r4_2,r4_3,r4_4⟩,o4⟩:=opn_64 W H enc sp hd _ _ _ h4
 have e0:[u0]=[str d0]:=e0
 have e1:[u1]=[i64 d1]:=e1
 have e2:[u2,u3,u4,u5]=[i64 d2.N,i64 d2.I,zS a2_2 d2.L.length k2_2,zS a2_3 d2.E.length k2_3]:=e2
 have e3:[u6]=[zS a3 d3.length k3]:=e3
 have e4:[u7,u8,u9,u10,u11]=[zS a4_0 d4.Definitions.length k4_0,zS a4_1 d4.Components.length k4_1,zS a4_2 d4.Meetings.length k4_2,zS a4_3 d4.Allowed.length k4_3,zS a4_4 d4.Hidden.length k4_4]:=e4
 cases e0;cases e1;cases e2;cases e3;cases e4
 exact ⟨⟨d0,d1,d2,d3,d4⟩,⟨a2_2,k2_2,a2_3,k2_3,a3,k3,a4_0,k4_0,a4_1,k4_1,a4_2,k4_2,a4_3,k4_3,a4_4,k4_4,rfl,r2_2,r2_3,r3,r4_0,r4_1,r4_2,r4_3,r4_4⟩,o0,o1,o2,o3,o4⟩
def ok_22 (x:(List Kept)):Prop:=(x).length<=9223372036854775807/\∀ d∈x,ok_66 d
theorem opn_22 (W:World):Opn Tryz.prog W (List Kept) 22 ok_22:=nM (by kernel_rfl) (by kernel_rfl) (opn_66 W)
def ok_24 (x:pR):Prop:=ok_22 x.Kept
theorem opn_24 (W:World):Opn Tryz.prog W pR 24 ok_24:=by
 intro H enc sp hd fuel cs x h
 obtain ⟨xs,n,_,_,hl,hxl,hf⟩:=DataW.trod_struct (fs:=#[⟨ "Kept",22,0,false,"","",0⟩]) (by kernel_rfl) h
 have c22:Tryz.prog.cellsOf 22=1:=by kernel_rfl
 have c:Tryz.prog.cellsOf 24=1:=by kernel_rfl
 rw [c] at hl
 obtain ⟨u0,rfl⟩:=lec1 hl
 have g:∀ i (hi:i < xs.length),xs[i]?=some xs[i]:=fun i hi=>List.getElem?_eq_getElem hi
 have h0:=hf 0 ⟨ "Kept",22,0,false,"","",0⟩ rfl
 dsimp only at h0
 rw [c22] at h0
 simp only [List.drop_zero,List.drop_succ_cons,List.take_succ_cons,List.take_zero] at h0
 rw [g 0 (by rw [hxl];decide)] at h0
 obtain ⟨d0,⟨a0,k0,e0,r0⟩,o0⟩:=opn_22 W H enc sp hd _ _ _ h0
 have e0:[u0]=[zS a0 d0.length k0]:=e0
 cases e0
 exact ⟨⟨d0⟩,⟨a0,k0,rfl,r0⟩,o0⟩
end Gv
namespace Gv
open _root_.Go _root_.Go.RowKit _root_.Go.WideElems
theorem aPd {H:Type} {enc:TypeId × Value->H} {P:Program} {w:World} {base:Nat} {sp:Nat->Bool} {held:Bool} {fuel:Nat} {t e:TypeId} {n:Nat} {cs:List Value} {zs:List (List UInt8)} {p:List MemPlace}
  (ht:P.underlying t=some (.array n e)) (he:P.underlying e=some .string) (hce:P.cellsOf e=1) (hct:P.cellsOf t=n)
  (h:DataW.trod enc P w base sp held fuel t cs=some (.agg (zs.map fun z=>.lit (.string z)),p)):cs=zs.map fun z=>Value.string ⟨⟨z⟩⟩:=by
 cases fuel with
 |zero=>simp [DataW.trod] at h
 |succ fuel=>
  simp only [DataW.trod,ht,hce,hct,Nat.mul_one] at h
  split at h
  ·rename_i hl
   obtain ⟨xs,hm,hx⟩:=Option.map_eq_some_iff.1 h
   have hxs:xs.map (·.1)=zs.map fun z=>(DataW.lit (.string z):DataW H):=by
    have:=congrArg Prod.fst hx
    simpa using this
   have hxl:xs.length=n:=by simpa using Lib.mapM_length hm
   have hzl:zs.length=n:=by
    have:=congrArg List.length hxs
    simp at this
    omega
   refine List.ext_getElem? fun i=>?_
   by_cases hi:i < n
   ·obtain ⟨b,hb,hf⟩:=Lib.mapM_at hm i i (by simp [hi])
    obtain ⟨z,hc,rfl,_⟩:=DataW.trod_string he hf
    have h1:cs[i]?=some (.string z):=by
     have:=congrArg (·[0]?) hc
     simpa [List.getElem?_take,List.getElem?_drop] using this
    have h2:(xs.map (·.1))[i]?=some (DataW.lit (.string z.data.toList):DataW H):=by simp [hb]
    rw [hxs] at h2
    simp only [List.getElem?_map,Option.map_eq_some_iff,DataW.lit.injEq,Lit.string.injEq] at h2
    obtain ⟨z',hz',e'⟩:=h2
    rw [h1,List.getElem?_map,hz']
    simp [e']
   ·rw [List.getElem?_eq_none (by omega),List.getElem?_eq_none (by simp;omega)]
  ·cases h
theorem aHm {P:Program} {W:World} {name:String} {g:Nat} {cs:Array Value} (hg:P.globalNamed name=some g) (h:W.var? P name=some cs):∃ E fr,W.heap[g]?=some (.cells cs E fr):=by
 unfold World.var? at h
 rw [hg] at h
 simp only [Option.bind_some] at h
 split at h
 ·rename_i c E fr hc
  cases h
  exact ⟨E,fr,hc⟩
 ·cases h
theorem strs_laid {P:Program} {W:World} {name:String} {zs:List (List UInt8)} {rest:List (String × DataW Unit)} {g:Nat} {t e:TypeId} {n:Nat}
  (hg:P.globalNamed name=some g) (hty:(P.globals[g]?).map (·.type)=some t) (ht:P.underlying t=some (.array n e)) (he:P.underlying e=some .string) (hce:P.cellsOf e=1) (hct:P.cellsOf t=n)
  (h:laidMet P ((name,.agg (zs.map fun z=>.lit (.string z)))::rest) W):∃ E fr,W.heap[g]?=some (.cells (zs.map fun z=>Value.string ⟨⟨z⟩⟩).toArray E fr):=by
 obtain ⟨ps,⟨g',t',cs,fuel,p,q,hg',ht',hvar,hd,_,_⟩,_⟩:=h
 obtain rfl:=Option.some.inj (hg.symm.trans hg')
 obtain rfl:=Option.some.inj (hty.symm.trans ht')
 refine aHm hg ?_
 rw [hvar,←aPd ht he hce hct hd]
theorem ints_laid {P:Program} {W:World} {name:String} {k:IntKind} {zs:List Int} {rest:List (String × DataW Unit)} {g:Nat} {t e:TypeId} {n:Nat}
  (hg:P.globalNamed name=some g) (hty:(P.globals[g]?).map (·.type)=some t) (ht:P.underlying t=some (.array n e)) (he:P.underlying e=some (.int k)) (hce:P.cellsOf e=1) (hct:P.cellsOf t=n)
  (h:laidMet P ((name,Lib.tabData k zs)::rest) W):∃ E fr,W.heap[g]?=some (.cells (zs.map fun z=>Value.int k z).toArray E fr):=
 aHm hg (Lib.tabIs_of_head hg hty ht he hce hct h)
def varsOk (P:Program) (ns:List String):Bool:=ns.all fun n=>((P.globalNamed n).bind (P.globals[·]?)).all fun gl=>P.readableRec gl.type&&decide (gl.type < P.types.size)
theorem trodVars_sp {H:Type} {enc:TypeId × Value->H} {P:Program} (hl:laidOutB P=true) {W W':World} (hb:Below W.heap.size W W') {sp:Nat->Bool}:
  ∀ {ns:List String} {gs:List (DataW H)} {ps:List MemPlace},varsOk P ns=true->DataW.TrodVars enc P W (fun _=>true) ns gs ps->(∀ x∈ps,sp x.block=true)->DataW.TrodVars enc P W' sp ns gs ps
 |[],[],_,_,h,_=>h
 |[],_::_,_,_,h,_=>h.elim
 |_::_,[],_,_,h,_=>h.elim
 |n::ns,d::ds,ps,hv,h,hsp=>by
  have hlt:=h.lt
  obtain ⟨g,t,cs,fuel,p,q,h1,h2,h3,h4,hs,e⟩:=h
  simp only [varsOk,List.all_cons,Bool.and_eq_true] at hv
  have ht:P.readableRec t=true/\t < P.types.size:=by
   have:=hv.1
   rw [h1] at this
   cases hg:P.globals[g]? with
   |none=>rw [hg] at h2;cases h2
   |some gl=>
    rw [hg] at h2
    obtain rfl:gl.type=t:=Option.some.inj h2
    simpa [hg] using this
  have hp:∀ x∈p,x.block < W.heap.size:=fun x hx=>hlt x (by rw [e];simp [hx])
  have hg:g < W.heap.size:=by
   obtain ⟨E,fr,hh⟩:=aHm h1 h3
   exact (Array.getElem?_eq_some_iff.1 hh).1
  have h3':W'.var? P n=some cs:=by
   unfold World.var? at h3 ⊢
   rw [h1] at h3 ⊢
   simp only [Option.bind_some] at h3 ⊢
   rw [hb.block g hg];exact h3
  exact ⟨g,t,cs,fuel,p,q,h1,h2,h3',DataW.trod_stays (kids_book hl ht.1) (book_sized ht.1) (fun h=>by cases h) ⟨ht.2,book_self t⟩ h4 (fun x hx=>hb.same (hp x hx)) (fun x hx=>hsp x (by rw [e];simp [hx])),
   trodVars_sp hl hb (by simpa [varsOk] using hv.2) hs (fun x hx=>hsp x (by rw [e];simp [hx])),e⟩
end Gv
namespace Gv
open Go Go.Proofs Go.Deep Go.ChangeShapes Go.WideShapes Go.ChangeAt Go.RowKit Go.Shelf
theorem aG.start0 (w:World) (hl:Laid (hp w)):aG ⟨env w,0,hp w,hl⟩ (hp w) [] w:=
 ⟨⟨rfl,Nat.zero_le _⟩,fun _=>none,fun _=>.inr rfl,Hp.le_refl _,fun _=>.inr rfl,Hp.le_refl _,fun _ _ h=>(by cases h),trivial⟩
theorem aG.below0 {w w':World} {hl:Laid (hp w)} (s:aG ⟨env w,0,hp w,hl⟩ (hp w) [] w'):Below w.heap.size w w':=by
 obtain ⟨⟨he,_⟩,_,_,_,_,hk,_⟩:=s
 have hb:∀ k,k < w.heap.size->w'.heap[k]?=w.heap[k]?:=fun k hk'=>by
  have:=hk k w.heap[k] (by simp [hp,hk'])
  unfold hp at this
  rw [this];simp [hk']
 simp only [Gv.env,Env0.mk.injEq] at he
 refine ⟨he.1,he.2.1,he.2.2,?_,hb⟩
 rcases Nat.lt_or_ge w'.heap.size w.heap.size with h|h
 ·have:=hb w'.heap.size h
  simp [h] at this
 ·exact h
theorem laid_all {W:World} (h:aIL W):Laid (hp W):=by
 intro w hle
 obtain ⟨⟨m,h1⟩,⟨E,fr,h2⟩,⟨v,h3,h4⟩,⟨u,h5,h6⟩,⟨E0,fr0,tb0⟩,⟨E1,fr1,tb1⟩⟩:=h
 have cell:∀ (b o:Nat) v,W.cell? ⟨b,o,none⟩=some v->w.cell? ⟨b,o,none⟩=some v:=by
  intro b o v hv
  unfold World.cell? at hv ⊢
  split at hv
  ·rename_i c E fr hc
   have hc':w.heap[b]?=some (.cells c E fr):=hle b _ hc
   simp only [hc'];exact hv
  ·cases hv
 exact ⟨⟨m,cell _ _ _ h1⟩,⟨E,fr,hle _ _ h2⟩,⟨v,cell _ _ _ h3,h4⟩,⟨u,cell _ _ _ h5,h6⟩,⟨E0,fr0,hle _ _ tb0⟩,⟨E1,fr1,hle _ _ tb1⟩⟩
theorem walk0 {H:Type} {enc:TypeId × Value->H} {W:World} (hL:aIL W) {c0:Array Value} {d0:DataW H} {p0:List MemPlace}
  (h0:DataW.Trod enc Tryz.prog W 0 (fun _=>true) true 24 (.agg c0) d0 p0):
  Calls Tryz.prog 3 #[.agg c0] W fun e W'=>e=.returned (.bool true)/\Below W.heap.size W W':=by
 obtain ⟨n0,g0⟩:=h0
 obtain ⟨t0,⟨a0_0,k0_0,e0,r0_0⟩,o0⟩:=opn_24 W H enc _ _ _ _ _ g0
 have hc0:c0=#[Value.slice a0_0 t0.Kept.length k0_0]:=by
  have:c0.toList=_:=e0
  exact Array.toList_inj.1 this
 subst hc0
 refine (xU (lawDkT t0 ⟨o0.1,fun k hk=>⟨(o0.2 k hk).1,⟨((o0.2 k hk).2.2.1).2.2.1.1,fun s hs=>((o0.2 k hk).2.2.1).2.2.1.2 s hs,((o0.2 k hk).2.2.1).2.2.2.1⟩,((o0.2 k hk).2.2.2.1).1,fun x hx=>(((o0.2 k hk).2.2.2.1).2 x hx).2.2.1,⟨((o0.2 k hk).2.2.2.2).1.1,fun d hd=>⟨(((o0.2 k hk).2.2.2.2).1.2 d hd).1,(((o0.2 k hk).2.2.2.2).1.2 d hd).2.2.1,fun p hp=>⟨((((o0.2 k hk).2.2.2.2).1.2 d hd).2.2.2 p hp).2.2.1,((((o0.2 k hk).2.2.2.2).1.2 d hd).2.2.2 p hp).2.2.2.1,fun e he=>(((((o0.2 k hk).2.2.2.2).1.2 d hd).2.2.2 p hp).2.2.2.2 e he).1⟩⟩,((o0.2 k hk).2.2.2.2).2.1.1,fun c hc=>(((o0.2 k hk).2.2.2.2).2.1.2 c hc).2.1,((o0.2 k hk).2.2.2.2).2.2.1.1,fun m hm=>⟨(((o0.2 k hk).2.2.2.2).2.2.1.2 m hm).1,(((o0.2 k hk).2.2.2.2).2.2.1.2 m hm).2.1,(((o0.2 k hk).2.2.2.2).2.2.1.2 m hm).2.2⟩,((o0.2 k hk).2.2.2.2).2.2.2.1.1,fun t ht=>((o0.2 k hk).2.2.2.2).2.2.2.1.2 t ht,((o0.2 k hk).2.2.2.2).2.2.2.2.1,fun t ht=>((o0.2 k hk).2.2.2.2).2.2.2.2.2 t ht⟩⟩⟩) (aG.start0 W (laid_all hL)) rfl r0_0).mono ?_
 rintro e W' ⟨v,rfl,rfl,hs⟩
 exact ⟨rfl,hs.below0⟩
theorem starErr: "*"++ "errors.errorString"= "*errors.errorString":=by decide
theorem rowErr (u:TypeId) (h:Tryz.prog.typeName? 3 u=some "*errors.errorString"):u=357:=
 typeName_ptr_named (nm:= "errors.errorString") (by rw [starErr];kernel_rfl) (by kernel_rfl) (by decide) u (by rw [starErr];exact h)
theorem laid0 {W:World} (hL:laidMetH Tryz.prog YtpkpcpikpobloaaGreatDoor.Rows.fnExactDeskTextRow.laid W) (hS:W.ShapedOpen Tryz.prog):aIL W:=by
 have h:laidMet Tryz.prog YtpkpcpikpobloaaGreatDoor.Rows.fnExactDeskTextRow.laid W:=hL
 have h2:laidMet Tryz.prog (("internal/strconv.uint64pow10",Lib.tabData .u64 Lib.pow10Tab)::_) W:=h.tail.tail
 have hT:=Lib.tabIs_of_head (g:=3) (t:=298) (e:=258) (n:=20) (by kernel_rfl) (by kernel_rfl) (by kernel_rfl) (by kernel_rfl) (by kernel_rfl) (by kernel_rfl) h2
 obtain ⟨a0,s0,hv0,_⟩:=laid_sentinel h2.tail.tail (g:=9) (ti:=83) (ms:=#[("Error",86)]) (tp:=357) (te:=359) (ts:=9) (f:=⟨ "s",9,0,false,"","errors",0⟩) (by kernel_rfl) (by kernel_rfl) (by kernel_rfl) rowErr (by kernel_rfl) (by kernel_rfl) rfl rfl (by kernel_rfl) (by kernel_rfl) (by kernel_rfl)
 obtain ⟨a1,s1,hv1,_⟩:=laid_sentinel h2.tail.tail.tail (g:=8) (ti:=83) (ms:=#[("Error",86)]) (tp:=357) (te:=359) (ts:=9) (f:=⟨ "s",9,0,false,"","errors",0⟩) (by kernel_rfl) (by kernel_rfl) (by kernel_rfl) rowErr (by kernel_rfl) (by kernel_rfl) rfl rfl (by kernel_rfl) (by kernel_rfl) (by kernel_rfl)
 have ht0:laidMet Tryz.prog (("loop.example/g01075/impl.operatorTexts",(.agg (([[43],[45],[42],[61],[35],[60],[60,61],[38],[124]]:List (List UInt8)).map fun z=>.lit (.string z))))::_) W:=h.tail.tail.tail.tail.tail.tail
 have hs0:=Gv.strs_laid (g:=4) (t:=313) (e:=9) (n:=9) (zs:=[[43],[45],[42],[61],[35],[60],[60,61],[38],[124]]) (by kernel_rfl) (by kernel_rfl) (by kernel_rfl) (by kernel_rfl) (by kernel_rfl) (by kernel_rfl) ht0
 have ht1:laidMet Tryz.prog (("loop.example/g01075/impl.levels",Go.Lib.tabData .i64 [4,4,5,3,3,3,3,2,1])::_) W:=h.tail.tail.tail.tail.tail.tail.tail
 have hs1:=Gv.ints_laid (g:=5) (t:=330) (e:=2) (n:=9) (zs:=[4,4,5,3,3,3,3,2,1]) (by kernel_rfl) (by kernel_rfl) (by kernel_rfl) (by kernel_rfl) (by kernel_rfl) (by kernel_rfl) ht1
 refine ⟨cell_of_shapedOpen_int (t:=3) (zero:=#[.int .i64 0]) hS (by decide+kernel) (by kernel_rfl) rfl (by kernel_rfl) (by kernel_rfl) (by kernel_rfl),?_,⟨_,by have h0:=World.var?_cell (show Tryz.prog.globalNamed "strconv.ErrSyntax"=some 8 by kernel_rfl) hv1 0;simpa using h0,.inr ⟨_,_,rfl⟩⟩,⟨_,by have h0:=World.var?_cell (show Tryz.prog.globalNamed "strconv.ErrRange"=some 9 by kernel_rfl) hv0 0;simpa using h0,.inr ⟨_,_,rfl⟩⟩,hs0,hs1⟩
 unfold Lib.TabIs World.var? at hT
 rw [show Tryz.prog.globalNamed "internal/strconv.uint64pow10"=some 3 by kernel_rfl] at hT
 simp only [Option.bind_some] at hT
 split at hT
 ·rename_i cs E fr hc
  cases hT
  exact ⟨E,fr,hc⟩
 ·cases hT
end Gv
