/- Readings of the program's data; what is known of its types. -/
import Derived.Test.YtmlgcbjkfcapaaaGreatDoorFJYR
import Derived.Test.YtmlgcbjkfcapaaaGreatDoorFJS
import Derived.Test.YtmlgcbjkfcapaaaGreatDoorProg
import Derived.KernelRfl
set_option linter.all false
namespace Gv
open Go.Value renaming slice→zS
open Go Go.Proofs
instance:gH Edge where
 sz:=3
 enc d:=[i64 d.F,i64 d.B,i64 d.To]
 len _:=rfl
 one _ v h:=by simp at h;rcases h with rfl|rfl|rfl<;>rfl
 pos:=by decide
instance:El cH where
 sz:=4
 rd K cs d:=∃ (a0:Option Addr) (c0:Nat) (a1:Option Addr) (c1:Nat),cs=[i64 d.N,i64 d.I,zS a0 d.L.length c0,zS a1 d.E.length c1]∧cL K a0 c0 d.L∧cL K a1 c1 d.E
 mono:=fun h ⟨a0,c0,a1,c1,e,h0,h1⟩=>⟨a0,c0,a1,c1,e,h0.mono h,h1.mono h⟩
 len:=fun ⟨_,_,_,_,e,_⟩=>by rw [e];rfl
 one:=fun ⟨_,_,_,_,e,_⟩ v hv=>by rw [e] at hv;simp at hv;rcases hv with rfl|rfl|rfl|rfl<;>rfl
 pos:=by decide
theorem cO:SLT Tryz.prog 22 9 1:=⟨Tryz.runUnderlying22,Tryz.sizeOf9⟩
theorem pU:SC Tryz.prog 9:=⟨Tryz.isAgg9,Tryz.sizeOf9⟩
theorem cG:SLT Tryz.prog 38 2 1:=⟨Tryz.runUnderlying38,Tryz.sizeOf2⟩
theorem qE:EZ Tryz.prog 2 [i64 0]:=⟨⟨_,Tryz.zeroValue2,rfl⟩,⟨Tryz.t2,Tryz.typeInfo2,by show (8:Nat)≤128;decide,rfl,by kernel_rfl,_,rfl,rfl⟩⟩
theorem aAo:EZ Tryz.prog 9 [str []]:=⟨⟨_,Tryz.zeroValue9,rfl⟩,⟨Tryz.t9,Tryz.typeInfo9,by show (16:Nat)≤128;decide,rfl,by kernel_rfl,_,rfl,rfl⟩⟩
theorem cE:SC Tryz.prog 2:=⟨Tryz.isAgg2,Tryz.sizeOf2⟩
theorem sl_23:SLT Tryz.prog 23 113 3:=⟨Tryz.runUnderlying23,Tryz.sizeOf113⟩
theorem fa_25_2:FA Tryz.prog 25 2 2:=⟨_,_,_,Tryz.runUnderlying25,rfl,Tryz.sizeOf22,rfl,rfl⟩
theorem mG:SC Tryz.prog 22:=⟨Tryz.isAgg22,Tryz.sizeOf22⟩
theorem fa_25_3:FA Tryz.prog 25 3 3:=⟨_,_,_,Tryz.runUnderlying25,rfl,Tryz.sizeOf23,rfl,rfl⟩
theorem sc_23:SC Tryz.prog 23:=⟨Tryz.isAgg23,Tryz.sizeOf23⟩
theorem fJ:FA Tryz.prog 63 0 0:=⟨_,_,_,Tryz.runUnderlying63,rfl,Tryz.sizeOf2,rfl,rfl⟩
theorem gB:FA Tryz.prog 63 1 1:=⟨_,_,_,Tryz.runUnderlying63,rfl,Tryz.sizeOf2,rfl,rfl⟩
theorem eM:FA Tryz.prog 63 2 2:=⟨_,_,_,Tryz.runUnderlying63,rfl,Tryz.sizeOf2,rfl,rfl⟩
theorem iM:FA Tryz.prog 29 0 0:=⟨_,_,_,Tryz.runUnderlying29,rfl,Tryz.sizeOf2,rfl,rfl⟩
theorem nE:FA Tryz.prog 29 1 1:=⟨_,_,_,Tryz.runUnderlying29,rfl,Tryz.sizeOf2,rfl,rfl⟩
theorem gI:FA Tryz.prog 29 2 2:=⟨_,_,_,Tryz.runUnderlying29,rfl,Tryz.sizeOf22,rfl,rfl⟩
theorem cK:FA Tryz.prog 29 3 3:=⟨_,_,_,Tryz.runUnderlying29,rfl,Tryz.sizeOf27,rfl,rfl⟩
theorem fS:SC Tryz.prog 27:=⟨Tryz.isAgg27,Tryz.sizeOf27⟩
theorem bY:SLT Tryz.prog 27 63 3:=⟨Tryz.runUnderlying27,Tryz.sizeOf63⟩
theorem iJ:AG Tryz.prog 63 3:=⟨Tryz.isAgg63,Tryz.sizeOf63⟩
theorem lD:EZ Tryz.prog 63 [i64 0,i64 0,i64 0]:=⟨⟨_,Tryz.zeroValue63,rfl⟩,⟨Tryz.t63,Tryz.typeInfo63,by show (24:Nat)≤128;decide,rfl,by kernel_rfl,_,rfl,rfl⟩⟩
theorem aAX:BS Tryz.prog 29 [(0,1),(1,1),(2,1),(3,1)] [i64 0,i64 0,zS none 0 0,zS none 0 0]:=⟨⟨_,Tryz.zeroValue29,rfl⟩,_,Tryz.runUnderlying29,fun w=>by simp [Tryz.sizeOf2,Tryz.sizeOf22,Tryz.sizeOf27]⟩
theorem eC:AG Tryz.prog 29 4:=⟨Tryz.isAgg29,Tryz.sizeOf29⟩
theorem jN:SLT Tryz.prog 87 4 1:=⟨Tryz.runUnderlying87,Tryz.sizeOf4⟩
theorem ez_4:EZ Tryz.prog 4 [Value.bool false]:=⟨⟨_,Tryz.zeroValue4,rfl⟩,⟨Tryz.t4,Tryz.typeInfo4,by show (1:Nat)≤128;decide,rfl,by kernel_rfl,_,rfl,rfl⟩⟩
theorem aCD:SC Tryz.prog 4:=⟨Tryz.isAgg4,Tryz.sizeOf4⟩
theorem bs_63:BS Tryz.prog 63 [(0,1),(1,1),(2,1)] [i64 0,i64 0,i64 0]:=⟨⟨_,Tryz.zeroValue63,rfl⟩,_,Tryz.runUnderlying63,fun w=>by simp [Tryz.sizeOf2]⟩
theorem bs_107:BS Tryz.prog 107 [(0,1),(1,1),(2,1),(3,1)] [Value.pointer none,Value.pointer none,i64 0,zS none 0 0]:=⟨⟨_,Tryz.zeroValue107,rfl⟩,_,Tryz.runUnderlying107,fun w=>by simp [Tryz.sizeOf105,Tryz.sizeOf2,Tryz.sizeOf52]⟩
theorem qF:FA Tryz.prog 107 3 3:=⟨_,_,_,Tryz.runUnderlying107,rfl,Tryz.sizeOf105,rfl,rfl⟩
theorem aBt:SC Tryz.prog 105:=⟨Tryz.isAgg105,Tryz.sizeOf105⟩
theorem uK:SLT Tryz.prog 105 87 1:=⟨Tryz.runUnderlying105,Tryz.sizeOf87⟩
theorem ez_87:EZ Tryz.prog 87 [zS none 0 0]:=⟨⟨_,Tryz.zeroValue87,rfl⟩,⟨Tryz.t87,Tryz.typeInfo87,by show (24:Nat)≤128;decide,rfl,by kernel_rfl,_,rfl,rfl⟩⟩
theorem aFI:FA Tryz.prog 107 0 0:=⟨_,_,_,Tryz.runUnderlying107,rfl,Tryz.sizeOf52,rfl,rfl⟩
theorem sc_52:SC Tryz.prog 52:=⟨Tryz.isAgg52,Tryz.sizeOf52⟩
theorem aIX:FA Tryz.prog 107 1 1:=⟨_,_,_,Tryz.runUnderlying107,rfl,Tryz.sizeOf52,rfl,rfl⟩
theorem aIY:FA Tryz.prog 107 2 2:=⟨_,_,_,Tryz.runUnderlying107,rfl,Tryz.sizeOf2,rfl,rfl⟩
theorem aEM:SC Tryz.prog 87:=⟨Tryz.isAgg87,Tryz.sizeOf87⟩
theorem fa_113_0:FA Tryz.prog 113 0 0:=⟨_,_,_,Tryz.runUnderlying113,rfl,Tryz.sizeOf2,rfl,rfl⟩
theorem fa_113_1:FA Tryz.prog 113 1 1:=⟨_,_,_,Tryz.runUnderlying113,rfl,Tryz.sizeOf2,rfl,rfl⟩
theorem fa_113_2:FA Tryz.prog 113 2 2:=⟨_,_,_,Tryz.runUnderlying113,rfl,Tryz.sizeOf2,rfl,rfl⟩
theorem ag_113:AG Tryz.prog 113 3:=⟨Tryz.isAgg113,Tryz.sizeOf113⟩
theorem fa_25_0:FA Tryz.prog 25 0 0:=⟨_,_,_,Tryz.runUnderlying25,rfl,Tryz.sizeOf2,rfl,rfl⟩
theorem fa_25_1:FA Tryz.prog 25 1 1:=⟨_,_,_,Tryz.runUnderlying25,rfl,Tryz.sizeOf2,rfl,rfl⟩
theorem sl_245:SLT Tryz.prog 245 3 1:=⟨Tryz.runUnderlying245,Tryz.sizeOf3⟩
theorem ez_3:EZ Tryz.prog 3 [i64 0]:=⟨⟨_,Tryz.zeroValue3,rfl⟩,⟨Tryz.t3,Tryz.typeInfo3,by show (8:Nat)≤128;decide,rfl,by kernel_rfl,_,rfl,rfl⟩⟩
theorem sc_3:SC Tryz.prog 3:=⟨Tryz.isAgg3,Tryz.sizeOf3⟩
theorem sc_38:SC Tryz.prog 38:=⟨Tryz.isAgg38,Tryz.sizeOf38⟩
theorem aBZ:SC Tryz.prog 124:=⟨Tryz.isAgg124,Tryz.sizeOf124⟩
theorem aBu:ART Tryz.prog 126 2 2:=⟨Tryz.runUnderlying126,Tryz.isAgg2,Tryz.sizeOf2⟩
theorem aCY:∃ z,(∀ w,(zeroValue 126).run Tryz.prog w=.ok z w)∧z.cells=[i64 0,i64 0].toArray:=⟨_,Tryz.zeroValue126,rfl⟩
theorem aCa:aDx Tryz.prog 126 (Int × Int):=aJW Tryz.runUnderlying126 Tryz.runUnderlying2 ⟨Tryz.isAgg2,Tryz.sizeOf2⟩
theorem ag_126:AG Tryz.prog 126 2:=⟨Tryz.isAgg126,Tryz.sizeOf126⟩
theorem bs_260:BS Tryz.prog 260 [(0,4),(4,4),(8,1)] [i64 0,i64 0,zS none 0 0,zS none 0 0,i64 0,i64 0,zS none 0 0,zS none 0 0,Value.nilFunc]:=⟨⟨_,Tryz.zeroValue260,rfl⟩,_,Tryz.runUnderlying260,fun w=>by simp [Tryz.sizeOf237,Tryz.sizeOf29]⟩
theorem aFJ:AG Tryz.prog 260 9:=⟨Tryz.isAgg260,Tryz.sizeOf260⟩
theorem aCb:FA Tryz.prog 260 0 0:=⟨_,_,_,Tryz.runUnderlying260,rfl,Tryz.sizeOf29,rfl,rfl⟩
theorem aFK:FA Tryz.prog 260 1 4:=⟨_,_,_,Tryz.runUnderlying260,rfl,Tryz.sizeOf29,rfl,rfl⟩
theorem aIZ:FA Tryz.prog 260 2 8:=⟨_,_,_,Tryz.runUnderlying260,rfl,Tryz.sizeOf237,rfl,rfl⟩
theorem sc_237:SC Tryz.prog 237:=⟨Tryz.isAgg237,Tryz.sizeOf237⟩
theorem ko_2:aDx Tryz.prog 2 Int:=keyOk_int Tryz.runUnderlying2
theorem sc_64:SC Tryz.prog 64:=⟨Tryz.isAgg64,Tryz.sizeOf64⟩
theorem sl_202:SLT Tryz.prog 202 5 1:=⟨Tryz.runUnderlying202,Tryz.sizeOf5⟩
theorem ez_5:EZ Tryz.prog 5 [Value.int .u8 0]:=⟨⟨_,Tryz.zeroValue5,rfl⟩,⟨Tryz.t5,Tryz.typeInfo5,by show (1:Nat)≤128;decide,rfl,by kernel_rfl,_,rfl,rfl⟩⟩
theorem ag_25:AG Tryz.prog 25 4:=⟨Tryz.isAgg25,Tryz.sizeOf25⟩
theorem st_63:Tryz.prog.stoodInHeld 63=false:=by kernel_rfl
theorem eq_63 {x y:Edge}:EQT Tryz.prog 63 [i64 x.F,i64 x.B,i64 x.To] [i64 y.F,i64 y.B,i64 y.To] (decide (x=y)):=by
 refine ⟨by kernel_rfl,fun w=>?_⟩
 have h2:∀ (a b:Int),(Op.equalIn 9999 2 (i64 a) (i64 b)).run Tryz.prog w=.ok (a == b) w:=fun a b=>run_eqInI 9998 (Tryz.runUnderlying2 w)
 have:Op.maxDepth=9999+1:=rfl
 unfold Op.equal
 rw [this]
 unfold Op.equalIn
 simp [Tryz.runUnderlying63,st_63,part,h2,Tryz.isAgg2]
 cases x;cases y
 simp
 repeat' split<;>simp_all
theorem bU:Tryz.prog.follows .mixedOrders=true:=by kernel_rfl
abbrev zC (d:cH) (a:Option Addr) (c:Nat) (b:Option Addr) (e:Nat):List Value:=[i64 d.N,i64 d.I,Value.slice a d.L.length c,Value.slice b d.E.length e]
abbrev zCa (d:cH) (a:Option Addr) (c:Nat) (b:Option Addr) (e:Nat):Array Value:=#[i64 d.N,i64 d.I,Value.slice a d.L.length c,Value.slice b d.E.length e]
abbrev zG:List Value:=[i64 0,i64 0,Value.slice none 0 0,Value.slice none 0 0]
abbrev zGa:Array Value:=#[i64 0,i64 0,Value.slice none 0 0,Value.slice none 0 0]
abbrev zK:List Value:=[i64 0,i64 0,Value.slice none 0 0,Value.slice none 0 0,Value.slice none 0 0,Value.slice none 0 0]
abbrev zKa:Array Value:=#[i64 0,i64 0,Value.slice none 0 0,Value.slice none 0 0,Value.slice none 0 0,Value.slice none 0 0]
end Gv
