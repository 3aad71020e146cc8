/- Readings of the program's data; what is known of its types. -/
import Derived.Test.YtmlgcbjkfcapaaaGreatDoorJXA
import Derived.Test.YtmlgcbjkfcapaaaGreatDoorJS
import Derived.Test.YtmlgcbjkfcapaaaGreatDoorProg
import Derived.KernelRfl
set_option linter.all false
namespace Gv
open Go.Value renaming slice→zS
open Go Go.Proofs
instance:gH Edge where
 sz:=3
 enc d:=[i64 d.F,i64 d.B,i64 d.To]
 len _:=rfl
 one _ v h:=by simp at h;rcases h with rfl|rfl|rfl<;>rfl
 pos:=by decide
instance:El cN where
 sz:=4
 rd K cs d:=∃ (a0:Option Addr) (c0:Nat) (a1:Option Addr) (c1:Nat),cs=[i64 d.N,i64 d.I,zS a0 d.L.length c0,zS a1 d.E.length c1]∧dB K a0 c0 d.L∧dB K a1 c1 d.E
 mono:=fun h ⟨a0,c0,a1,c1,e,h0,h1⟩=>⟨a0,c0,a1,c1,e,h0.mono h,h1.mono h⟩
 len:=fun ⟨_,_,_,_,e,_⟩=>by rw [e];rfl
 one:=fun ⟨_,_,_,_,e,_⟩ v hv=>by rw [e] at hv;simp at hv;rcases hv with rfl|rfl|rfl|rfl<;>rfl
 pos:=by decide
instance:gH iC where
 sz:=3
 enc d:=[i64 d.from_,str d.label,i64 d.to_]
 len _:=rfl
 one _ v h:=by simp at h;rcases h with rfl|rfl|rfl<;>rfl
 pos:=by decide
instance:gH iL where
 sz:=5
 enc d:=[i64 d.from_.1,i64 d.from_.2,str d.label,i64 d.to_.1,i64 d.to_.2]
 len _:=rfl
 one _ v h:=by simp at h;rcases h with rfl|rfl|rfl|rfl|rfl<;>rfl
 pos:=by decide
theorem cF:SLT Tryz.prog 22 9 1:=⟨Tryz.runUnderlying22,Tryz.sizeOf9⟩
theorem mV:SC Tryz.prog 9:=⟨Tryz.isAgg9,Tryz.sizeOf9⟩
theorem bY:SLT Tryz.prog 38 2 1:=⟨Tryz.runUnderlying38,Tryz.sizeOf2⟩
theorem lR:EZ Tryz.prog 2 [i64 0]:=⟨⟨_,Tryz.zeroValue2,rfl⟩,⟨Tryz.t2,Tryz.typeInfo2,by show (8:Nat)≤128;decide,rfl,by kernel_rfl,_,rfl,rfl⟩⟩
theorem vJ:EZ Tryz.prog 9 [str []]:=⟨⟨_,Tryz.zeroValue9,rfl⟩,⟨Tryz.t9,Tryz.typeInfo9,by show (16:Nat)≤128;decide,rfl,by kernel_rfl,_,rfl,rfl⟩⟩
theorem cV:SC Tryz.prog 2:=⟨Tryz.isAgg2,Tryz.sizeOf2⟩
theorem sl_23:SLT Tryz.prog 23 113 3:=⟨Tryz.runUnderlying23,Tryz.sizeOf113⟩
theorem fa_25_2:FA Tryz.prog 25 2 2:=⟨_,_,_,Tryz.runUnderlying25,rfl,Tryz.sizeOf22,rfl,rfl⟩
theorem iT:SC Tryz.prog 22:=⟨Tryz.isAgg22,Tryz.sizeOf22⟩
theorem fa_25_3:FA Tryz.prog 25 3 3:=⟨_,_,_,Tryz.runUnderlying25,rfl,Tryz.sizeOf23,rfl,rfl⟩
theorem sc_23:SC Tryz.prog 23:=⟨Tryz.isAgg23,Tryz.sizeOf23⟩
theorem fa_113_0:FA Tryz.prog 113 0 0:=⟨_,_,_,Tryz.runUnderlying113,rfl,Tryz.sizeOf2,rfl,rfl⟩
theorem kG:FA Tryz.prog 63 0 0:=⟨_,_,_,Tryz.runUnderlying63,rfl,Tryz.sizeOf2,rfl,rfl⟩
theorem fa_113_1:FA Tryz.prog 113 1 1:=⟨_,_,_,Tryz.runUnderlying113,rfl,Tryz.sizeOf2,rfl,rfl⟩
theorem iF:FA Tryz.prog 63 1 1:=⟨_,_,_,Tryz.runUnderlying63,rfl,Tryz.sizeOf2,rfl,rfl⟩
theorem fa_113_2:FA Tryz.prog 113 2 2:=⟨_,_,_,Tryz.runUnderlying113,rfl,Tryz.sizeOf2,rfl,rfl⟩
theorem gX:FA Tryz.prog 63 2 2:=⟨_,_,_,Tryz.runUnderlying63,rfl,Tryz.sizeOf2,rfl,rfl⟩
theorem lU:AG Tryz.prog 63 3:=⟨Tryz.isAgg63,Tryz.sizeOf63⟩
theorem cK:SLT Tryz.prog 27 63 3:=⟨Tryz.runUnderlying27,Tryz.sizeOf63⟩
theorem mD:EZ Tryz.prog 63 [i64 0,i64 0,i64 0]:=⟨⟨_,Tryz.zeroValue63,rfl⟩,⟨Tryz.t63,Tryz.typeInfo63,by show (24:Nat)≤128;decide,rfl,by kernel_rfl,_,rfl,rfl⟩⟩
theorem ag_113:AG Tryz.prog 113 3:=⟨Tryz.isAgg113,Tryz.sizeOf113⟩
theorem fa_25_0:FA Tryz.prog 25 0 0:=⟨_,_,_,Tryz.runUnderlying25,rfl,Tryz.sizeOf2,rfl,rfl⟩
theorem iZ:FA Tryz.prog 29 0 0:=⟨_,_,_,Tryz.runUnderlying29,rfl,Tryz.sizeOf2,rfl,rfl⟩
theorem fa_25_1:FA Tryz.prog 25 1 1:=⟨_,_,_,Tryz.runUnderlying25,rfl,Tryz.sizeOf2,rfl,rfl⟩
theorem sN:FA Tryz.prog 29 1 1:=⟨_,_,_,Tryz.runUnderlying29,rfl,Tryz.sizeOf2,rfl,rfl⟩
theorem eG:FA Tryz.prog 29 2 2:=⟨_,_,_,Tryz.runUnderlying29,rfl,Tryz.sizeOf22,rfl,rfl⟩
theorem eR:FA Tryz.prog 29 3 3:=⟨_,_,_,Tryz.runUnderlying29,rfl,Tryz.sizeOf27,rfl,rfl⟩
theorem dI:AG Tryz.prog 29 4:=⟨Tryz.isAgg29,Tryz.sizeOf29⟩
theorem lK:SC Tryz.prog 27:=⟨Tryz.isAgg27,Tryz.sizeOf27⟩
theorem sl_202:SLT Tryz.prog 202 5 1:=⟨Tryz.runUnderlying202,Tryz.sizeOf5⟩
theorem ez_5:EZ Tryz.prog 5 [Value.int .u8 0]:=⟨⟨_,Tryz.zeroValue5,rfl⟩,⟨Tryz.t5,Tryz.typeInfo5,by show (1:Nat)≤128;decide,rfl,by kernel_rfl,_,rfl,rfl⟩⟩
theorem aEW:SLT Tryz.prog 87 4 1:=⟨Tryz.runUnderlying87,Tryz.sizeOf4⟩
theorem ez_4:EZ Tryz.prog 4 [Value.bool false]:=⟨⟨_,Tryz.zeroValue4,rfl⟩,⟨Tryz.t4,Tryz.typeInfo4,by show (1:Nat)≤128;decide,rfl,by kernel_rfl,_,rfl,rfl⟩⟩
theorem sc_4:SC Tryz.prog 4:=⟨Tryz.isAgg4,Tryz.sizeOf4⟩
theorem rC:SLT Tryz.prog 74 38 1:=⟨Tryz.runUnderlying74,Tryz.sizeOf38⟩
theorem aHa:EZ Tryz.prog 38 [zS none 0 0]:=⟨⟨_,Tryz.zeroValue38,rfl⟩,⟨Tryz.t38,Tryz.typeInfo38,by show (24:Nat)≤128;decide,rfl,by kernel_rfl,_,rfl,rfl⟩⟩
theorem zN:SC Tryz.prog 38:=⟨Tryz.isAgg38,Tryz.sizeOf38⟩
theorem tI:BS Tryz.prog 29 [(0,1),(1,1),(2,1),(3,1)] [i64 0,i64 0,zS none 0 0,zS none 0 0]:=⟨⟨_,Tryz.zeroValue29,rfl⟩,_,Tryz.runUnderlying29,fun w=>by simp [Tryz.sizeOf2,Tryz.sizeOf22,Tryz.sizeOf27]⟩
theorem aHb:BS Tryz.prog 63 [(0,1),(1,1),(2,1)] [i64 0,i64 0,i64 0]:=⟨⟨_,Tryz.zeroValue63,rfl⟩,_,Tryz.runUnderlying63,fun w=>by simp [Tryz.sizeOf2]⟩
theorem sl_245:SLT Tryz.prog 245 3 1:=⟨Tryz.runUnderlying245,Tryz.sizeOf3⟩
theorem ez_3:EZ Tryz.prog 3 [i64 0]:=⟨⟨_,Tryz.zeroValue3,rfl⟩,⟨Tryz.t3,Tryz.typeInfo3,by show (8:Nat)≤128;decide,rfl,by kernel_rfl,_,rfl,rfl⟩⟩
theorem sc_3:SC Tryz.prog 3:=⟨Tryz.isAgg3,Tryz.sizeOf3⟩
theorem oQ:SLT Tryz.prog 145 160 3:=⟨Tryz.runUnderlying145,Tryz.sizeOf160⟩
theorem ag_160:AG Tryz.prog 160 3:=⟨Tryz.isAgg160,Tryz.sizeOf160⟩
theorem fa_160_0:FA Tryz.prog 160 0 0:=⟨_,_,_,Tryz.runUnderlying160,rfl,Tryz.sizeOf2,rfl,rfl⟩
theorem aKI:FA Tryz.prog 160 1 1:=⟨_,_,_,Tryz.runUnderlying160,rfl,Tryz.sizeOf9,rfl,rfl⟩
theorem fa_160_2:FA Tryz.prog 160 2 2:=⟨_,_,_,Tryz.runUnderlying160,rfl,Tryz.sizeOf2,rfl,rfl⟩
theorem aFD:BS Tryz.prog 160 [(0,1),(1,1),(2,1)] [i64 0,str [],i64 0]:=⟨⟨_,Tryz.zeroValue160,rfl⟩,_,Tryz.runUnderlying160,fun w=>by simp [Tryz.sizeOf2,Tryz.sizeOf9]⟩
theorem tM:EZ Tryz.prog 160 [i64 0,str [],i64 0]:=⟨⟨_,Tryz.zeroValue160,rfl⟩,⟨Tryz.t160,Tryz.typeInfo160,by show (32:Nat)≤128;decide,rfl,by kernel_rfl,_,rfl,rfl⟩⟩
theorem bs_210:BS Tryz.prog 210 [(0,1),(1,1),(2,1),(3,1)] [zS none 0 0,Value.map none,zS none 0 0,Value.nilFunc]:=⟨⟨_,Tryz.zeroValue210,rfl⟩,_,Tryz.runUnderlying210,fun w=>by simp [Tryz.sizeOf140,Tryz.sizeOf145,Tryz.sizeOf208,Tryz.sizeOf74]⟩
theorem aBa:SC Tryz.prog 207:=⟨Tryz.isAgg207,Tryz.sizeOf207⟩
theorem fa_210_3:FA Tryz.prog 210 3 3:=⟨_,_,_,Tryz.runUnderlying210,rfl,Tryz.sizeOf140,rfl,rfl⟩
theorem sc_140:SC Tryz.prog 140:=⟨Tryz.isAgg140,Tryz.sizeOf140⟩
theorem aKJ:FA Tryz.prog 210 1 1:=⟨_,_,_,Tryz.runUnderlying210,rfl,Tryz.sizeOf208,rfl,rfl⟩
theorem aJE:SC Tryz.prog 208:=⟨Tryz.isAgg208,Tryz.sizeOf208⟩
theorem ko_9:aEg Tryz.prog 9 bB:=keyOk_str Tryz.runUnderlying9
theorem zO:FA Tryz.prog 210 0 0:=⟨_,_,_,Tryz.runUnderlying210,rfl,Tryz.sizeOf74,rfl,rfl⟩
theorem aHd:SC Tryz.prog 74:=⟨Tryz.isAgg74,Tryz.sizeOf74⟩
theorem aCh:FA Tryz.prog 210 2 2:=⟨_,_,_,Tryz.runUnderlying210,rfl,Tryz.sizeOf145,rfl,rfl⟩
theorem aBX:SC Tryz.prog 145:=⟨Tryz.isAgg145,Tryz.sizeOf145⟩
theorem aBb:ART Tryz.prog 148 2 2:=⟨Tryz.runUnderlying148,Tryz.isAgg2,Tryz.sizeOf2⟩
theorem ko_2:aEg Tryz.prog 2 Int:=keyOk_int Tryz.runUnderlying2
theorem bs_323:BS Tryz.prog 323 [(0,1),(1,1),(2,1),(3,1)] [zS none 0 0,Value.map none,zS none 0 0,Value.nilFunc]:=⟨⟨_,Tryz.zeroValue323,rfl⟩,_,Tryz.runUnderlying323,fun w=>by simp [Tryz.sizeOf145,Tryz.sizeOf208,Tryz.sizeOf213,Tryz.sizeOf38]⟩
theorem aBc:SC Tryz.prog 321:=⟨Tryz.isAgg321,Tryz.sizeOf321⟩
theorem fa_323_3:FA Tryz.prog 323 3 3:=⟨_,_,_,Tryz.runUnderlying323,rfl,Tryz.sizeOf213,rfl,rfl⟩
theorem sc_213:SC Tryz.prog 213:=⟨Tryz.isAgg213,Tryz.sizeOf213⟩
theorem aKK:FA Tryz.prog 323 1 1:=⟨_,_,_,Tryz.runUnderlying323,rfl,Tryz.sizeOf208,rfl,rfl⟩
theorem zQ:FA Tryz.prog 323 0 0:=⟨_,_,_,Tryz.runUnderlying323,rfl,Tryz.sizeOf38,rfl,rfl⟩
theorem aCi:FA Tryz.prog 323 2 2:=⟨_,_,_,Tryz.runUnderlying323,rfl,Tryz.sizeOf145,rfl,rfl⟩
theorem aJF:∃ z,(∀ w,(zeroValue 148).run Tryz.prog w=.ok z w)∧z.cells=[i64 0,i64 0].toArray:=⟨_,Tryz.zeroValue148,rfl⟩
theorem aBY:SLT Tryz.prog 149 148 2:=⟨Tryz.runUnderlying149,Tryz.sizeOf148⟩
theorem ez_148:EZ Tryz.prog 148 [i64 0,i64 0]:=⟨⟨_,Tryz.zeroValue148,rfl⟩,⟨Tryz.t148,Tryz.typeInfo148,by show (16:Nat)≤128;decide,rfl,by kernel_rfl,_,rfl,rfl⟩⟩
theorem aEv:SC Tryz.prog 147:=⟨Tryz.isAgg147,Tryz.sizeOf147⟩
theorem aDt:SC Tryz.prog 149:=⟨Tryz.isAgg149,Tryz.sizeOf149⟩
theorem yB:AG Tryz.prog 148 2:=⟨Tryz.isAgg148,Tryz.sizeOf148⟩
theorem aEw:aEg Tryz.prog 148 (Int × Int):=aLS Tryz.runUnderlying148 Tryz.runUnderlying2 ⟨Tryz.isAgg2,Tryz.sizeOf2⟩
theorem sc_150:SC Tryz.prog 150:=⟨Tryz.isAgg150,Tryz.sizeOf150⟩
theorem bs_152:BS Tryz.prog 152 [(0,2),(2,1),(3,2)] [i64 0,i64 0,str [],i64 0,i64 0]:=⟨⟨_,Tryz.zeroValue152,rfl⟩,_,Tryz.runUnderlying152,fun w=>by simp [Tryz.sizeOf148,Tryz.sizeOf9]⟩
theorem aJG:SLT Tryz.prog 150 152 5:=⟨Tryz.runUnderlying150,Tryz.sizeOf152⟩
theorem ez_152:EZ Tryz.prog 152 [i64 0,i64 0,str [],i64 0,i64 0]:=⟨⟨_,Tryz.zeroValue152,rfl⟩,⟨Tryz.t152,Tryz.typeInfo152,by show (48:Nat)≤128;decide,rfl,by kernel_rfl,_,rfl,rfl⟩⟩
theorem ag_152:AG Tryz.prog 152 5:=⟨Tryz.isAgg152,Tryz.sizeOf152⟩
theorem fa_152_0:FA Tryz.prog 152 0 0:=⟨_,_,_,Tryz.runUnderlying152,rfl,Tryz.sizeOf148,rfl,rfl⟩
theorem fa_152_1:FA Tryz.prog 152 1 2:=⟨_,_,_,Tryz.runUnderlying152,rfl,Tryz.sizeOf9,rfl,rfl⟩
theorem fa_152_2:FA Tryz.prog 152 2 3:=⟨_,_,_,Tryz.runUnderlying152,rfl,Tryz.sizeOf148,rfl,rfl⟩
theorem aHe:SLT Tryz.prog 174 22 1:=⟨Tryz.runUnderlying174,Tryz.sizeOf22⟩
theorem ez_22:EZ Tryz.prog 22 [zS none 0 0]:=⟨⟨_,Tryz.zeroValue22,rfl⟩,⟨Tryz.t22,Tryz.typeInfo22,by show (24:Nat)≤128;decide,rfl,by kernel_rfl,_,rfl,rfl⟩⟩
theorem aEi:AG Tryz.prog 25 4:=⟨Tryz.isAgg25,Tryz.sizeOf25⟩
theorem st_63:Tryz.prog.stoodInHeld 63=false:=by kernel_rfl
theorem eq_63 {x y:Edge}:EQT Tryz.prog 63 [i64 x.F,i64 x.B,i64 x.To] [i64 y.F,i64 y.B,i64 y.To] (decide (x=y)):=by
 refine ⟨by kernel_rfl,fun w=>?_⟩
 have h2:∀ (a b:Int),(Op.equalIn 9999 2 (i64 a) (i64 b)).run Tryz.prog w=.ok (a == b) w:=fun a b=>run_eqInI 9998 (Tryz.runUnderlying2 w)
 have:Op.maxDepth=9999+1:=rfl
 unfold Op.equal
 rw [this]
 unfold Op.equalIn
 simp [Tryz.runUnderlying63,st_63,part,h2,Tryz.isAgg2]
 cases x;cases y
 simp
 repeat' split<;>simp_all
theorem bT:Tryz.prog.follows .mixedOrders=true:=by kernel_rfl
abbrev zC (d:cN) (a:Option Addr) (c:Nat) (b:Option Addr) (e:Nat):List Value:=[i64 d.N,i64 d.I,Value.slice a d.L.length c,Value.slice b d.E.length e]
abbrev zCa (d:cN) (a:Option Addr) (c:Nat) (b:Option Addr) (e:Nat):Array Value:=#[i64 d.N,i64 d.I,Value.slice a d.L.length c,Value.slice b d.E.length e]
abbrev zG:List Value:=[i64 0,i64 0,Value.slice none 0 0,Value.slice none 0 0]
abbrev zGa:Array Value:=#[i64 0,i64 0,Value.slice none 0 0,Value.slice none 0 0]
abbrev zK:List Value:=[i64 0,i64 0,Value.slice none 0 0,Value.slice none 0 0,Value.slice none 0 0,Value.slice none 0 0]
abbrev zKa:Array Value:=#[i64 0,i64 0,Value.slice none 0 0,Value.slice none 0 0,Value.slice none 0 0,Value.slice none 0 0]
end Gv
