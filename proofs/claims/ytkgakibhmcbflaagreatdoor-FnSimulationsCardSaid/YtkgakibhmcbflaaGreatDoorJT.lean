/- Readings of the program's data; what is known of its types. -/
import Derived.Test.YtkgakibhmcbflaaGreatDoorJYS
import Derived.Test.YtkgakibhmcbflaaGreatDoorJS
import Derived.Test.YtkgakibhmcbflaaGreatDoorProg
import Derived.KernelRfl
set_option linter.all false
namespace Gv
open Go.Value renaming slice→zS
open Go Go.Proofs
instance:gJ Edge where
 sz:=3
 enc d:=[i64 d.F,i64 d.B,i64 d.To]
 len _:=rfl
 one _ v h:=by simp at h;rcases h with rfl|rfl|rfl<;>rfl
 pos:=by decide
instance:El cD where
 sz:=4
 rd K cs d:=∃ (a0:Option Addr) (c0:Nat) (a1:Option Addr) (c1:Nat),cs=[i64 d.N,i64 d.I,zS a0 d.L.length c0,zS a1 d.E.length c1]∧bX K a0 c0 d.L∧bX K a1 c1 d.E
 mono:=fun h ⟨a0,c0,a1,c1,e,h0,h1⟩=>⟨a0,c0,a1,c1,e,h0.mono h,h1.mono h⟩
 len:=fun ⟨_,_,_,_,e,_⟩=>by rw [e];rfl
 one:=fun ⟨_,_,_,_,e,_⟩ v hv=>by rw [e] at hv;simp at hv;rcases hv with rfl|rfl|rfl|rfl<;>rfl
 pos:=by decide
instance:gJ Arc where
 sz:=3
 enc d:=[i64 d.from_,str d.label,i64 d.to_]
 len _:=rfl
 one _ v h:=by simp at h;rcases h with rfl|rfl|rfl<;>rfl
 pos:=by decide
theorem dM:SLT Tryz.prog 24 9 1:=⟨Tryz.runUnderlying24,Tryz.sizeOf9⟩
theorem yF:SC Tryz.prog 9:=⟨Tryz.isAgg9,Tryz.sizeOf9⟩
theorem bO:SLT Tryz.prog 40 2 1:=⟨Tryz.runUnderlying40,Tryz.sizeOf2⟩
theorem jU:EZ Tryz.prog 2 [i64 0]:=⟨⟨_,Tryz.zeroValue2,rfl⟩,⟨Tryz.t2,Tryz.typeInfo2,by show (8:Nat)≤128;decide,rfl,by kernel_rfl,_,rfl,rfl⟩⟩
theorem bY:SC Tryz.prog 2:=⟨Tryz.isAgg2,Tryz.sizeOf2⟩
theorem aBx:EZ Tryz.prog 9 [str []]:=⟨⟨_,Tryz.zeroValue9,rfl⟩,⟨Tryz.t9,Tryz.typeInfo9,by show (16:Nat)≤128;decide,rfl,by kernel_rfl,_,rfl,rfl⟩⟩
theorem aHf:SLT Tryz.prog 22 5 1:=⟨Tryz.runUnderlying22,Tryz.sizeOf5⟩
theorem bs_79:BS Tryz.prog 79 [(0,1),(1,1),(2,1)] [zS none 0 0,i64 0,Value.int .u64 0]:=⟨⟨_,Tryz.zeroValue79,rfl⟩,_,Tryz.runUnderlying79,fun w=>by simp [Tryz.sizeOf22,Tryz.sizeOf3,Tryz.sizeOf77]⟩
theorem iY:FA Tryz.prog 51 0 0:=⟨_,_,_,Tryz.runUnderlying51,rfl,Tryz.sizeOf2,rfl,rfl⟩
theorem iZ:FA Tryz.prog 51 1 1:=⟨_,_,_,Tryz.runUnderlying51,rfl,Tryz.sizeOf2,rfl,rfl⟩
theorem iC:FA Tryz.prog 51 2 2:=⟨_,_,_,Tryz.runUnderlying51,rfl,Tryz.sizeOf2,rfl,rfl⟩
theorem cN:SLT Tryz.prog 25 51 3:=⟨Tryz.runUnderlying25,Tryz.sizeOf51⟩
theorem kW:AG Tryz.prog 51 3:=⟨Tryz.isAgg51,Tryz.sizeOf51⟩
theorem aEd:BS Tryz.prog 51 [(0,1),(1,1),(2,1)] [i64 0,i64 0,i64 0]:=⟨⟨_,Tryz.zeroValue51,rfl⟩,_,Tryz.runUnderlying51,fun w=>by simp [Tryz.sizeOf2]⟩
theorem jD:EZ Tryz.prog 51 [i64 0,i64 0,i64 0]:=⟨⟨_,Tryz.zeroValue51,rfl⟩,⟨Tryz.t51,Tryz.typeInfo51,by show (24:Nat)≤128;decide,rfl,by kernel_rfl,_,rfl,rfl⟩⟩
theorem bs_27:BS Tryz.prog 27 [(0,1),(1,1),(2,1),(3,1)] [i64 0,i64 0,zS none 0 0,zS none 0 0]:=⟨⟨_,Tryz.zeroValue27,rfl⟩,_,Tryz.runUnderlying27,fun w=>by simp [Tryz.sizeOf2,Tryz.sizeOf24,Tryz.sizeOf25]⟩
theorem gV:FA Tryz.prog 27 2 2:=⟨_,_,_,Tryz.runUnderlying27,rfl,Tryz.sizeOf24,rfl,rfl⟩
theorem oC:SC Tryz.prog 24:=⟨Tryz.isAgg24,Tryz.sizeOf24⟩
theorem dY:FA Tryz.prog 27 3 3:=⟨_,_,_,Tryz.runUnderlying27,rfl,Tryz.sizeOf25,rfl,rfl⟩
theorem jR:SC Tryz.prog 25:=⟨Tryz.isAgg25,Tryz.sizeOf25⟩
theorem dB:AG Tryz.prog 27 4:=⟨Tryz.isAgg27,Tryz.sizeOf27⟩
theorem dP:FA Tryz.prog 27 0 0:=⟨_,_,_,Tryz.runUnderlying27,rfl,Tryz.sizeOf2,rfl,rfl⟩
theorem pB:SLT Tryz.prog 111 4 1:=⟨Tryz.runUnderlying111,Tryz.sizeOf4⟩
theorem ez_4:EZ Tryz.prog 4 [Value.bool false]:=⟨⟨_,Tryz.zeroValue4,rfl⟩,⟨Tryz.t4,Tryz.typeInfo4,by show (1:Nat)≤128;decide,rfl,by kernel_rfl,_,rfl,rfl⟩⟩
theorem sc_4:SC Tryz.prog 4:=⟨Tryz.isAgg4,Tryz.sizeOf4⟩
theorem fD:SLT Tryz.prog 33 40 1:=⟨Tryz.runUnderlying33,Tryz.sizeOf40⟩
theorem qD:EZ Tryz.prog 40 [zS none 0 0]:=⟨⟨_,Tryz.zeroValue40,rfl⟩,⟨Tryz.t40,Tryz.typeInfo40,by show (24:Nat)≤128;decide,rfl,by kernel_rfl,_,rfl,rfl⟩⟩
theorem sD:SC Tryz.prog 40:=⟨Tryz.isAgg40,Tryz.sizeOf40⟩
theorem oV:FA Tryz.prog 27 1 1:=⟨_,_,_,Tryz.runUnderlying27,rfl,Tryz.sizeOf2,rfl,rfl⟩
theorem aEZ:FA Tryz.prog 79 1 1:=⟨_,_,_,Tryz.runUnderlying79,rfl,Tryz.sizeOf3,rfl,rfl⟩
theorem sc_3:SC Tryz.prog 3:=⟨Tryz.isAgg3,Tryz.sizeOf3⟩
theorem aJA:FA Tryz.prog 79 0 0:=⟨_,_,_,Tryz.runUnderlying79,rfl,Tryz.sizeOf22,rfl,rfl⟩
theorem sc_22:SC Tryz.prog 22:=⟨Tryz.isAgg22,Tryz.sizeOf22⟩
theorem sc_5:SC Tryz.prog 5:=⟨Tryz.isAgg5,Tryz.sizeOf5⟩
theorem aJB:FA Tryz.prog 79 2 2:=⟨_,_,_,Tryz.runUnderlying79,rfl,Tryz.sizeOf77,rfl,rfl⟩
theorem sc_77:SC Tryz.prog 77:=⟨Tryz.isAgg77,Tryz.sizeOf77⟩
theorem sl_163:SLT Tryz.prog 163 3 1:=⟨Tryz.runUnderlying163,Tryz.sizeOf3⟩
theorem ez_3:EZ Tryz.prog 3 [i64 0]:=⟨⟨_,Tryz.zeroValue3,rfl⟩,⟨Tryz.t3,Tryz.typeInfo3,by show (8:Nat)≤128;decide,rfl,by kernel_rfl,_,rfl,rfl⟩⟩
theorem aFa:SC Tryz.prog 56:=⟨Tryz.isAgg56,Tryz.sizeOf56⟩
theorem aCD:ART Tryz.prog 66 2 2:=⟨Tryz.runUnderlying66,Tryz.isAgg2,Tryz.sizeOf2⟩
theorem aIK:∃ z,(∀ w,(zeroValue 66).run Tryz.prog w=.ok z w)∧z.cells=[i64 0,i64 0].toArray:=⟨_,Tryz.zeroValue66,rfl⟩
theorem aHg:aER Tryz.prog 66 (Int × Int):=aLF Tryz.runUnderlying66 Tryz.runUnderlying2 ⟨Tryz.isAgg2,Tryz.sizeOf2⟩
theorem ag_66:AG Tryz.prog 66 2:=⟨Tryz.isAgg66,Tryz.sizeOf66⟩
theorem bs_69:BS Tryz.prog 69 [(0,4),(4,4),(8,1)] [i64 0,i64 0,zS none 0 0,zS none 0 0,i64 0,i64 0,zS none 0 0,zS none 0 0,Value.nilFunc]:=⟨⟨_,Tryz.zeroValue69,rfl⟩,_,Tryz.runUnderlying69,fun w=>by simp [Tryz.sizeOf27,Tryz.sizeOf67]⟩
theorem aEe:AG Tryz.prog 69 9:=⟨Tryz.isAgg69,Tryz.sizeOf69⟩
theorem yY:FA Tryz.prog 69 0 0:=⟨_,_,_,Tryz.runUnderlying69,rfl,Tryz.sizeOf27,rfl,rfl⟩
theorem aDC:FA Tryz.prog 69 1 4:=⟨_,_,_,Tryz.runUnderlying69,rfl,Tryz.sizeOf27,rfl,rfl⟩
theorem aGJ:FA Tryz.prog 69 2 8:=⟨_,_,_,Tryz.runUnderlying69,rfl,Tryz.sizeOf67,rfl,rfl⟩
theorem sc_67:SC Tryz.prog 67:=⟨Tryz.isAgg67,Tryz.sizeOf67⟩
theorem bs_149:BS Tryz.prog 149 [(0,1),(1,1),(2,1)] [i64 0,str [],i64 0]:=⟨⟨_,Tryz.zeroValue149,rfl⟩,_,Tryz.runUnderlying149,fun w=>by simp [Tryz.sizeOf2,Tryz.sizeOf9]⟩
theorem aCU:SLT Tryz.prog 146 149 3:=⟨Tryz.runUnderlying146,Tryz.sizeOf149⟩
theorem aJC:EZ Tryz.prog 149 [i64 0,str [],i64 0]:=⟨⟨_,Tryz.zeroValue149,rfl⟩,⟨Tryz.t149,Tryz.typeInfo149,by show (32:Nat)≤128;decide,rfl,by kernel_rfl,_,rfl,rfl⟩⟩
theorem ag_149:AG Tryz.prog 149 3:=⟨Tryz.isAgg149,Tryz.sizeOf149⟩
theorem aKz:FA Tryz.prog 149 0 0:=⟨_,_,_,Tryz.runUnderlying149,rfl,Tryz.sizeOf2,rfl,rfl⟩
theorem aKA:FA Tryz.prog 149 1 1:=⟨_,_,_,Tryz.runUnderlying149,rfl,Tryz.sizeOf9,rfl,rfl⟩
theorem aKB:FA Tryz.prog 149 2 2:=⟨_,_,_,Tryz.runUnderlying149,rfl,Tryz.sizeOf2,rfl,rfl⟩
theorem aHh:SLT Tryz.prog 182 24 1:=⟨Tryz.runUnderlying182,Tryz.sizeOf24⟩
theorem ez_24:EZ Tryz.prog 24 [zS none 0 0]:=⟨⟨_,Tryz.zeroValue24,rfl⟩,⟨Tryz.t24,Tryz.typeInfo24,by show (24:Nat)≤128;decide,rfl,by kernel_rfl,_,rfl,rfl⟩⟩
theorem ko_2:aER Tryz.prog 2 Int:=keyOk_int Tryz.runUnderlying2
theorem st_51:Tryz.prog.stoodInHeld 51=false:=by kernel_rfl
theorem eq_51 {x y:Edge}:EQT Tryz.prog 51 [i64 x.F,i64 x.B,i64 x.To] [i64 y.F,i64 y.B,i64 y.To] (decide (x=y)):=by
 refine ⟨by kernel_rfl,fun w=>?_⟩
 have h2:∀ (a b:Int),(Op.equalIn 9999 2 (i64 a) (i64 b)).run Tryz.prog w=.ok (a == b) w:=fun a b=>run_eqInI 9998 (Tryz.runUnderlying2 w)
 have:Op.maxDepth=9999+1:=rfl
 unfold Op.equal
 rw [this]
 unfold Op.equalIn
 simp [Tryz.runUnderlying51,st_51,part,h2,Tryz.isAgg2]
 cases x;cases y
 simp
 repeat' split<;>simp_all
theorem bP:Tryz.prog.follows .mixedOrders=true:=by kernel_rfl
abbrev zC (d:cD) (a:Option Addr) (c:Nat) (b:Option Addr) (e:Nat):List Value:=[i64 d.N,i64 d.I,Value.slice a d.L.length c,Value.slice b d.E.length e]
abbrev zCa (d:cD) (a:Option Addr) (c:Nat) (b:Option Addr) (e:Nat):Array Value:=#[i64 d.N,i64 d.I,Value.slice a d.L.length c,Value.slice b d.E.length e]
abbrev zG:List Value:=[i64 0,i64 0,Value.slice none 0 0,Value.slice none 0 0]
abbrev zGa:Array Value:=#[i64 0,i64 0,Value.slice none 0 0,Value.slice none 0 0]
abbrev zK:List Value:=[i64 0,i64 0,Value.slice none 0 0,Value.slice none 0 0,Value.slice none 0 0,Value.slice none 0 0]
abbrev zKa:Array Value:=#[i64 0,i64 0,Value.slice none 0 0,Value.slice none 0 0,Value.slice none 0 0,Value.slice none 0 0]
end Gv
