/- Readings of the program's data; what is known of its types. -/
import Derived.Test.YtmlgcbjkfcapaaaGreatDoorKXA
import Derived.Test.YtmlgcbjkfcapaaaGreatDoorKS
import Derived.Test.YtmlgcbjkfcapaaaGreatDoorProg
import Derived.KernelRfl
set_option linter.all false
namespace Gv
open Go.Value renaming slice→zS
open Go Go.Proofs
instance:hQ Edge where
 sz:=3
 enc d:=[i64 d.F,i64 d.B,i64 d.To]
 len _:=rfl
 one _ v h:=by simp at h;rcases h with rfl|rfl|rfl<;>rfl
 pos:=by decide
instance:El dB where
 sz:=4
 rd K cs d:=∃ (a0:Option Addr) (c0:Nat) (a1:Option Addr) (c1:Nat),cs=[i64 d.N,i64 d.I,zS a0 d.L.length c0,zS a1 d.E.length c1]∧bT K a0 c0 d.L∧bT K a1 c1 d.E
 mono:=fun h ⟨a0,c0,a1,c1,e,h0,h1⟩=>⟨a0,c0,a1,c1,e,h0.mono h,h1.mono h⟩
 len:=fun ⟨_,_,_,_,e,_⟩=>by rw [e];rfl
 one:=fun ⟨_,_,_,_,e,_⟩ v hv=>by rw [e] at hv;simp at hv;rcases hv with rfl|rfl|rfl|rfl<;>rfl
 pos:=by decide
instance:El cA where
 sz:=6
 rd K cs d:=∃ (a0:Option Addr) (c0:Nat) (a1:Option Addr) (c1:Nat) (a2:Option Addr) (c2:Nat) (a3:Option Addr) (c3:Nat),cs=[i64 d.S.N,i64 d.S.I,zS a0 d.S.L.length c0,zS a1 d.S.E.length c1,zS a2 d.M.length c2,zS a3 d.C.length c3]∧bT K a0 c0 d.S.L∧bT K a1 c1 d.S.E∧bT K a2 c2 d.M∧bT K a3 c3 d.C
 mono:=fun h ⟨a0,c0,a1,c1,a2,c2,a3,c3,e,h0,h1,h2,h3⟩=>⟨a0,c0,a1,c1,a2,c2,a3,c3,e,h0.mono h,h1.mono h,h2.mono h,h3.mono h⟩
 len:=fun ⟨_,_,_,_,_,_,_,_,e,_⟩=>by rw [e];rfl
 one:=fun ⟨_,_,_,_,_,_,_,_,e,_⟩ v hv=>by rw [e] at hv;simp at hv;rcases hv with rfl|rfl|rfl|rfl|rfl|rfl<;>rfl
 pos:=by decide
instance:hQ Arc where
 sz:=3
 enc d:=[i64 d.from_,cL d.label,i64 d.to_]
 len _:=rfl
 one _ v h:=by simp at h;rcases h with rfl|rfl|rfl<;>rfl
 pos:=by decide
theorem cY:SLT Tryz.prog 22 9 1:=⟨Tryz.runUnderlying22,Tryz.sizeOf9⟩
theorem pK:SC Tryz.prog 9:=⟨Tryz.isAgg9,Tryz.sizeOf9⟩
theorem bW:SLT Tryz.prog 38 2 1:=⟨Tryz.runUnderlying38,Tryz.sizeOf2⟩
theorem tU:EZ Tryz.prog 2 [i64 0]:=⟨⟨_,Tryz.zeroValue2,rfl⟩,⟨Tryz.t2,Tryz.typeInfo2,by show (8:Nat)≤128;decide,rfl,by kernel_rfl,_,rfl,rfl⟩⟩
theorem yD:EZ Tryz.prog 9 [cL []]:=⟨⟨_,Tryz.zeroValue9,rfl⟩,⟨Tryz.t9,Tryz.typeInfo9,by show (16:Nat)≤128;decide,rfl,by kernel_rfl,_,rfl,rfl⟩⟩
theorem cP:SC Tryz.prog 2:=⟨Tryz.isAgg2,Tryz.sizeOf2⟩
theorem sl_23:SLT Tryz.prog 23 113 3:=⟨Tryz.runUnderlying23,Tryz.sizeOf113⟩
theorem fa_25_2:FA Tryz.prog 25 2 2:=⟨_,_,_,Tryz.runUnderlying25,rfl,Tryz.sizeOf22,rfl,rfl⟩
theorem jJ:SC Tryz.prog 22:=⟨Tryz.isAgg22,Tryz.sizeOf22⟩
theorem fa_25_3:FA Tryz.prog 25 3 3:=⟨_,_,_,Tryz.runUnderlying25,rfl,Tryz.sizeOf23,rfl,rfl⟩
theorem sc_23:SC Tryz.prog 23:=⟨Tryz.isAgg23,Tryz.sizeOf23⟩
theorem fa_113_0:FA Tryz.prog 113 0 0:=⟨_,_,_,Tryz.runUnderlying113,rfl,Tryz.sizeOf2,rfl,rfl⟩
theorem fY:FA Tryz.prog 63 0 0:=⟨_,_,_,Tryz.runUnderlying63,rfl,Tryz.sizeOf2,rfl,rfl⟩
theorem fa_113_1:FA Tryz.prog 113 1 1:=⟨_,_,_,Tryz.runUnderlying113,rfl,Tryz.sizeOf2,rfl,rfl⟩
theorem fP:FA Tryz.prog 63 1 1:=⟨_,_,_,Tryz.runUnderlying63,rfl,Tryz.sizeOf2,rfl,rfl⟩
theorem fa_113_2:FA Tryz.prog 113 2 2:=⟨_,_,_,Tryz.runUnderlying113,rfl,Tryz.sizeOf2,rfl,rfl⟩
theorem iB:FA Tryz.prog 63 2 2:=⟨_,_,_,Tryz.runUnderlying63,rfl,Tryz.sizeOf2,rfl,rfl⟩
theorem mB:AG Tryz.prog 63 3:=⟨Tryz.isAgg63,Tryz.sizeOf63⟩
theorem cR:SLT Tryz.prog 27 63 3:=⟨Tryz.runUnderlying27,Tryz.sizeOf63⟩
theorem vQ:EZ Tryz.prog 63 [i64 0,i64 0,i64 0]:=⟨⟨_,Tryz.zeroValue63,rfl⟩,⟨Tryz.t63,Tryz.typeInfo63,by show (24:Nat)≤128;decide,rfl,by kernel_rfl,_,rfl,rfl⟩⟩
theorem ag_113:AG Tryz.prog 113 3:=⟨Tryz.isAgg113,Tryz.sizeOf113⟩
theorem fa_25_0:FA Tryz.prog 25 0 0:=⟨_,_,_,Tryz.runUnderlying25,rfl,Tryz.sizeOf2,rfl,rfl⟩
theorem tP:FA Tryz.prog 29 0 0:=⟨_,_,_,Tryz.runUnderlying29,rfl,Tryz.sizeOf2,rfl,rfl⟩
theorem fa_25_1:FA Tryz.prog 25 1 1:=⟨_,_,_,Tryz.runUnderlying25,rfl,Tryz.sizeOf2,rfl,rfl⟩
theorem rM:FA Tryz.prog 29 1 1:=⟨_,_,_,Tryz.runUnderlying29,rfl,Tryz.sizeOf2,rfl,rfl⟩
theorem gL:FA Tryz.prog 29 2 2:=⟨_,_,_,Tryz.runUnderlying29,rfl,Tryz.sizeOf22,rfl,rfl⟩
theorem dO:FA Tryz.prog 29 3 3:=⟨_,_,_,Tryz.runUnderlying29,rfl,Tryz.sizeOf27,rfl,rfl⟩
theorem fD:AG Tryz.prog 29 4:=⟨Tryz.isAgg29,Tryz.sizeOf29⟩
theorem hX:SC Tryz.prog 27:=⟨Tryz.isAgg27,Tryz.sizeOf27⟩
theorem sl_202:SLT Tryz.prog 202 5 1:=⟨Tryz.runUnderlying202,Tryz.sizeOf5⟩
theorem ez_5:EZ Tryz.prog 5 [Value.int .u8 0]:=⟨⟨_,Tryz.zeroValue5,rfl⟩,⟨Tryz.t5,Tryz.typeInfo5,by show (1:Nat)≤128;decide,rfl,by kernel_rfl,_,rfl,rfl⟩⟩
theorem fa_40_0:FA Tryz.prog 40 0 0:=⟨_,_,_,Tryz.runUnderlying40,rfl,Tryz.sizeOf25,rfl,rfl⟩
theorem aIk:AG Tryz.prog 25 4:=⟨Tryz.isAgg25,Tryz.sizeOf25⟩
theorem fa_40_1:FA Tryz.prog 40 1 4:=⟨_,_,_,Tryz.runUnderlying40,rfl,Tryz.sizeOf38,rfl,rfl⟩
theorem mM:SC Tryz.prog 38:=⟨Tryz.isAgg38,Tryz.sizeOf38⟩
theorem fa_40_2:FA Tryz.prog 40 2 5:=⟨_,_,_,Tryz.runUnderlying40,rfl,Tryz.sizeOf22,rfl,rfl⟩
theorem aEz:BS Tryz.prog 29 [(0,1),(1,1),(2,1),(3,1)] [i64 0,i64 0,zS none 0 0,zS none 0 0]:=⟨⟨_,Tryz.zeroValue29,rfl⟩,_,Tryz.runUnderlying29,fun w=>by simp [Tryz.sizeOf2,Tryz.sizeOf22,Tryz.sizeOf27]⟩
theorem fQ:SLT Tryz.prog 87 4 1:=⟨Tryz.runUnderlying87,Tryz.sizeOf4⟩
theorem ez_4:EZ Tryz.prog 4 [Value.bool false]:=⟨⟨_,Tryz.zeroValue4,rfl⟩,⟨Tryz.t4,Tryz.typeInfo4,by show (1:Nat)≤128;decide,rfl,by kernel_rfl,_,rfl,rfl⟩⟩
theorem yE:SC Tryz.prog 4:=⟨Tryz.isAgg4,Tryz.sizeOf4⟩
theorem iZ:FA Tryz.prog 44 0 0:=⟨_,_,_,Tryz.runUnderlying44,rfl,Tryz.sizeOf29,rfl,rfl⟩
theorem aAr:FA Tryz.prog 44 1 4:=⟨_,_,_,Tryz.runUnderlying44,rfl,Tryz.sizeOf38,rfl,rfl⟩
theorem aBp:FA Tryz.prog 44 2 5:=⟨_,_,_,Tryz.runUnderlying44,rfl,Tryz.sizeOf22,rfl,rfl⟩
theorem fX:SLT Tryz.prog 74 38 1:=⟨Tryz.runUnderlying74,Tryz.sizeOf38⟩
theorem aBV:EZ Tryz.prog 38 [zS none 0 0]:=⟨⟨_,Tryz.zeroValue38,rfl⟩,⟨Tryz.t38,Tryz.typeInfo38,by show (24:Nat)≤128;decide,rfl,by kernel_rfl,_,rfl,rfl⟩⟩
theorem bs_86:BS Tryz.prog 86 [(0,1),(1,1),(2,1),(3,1),(4,1)] [Value.pointer none,Value.pointer none,zS none 0 0,zS none 0 0,Value.bool false]:=⟨⟨_,Tryz.zeroValue86,rfl⟩,_,Tryz.runUnderlying86,fun w=>by simp [Tryz.sizeOf27,Tryz.sizeOf4,Tryz.sizeOf52,Tryz.sizeOf74,Tryz.sizeOf82]⟩
theorem pB:FA Tryz.prog 86 2 2:=⟨_,_,_,Tryz.runUnderlying86,rfl,Tryz.sizeOf74,rfl,rfl⟩
theorem qC:SC Tryz.prog 74:=⟨Tryz.isAgg74,Tryz.sizeOf74⟩
theorem aBq:FA Tryz.prog 86 3 3:=⟨_,_,_,Tryz.runUnderlying86,rfl,Tryz.sizeOf27,rfl,rfl⟩
theorem bs_63:BS Tryz.prog 63 [(0,1),(1,1),(2,1)] [i64 0,i64 0,i64 0]:=⟨⟨_,Tryz.zeroValue63,rfl⟩,_,Tryz.runUnderlying63,fun w=>by simp [Tryz.sizeOf2]⟩
theorem aKO:FA Tryz.prog 86 4 4:=⟨_,_,_,Tryz.runUnderlying86,rfl,Tryz.sizeOf4,rfl,rfl⟩
theorem aEZ:FA Tryz.prog 86 0 0:=⟨_,_,_,Tryz.runUnderlying86,rfl,Tryz.sizeOf82,rfl,rfl⟩
theorem aKj:SC Tryz.prog 82:=⟨Tryz.isAgg82,Tryz.sizeOf82⟩
theorem fa_86_1:FA Tryz.prog 86 1 1:=⟨_,_,_,Tryz.runUnderlying86,rfl,Tryz.sizeOf52,rfl,rfl⟩
theorem sc_52:SC Tryz.prog 52:=⟨Tryz.isAgg52,Tryz.sizeOf52⟩
theorem xF:AG Tryz.prog 44 6:=⟨Tryz.isAgg44,Tryz.sizeOf44⟩
theorem sl_245:SLT Tryz.prog 245 3 1:=⟨Tryz.runUnderlying245,Tryz.sizeOf3⟩
theorem ez_3:EZ Tryz.prog 3 [i64 0]:=⟨⟨_,Tryz.zeroValue3,rfl⟩,⟨Tryz.t3,Tryz.typeInfo3,by show (8:Nat)≤128;decide,rfl,by kernel_rfl,_,rfl,rfl⟩⟩
theorem sc_3:SC Tryz.prog 3:=⟨Tryz.isAgg3,Tryz.sizeOf3⟩
theorem bs_176:BS Tryz.prog 176 [(0,6),(6,4),(10,1),(11,1),(12,1)] [i64 0,i64 0,zS none 0 0,zS none 0 0,zS none 0 0,zS none 0 0,i64 0,i64 0,zS none 0 0,zS none 0 0,zS none 0 0,Value.map none,zS none 0 0]:=⟨⟨_,Tryz.zeroValue176,rfl⟩,_,Tryz.runUnderlying176,fun w=>by simp [Tryz.sizeOf173,Tryz.sizeOf174,Tryz.sizeOf29,Tryz.sizeOf44,Tryz.sizeOf74]⟩
theorem sc_178:SC Tryz.prog 178:=⟨Tryz.isAgg178,Tryz.sizeOf178⟩
theorem aDP:ART Tryz.prog 126 2 2:=⟨Tryz.runUnderlying126,Tryz.isAgg2,Tryz.sizeOf2⟩
theorem aFI:∃ z,(∀ w,(zeroValue 126).run Tryz.prog w=.ok z w)∧z.cells=[i64 0,i64 0].toArray:=⟨_,Tryz.zeroValue126,rfl⟩
theorem qH:SC Tryz.prog 94:=⟨Tryz.isAgg94,Tryz.sizeOf94⟩
theorem aGe:FA Tryz.prog 176 3 11:=⟨_,_,_,Tryz.runUnderlying176,rfl,Tryz.sizeOf173,rfl,rfl⟩
theorem aFJ:SC Tryz.prog 173:=⟨Tryz.isAgg173,Tryz.sizeOf173⟩
theorem aGI:AG Tryz.prog 126 2:=⟨Tryz.isAgg126,Tryz.sizeOf126⟩
theorem aFK:aHl Tryz.prog 126 (Int × Int):=aNt Tryz.runUnderlying126 Tryz.runUnderlying2 ⟨Tryz.isAgg2,Tryz.sizeOf2⟩
theorem sE:FA Tryz.prog 176 2 10:=⟨_,_,_,Tryz.runUnderlying176,rfl,Tryz.sizeOf74,rfl,rfl⟩
theorem aGf:FA Tryz.prog 176 4 12:=⟨_,_,_,Tryz.runUnderlying176,rfl,Tryz.sizeOf174,rfl,rfl⟩
theorem aKP:SC Tryz.prog 174:=⟨Tryz.isAgg174,Tryz.sizeOf174⟩
theorem aIm:SLT Tryz.prog 174 22 1:=⟨Tryz.runUnderlying174,Tryz.sizeOf22⟩
theorem ez_22:EZ Tryz.prog 22 [zS none 0 0]:=⟨⟨_,Tryz.zeroValue22,rfl⟩,⟨Tryz.t22,Tryz.typeInfo22,by show (24:Nat)≤128;decide,rfl,by kernel_rfl,_,rfl,rfl⟩⟩
theorem oD:FA Tryz.prog 176 0 0:=⟨_,_,_,Tryz.runUnderlying176,rfl,Tryz.sizeOf44,rfl,rfl⟩
theorem aDe:FA Tryz.prog 176 1 6:=⟨_,_,_,Tryz.runUnderlying176,rfl,Tryz.sizeOf29,rfl,rfl⟩
theorem aKQ:SLT Tryz.prog 145 160 3:=⟨Tryz.runUnderlying145,Tryz.sizeOf160⟩
theorem ag_160:AG Tryz.prog 160 3:=⟨Tryz.isAgg160,Tryz.sizeOf160⟩
theorem fa_160_0:FA Tryz.prog 160 0 0:=⟨_,_,_,Tryz.runUnderlying160,rfl,Tryz.sizeOf2,rfl,rfl⟩
theorem fa_160_1:FA Tryz.prog 160 1 1:=⟨_,_,_,Tryz.runUnderlying160,rfl,Tryz.sizeOf9,rfl,rfl⟩
theorem fa_160_2:FA Tryz.prog 160 2 2:=⟨_,_,_,Tryz.runUnderlying160,rfl,Tryz.sizeOf2,rfl,rfl⟩
theorem sl_225:SLT Tryz.prog 225 29 4:=⟨Tryz.runUnderlying225,Tryz.sizeOf29⟩
theorem ez_29:EZ Tryz.prog 29 [i64 0,i64 0,zS none 0 0,zS none 0 0]:=⟨⟨_,Tryz.zeroValue29,rfl⟩,⟨Tryz.t29,Tryz.typeInfo29,by show (64:Nat)≤128;decide,rfl,by kernel_rfl,_,rfl,rfl⟩⟩
theorem bs_44:BS Tryz.prog 44 [(0,4),(4,1),(5,1)] [i64 0,i64 0,zS none 0 0,zS none 0 0,zS none 0 0,zS none 0 0]:=⟨⟨_,Tryz.zeroValue44,rfl⟩,_,Tryz.runUnderlying44,fun w=>by simp [Tryz.sizeOf22,Tryz.sizeOf29,Tryz.sizeOf38]⟩
theorem sc_145:SC Tryz.prog 145:=⟨Tryz.isAgg145,Tryz.sizeOf145⟩
theorem bs_160:BS Tryz.prog 160 [(0,1),(1,1),(2,1)] [i64 0,cL [],i64 0]:=⟨⟨_,Tryz.zeroValue160,rfl⟩,_,Tryz.runUnderlying160,fun w=>by simp [Tryz.sizeOf2,Tryz.sizeOf9]⟩
theorem ez_160:EZ Tryz.prog 160 [i64 0,cL [],i64 0]:=⟨⟨_,Tryz.zeroValue160,rfl⟩,⟨Tryz.t160,Tryz.typeInfo160,by show (32:Nat)≤128;decide,rfl,by kernel_rfl,_,rfl,rfl⟩⟩
theorem aGg:SC Tryz.prog 87:=⟨Tryz.isAgg87,Tryz.sizeOf87⟩
theorem sc_182:SC Tryz.prog 182:=⟨Tryz.isAgg182,Tryz.sizeOf182⟩
theorem ag_40:AG Tryz.prog 40 6:=⟨Tryz.isAgg40,Tryz.sizeOf40⟩
theorem st_63:Tryz.prog.stoodInHeld 63=false:=by kernel_rfl
theorem eq_63 {x y:Edge}:EQT Tryz.prog 63 [i64 x.F,i64 x.B,i64 x.To] [i64 y.F,i64 y.B,i64 y.To] (decide (x=y)):=by
 refine ⟨by kernel_rfl,fun w=>?_⟩
 have h2:∀ (a b:Int),(Op.equalIn 9999 2 (i64 a) (i64 b)).run Tryz.prog w=.ok (a == b) w:=fun a b=>run_eqInI 9998 (Tryz.runUnderlying2 w)
 have:Op.maxDepth=9999+1:=rfl
 unfold Op.equal
 rw [this]
 unfold Op.equalIn
 simp [Tryz.runUnderlying63,st_63,part,h2,Tryz.isAgg2]
 cases x;cases y
 simp
 repeat' split<;>simp_all
theorem bK:Tryz.prog.follows .mixedOrders=true:=by kernel_rfl
abbrev zC (d:dB) (a:Option Addr) (c:Nat) (b:Option Addr) (e:Nat):List Value:=[i64 d.N,i64 d.I,Value.slice a d.L.length c,Value.slice b d.E.length e]
abbrev zCa (d:dB) (a:Option Addr) (c:Nat) (b:Option Addr) (e:Nat):Array Value:=#[i64 d.N,i64 d.I,Value.slice a d.L.length c,Value.slice b d.E.length e]
abbrev zE (d:cA) (a:Option Addr) (c:Nat) (b:Option Addr) (e:Nat) (a2:Option Addr) (c2:Nat) (a3:Option Addr) (c3:Nat):List Value:=[i64 d.S.N,i64 d.S.I,Value.slice a d.S.L.length c,Value.slice b d.S.E.length e,Value.slice a2 d.M.length c2,Value.slice a3 d.C.length c3]
abbrev zEa (d:cA) (a:Option Addr) (c:Nat) (b:Option Addr) (e:Nat) (a2:Option Addr) (c2:Nat) (a3:Option Addr) (c3:Nat):Array Value:=#[i64 d.S.N,i64 d.S.I,Value.slice a d.S.L.length c,Value.slice b d.S.E.length e,Value.slice a2 d.M.length c2,Value.slice a3 d.C.length c3]
abbrev zG:List Value:=[i64 0,i64 0,Value.slice none 0 0,Value.slice none 0 0]
abbrev zGa:Array Value:=#[i64 0,i64 0,Value.slice none 0 0,Value.slice none 0 0]
abbrev zK:List Value:=[i64 0,i64 0,Value.slice none 0 0,Value.slice none 0 0,Value.slice none 0 0,Value.slice none 0 0]
abbrev zKa:Array Value:=#[i64 0,i64 0,Value.slice none 0 0,Value.slice none 0 0,Value.slice none 0 0,Value.slice none 0 0]
end Gv
