/- Readings of the program's data; what is known of its types. -/
import Derived.Test.YtlehiakgdejgkaaGreatDoorJYS
import Derived.Test.YtlehiakgdejgkaaGreatDoorJS
import Derived.Test.YtlehiakgdejgkaaGreatDoorProg
import Derived.KernelRfl
set_option linter.all false
namespace Gv
open Go.Value renaming slice→zS
open Go Go.Proofs
instance:dO Edge where
 sz:=3
 enc d:=[i64 d.F,i64 d.B,i64 d.To]
 len _:=rfl
 one _ v h:=by simp at h;rcases h with rfl|rfl|rfl<;>rfl
 pos:=by decide
instance:El aS where
 sz:=4
 rd K cs d:=∃ (a0:Option Addr) (c0:Nat) (a1:Option Addr) (c1:Nat),cs=[i64 d.N,i64 d.I,zS a0 d.L.length c0,zS a1 d.E.length c1]/\aW K a0 c0 d.L/\aW K a1 c1 d.E
 mono:=fun h ⟨a0,c0,a1,c1,e,h0,h1⟩=>⟨a0,c0,a1,c1,e,h0.mono h,h1.mono h⟩
 len:=fun ⟨_,_,_,_,e,_⟩=>by rw [e];rfl
 one:=fun ⟨_,_,_,_,e,_⟩ v hv=>by rw [e] at hv;simp at hv;rcases hv with rfl|rfl|rfl|rfl<;>rfl
 pos:=by decide
instance:El bZ where
 sz:=8
 rd K cs d:=∃ (a0:Option Addr) (c0:Nat) (a1:Option Addr) (c1:Nat) (a2:Option Addr) (c2:Nat) (a3:Option Addr) (c3:Nat),cs=[i64 d.t.N,i64 d.t.I,zS a0 d.t.L.length c0,zS a1 d.t.E.length c1,i64 d.p.N,i64 d.p.I,zS a2 d.p.L.length c2,zS a3 d.p.E.length c3]/\aW K a0 c0 d.t.L/\aW K a1 c1 d.t.E/\aW K a2 c2 d.p.L/\aW K a3 c3 d.p.E
 mono:=fun h ⟨a0,c0,a1,c1,a2,c2,a3,c3,e,h0,h1,h2,h3⟩=>⟨a0,c0,a1,c1,a2,c2,a3,c3,e,h0.mono h,h1.mono h,h2.mono h,h3.mono h⟩
 len:=fun ⟨_,_,_,_,_,_,_,_,e,_⟩=>by rw [e];rfl
 one:=fun ⟨_,_,_,_,_,_,_,_,e,_⟩ v hv=>by rw [e] at hv;simp at hv;rcases hv with rfl|rfl|rfl|rfl|rfl|rfl|rfl|rfl<;>rfl
 pos:=by decide
instance:El pV where
 sz:=2
 rd K cs d:=∃ (a0:Option Addr) (c0:Nat) (a1:Option Addr) (c1:Nat),cs=[zS a0 d.leave.length c0,zS a1 d.stay.length c1]/\aW K a0 c0 d.leave/\aW K a1 c1 d.stay
 mono:=fun h ⟨a0,c0,a1,c1,e,h0,h1⟩=>⟨a0,c0,a1,c1,e,h0.mono h,h1.mono h⟩
 len:=fun ⟨_,_,_,_,e,_⟩=>by rw [e];rfl
 one:=fun ⟨_,_,_,_,e,_⟩ v hv=>by rw [e] at hv;simp at hv;rcases hv with rfl|rfl<;>rfl
 pos:=by decide
instance:El bG where
 sz:=2
 rd K cs d:=∃ (a0:Option Addr) (c0:Nat),cs=[zS a0 d.states.length c0,i64 d.y]/\aW K a0 c0 d.states
 mono:=fun h ⟨a0,c0,e,h0⟩=>⟨a0,c0,e,h0.mono h⟩
 len:=fun ⟨_,_,e,_⟩=>by rw [e];rfl
 one:=fun ⟨_,_,e,_⟩ v hv=>by rw [e] at hv;simp at hv;rcases hv with rfl|rfl<;>rfl
 pos:=by decide
instance:dO fD where
 sz:=3
 enc d:=[i64 d.from_,str d.label,i64 d.to_]
 len _:=rfl
 one _ v h:=by simp at h;rcases h with rfl|rfl|rfl<;>rfl
 pos:=by decide
instance:El aZ where
 sz:=5
 rd K cs d:=∃ (a0:Option Addr) (c0:Nat) (a1:Option Addr) (c1:Nat) (a2:Option Addr) (c2:Nat),cs=[i64 d.S.N,i64 d.S.I,zS a0 d.S.L.length c0,zS a1 d.S.E.length c1,zS a2 d.Verdicts.length c2]/\aW K a0 c0 d.S.L/\aW K a1 c1 d.S.E/\aW K a2 c2 d.Verdicts
 mono:=fun h ⟨a0,c0,a1,c1,a2,c2,e,h0,h1,h2⟩=>⟨a0,c0,a1,c1,a2,c2,e,h0.mono h,h1.mono h,h2.mono h⟩
 len:=fun ⟨_,_,_,_,_,_,e,_⟩=>by rw [e];rfl
 one:=fun ⟨_,_,_,_,_,_,e,_⟩ v hv=>by rw [e] at hv;simp at hv;rcases hv with rfl|rfl|rfl|rfl|rfl<;>rfl
 pos:=by decide
instance:El aN where
 sz:=3
 rd K cs d:=∃ (a0:Option Addr) (c0:Nat),cs=[i64 d.a,i64 d.b,zS a0 d.trace.length c0]/\aW K a0 c0 d.trace
 mono:=fun h ⟨a0,c0,e,h0⟩=>⟨a0,c0,e,h0.mono h⟩
 len:=fun ⟨_,_,e,_⟩=>by rw [e];rfl
 one:=fun ⟨_,_,e,_⟩ v hv=>by rw [e] at hv;simp at hv;rcases hv with rfl|rfl|rfl<;>rfl
 pos:=by decide
theorem eM:SLT Tryz.prog 24 9 1:=⟨Tryz.runUnderlying24,Tryz.sizeOf9⟩
theorem sc_9:SC Tryz.prog 9:=⟨Tryz.isAgg9,Tryz.sizeOf9⟩
theorem iX:SLT Tryz.prog 30 2 1:=⟨Tryz.runUnderlying30,Tryz.sizeOf2⟩
theorem aEW:EZ Tryz.prog 2 [i64 0]:=⟨⟨_,Tryz.zeroValue2,rfl⟩,⟨Tryz.t2,Tryz.typeInfo2,by show (8:Nat)<=128;decide,rfl,by kernel_rfl,_,rfl,rfl⟩⟩
theorem aGf:EZ Tryz.prog 9 [str []]:=⟨⟨_,Tryz.zeroValue9,rfl⟩,⟨Tryz.t9,Tryz.typeInfo9,by show (16:Nat)<=128;decide,rfl,by kernel_rfl,_,rfl,rfl⟩⟩
theorem lD:SC Tryz.prog 2:=⟨Tryz.isAgg2,Tryz.sizeOf2⟩
theorem sl_22:SLT Tryz.prog 22 5 1:=⟨Tryz.runUnderlying22,Tryz.sizeOf5⟩
theorem bs_89:BS Tryz.prog 89 [(0,1),(1,1),(2,1)] [zS none 0 0,i64 0,Value.int .u64 0]:=⟨⟨_,Tryz.zeroValue89,rfl⟩,_,Tryz.runUnderlying89,fun w=>by simp [Tryz.sizeOf22,Tryz.sizeOf3,Tryz.sizeOf87]⟩
theorem aAk:FA Tryz.prog 27 0 0:=⟨_,_,_,Tryz.runUnderlying27,rfl,Tryz.sizeOf2,rfl,rfl⟩
theorem aGG:FA Tryz.prog 27 1 1:=⟨_,_,_,Tryz.runUnderlying27,rfl,Tryz.sizeOf2,rfl,rfl⟩
theorem aMF:BS Tryz.prog 27 [(0,1),(1,1),(2,1),(3,1)] [i64 0,i64 0,zS none 0 0,zS none 0 0]:=⟨⟨_,Tryz.zeroValue27,rfl⟩,_,Tryz.runUnderlying27,fun w=>by simp [Tryz.sizeOf2,Tryz.sizeOf24,Tryz.sizeOf25]⟩
theorem vU:FA Tryz.prog 27 2 2:=⟨_,_,_,Tryz.runUnderlying27,rfl,Tryz.sizeOf24,rfl,rfl⟩
theorem uC:SC Tryz.prog 24:=⟨Tryz.isAgg24,Tryz.sizeOf24⟩
theorem iY:SLT Tryz.prog 25 52 3:=⟨Tryz.runUnderlying25,Tryz.sizeOf52⟩
theorem aHH:EZ Tryz.prog 52 [i64 0,i64 0,i64 0]:=⟨⟨_,Tryz.zeroValue52,rfl⟩,⟨Tryz.t52,Tryz.typeInfo52,by show (24:Nat)<=128;decide,rfl,by kernel_rfl,_,rfl,rfl⟩⟩
theorem aPk:FA Tryz.prog 27 3 3:=⟨_,_,_,Tryz.runUnderlying27,rfl,Tryz.sizeOf25,rfl,rfl⟩
theorem sc_25:SC Tryz.prog 25:=⟨Tryz.isAgg25,Tryz.sizeOf25⟩
theorem mS:AG Tryz.prog 27 4:=⟨Tryz.isAgg27,Tryz.sizeOf27⟩
theorem aPl:FA Tryz.prog 52 0 0:=⟨_,_,_,Tryz.runUnderlying52,rfl,Tryz.sizeOf2,rfl,rfl⟩
theorem aDv:FA Tryz.prog 52 1 1:=⟨_,_,_,Tryz.runUnderlying52,rfl,Tryz.sizeOf2,rfl,rfl⟩
theorem aID:FA Tryz.prog 52 2 2:=⟨_,_,_,Tryz.runUnderlying52,rfl,Tryz.sizeOf2,rfl,rfl⟩
theorem ag_52:AG Tryz.prog 52 3:=⟨Tryz.isAgg52,Tryz.sizeOf52⟩
theorem aJa:BS Tryz.prog 52 [(0,1),(1,1),(2,1)] [i64 0,i64 0,i64 0]:=⟨⟨_,Tryz.zeroValue52,rfl⟩,_,Tryz.runUnderlying52,fun w=>by simp [Tryz.sizeOf2]⟩
theorem mF:SLT Tryz.prog 113 4 1:=⟨Tryz.runUnderlying113,Tryz.sizeOf4⟩
theorem ez_4:EZ Tryz.prog 4 [Value.bool false]:=⟨⟨_,Tryz.zeroValue4,rfl⟩,⟨Tryz.t4,Tryz.typeInfo4,by show (1:Nat)<=128;decide,rfl,by kernel_rfl,_,rfl,rfl⟩⟩
theorem sc_4:SC Tryz.prog 4:=⟨Tryz.isAgg4,Tryz.sizeOf4⟩
theorem tH:SLT Tryz.prog 94 30 1:=⟨Tryz.runUnderlying94,Tryz.sizeOf30⟩
theorem aHI:EZ Tryz.prog 30 [zS none 0 0]:=⟨⟨_,Tryz.zeroValue30,rfl⟩,⟨Tryz.t30,Tryz.typeInfo30,by show (24:Nat)<=128;decide,rfl,by kernel_rfl,_,rfl,rfl⟩⟩
theorem aDi:SC Tryz.prog 30:=⟨Tryz.isAgg30,Tryz.sizeOf30⟩
theorem fa_89_1:FA Tryz.prog 89 1 1:=⟨_,_,_,Tryz.runUnderlying89,rfl,Tryz.sizeOf3,rfl,rfl⟩
theorem sc_3:SC Tryz.prog 3:=⟨Tryz.isAgg3,Tryz.sizeOf3⟩
theorem fa_89_0:FA Tryz.prog 89 0 0:=⟨_,_,_,Tryz.runUnderlying89,rfl,Tryz.sizeOf22,rfl,rfl⟩
theorem sc_22:SC Tryz.prog 22:=⟨Tryz.isAgg22,Tryz.sizeOf22⟩
theorem sc_5:SC Tryz.prog 5:=⟨Tryz.isAgg5,Tryz.sizeOf5⟩
theorem fa_89_2:FA Tryz.prog 89 2 2:=⟨_,_,_,Tryz.runUnderlying89,rfl,Tryz.sizeOf87,rfl,rfl⟩
theorem sc_87:SC Tryz.prog 87:=⟨Tryz.isAgg87,Tryz.sizeOf87⟩
theorem aPm:SLT Tryz.prog 218 3 1:=⟨Tryz.runUnderlying218,Tryz.sizeOf3⟩
theorem ez_3:EZ Tryz.prog 3 [i64 0]:=⟨⟨_,Tryz.zeroValue3,rfl⟩,⟨Tryz.t3,Tryz.typeInfo3,by show (8:Nat)<=128;decide,rfl,by kernel_rfl,_,rfl,rfl⟩⟩
theorem ag_56:AG Tryz.prog 56 8:=⟨Tryz.isAgg56,Tryz.sizeOf56⟩
theorem aIE:FA Tryz.prog 56 0 0:=⟨_,_,_,Tryz.runUnderlying56,rfl,Tryz.sizeOf27,rfl,rfl⟩
theorem aHJ:SLT Tryz.prog 82 113 1:=⟨Tryz.runUnderlying82,Tryz.sizeOf113⟩
theorem ez_113:EZ Tryz.prog 113 [zS none 0 0]:=⟨⟨_,Tryz.zeroValue113,rfl⟩,⟨Tryz.t113,Tryz.typeInfo113,by show (24:Nat)<=128;decide,rfl,by kernel_rfl,_,rfl,rfl⟩⟩
theorem sc_82:SC Tryz.prog 82:=⟨Tryz.isAgg82,Tryz.sizeOf82⟩
theorem aIF:FA Tryz.prog 56 1 4:=⟨_,_,_,Tryz.runUnderlying56,rfl,Tryz.sizeOf27,rfl,rfl⟩
theorem aJw:SC Tryz.prog 113:=⟨Tryz.isAgg113,Tryz.sizeOf113⟩
theorem sc_63:SC Tryz.prog 63:=⟨Tryz.isAgg63,Tryz.sizeOf63⟩
theorem bs_84:BS Tryz.prog 84 [(0,1),(1,1)] [zS none 0 0,zS none 0 0]:=⟨⟨_,Tryz.zeroValue84,rfl⟩,_,Tryz.runUnderlying84,fun w=>by simp [Tryz.sizeOf82]⟩
theorem ag_84:AG Tryz.prog 84 2:=⟨Tryz.isAgg84,Tryz.sizeOf84⟩
theorem fa_84_0:FA Tryz.prog 84 0 0:=⟨_,_,_,Tryz.runUnderlying84,rfl,Tryz.sizeOf82,rfl,rfl⟩
theorem fa_84_1:FA Tryz.prog 84 1 1:=⟨_,_,_,Tryz.runUnderlying84,rfl,Tryz.sizeOf82,rfl,rfl⟩
theorem aQv:FA Tryz.prog 100 0 0:=⟨_,_,_,Tryz.runUnderlying100,rfl,Tryz.sizeOf30,rfl,rfl⟩
theorem aMG:FA Tryz.prog 100 1 1:=⟨_,_,_,Tryz.runUnderlying100,rfl,Tryz.sizeOf2,rfl,rfl⟩
theorem sl_111:SLT Tryz.prog 111 154 3:=⟨Tryz.runUnderlying111,Tryz.sizeOf154⟩
theorem ag_154:AG Tryz.prog 154 3:=⟨Tryz.isAgg154,Tryz.sizeOf154⟩
theorem fa_154_0:FA Tryz.prog 154 0 0:=⟨_,_,_,Tryz.runUnderlying154,rfl,Tryz.sizeOf2,rfl,rfl⟩
theorem aQw:FA Tryz.prog 154 1 1:=⟨_,_,_,Tryz.runUnderlying154,rfl,Tryz.sizeOf9,rfl,rfl⟩
theorem aQx:FA Tryz.prog 154 2 2:=⟨_,_,_,Tryz.runUnderlying154,rfl,Tryz.sizeOf2,rfl,rfl⟩
theorem aHK:BS Tryz.prog 154 [(0,1),(1,1),(2,1)] [i64 0,str [],i64 0]:=⟨⟨_,Tryz.zeroValue154,rfl⟩,_,Tryz.runUnderlying154,fun w=>by simp [Tryz.sizeOf2,Tryz.sizeOf9]⟩
theorem ez_154:EZ Tryz.prog 154 [i64 0,str [],i64 0]:=⟨⟨_,Tryz.zeroValue154,rfl⟩,⟨Tryz.t154,Tryz.typeInfo154,by show (32:Nat)<=128;decide,rfl,by kernel_rfl,_,rfl,rfl⟩⟩
theorem aMH:BS Tryz.prog 100 [(0,1),(1,1)] [zS none 0 0,i64 0]:=⟨⟨_,Tryz.zeroValue100,rfl⟩,_,Tryz.runUnderlying100,fun w=>by simp [Tryz.sizeOf2,Tryz.sizeOf30]⟩
theorem aJx:AG Tryz.prog 100 2:=⟨Tryz.isAgg100,Tryz.sizeOf100⟩
theorem bs_151:BS Tryz.prog 151 [(0,1),(1,1),(2,1),(3,1)] [zS none 0 0,Value.map none,zS none 0 0,Value.nilFunc]:=⟨⟨_,Tryz.zeroValue151,rfl⟩,_,Tryz.runUnderlying151,fun w=>by simp [Tryz.sizeOf103,Tryz.sizeOf104,Tryz.sizeOf111,Tryz.sizeOf149]⟩
theorem sc_148:SC Tryz.prog 148:=⟨Tryz.isAgg148,Tryz.sizeOf148⟩
theorem fa_151_3:FA Tryz.prog 151 3 3:=⟨_,_,_,Tryz.runUnderlying151,rfl,Tryz.sizeOf103,rfl,rfl⟩
theorem sc_103:SC Tryz.prog 103:=⟨Tryz.isAgg103,Tryz.sizeOf103⟩
theorem fa_151_1:FA Tryz.prog 151 1 1:=⟨_,_,_,Tryz.runUnderlying151,rfl,Tryz.sizeOf149,rfl,rfl⟩
theorem sc_149:SC Tryz.prog 149:=⟨Tryz.isAgg149,Tryz.sizeOf149⟩
theorem ko_9:aIY Tryz.prog 9 aJ:=keyOk_str Tryz.runUnderlying9
theorem aQy:FA Tryz.prog 151 0 0:=⟨_,_,_,Tryz.runUnderlying151,rfl,Tryz.sizeOf104,rfl,rfl⟩
theorem sc_104:SC Tryz.prog 104:=⟨Tryz.isAgg104,Tryz.sizeOf104⟩
theorem aKR:SLT Tryz.prog 104 100 2:=⟨Tryz.runUnderlying104,Tryz.sizeOf100⟩
theorem ez_100:EZ Tryz.prog 100 [zS none 0 0,i64 0]:=⟨⟨_,Tryz.zeroValue100,rfl⟩,⟨Tryz.t100,Tryz.typeInfo100,by show (32:Nat)<=128;decide,rfl,by kernel_rfl,_,rfl,rfl⟩⟩
theorem fa_151_2:FA Tryz.prog 151 2 2:=⟨_,_,_,Tryz.runUnderlying151,rfl,Tryz.sizeOf111,rfl,rfl⟩
theorem aJy:SC Tryz.prog 111:=⟨Tryz.isAgg111,Tryz.sizeOf111⟩
theorem aJY:BS Tryz.prog 32 [(0,4),(4,1)] [i64 0,i64 0,zS none 0 0,zS none 0 0,zS none 0 0]:=⟨⟨_,Tryz.zeroValue32,rfl⟩,_,Tryz.runUnderlying32,fun w=>by simp [Tryz.sizeOf27,Tryz.sizeOf30]⟩
theorem aFf:AG Tryz.prog 32 5:=⟨Tryz.isAgg32,Tryz.sizeOf32⟩
theorem aIG:FA Tryz.prog 32 1 4:=⟨_,_,_,Tryz.runUnderlying32,rfl,Tryz.sizeOf30,rfl,rfl⟩
theorem bs_56:BS Tryz.prog 56 [(0,4),(4,4)] [i64 0,i64 0,zS none 0 0,zS none 0 0,i64 0,i64 0,zS none 0 0,zS none 0 0]:=⟨⟨_,Tryz.zeroValue56,rfl⟩,_,Tryz.runUnderlying56,fun w=>by simp [Tryz.sizeOf27]⟩
theorem aMc:FA Tryz.prog 32 0 0:=⟨_,_,_,Tryz.runUnderlying32,rfl,Tryz.sizeOf27,rfl,rfl⟩
theorem ko_2:aIY Tryz.prog 2 Int:=keyOk_int Tryz.runUnderlying2
theorem bs_172:BS Tryz.prog 172 [(0,1),(1,1),(2,1),(3,1)] [zS none 0 0,Value.map none,zS none 0 0,Value.nilFunc]:=⟨⟨_,Tryz.zeroValue172,rfl⟩,_,Tryz.runUnderlying172,fun w=>by simp [Tryz.sizeOf102,Tryz.sizeOf111,Tryz.sizeOf149,Tryz.sizeOf30]⟩
theorem sc_170:SC Tryz.prog 170:=⟨Tryz.isAgg170,Tryz.sizeOf170⟩
theorem fa_172_3:FA Tryz.prog 172 3 3:=⟨_,_,_,Tryz.runUnderlying172,rfl,Tryz.sizeOf102,rfl,rfl⟩
theorem sc_102:SC Tryz.prog 102:=⟨Tryz.isAgg102,Tryz.sizeOf102⟩
theorem fa_172_1:FA Tryz.prog 172 1 1:=⟨_,_,_,Tryz.runUnderlying172,rfl,Tryz.sizeOf149,rfl,rfl⟩
theorem aQz:FA Tryz.prog 172 0 0:=⟨_,_,_,Tryz.runUnderlying172,rfl,Tryz.sizeOf30,rfl,rfl⟩
theorem fa_172_2:FA Tryz.prog 172 2 2:=⟨_,_,_,Tryz.runUnderlying172,rfl,Tryz.sizeOf111,rfl,rfl⟩
theorem aJb:SLT Tryz.prog 39 24 1:=⟨Tryz.runUnderlying39,Tryz.sizeOf24⟩
theorem ez_24:EZ Tryz.prog 24 [zS none 0 0]:=⟨⟨_,Tryz.zeroValue24,rfl⟩,⟨Tryz.t24,Tryz.typeInfo24,by show (24:Nat)<=128;decide,rfl,by kernel_rfl,_,rfl,rfl⟩⟩
theorem fv_27_2:FV Tryz.prog 27 2 2:=⟨_,_,Tryz.runUnderlying27,rfl,uC,rfl⟩
theorem aJZ:BS Tryz.prog 73 [(0,1),(1,1),(2,1)] [i64 0,i64 0,zS none 0 0]:=⟨⟨_,Tryz.zeroValue73,rfl⟩,_,Tryz.runUnderlying73,fun w=>by simp [Tryz.sizeOf2,Tryz.sizeOf24]⟩
theorem yE:SLT Tryz.prog 74 73 3:=⟨Tryz.runUnderlying74,Tryz.sizeOf73⟩
theorem aEg:EZ Tryz.prog 73 [i64 0,i64 0,zS none 0 0]:=⟨⟨_,Tryz.zeroValue73,rfl⟩,⟨Tryz.t73,Tryz.typeInfo73,by show (40:Nat)<=128;decide,rfl,by kernel_rfl,_,rfl,rfl⟩⟩
theorem ag_73:AG Tryz.prog 73 3:=⟨Tryz.isAgg73,Tryz.sizeOf73⟩
theorem aFg:FA Tryz.prog 73 0 0:=⟨_,_,_,Tryz.runUnderlying73,rfl,Tryz.sizeOf2,rfl,rfl⟩
theorem aGH:FA Tryz.prog 73 1 1:=⟨_,_,_,Tryz.runUnderlying73,rfl,Tryz.sizeOf2,rfl,rfl⟩
theorem ar_127:ART Tryz.prog 127 2 2:=⟨Tryz.runUnderlying127,Tryz.isAgg2,Tryz.sizeOf2⟩
theorem bz_127:∃ z,(∀ w,(zeroValue 127).run Tryz.prog w=.ok z w)/\z.cells=[i64 0,i64 0].toArray:=⟨_,Tryz.zeroValue127,rfl⟩
theorem ko_127:aIY Tryz.prog 127 (Int × Int):=aRL Tryz.runUnderlying127 Tryz.runUnderlying2 ⟨Tryz.isAgg2,Tryz.sizeOf2⟩
theorem aIH:FA Tryz.prog 73 2 2:=⟨_,_,_,Tryz.runUnderlying73,rfl,Tryz.sizeOf24,rfl,rfl⟩
theorem bs_204:BS Tryz.prog 204 [(0,1),(1,1),(2,1),(3,1)] [zS none 0 0,Value.map none,zS none 0 0,Value.nilFunc]:=⟨⟨_,Tryz.zeroValue204,rfl⟩,_,Tryz.runUnderlying204,fun w=>by simp [Tryz.sizeOf111,Tryz.sizeOf149,Tryz.sizeOf175,Tryz.sizeOf94]⟩
theorem sc_202:SC Tryz.prog 202:=⟨Tryz.isAgg202,Tryz.sizeOf202⟩
theorem fa_204_3:FA Tryz.prog 204 3 3:=⟨_,_,_,Tryz.runUnderlying204,rfl,Tryz.sizeOf175,rfl,rfl⟩
theorem sc_175:SC Tryz.prog 175:=⟨Tryz.isAgg175,Tryz.sizeOf175⟩
theorem fa_204_1:FA Tryz.prog 204 1 1:=⟨_,_,_,Tryz.runUnderlying204,rfl,Tryz.sizeOf149,rfl,rfl⟩
theorem aQA:FA Tryz.prog 204 0 0:=⟨_,_,_,Tryz.runUnderlying204,rfl,Tryz.sizeOf94,rfl,rfl⟩
theorem sc_94:SC Tryz.prog 94:=⟨Tryz.isAgg94,Tryz.sizeOf94⟩
theorem fa_204_2:FA Tryz.prog 204 2 2:=⟨_,_,_,Tryz.runUnderlying204,rfl,Tryz.sizeOf111,rfl,rfl⟩
theorem st_52:Tryz.prog.stoodInHeld 52=false:=by kernel_rfl
theorem eq_52 {x y:Edge}:EQT Tryz.prog 52 [i64 x.F,i64 x.B,i64 x.To] [i64 y.F,i64 y.B,i64 y.To] (decide (x=y)):=by
 refine ⟨by kernel_rfl,fun w=>?_⟩
 have h2:∀ (a b:Int),(Op.equalIn 9999 2 (i64 a) (i64 b)).run Tryz.prog w=.ok (a == b) w:=fun a b=>run_eqInI 9998 (Tryz.runUnderlying2 w)
 have:Op.maxDepth=9999+1:=rfl
 unfold Op.equal
 rw [this]
 unfold Op.equalIn
 simp [Tryz.runUnderlying52,st_52,part,h2,Tryz.isAgg2]
 cases x;cases y
 simp
 repeat' split<;>simp_all
theorem Tryz_mixed:Tryz.prog.follows .mixedOrders=true:=by kernel_rfl
abbrev zC (d:aS) (a:Option Addr) (c:Nat) (b:Option Addr) (e:Nat):List Value:=[i64 d.N,i64 d.I,Value.slice a d.L.length c,Value.slice b d.E.length e]
abbrev zCa (d:aS) (a:Option Addr) (c:Nat) (b:Option Addr) (e:Nat):Array Value:=#[i64 d.N,i64 d.I,Value.slice a d.L.length c,Value.slice b d.E.length e]
abbrev zG:List Value:=[i64 0,i64 0,Value.slice none 0 0,Value.slice none 0 0]
abbrev zGa:Array Value:=#[i64 0,i64 0,Value.slice none 0 0,Value.slice none 0 0]
abbrev zK:List Value:=[i64 0,i64 0,Value.slice none 0 0,Value.slice none 0 0,Value.slice none 0 0,Value.slice none 0 0]
abbrev zKa:Array Value:=#[i64 0,i64 0,Value.slice none 0 0,Value.slice none 0 0,Value.slice none 0 0,Value.slice none 0 0]
end Gv
namespace Gv
open Go.Value renaming slice→zS
open Gv.Hp renaming le_refl→zR
open Go Go.Proofs
theorem st_S {p:Prop} (h:p:=by with_reducible first|exact eM|exact iX|exact sl_22|exact iY|exact mF|exact tH|exact aPm|exact aHJ|exact sl_111|exact aKR|exact aJb|exact yE):p:=h
theorem aAv {p:Prop} (h:p:=by with_reducible first|exact sc_9|exact lD|exact uC|exact sc_25|exact sc_4|exact aDi|exact sc_3|exact sc_22|exact sc_5|exact sc_87|exact sc_82|exact aJw|exact sc_63|exact sc_148|exact sc_103|exact sc_149|exact sc_104|exact aJy|exact sc_170|exact sc_102|exact sc_202|exact sc_175|exact sc_94):p:=h
theorem aFL {p:Prop} (h:p:=by with_reducible first|exact mS|exact ag_52|exact ag_56|exact ag_84|exact ag_154|exact aJx|exact aFf|exact ag_73):p:=h
theorem st_F {p:Prop} (h:p:=by with_reducible first|exact aAk|exact aGG|exact vU|exact aPk|exact aPl|exact aDv|exact aID|exact fa_89_1|exact fa_89_0|exact fa_89_2|exact aIE|exact aIF|exact fa_84_0|exact fa_84_1|exact aQv|exact aMG|exact fa_154_0|exact aQw|exact aQx|exact fa_151_3|exact fa_151_1|exact aQy|exact fa_151_2|exact aIG|exact aMc|exact fa_172_3|exact fa_172_1|exact aQz|exact fa_172_2|exact aFg|exact aGH|exact aIH|exact fa_204_3|exact fa_204_1|exact aQA|exact fa_204_2):p:=h
theorem za_3:ZA Tryz.prog 3 [i64 0]:=⟨_,Tryz.zeroValue3,rfl⟩
theorem za_4:ZA Tryz.prog 4 [Value.bool false]:=⟨_,Tryz.zeroValue4,rfl⟩
theorem za_27:ZA Tryz.prog 27 [i64 0,i64 0,zS none 0 0,zS none 0 0]:=⟨_,Tryz.zeroValue27,rfl⟩
theorem za_30:ZA Tryz.prog 30 [zS none 0 0]:=⟨_,Tryz.zeroValue30,rfl⟩
theorem za_32:ZA Tryz.prog 32 [i64 0,i64 0,zS none 0 0,zS none 0 0,zS none 0 0]:=⟨_,Tryz.zeroValue32,rfl⟩
theorem za_52:ZA Tryz.prog 52 [i64 0,i64 0,i64 0]:=⟨_,Tryz.zeroValue52,rfl⟩
theorem za_73:ZA Tryz.prog 73 [i64 0,i64 0,zS none 0 0]:=⟨_,Tryz.zeroValue73,rfl⟩
theorem za_82:ZA Tryz.prog 82 [zS none 0 0]:=⟨_,Tryz.zeroValue82,rfl⟩
theorem za_84:ZA Tryz.prog 84 [zS none 0 0,zS none 0 0]:=⟨_,Tryz.zeroValue84,rfl⟩
theorem za_100:ZA Tryz.prog 100 [zS none 0 0,i64 0]:=⟨_,Tryz.zeroValue100,rfl⟩
theorem za_148:ZA Tryz.prog 148 [Value.pointer none]:=⟨_,Tryz.zeroValue148,rfl⟩
theorem za_154:ZA Tryz.prog 154 [i64 0,str ([]:aJ),i64 0]:=⟨_,Tryz.zeroValue154,rfl⟩
theorem za_170:ZA Tryz.prog 170 [Value.pointer none]:=⟨_,Tryz.zeroValue170,rfl⟩
theorem za_202:ZA Tryz.prog 202 [Value.pointer none]:=⟨_,Tryz.zeroValue202,rfl⟩
theorem st_r {p:Prop} (h:p:=by with_reducible first|exact Tryz.runUnderlying126|exact Tryz.runUnderlying149|exact Tryz.runUnderlying166|exact Tryz.runUnderlying183|exact Tryz.runUnderlying2|exact Tryz.runUnderlying3|exact Tryz.runUnderlying4|exact Tryz.runUnderlying5|exact Tryz.runUnderlying87|exact Tryz.runUnderlying9):p:=h
theorem st_v {p:Prop} (h:p:=by with_reducible first|exact fv_27_2):p:=h
theorem st_h {p:Prop} (h:p:=by with_reducible first|exact bs_89|exact aMF|exact aJa|exact bs_84|exact aHK|exact aMH|exact bs_151|exact aJY|exact bs_56|exact bs_172|exact aJZ|exact bs_204):p:=h
theorem st_e {p:Prop} (h:p:=by with_reducible first|exact aEW|exact aGf|exact aHH|exact ez_4|exact aHI|exact ez_3|exact ez_113|exact ez_154|exact ez_100|exact ez_24|exact aEg):p:=h
theorem st_u {p:Prop} (h:p:=by with_reducible first|exact Tryz.underlying104|exact Tryz.underlying111|exact Tryz.underlying24|exact Tryz.underlying25|exact Tryz.underlying30|exact Tryz.underlying39|exact Tryz.underlying74|exact Tryz.underlying94):p:=h
theorem st_z {p:Prop} (h:p:=by with_reducible first|exact Tryz.sizeOf100|exact Tryz.sizeOf104|exact Tryz.sizeOf111|exact Tryz.sizeOf113|exact Tryz.sizeOf148|exact Tryz.sizeOf154|exact Tryz.sizeOf170|exact Tryz.sizeOf2|exact Tryz.sizeOf202|exact Tryz.sizeOf24|exact Tryz.sizeOf25|exact Tryz.sizeOf27|exact Tryz.sizeOf3|exact Tryz.sizeOf30|exact Tryz.sizeOf32|exact Tryz.sizeOf4|exact Tryz.sizeOf52|exact Tryz.sizeOf73|exact Tryz.sizeOf82|exact Tryz.sizeOf84|exact Tryz.sizeOf87|exact Tryz.sizeOf9|exact Tryz.sizeOf94):p:=h
theorem st_y {p:Prop} (h:p:=by with_reducible first|exact za_3|exact za_4|exact za_27|exact za_30|exact za_32|exact za_52|exact za_73|exact za_82|exact za_84|exact za_100|exact za_148|exact za_154|exact za_170|exact za_202):p:=h
theorem aKS {p:Prop} (h:p:=by first|(apply V_move;exact bI)|(apply V_assign;exact bI)|(apply V_B;first|(apply V_add;exact bI;exact bI)|(apply V_sub;exact bI;exact bI)|(apply V_mul;exact bI;exact bI)|(apply V_lss;exact bI;exact bI)|(apply V_leq;exact bI;exact bI)|(apply V_gtr;exact bI;exact bI)|(apply V_geq;exact bI;exact bI)|(apply V_eql;exact bI;exact bI)|(apply V_neq;exact bI;exact bI)|(apply V_eqlS;exact bI;exact bI)|(apply V_neqS;exact bI;exact bI)|(apply V_lssS;exact bI;exact bI)|(apply V_leqS;exact bI;exact bI)|(apply V_gtrS;exact bI;exact bI)|(apply V_geqS;exact bI;exact bI))|(apply V_fldP;exact bI;exact st_F)|(apply V_fldE;exact bI;exact cJ;exact st_F)|(apply V_fldO;exact bI;exact cJ;exact aJv;exact cJ;exact st_F)|(apply V_L;first|(apply V_ldB;exact bI;exact cJ;exact aJv;exact rfl;exact aAv)|(apply V_ldBG;exact bI;exact cJ;exact aJv;exact aFL;exact st_D)|(apply aLw (t:=0);exact bI;exact cJ;exact cJ;exact rfl;exact aAv)|(apply aLw (t:=1);exact bI;exact cJ;exact cJ;exact rfl;exact aAv)|(apply aLw (t:=2);exact bI;exact cJ;exact cJ;exact rfl;exact aAv)|(apply aLw (t:=3);exact bI;exact cJ;exact cJ;exact rfl;exact aAv)|(apply aLw (t:=4);exact bI;exact cJ;exact cJ;exact rfl;exact aAv)|(apply aLw (t:=5);exact bI;exact cJ;exact cJ;exact rfl;exact aAv)|(apply aLw (t:=6);exact bI;exact cJ;exact cJ;exact rfl;exact aAv)|(apply aLw (t:=7);exact bI;exact cJ;exact cJ;exact rfl;exact aAv)|(apply aHG (t:=0);exact bI;exact cJ;exact cJ;exact aFL;exact rfl;exact rfl)|(apply aHG (t:=1);exact bI;exact cJ;exact cJ;exact aFL;exact rfl;exact rfl)|(apply aHG (t:=2);exact bI;exact cJ;exact cJ;exact aFL;exact rfl;exact rfl)|(apply aHG (t:=3);exact bI;exact cJ;exact cJ;exact aFL;exact rfl;exact rfl)|(apply aHG (t:=4);exact bI;exact cJ;exact cJ;exact aFL;exact rfl;exact rfl)|(apply aHG (t:=5);exact bI;exact cJ;exact cJ;exact aFL;exact rfl;exact rfl)|(apply aHG (t:=6);exact bI;exact cJ;exact cJ;exact aFL;exact rfl;exact rfl)|(apply aHG (t:=7);exact bI;exact cJ;exact cJ;exact aFL;exact rfl;exact rfl)|(apply V_ldO (t:=0);exact bI;exact cJ;exact aJv;exact cJ;exact rfl;exact rfl;exact aAv)|(apply V_ldO (t:=1);exact bI;exact cJ;exact aJv;exact cJ;exact rfl;exact rfl;exact aAv)|(apply V_ldO (t:=2);exact bI;exact cJ;exact aJv;exact cJ;exact rfl;exact rfl;exact aAv)|(apply V_ldO (t:=3);exact bI;exact cJ;exact aJv;exact cJ;exact rfl;exact rfl;exact aAv)|(apply V_ldO (t:=4);exact bI;exact cJ;exact aJv;exact cJ;exact rfl;exact rfl;exact aAv)|(apply V_ldOG (t:=0);exact bI;exact cJ;exact aJv;exact cJ;exact rfl;exact aFL;exact rfl;exact rfl)|(apply V_ldOG (t:=1);exact bI;exact cJ;exact aJv;exact cJ;exact rfl;exact aFL;exact rfl;exact rfl)|(apply V_ldOG (t:=2);exact bI;exact cJ;exact aJv;exact cJ;exact rfl;exact aFL;exact rfl;exact rfl)|(apply aLy (t:=0);exact bI;exact cJ;exact cJ;exact nB;exact rfl;exact aAv)|(apply aLy (t:=1);exact bI;exact cJ;exact cJ;exact nB;exact rfl;exact aAv)|(apply aLy (t:=2);exact bI;exact cJ;exact cJ;exact nB;exact rfl;exact aAv)|(apply aLy (t:=3);exact bI;exact cJ;exact cJ;exact nB;exact rfl;exact aAv)|(apply aLy (t:=4);exact bI;exact cJ;exact cJ;exact nB;exact rfl;exact aAv)|(apply aLy (t:=5);exact bI;exact cJ;exact cJ;exact nB;exact rfl;exact aAv)|(apply aLy (t:=6);exact bI;exact cJ;exact cJ;exact nB;exact rfl;exact aAv)|(apply aLy (t:=7);exact bI;exact cJ;exact cJ;exact nB;exact rfl;exact aAv)|(apply aPh (t:=0);exact bI;exact cJ;exact cJ;exact nB;exact aFL;exact rfl;exact rfl)|(apply aPh (t:=1);exact bI;exact cJ;exact cJ;exact nB;exact aFL;exact rfl;exact rfl)|(apply aPh (t:=2);exact bI;exact cJ;exact cJ;exact nB;exact aFL;exact rfl;exact rfl)|(apply aPh (t:=3);exact bI;exact cJ;exact cJ;exact nB;exact aFL;exact rfl;exact rfl)|(apply aLx (t:=0);exact cJ;exact cJ;exact bI;exact rfl;exact aAv)|(apply aLx (t:=1);exact cJ;exact cJ;exact bI;exact rfl;exact aAv)|(apply aLx (t:=2);exact cJ;exact cJ;exact bI;exact rfl;exact aAv)|(apply aLx (t:=3);exact cJ;exact cJ;exact bI;exact rfl;exact aAv)|(apply aLx (t:=4);exact cJ;exact cJ;exact bI;exact rfl;exact aAv)|(apply aLx (t:=5);exact cJ;exact cJ;exact bI;exact rfl;exact aAv)|(apply aLx (t:=6);exact cJ;exact cJ;exact bI;exact rfl;exact aAv)|(apply aLx (t:=7);exact cJ;exact cJ;exact bI;exact rfl;exact aAv)|(apply aPg (t:=0);exact cJ;exact cJ;exact bI;exact aFL;exact rfl;exact rfl)|(apply aPg (t:=1);exact cJ;exact cJ;exact bI;exact aFL;exact rfl;exact rfl)|(apply aPg (t:=2);exact cJ;exact cJ;exact bI;exact aFL;exact rfl;exact rfl)|(apply aPg (t:=3);exact cJ;exact cJ;exact bI;exact aFL;exact rfl;exact rfl))|(apply V_lenS;exact st_S;exact bI)|(apply V_nilE;exact bI;exact cJ)|(apply V_nilP;exact bI)|(apply V_nilO;exact bI;exact cJ;exact aJv;exact cJ)|(apply V_ixE;exact bI;exact bI;exact cJ;exact cJ;exact rfl;exact st_S;exact rfl)|(apply V_ixO;exact bI;exact bI;exact cJ;exact aJv;exact cJ;exact rfl;exact st_S;exact rfl)|(apply V_extract;exact bI;exact rfl)|(apply V_pickT;exact bI;exact zJ;exact bI)|(apply V_pickF;exact bI;exact zJ;exact bI)|(apply V_not;exact bI)|(apply V_lenStr;exact st_r;exact bI)|(apply V_ixS;exact st_r;exact bI;exact bI;exact cJ)|(apply V_conv64;exact st_r;exact bI;exact ⟨_,st_r⟩)|(apply V_convu64;exact st_r;exact bI;exact ⟨_,st_r⟩)|(apply V_u8sub';exact bI;exact bI)|(apply V_neg;exact bI)|(apply V_rem;exact bI;exact bI;exact cJ)|(apply V_cat;exact bI;exact bI;exact cJ)|(apply V_eqlB;exact st_r;exact bI;exact bI)|(apply V_neqB;exact st_r;exact bI;exact bI)|(apply V_u64add;exact bI;exact bI)|(apply V_u64mul;exact bI;exact bI)|(apply V_shrU;exact bI;exact bI;exact cJ)|(apply V_andU;exact bI;exact bI)|(apply V_slSLH;exact st_r;exact bI;exact bI;exact bI;exact cJ)|(apply V_slSL;exact st_r;exact bI;exact bI;exact cJ)|(apply V_slSH;exact st_r;exact bI;exact bI;exact cJ)|(apply V_isNil;exact st_S;exact bI;exact rfl)|(apply V_field;exact st_v;exact bI;exact rfl)|(apply V_build;exact st_h;exact rfl;exact (by kernel_rfl))|(apply aRO;exact rfl)):p:=h
theorem eV {P:Program} {n:Nat} {f:Nat->Value} {w:World} {ty:TypeId} {pos:String} {af:Array Go.Edge} {C:World->Prop} {R:(Nat->Value)->World->Prop} {os:List Oper} {d:Nat} {op:Op} {v:Value} {bs:List Nat} {m:Nat} {listed:Array Bool} (i:Nat) (h:WA P n os.toArray C bs R m (listed.setIfInBounds i true) (upd f d v) w) (hi:aFI os i=some ⟨some d,op,ty,pos,af,none⟩:=by exact rfl) (hB:lookB os.toArray bs listed i=true:=by kernel_rfl) (hC:C w:=by first|exact ⟨_,by assumption⟩|exact ⟨_,aD.weakK (by assumption) nB⟩) (hr:∀ w,C w->EX P f op v d ty pos af w:=by rintro _ ⟨_,_⟩;exact aKS):WA P n os.toArray C bs R (m+1) listed f w:=V_WA hi hB hC hr h
theorem cE {p q:Prop} (k:q) (h:Hd q->p:=by
 intro hk
 first
  |(apply VO;exact aKS)
  |(apply VQ;intro _ _;exact aKS)
  |(apply aL)
  |with_reducible apply aC
  |with_reducible apply iC
  |(apply bB)
  |(apply bR)
  |(apply cN)
  |(apply aAZ)
  |(apply aPi;exact bI;exact zJ)
  |(apply aPj;exact bI;exact zJ)
  |with_reducible apply iW
  |with_reducible apply uB
  |(with_reducible apply aIx;exact rfl)
  |(apply V_onT;exact rfl;exact bI;exact zJ)
  |(apply V_onF;exact rfl;exact bI;exact zJ)
  |(apply V_offF;exact rfl;exact bI;exact zJ)
  |(apply V_offT;exact rfl;exact bI;exact zJ)
  |(apply Q_onT;exact rfl;exact bI;exact zJ)
  |(apply Q_onF;exact rfl;exact bI;exact zJ)
  |(apply Q_offF;exact rfl;exact bI;exact zJ)
  |(apply Q_offT;exact rfl;exact bI;exact zJ)
  |(apply aMt;exact rfl;exact bI)
  |(apply aMx;exact rfl;exact bI)
  |(apply V_WE;exact rfl;rintro _ ⟨_,_⟩;exact aKS)
  |(apply V_WT;exact rfl;intro _;exact aKS)
 exact hk.k):p:=h ⟨k⟩
theorem aF {p q:Prop} (k:q) (h:Hd q->p:=by
 intro hk
 repeat (first
  |(apply VO;exact aKS)
  |(apply VQ;intro _ _;exact aKS)
  |(apply aL)
  |with_reducible apply aC
  |with_reducible apply iC
  |(apply bB)
  |(apply bR)
  |(apply cN)
  |(apply aAZ)
  |(apply aPi;exact bI;exact zJ)
  |(apply aPj;exact bI;exact zJ)
  |with_reducible apply iW
  |with_reducible apply uB
  |(with_reducible apply aIx;exact rfl)
  |(apply V_onT;exact rfl;exact bI;exact zJ)
  |(apply V_onF;exact rfl;exact bI;exact zJ)
  |(apply V_offF;exact rfl;exact bI;exact zJ)
  |(apply V_offT;exact rfl;exact bI;exact zJ)
  |(apply Q_onT;exact rfl;exact bI;exact zJ)
  |(apply Q_onF;exact rfl;exact bI;exact zJ)
  |(apply Q_offF;exact rfl;exact bI;exact zJ)
  |(apply Q_offT;exact rfl;exact bI;exact zJ)
  |(apply aMt;exact rfl;exact bI)
  |(apply aMx;exact rfl;exact bI)
  |(apply V_WE;exact rfl;rintro _ ⟨_,_⟩;exact aKS)
  |(apply V_WT;exact rfl;intro _;exact aKS))
 exact hk.k):p:=h ⟨k⟩
theorem st_call {p:Prop} (h:p:=by with_reducible first|exact Tryz.call4|exact Tryz.call5|exact Tryz.call6|exact Tryz.call7|exact Tryz.call8|exact Tryz.call9|exact Tryz.call10|exact Tryz.call11|exact Tryz.call12|exact Tryz.call13|exact Tryz.call14|exact Tryz.call15|exact Tryz.call16|exact Tryz.call17|exact Tryz.call18|exact Tryz.call19|exact Tryz.call20|exact Tryz.call21|exact Tryz.call22|exact Tryz.call23|exact Tryz.call24|exact Tryz.call25|exact Tryz.call26|exact Tryz.call27|exact Tryz.call28|exact Tryz.call29|exact Tryz.call30|exact Tryz.call31|exact Tryz.call32|exact Tryz.call33|exact Tryz.call34|exact Tryz.call35|exact Tryz.call36|exact Tryz.call37|exact Tryz.call38|exact Tryz.call39|exact Tryz.call40|exact Tryz.call41|exact Tryz.call42|exact Tryz.call43|exact Tryz.call44|exact Tryz.call45|exact Tryz.call46|exact Tryz.call47|exact Tryz.call48|exact Tryz.call49|exact Tryz.call50|exact Tryz.call51|exact Tryz.call52|exact Tryz.call53|exact Tryz.call54|exact Tryz.call55|exact Tryz.call56|exact Tryz.call57|exact Tryz.call58|exact Tryz.call59|exact Tryz.call60|exact Tryz.call61|exact Tryz.call62|exact Tryz.call63|exact Tryz.call64|exact Tryz.call65|exact Tryz.call66|exact Tryz.call67|exact Tryz.call68|exact Tryz.call69|exact Tryz.call70|exact Tryz.call71|exact Tryz.call72|exact Tryz.call73|exact Tryz.call74|exact Tryz.call75|exact Tryz.call76|exact Tryz.call77|exact Tryz.call78|exact Tryz.call79|exact Tryz.call80|exact Tryz.call81|exact Tryz.call82|exact Tryz.call83|exact Tryz.call84|exact Tryz.call85|exact Tryz.call86|exact Tryz.call87|exact Tryz.call88|exact Tryz.call89|exact Tryz.call90|exact Tryz.call91|exact Tryz.call92|exact Tryz.call93|exact Tryz.call94|exact Tryz.call95|exact Tryz.call96|exact Tryz.call97|exact Tryz.call98|exact Tryz.call100|exact Tryz.call101|exact Tryz.call102|exact Tryz.call103|exact Tryz.call105|exact Tryz.call106|exact Tryz.call107|exact Tryz.call108|exact Tryz.call109|exact Tryz.call110|exact Tryz.call111|exact Tryz.call112|exact Tryz.call113|exact Tryz.call114|exact Tryz.call115|exact Tryz.call116|exact Tryz.call117|exact Tryz.call118|exact Tryz.call119|exact Tryz.call120|exact Tryz.call121|exact Tryz.call122|exact Tryz.call123|exact Tryz.call124|exact Tryz.call125|exact Tryz.call126|exact Tryz.call127|exact Tryz.call128|exact Tryz.call129|exact Tryz.call130|exact Tryz.call131|exact Tryz.call132|exact Tryz.call133|exact Tryz.call134|exact Tryz.call135|exact Tryz.call136|exact Tryz.call137|exact Tryz.call138|exact Tryz.call146|exact Tryz.call148|exact Tryz.call149|exact Tryz.call150|exact Tryz.call151|exact Tryz.call152|exact Tryz.call153|exact Tryz.call154|exact Tryz.call155|exact Tryz.call156|exact Tryz.call157|exact Tryz.call158|exact Tryz.call159|exact Tryz.call160|exact Tryz.call161|exact Tryz.call162|exact Tryz.call197|exact Tryz.call198|exact Tryz.call199|exact Tryz.call200|exact Tryz.call201|exact Tryz.call202|exact Tryz.call203|exact Tryz.call205|exact Tryz.call207|exact Tryz.call208|exact Tryz.call209|exact Tryz.call230|exact Tryz.call231|exact Tryz.call238|exact Tryz.call239|exact Tryz.call240|exact Tryz.call241|exact Tryz.call257):p:=h
theorem st_f {p:Prop} (h:p:=by with_reducible first|exact Tryz.func3|exact Tryz.func4|exact Tryz.func5|exact Tryz.func6|exact Tryz.func7|exact Tryz.func8|exact Tryz.func9|exact Tryz.func10|exact Tryz.func11|exact Tryz.func12|exact Tryz.func13|exact Tryz.func14|exact Tryz.func15|exact Tryz.func16|exact Tryz.func17|exact Tryz.func18|exact Tryz.func19|exact Tryz.func20|exact Tryz.func21|exact Tryz.func22|exact Tryz.func23|exact Tryz.func24|exact Tryz.func25|exact Tryz.func26|exact Tryz.func27|exact Tryz.func28|exact Tryz.func29|exact Tryz.func30|exact Tryz.func31|exact Tryz.func32|exact Tryz.func33|exact Tryz.func34|exact Tryz.func35|exact Tryz.func36|exact Tryz.func37|exact Tryz.func38|exact Tryz.func39|exact Tryz.func40|exact Tryz.func41|exact Tryz.func42|exact Tryz.func43|exact Tryz.func44|exact Tryz.func45|exact Tryz.func46|exact Tryz.func47|exact Tryz.func48|exact Tryz.func49|exact Tryz.func50|exact Tryz.func51|exact Tryz.func53|exact Tryz.func54|exact Tryz.func55|exact Tryz.func56|exact Tryz.func57|exact Tryz.func58|exact Tryz.func59|exact Tryz.func60|exact Tryz.func61|exact Tryz.func62|exact Tryz.func63|exact Tryz.func64|exact Tryz.func65|exact Tryz.func66|exact Tryz.func67|exact Tryz.func68|exact Tryz.func69|exact Tryz.func70|exact Tryz.func71|exact Tryz.func72|exact Tryz.func73|exact Tryz.func74|exact Tryz.func75|exact Tryz.func76|exact Tryz.func77|exact Tryz.func78|exact Tryz.func79|exact Tryz.func80|exact Tryz.func81|exact Tryz.func82|exact Tryz.func83|exact Tryz.func84|exact Tryz.func85|exact Tryz.func86|exact Tryz.func87|exact Tryz.func88|exact Tryz.func89|exact Tryz.func90|exact Tryz.func91|exact Tryz.func92|exact Tryz.func93|exact Tryz.func94|exact Tryz.func95|exact Tryz.func96|exact Tryz.func100|exact Tryz.func101|exact Tryz.func102|exact Tryz.func104|exact Tryz.func105|exact Tryz.func106|exact Tryz.func108|exact Tryz.func109|exact Tryz.func110|exact Tryz.func111|exact Tryz.func112|exact Tryz.func113|exact Tryz.func114|exact Tryz.func115|exact Tryz.func116|exact Tryz.func117|exact Tryz.func118|exact Tryz.func120|exact Tryz.func121|exact Tryz.func122|exact Tryz.func123|exact Tryz.func124|exact Tryz.func125|exact Tryz.func126|exact Tryz.func127|exact Tryz.func128|exact Tryz.func129|exact Tryz.func130|exact Tryz.func131|exact Tryz.func132|exact Tryz.func133|exact Tryz.func134|exact Tryz.func135|exact Tryz.func136|exact Tryz.func137|exact Tryz.func138|exact Tryz.func148|exact Tryz.func149|exact Tryz.func150|exact Tryz.func151|exact Tryz.func152|exact Tryz.func153|exact Tryz.func154|exact Tryz.func155|exact Tryz.func156|exact Tryz.func158|exact Tryz.func160|exact Tryz.func161|exact Tryz.func162|exact Tryz.func197|exact Tryz.func199|exact Tryz.func200|exact Tryz.func201|exact Tryz.func202|exact Tryz.func203|exact Tryz.func207|exact Tryz.func208|exact Tryz.func209|exact Tryz.func230|exact Tryz.func231|exact Tryz.func238|exact Tryz.func239|exact Tryz.func240|exact Tryz.func241|exact Tryz.func257):p:=h
theorem aOr {p:Prop} (h:p:=by first|((with_reducible apply aBX);exact rfl;exact rfl)|((with_reducible apply V_rvG);exact bI;exact cJ;exact aJv;exact aFL;exact rfl;exact rfl)|((with_reducible apply V_rvB);exact bI;exact cJ;exact aJv;exact aAv;exact rfl)):p:=h
theorem st_X {p:Prop} (h:p:=by
 (repeat (first
  |exact bD
  |(with_reducible apply Exists.intro)
  |((with_reducible apply And.intro);· first|exact bD|(with_reducible assumption)|exact (Option.some.inj (by with_reducible assumption)).symm|exact rfl|assumption|exact zR _|exact nB|exact aGC _|(apply st_rK;assumption;exact nB)|(apply st_cK;assumption;exact nB)|exact jM (by assumption))
  |(with_reducible assumption)|exact lY|exact rfl|assumption));first|done|fail):p:=h
theorem aEh {p q:Prop} (k:q) (h:Hd q->p:=by
 intro hk
 (first|apply st_ca|apply st_cb|apply st_cq);exact st_call;(first|(with_reducible intro z z)|skip);(first|((with_reducible first|apply aFz|apply aLa|apply aFW|apply aDm|apply aCc|apply aLb|apply aGq|apply aKZ|apply aLS|apply aLT|apply aKj|apply aHo|apply aDb|apply aMR|apply aDc|apply aNY|apply aEB|apply aEC|apply aIb|apply aFw|apply aDo|apply yJ|apply gS|apply wD|apply yK|apply aAh|apply aGT|apply aGr|apply tK|apply aAS|apply aEH|apply aKl|apply aGS|apply aHp|apply aJk|apply vO|apply aAQ|apply aAR|apply rA|apply oV|apply lC|apply xD|apply sX|apply mP|apply nP|apply jO|apply nG|apply aAC|apply aAr|apply eU|apply rB|apply xE|apply nO|apply aFt|apply iK|apply kG|apply pG|apply wC|apply aAf|apply aHt|apply aAP|apply aIe|apply aEG|apply aFs|apply aJB|apply aPp|apply uM|apply aEY|apply yT|apply xC|apply aAB|apply yB|apply aId|apply aEF|apply aCL|apply sW|apply lJ|apply aEy|apply aDk|apply aIf|apply aFu|apply aIg|apply aJC|apply aBJ|apply aBK|apply rM|apply iM|apply yU|apply aJl|apply oW|apply aCN|apply aJA|apply aNU|apply aMM|apply aNV|apply aLQ|apply aNW|apply aMN|apply aDl|apply aKW|apply aHW|apply yA|apply xB|apply aEX|apply aKX|apply aMO|apply aHX|apply aHY|apply aCs|apply aEz|apply aHZ|apply aEA|apply aNX|apply aMP|apply aPo|apply aIa|apply aLR|apply aHm|apply aMQ|apply aKY|apply aHn|apply aHq|apply aDp|apply vP|apply tE|apply aLc|apply wE|apply aKm|apply aEI|apply aGU|apply aFx|apply aLd|apply aFy|apply yV|apply kY|apply aFv|apply yG|apply iQ|apply yH|apply yI|apply aBL|apply aBM|apply aBW|apply mX|apply aBN|apply cB);with_reducible assumption)|(with_reducible apply aED;with_reducible assumption)|(with_reducible apply bM;with_reducible assumption)|(with_reducible apply qZ;with_reducible assumption)|(with_reducible apply rU;with_reducible assumption)|(with_reducible apply vN;with_reducible assumption)|(with_reducible apply aHs;with_reducible assumption)|(with_reducible apply aEE;with_reducible assumption)|(with_reducible apply uN;with_reducible assumption)|(with_reducible apply kA;with_reducible assumption)|(with_reducible apply uO;with_reducible assumption)|(with_reducible apply kC;with_reducible assumption)|(with_reducible apply tX;with_reducible assumption)|(with_reducible apply aBV;with_reducible assumption)|(with_reducible apply aDn;with_reducible assumption)|(with_reducible apply aBI;with_reducible assumption)|(with_reducible apply pH;with_reducible assumption)|(with_reducible apply aAg;with_reducible assumption)|(with_reducible apply aGR;with_reducible assumption)|(with_reducible apply yF;with_reducible assumption)|(with_reducible apply aIc;with_reducible assumption)|(with_reducible apply pC;with_reducible assumption)|(with_reducible apply aCM;with_reducible assumption)|(with_reducible apply tW;with_reducible assumption)|(with_reducible apply aBU;with_reducible assumption)|(with_reducible apply aKk;with_reducible assumption)|(with_reducible apply uP;with_reducible assumption)|(with_reducible apply kD;with_reducible assumption)|(with_reducible apply xA;with_reducible assumption)|(with_reducible apply uL;with_reducible assumption)|(with_reducible apply lib_Cut;all_goals (try with_reducible assumption))|(with_reducible apply lib_Split;all_goals (try with_reducible assumption))|(with_reducible apply aLD;all_goals (try with_reducible assumption))|(with_reducible apply lib_Mul;all_goals (try with_reducible assumption))|(with_reducible apply lib_Join;all_goals (try with_reducible assumption))|(with_reducible apply aHV;all_goals (try with_reducible assumption))|(with_reducible apply aLE;all_goals (try with_reducible assumption))|(with_reducible apply aLP;all_goals (try with_reducible assumption))|(with_reducible apply lib_SortStr;all_goals (try with_reducible assumption))|(with_reducible apply lib_SortEdge;all_goals (try with_reducible assumption))|(with_reducible apply lib_GrowStr;all_goals (try with_reducible assumption)));(case hv=>exact rfl);(repeat (first|assumption|exact lY|(apply st_rK;assumption;exact nB)|(apply st_cK;assumption;exact nB)|exact aGC _|exact nB|exact zR _|exact rfl|exact jM (by assumption)));exact hk.k;first|done|fail):p:=h ⟨k⟩
set_option maxRecDepth 100000 in
theorem aI {p:Prop} (h:p:=by
 repeat' (first
  |(apply st_i;exact bI;exact bI;exact cJ;exact cJ;exact rfl;exact st_S;exact rfl;intro z z zr;first|(have zr:=st_pd zr;subst zr)|obtain ⟨z,z,rfl,z⟩:=zr|obtain ⟨z,z,z,z,rfl,z,z⟩:=zr|obtain ⟨z,z,z,z,z,z,rfl,z,z,z⟩:=zr|obtain ⟨z,z,z,z,z,z,z,z,rfl,z,z,z,z⟩:=zr)
  |(apply st_iQ;exact bI;exact bI;exact cJ;exact cJ;exact rfl;exact st_S;exact rfl;intro z z zr;first|(have zr:=st_pd zr;subst zr)|obtain ⟨z,z,rfl,z⟩:=zr|obtain ⟨z,z,z,z,rfl,z,z⟩:=zr|obtain ⟨z,z,z,z,z,z,rfl,z,z,z⟩:=zr|obtain ⟨z,z,z,z,z,z,z,z,rfl,z,z,z,z⟩:=zr)
  |(apply st_iE;exact rfl;exact bI;exact bI;exact cJ;exact cJ;exact rfl;exact st_S;exact rfl;intro z z zr;first|(have zr:=st_pd zr;subst zr)|obtain ⟨z,z,rfl,z⟩:=zr|obtain ⟨z,z,z,z,rfl,z,z⟩:=zr|obtain ⟨z,z,z,z,z,z,rfl,z,z,z⟩:=zr|obtain ⟨z,z,z,z,z,z,z,z,rfl,z,z,z,z⟩:=zr)
  |(apply VO;exact aKS)
  |(apply VQ;intro _ _;exact aKS)
  |(apply aL)
  |with_reducible apply aC
  |with_reducible apply iC
  |(apply bB)
  |(apply bR)
  |(apply cN)
  |(apply aAZ)
  |(apply aPi;exact bI;exact zJ)
  |(apply aPj;exact bI;exact zJ)
  |with_reducible apply iW
  |with_reducible apply uB
  |(with_reducible apply aIx;exact rfl)
  |(apply V_onT;exact rfl;exact bI;exact zJ)
  |(apply V_onF;exact rfl;exact bI;exact zJ)
  |(apply V_offF;exact rfl;exact bI;exact zJ)
  |(apply V_offT;exact rfl;exact bI;exact zJ)
  |(apply Q_onT;exact rfl;exact bI;exact zJ)
  |(apply Q_onF;exact rfl;exact bI;exact zJ)
  |(apply Q_offF;exact rfl;exact bI;exact zJ)
  |(apply Q_offT;exact rfl;exact bI;exact zJ)
  |(apply aMt;exact rfl;exact bI)
  |(apply aMx;exact rfl;exact bI)
  |(apply V_WE;exact rfl;rintro _ ⟨_,_⟩;exact aKS)
  |(apply V_WT;exact rfl;intro _;exact aKS)
  |apply jJ
  |with_reducible apply bE
  |with_reducible apply fE
  |exact st_X
  |(apply nR;exact rfl;exact rfl;refine aLz hm (fun z=>?_);subst z;exact st_X)
  |(apply aOT;exact rfl;exact rfl;exact rfl;refine aLz hm (fun z=>?_);subst z;exact st_X)
  |(apply retQ_3;exact rfl;exact rfl;exact rfl;exact rfl;refine aLz hm (fun z=>?_);subst z;exact st_X)
  |(apply retQ_m1;exact rfl;exact aOr;refine aLz hm (fun z=>?_);subst z;exact st_X)
  |(apply aDt;exact rfl;exact aOr;exact aOr;refine aLz hm (fun z=>?_);subst z;exact st_X)
  |(apply aMa;exact rfl;exact aOr;exact aOr;exact aOr;refine aLz hm (fun z=>?_);subst z;exact st_X)
  |(apply retQ_0n;exact rfl;refine aLz hm (fun z=>?_);subst z;exact st_X)
  |(apply retQ_0;exact rfl;refine aLz hm (fun z=>?_);subst z;exact st_X)
  |(refine cM st_f ?_)
  |intro (hm:(_:Option _)=some _)
  |intro (hr:∀ r',_=Sum.inr r'->_)
  |(with_reducible refine aDg fun z=>?_)
  |(with_reducible refine aDh ?_)
  |(intro (zv:(_:Value)=_);subst zv)
  |intro z
  |((with_reducible apply st_we);first|exact ⟨_,by assumption⟩|exact ⟨_,aD.weakK (by assumption) nB⟩)
  |(apply eQ;exact rfl)
  |(apply aFJ;exact rfl)
  |apply yO
  |(have zq:=hr _ (Option.some.inj hm).symm;subst zq;have hm:=ho;clear hr ho;try dsimp only at hm)
  |obtain ⟨z,z,hm⟩:=aB hm
  |exact st_no hm
  |refine iN (fun z z z=>?_)
  |refine gM (fun z z=>?_)
  |refine oE (fun z z z=>?_)
  |refine st_ba (by with_reducible assumption) (fun z z z=>?_)
  |refine lI (T:=24) ([]:List aJ) (fun z z z=>?_)
  |refine lI (T:=25) ([]:List Edge) (fun z z z=>?_)
  |refine lI (T:=30) ([]:List Int) (fun z z z=>?_)
  |refine aGF (fun z z z z=>?_)
  |(apply st_q2;exact bI;exact bI;(first|assumption|(apply st_rK;assumption;exact nB));assumption;exact st_M;assumption;exact st_S;exact st_u;exact st_e;exact rfl;exact rfl;exact rfl;exact rfl;intro z z z z)
  |(apply wH;intro z z)
  |refine aLO ?_
  |(apply cA)
  |(refine aEh ?_;first|(intro z z;repeat (first|(with_reducible refine aDg fun z=>?_)|with_reducible refine aDh ?_|(intro (zv:(_:Value)=_);subst zv)|intro z))|skip)
  |((first|(apply pT;(with_reducible assumption);exact .head;(first|exact zR _|exact nB);intro zK zh zr zs bk)|(apply pU;(with_reducible assumption);exact .head;intro zK zh zr zs bk));refine aEh ?_;(first|(intro z z;repeat (first|(with_reducible refine aDg fun z=>?_)|with_reducible refine aDh ?_|(intro (zv:(_:Value)=_);subst zv)|intro z))|skip);(have z:=bk _ _ (by with_reducible assumption);clear bk))
  |((first|(apply pT;(with_reducible assumption);exact (.tail .head);(first|exact zR _|exact nB);intro zK zh zr zs bk)|(apply pU;(with_reducible assumption);exact (.tail .head);intro zK zh zr zs bk));refine aEh ?_;(first|(intro z z;repeat (first|(with_reducible refine aDg fun z=>?_)|with_reducible refine aDh ?_|(intro (zv:(_:Value)=_);subst zv)|intro z))|skip);(have z:=bk _ _ (by with_reducible assumption);clear bk))
  |((first|(apply pT;(with_reducible assumption);exact (.tail (.tail .head));(first|exact zR _|exact nB);intro zK zh zr zs bk)|(apply pU;(with_reducible assumption);exact (.tail (.tail .head));intro zK zh zr zs bk));refine aEh ?_;(first|(intro z z;repeat (first|(with_reducible refine aDg fun z=>?_)|with_reducible refine aDh ?_|(intro (zv:(_:Value)=_);subst zv)|intro z))|skip);(have z:=bk _ _ (by with_reducible assumption);clear bk))
  |((first|(apply pT;(with_reducible assumption);exact (.tail (.tail (.tail .head)));(first|exact zR _|exact nB);intro zK zh zr zs bk)|(apply pU;(with_reducible assumption);exact (.tail (.tail (.tail .head)));intro zK zh zr zs bk));refine aEh ?_;(first|(intro z z;repeat (first|(with_reducible refine aDg fun z=>?_)|with_reducible refine aDh ?_|(intro (zv:(_:Value)=_);subst zv)|intro z))|skip);(have z:=bk _ _ (by with_reducible assumption);clear bk))
  |((first|(apply pT;(with_reducible assumption);exact (.tail (.tail (.tail (.tail .head))));(first|exact zR _|exact nB);intro zK zh zr zs bk)|(apply pU;(with_reducible assumption);exact (.tail (.tail (.tail (.tail .head))));intro zK zh zr zs bk));refine aEh ?_;(first|(intro z z;repeat (first|(with_reducible refine aDg fun z=>?_)|with_reducible refine aDh ?_|(intro (zv:(_:Value)=_);subst zv)|intro z))|skip);(have z:=bk _ _ (by with_reducible assumption);clear bk))
  |((first|(apply pT;(with_reducible assumption);exact .head;(first|exact zR _|exact nB);intro zK zh zr zs bk)|(apply pU;(with_reducible assumption);exact .head;intro zK zh zr zs bk));(first|(apply pT;(with_reducible assumption);exact .head;(first|exact zR _|exact nB);intro zK zh zr zs bk)|(apply pU;(with_reducible assumption);exact .head;intro zK zh zr zs bk));refine aEh ?_;(first|(intro z z;repeat (first|(with_reducible refine aDg fun z=>?_)|with_reducible refine aDh ?_|(intro (zv:(_:Value)=_);subst zv)|intro z))|skip);(have z:=bk _ _ (by with_reducible assumption);clear bk);(have z:=bk _ _ (by with_reducible assumption);clear bk))
  |((first|(apply pT;(with_reducible assumption);exact (.tail .head);(first|exact zR _|exact nB);intro zK zh zr zs bk)|(apply pU;(with_reducible assumption);exact (.tail .head);intro zK zh zr zs bk));(first|(apply pT;(with_reducible assumption);exact (.tail .head);(first|exact zR _|exact nB);intro zK zh zr zs bk)|(apply pU;(with_reducible assumption);exact (.tail .head);intro zK zh zr zs bk));refine aEh ?_;(first|(intro z z;repeat (first|(with_reducible refine aDg fun z=>?_)|with_reducible refine aDh ?_|(intro (zv:(_:Value)=_);subst zv)|intro z))|skip);(have z:=bk _ _ (by with_reducible assumption);clear bk);(have z:=bk _ _ (by with_reducible assumption);clear bk))
  |((first|(apply pT;(with_reducible assumption);exact (.tail .head);(first|exact zR _|exact nB);intro zK zh zr zs bk)|(apply pU;(with_reducible assumption);exact (.tail .head);intro zK zh zr zs bk));(first|(apply pT;(with_reducible assumption);exact .head;(first|exact zR _|exact nB);intro zK zh zr zs bk)|(apply pU;(with_reducible assumption);exact .head;intro zK zh zr zs bk));refine aEh ?_;(first|(intro z z;repeat (first|(with_reducible refine aDg fun z=>?_)|with_reducible refine aDh ?_|(intro (zv:(_:Value)=_);subst zv)|intro z))|skip);(have z:=bk _ _ (by with_reducible assumption);clear bk);(have z:=bk _ _ (by with_reducible assumption);clear bk))
  |((first|(apply pT;(with_reducible assumption);exact (.tail (.tail .head));(first|exact zR _|exact nB);intro zK zh zr zs bk)|(apply pU;(with_reducible assumption);exact (.tail (.tail .head));intro zK zh zr zs bk));(first|(apply pT;(with_reducible assumption);exact (.tail .head);(first|exact zR _|exact nB);intro zK zh zr zs bk)|(apply pU;(with_reducible assumption);exact (.tail .head);intro zK zh zr zs bk));refine aEh ?_;(first|(intro z z;repeat (first|(with_reducible refine aDg fun z=>?_)|with_reducible refine aDh ?_|(intro (zv:(_:Value)=_);subst zv)|intro z))|skip);(have z:=bk _ _ (by with_reducible assumption);clear bk);(have z:=bk _ _ (by with_reducible assumption);clear bk))
  |((first|(apply pT;(with_reducible assumption);exact (.tail (.tail .head));(first|exact zR _|exact nB);intro zK zh zr zs bk)|(apply pU;(with_reducible assumption);exact (.tail (.tail .head));intro zK zh zr zs bk));(first|(apply pT;(with_reducible assumption);exact (.tail .head);(first|exact zR _|exact nB);intro zK zh zr zs bk)|(apply pU;(with_reducible assumption);exact (.tail .head);intro zK zh zr zs bk));(first|(apply pT;(with_reducible assumption);exact (.tail .head);(first|exact zR _|exact nB);intro zK zh zr zs bk)|(apply pU;(with_reducible assumption);exact (.tail .head);intro zK zh zr zs bk));refine aEh ?_;(first|(intro z z;repeat (first|(with_reducible refine aDg fun z=>?_)|with_reducible refine aDh ?_|(intro (zv:(_:Value)=_);subst zv)|intro z))|skip);(have z:=bk _ _ (by with_reducible assumption);clear bk);(have z:=bk _ _ (by with_reducible assumption);clear bk);(have z:=bk _ _ (by with_reducible assumption);clear bk))
  |((first|(apply pT;(with_reducible assumption);exact .head;(first|exact zR _|exact nB);intro zK zh zr zs bk)|(apply pU;(with_reducible assumption);exact .head;intro zK zh zr zs bk));(first|(apply pT;(with_reducible assumption);exact .head;(first|exact zR _|exact nB);intro zK zh zr zs bk)|(apply pU;(with_reducible assumption);exact .head;intro zK zh zr zs bk));(first|(apply pT;(with_reducible assumption);exact .head;(first|exact zR _|exact nB);intro zK zh zr zs bk)|(apply pU;(with_reducible assumption);exact .head;intro zK zh zr zs bk));refine aEh ?_;(first|(intro z z;repeat (first|(with_reducible refine aDg fun z=>?_)|with_reducible refine aDh ?_|(intro (zv:(_:Value)=_);subst zv)|intro z))|skip);(have z:=bk _ _ (by with_reducible assumption);clear bk);(have z:=bk _ _ (by with_reducible assumption);clear bk);(have z:=bk _ _ (by with_reducible assumption);clear bk))
  |((first|(apply pT;(with_reducible assumption);exact (.tail .head);(first|exact zR _|exact nB);intro zK zh zr zs bk)|(apply pU;(with_reducible assumption);exact (.tail .head);intro zK zh zr zs bk));(first|(apply pT;(with_reducible assumption);exact (.tail .head);(first|exact zR _|exact nB);intro zK zh zr zs bk)|(apply pU;(with_reducible assumption);exact (.tail .head);intro zK zh zr zs bk));(first|(apply pT;(with_reducible assumption);exact (.tail .head);(first|exact zR _|exact nB);intro zK zh zr zs bk)|(apply pU;(with_reducible assumption);exact (.tail .head);intro zK zh zr zs bk));refine aEh ?_;(first|(intro z z;repeat (first|(with_reducible refine aDg fun z=>?_)|with_reducible refine aDh ?_|(intro (zv:(_:Value)=_);subst zv)|intro z))|skip);(have z:=bk _ _ (by with_reducible assumption);clear bk);(have z:=bk _ _ (by with_reducible assumption);clear bk);(have z:=bk _ _ (by with_reducible assumption);clear bk))
  |((first|(apply pT;(with_reducible assumption);exact (.tail (.tail (.tail .head)));(first|exact zR _|exact nB);intro zK zh zr zs bk)|(apply pU;(with_reducible assumption);exact (.tail (.tail (.tail .head)));intro zK zh zr zs bk));(first|(apply pT;(with_reducible assumption);exact (.tail (.tail .head));(first|exact zR _|exact nB);intro zK zh zr zs bk)|(apply pU;(with_reducible assumption);exact (.tail (.tail .head));intro zK zh zr zs bk));(first|(apply pT;(with_reducible assumption);exact (.tail (.tail .head));(first|exact zR _|exact nB);intro zK zh zr zs bk)|(apply pU;(with_reducible assumption);exact (.tail (.tail .head));intro zK zh zr zs bk));refine aEh ?_;(first|(intro z z;repeat (first|(with_reducible refine aDg fun z=>?_)|with_reducible refine aDh ?_|(intro (zv:(_:Value)=_);subst zv)|intro z))|skip);(have z:=bk _ _ (by with_reducible assumption);clear bk);(have z:=bk _ _ (by with_reducible assumption);clear bk);(have z:=bk _ _ (by with_reducible assumption);clear bk))
  |((first|(apply pT;(with_reducible assumption);exact .head;(first|exact zR _|exact nB);intro zK zh zr zs bk)|(apply pU;(with_reducible assumption);exact .head;intro zK zh zr zs bk));(first|(apply pT;(with_reducible assumption);exact .head;(first|exact zR _|exact nB);intro zK zh zr zs bk)|(apply pU;(with_reducible assumption);exact .head;intro zK zh zr zs bk));(first|(apply pT;(with_reducible assumption);exact .head;(first|exact zR _|exact nB);intro zK zh zr zs bk)|(apply pU;(with_reducible assumption);exact .head;intro zK zh zr zs bk));(first|(apply pT;(with_reducible assumption);exact .head;(first|exact zR _|exact nB);intro zK zh zr zs bk)|(apply pU;(with_reducible assumption);exact .head;intro zK zh zr zs bk));refine aEh ?_;(first|(intro z z;repeat (first|(with_reducible refine aDg fun z=>?_)|with_reducible refine aDh ?_|(intro (zv:(_:Value)=_);subst zv)|intro z))|skip);(have z:=bk _ _ (by with_reducible assumption);clear bk);(have z:=bk _ _ (by with_reducible assumption);clear bk);(have z:=bk _ _ (by with_reducible assumption);clear bk);(have z:=bk _ _ (by with_reducible assumption);clear bk))
  |((first|(with_reducible apply st_g0)|(with_reducible apply st_g1)|(with_reducible apply st_g2)|(with_reducible apply st_g3)|(apply st_g4;exact rfl));rcases aG hm with ⟨z,hm⟩|⟨z,hm⟩))):p:=h
end Gv
