/- Readings of the program's data; what is known of its types. -/
import Derived.Test.YtohbafhnoifmoaaGreatDoorTJYS
import Derived.Test.YtohbafhnoifmoaaGreatDoorTJS
import Derived.Test.YtohbafhnoifmoaaGreatDoorProg
import Derived.KernelRfl
set_option linter.all false
namespace Gv
open Go.Value renaming slice→zS
open Go Go.Proofs
instance:gF Edge where
 sz:=3
 enc d:=[i64 d.F,i64 d.B,i64 d.To]
 len _:=rfl
 one _ v h:=by simp at h;rcases h with rfl|rfl|rfl<;>rfl
 pos:=by decide
instance:El cG where
 sz:=4
 rd K cs d:=∃ (a0:Option Addr) (c0:Nat) (a1:Option Addr) (c1:Nat),cs=[i64 d.N,i64 d.I,zS a0 d.L.length c0,zS a1 d.E.length c1]∧cX K a0 c0 d.L∧cX K a1 c1 d.E
 mono:=fun h ⟨a0,c0,a1,c1,e,h0,h1⟩=>⟨a0,c0,a1,c1,e,h0.mono h,h1.mono h⟩
 len:=fun ⟨_,_,_,_,e,_⟩=>by rw [e];rfl
 one:=fun ⟨_,_,_,_,e,_⟩ v hv=>by rw [e] at hv;simp at hv;rcases hv with rfl|rfl|rfl|rfl<;>rfl
 pos:=by decide
instance:gF oO where
 sz:=3
 enc d:=[i64 d.from_,str d.label,i64 d.to_]
 len _:=rfl
 one _ v h:=by simp at h;rcases h with rfl|rfl|rfl<;>rfl
 pos:=by decide
instance:El aY where
 sz:=3
 rd K cs d:=∃ (a0:Option Addr) (c0:Nat),cs=[i64 d.a,i64 d.b,zS a0 d.trace.length c0]∧cX K a0 c0 d.trace
 mono:=fun h ⟨a0,c0,e,h0⟩=>⟨a0,c0,e,h0.mono h⟩
 len:=fun ⟨_,_,e,_⟩=>by rw [e];rfl
 one:=fun ⟨_,_,e,_⟩ v hv=>by rw [e] at hv;simp at hv;rcases hv with rfl|rfl|rfl<;>rfl
 pos:=by decide
theorem bX:SLT Tryz.prog 24 9 1:=⟨Tryz.runUnderlying24,Tryz.sizeOf9⟩
theorem qB:SC Tryz.prog 9:=⟨Tryz.isAgg9,Tryz.sizeOf9⟩
theorem cF:SLT Tryz.prog 35 2 1:=⟨Tryz.runUnderlying35,Tryz.sizeOf2⟩
theorem jC:EZ Tryz.prog 2 [i64 0]:=⟨⟨_,Tryz.zeroValue2,rfl⟩,⟨Tryz.t2,Tryz.typeInfo2,by show (8:Nat)≤128;decide,rfl,by kernel_rfl,_,rfl,rfl⟩⟩
theorem gJ:EZ Tryz.prog 9 [str []]:=⟨⟨_,Tryz.zeroValue9,rfl⟩,⟨Tryz.t9,Tryz.typeInfo9,by show (16:Nat)≤128;decide,rfl,by kernel_rfl,_,rfl,rfl⟩⟩
theorem cK:SC Tryz.prog 2:=⟨Tryz.isAgg2,Tryz.sizeOf2⟩
theorem sl_22:SLT Tryz.prog 22 5 1:=⟨Tryz.runUnderlying22,Tryz.sizeOf5⟩
theorem bs_78:BS Tryz.prog 78 [(0,1),(1,1),(2,1)] [zS none 0 0,i64 0,Value.int .u64 0]:=⟨⟨_,Tryz.zeroValue78,rfl⟩,_,Tryz.runUnderlying78,fun w=>by simp [Tryz.sizeOf22,Tryz.sizeOf3,Tryz.sizeOf76]⟩
theorem hQ:FA Tryz.prog 69 0 0:=⟨_,_,_,Tryz.runUnderlying69,rfl,Tryz.sizeOf2,rfl,rfl⟩
theorem iZ:FA Tryz.prog 69 1 1:=⟨_,_,_,Tryz.runUnderlying69,rfl,Tryz.sizeOf2,rfl,rfl⟩
theorem gR:FA Tryz.prog 69 2 2:=⟨_,_,_,Tryz.runUnderlying69,rfl,Tryz.sizeOf2,rfl,rfl⟩
theorem cM:SLT Tryz.prog 25 69 3:=⟨Tryz.runUnderlying25,Tryz.sizeOf69⟩
theorem mQ:AG Tryz.prog 69 3:=⟨Tryz.isAgg69,Tryz.sizeOf69⟩
theorem aFy:BS Tryz.prog 69 [(0,1),(1,1),(2,1)] [i64 0,i64 0,i64 0]:=⟨⟨_,Tryz.zeroValue69,rfl⟩,_,Tryz.runUnderlying69,fun w=>by simp [Tryz.sizeOf2]⟩
theorem gZ:EZ Tryz.prog 69 [i64 0,i64 0,i64 0]:=⟨⟨_,Tryz.zeroValue69,rfl⟩,⟨Tryz.t69,Tryz.typeInfo69,by show (24:Nat)≤128;decide,rfl,by kernel_rfl,_,rfl,rfl⟩⟩
theorem rW:BS Tryz.prog 27 [(0,1),(1,1),(2,1),(3,1)] [i64 0,i64 0,zS none 0 0,zS none 0 0]:=⟨⟨_,Tryz.zeroValue27,rfl⟩,_,Tryz.runUnderlying27,fun w=>by simp [Tryz.sizeOf2,Tryz.sizeOf24,Tryz.sizeOf25]⟩
theorem fL:FA Tryz.prog 27 2 2:=⟨_,_,_,Tryz.runUnderlying27,rfl,Tryz.sizeOf24,rfl,rfl⟩
theorem iT:SC Tryz.prog 24:=⟨Tryz.isAgg24,Tryz.sizeOf24⟩
theorem cV:FA Tryz.prog 27 3 3:=⟨_,_,_,Tryz.runUnderlying27,rfl,Tryz.sizeOf25,rfl,rfl⟩
theorem fH:SC Tryz.prog 25:=⟨Tryz.isAgg25,Tryz.sizeOf25⟩
theorem dJ:AG Tryz.prog 27 4:=⟨Tryz.isAgg27,Tryz.sizeOf27⟩
theorem oP:FA Tryz.prog 27 1 1:=⟨_,_,_,Tryz.runUnderlying27,rfl,Tryz.sizeOf2,rfl,rfl⟩
theorem gS:FA Tryz.prog 27 0 0:=⟨_,_,_,Tryz.runUnderlying27,rfl,Tryz.sizeOf2,rfl,rfl⟩
theorem fO:SLT Tryz.prog 117 4 1:=⟨Tryz.runUnderlying117,Tryz.sizeOf4⟩
theorem ez_4:EZ Tryz.prog 4 [Value.bool false]:=⟨⟨_,Tryz.zeroValue4,rfl⟩,⟨Tryz.t4,Tryz.typeInfo4,by show (1:Nat)≤128;decide,rfl,by kernel_rfl,_,rfl,rfl⟩⟩
theorem aDW:SC Tryz.prog 4:=⟨Tryz.isAgg4,Tryz.sizeOf4⟩
theorem oQ:SLT Tryz.prog 53 35 1:=⟨Tryz.runUnderlying53,Tryz.sizeOf35⟩
theorem aEB:EZ Tryz.prog 35 [zS none 0 0]:=⟨⟨_,Tryz.zeroValue35,rfl⟩,⟨Tryz.t35,Tryz.typeInfo35,by show (24:Nat)≤128;decide,rfl,by kernel_rfl,_,rfl,rfl⟩⟩
theorem aIt:SC Tryz.prog 35:=⟨Tryz.isAgg35,Tryz.sizeOf35⟩
theorem aGg:FA Tryz.prog 78 1 1:=⟨_,_,_,Tryz.runUnderlying78,rfl,Tryz.sizeOf3,rfl,rfl⟩
theorem sc_3:SC Tryz.prog 3:=⟨Tryz.isAgg3,Tryz.sizeOf3⟩
theorem aKO:FA Tryz.prog 78 0 0:=⟨_,_,_,Tryz.runUnderlying78,rfl,Tryz.sizeOf22,rfl,rfl⟩
theorem sc_22:SC Tryz.prog 22:=⟨Tryz.isAgg22,Tryz.sizeOf22⟩
theorem sc_5:SC Tryz.prog 5:=⟨Tryz.isAgg5,Tryz.sizeOf5⟩
theorem aKP:FA Tryz.prog 78 2 2:=⟨_,_,_,Tryz.runUnderlying78,rfl,Tryz.sizeOf76,rfl,rfl⟩
theorem sc_76:SC Tryz.prog 76:=⟨Tryz.isAgg76,Tryz.sizeOf76⟩
theorem aIv:SLT Tryz.prog 92 3 1:=⟨Tryz.runUnderlying92,Tryz.sizeOf3⟩
theorem ez_3:EZ Tryz.prog 3 [i64 0]:=⟨⟨_,Tryz.zeroValue3,rfl⟩,⟨Tryz.t3,Tryz.typeInfo3,by show (8:Nat)≤128;decide,rfl,by kernel_rfl,_,rfl,rfl⟩⟩
theorem aBn:SLT Tryz.prog 106 141 3:=⟨Tryz.runUnderlying106,Tryz.sizeOf141⟩
theorem ag_141:AG Tryz.prog 141 3:=⟨Tryz.isAgg141,Tryz.sizeOf141⟩
theorem fa_141_0:FA Tryz.prog 141 0 0:=⟨_,_,_,Tryz.runUnderlying141,rfl,Tryz.sizeOf2,rfl,rfl⟩
theorem aLH:FA Tryz.prog 141 1 1:=⟨_,_,_,Tryz.runUnderlying141,rfl,Tryz.sizeOf9,rfl,rfl⟩
theorem fa_141_2:FA Tryz.prog 141 2 2:=⟨_,_,_,Tryz.runUnderlying141,rfl,Tryz.sizeOf2,rfl,rfl⟩
theorem bs_141:BS Tryz.prog 141 [(0,1),(1,1),(2,1)] [i64 0,str [],i64 0]:=⟨⟨_,Tryz.zeroValue141,rfl⟩,_,Tryz.runUnderlying141,fun w=>by simp [Tryz.sizeOf2,Tryz.sizeOf9]⟩
theorem aEC:EZ Tryz.prog 141 [i64 0,str [],i64 0]:=⟨⟨_,Tryz.zeroValue141,rfl⟩,⟨Tryz.t141,Tryz.typeInfo141,by show (32:Nat)≤128;decide,rfl,by kernel_rfl,_,rfl,rfl⟩⟩
theorem bs_139:BS Tryz.prog 139 [(0,1),(1,1),(2,1),(3,1)] [zS none 0 0,Value.map none,zS none 0 0,Value.nilFunc]:=⟨⟨_,Tryz.zeroValue139,rfl⟩,_,Tryz.runUnderlying139,fun w=>by simp [Tryz.sizeOf102,Tryz.sizeOf106,Tryz.sizeOf137,Tryz.sizeOf53]⟩
theorem aCh:SC Tryz.prog 136:=⟨Tryz.isAgg136,Tryz.sizeOf136⟩
theorem fa_139_3:FA Tryz.prog 139 3 3:=⟨_,_,_,Tryz.runUnderlying139,rfl,Tryz.sizeOf102,rfl,rfl⟩
theorem sc_102:SC Tryz.prog 102:=⟨Tryz.isAgg102,Tryz.sizeOf102⟩
theorem aLI:FA Tryz.prog 139 1 1:=⟨_,_,_,Tryz.runUnderlying139,rfl,Tryz.sizeOf137,rfl,rfl⟩
theorem sc_137:SC Tryz.prog 137:=⟨Tryz.isAgg137,Tryz.sizeOf137⟩
theorem ko_9:aHn Tryz.prog 9 aU:=keyOk_str Tryz.runUnderlying9
theorem aAP:FA Tryz.prog 139 0 0:=⟨_,_,_,Tryz.runUnderlying139,rfl,Tryz.sizeOf53,rfl,rfl⟩
theorem aIw:SC Tryz.prog 53:=⟨Tryz.isAgg53,Tryz.sizeOf53⟩
theorem aDp:FA Tryz.prog 139 2 2:=⟨_,_,_,Tryz.runUnderlying139,rfl,Tryz.sizeOf106,rfl,rfl⟩
theorem aIx:SC Tryz.prog 106:=⟨Tryz.isAgg106,Tryz.sizeOf106⟩
theorem aED:SLT Tryz.prog 32 24 1:=⟨Tryz.runUnderlying32,Tryz.sizeOf24⟩
theorem ez_24:EZ Tryz.prog 24 [zS none 0 0]:=⟨⟨_,Tryz.zeroValue24,rfl⟩,⟨Tryz.t24,Tryz.typeInfo24,by show (24:Nat)≤128;decide,rfl,by kernel_rfl,_,rfl,rfl⟩⟩
theorem fv_27_2:FV Tryz.prog 27 2 2:=⟨_,_,Tryz.runUnderlying27,rfl,iT,rfl⟩
theorem aDq:BS Tryz.prog 65 [(0,1),(1,1),(2,1)] [i64 0,i64 0,zS none 0 0]:=⟨⟨_,Tryz.zeroValue65,rfl⟩,_,Tryz.runUnderlying65,fun w=>by simp [Tryz.sizeOf2,Tryz.sizeOf24]⟩
theorem kP:SLT Tryz.prog 66 65 3:=⟨Tryz.runUnderlying66,Tryz.sizeOf65⟩
theorem sE:EZ Tryz.prog 65 [i64 0,i64 0,zS none 0 0]:=⟨⟨_,Tryz.zeroValue65,rfl⟩,⟨Tryz.t65,Tryz.typeInfo65,by show (40:Nat)≤128;decide,rfl,by kernel_rfl,_,rfl,rfl⟩⟩
theorem ag_65:AG Tryz.prog 65 3:=⟨Tryz.isAgg65,Tryz.sizeOf65⟩
theorem tX:FA Tryz.prog 65 0 0:=⟨_,_,_,Tryz.runUnderlying65,rfl,Tryz.sizeOf2,rfl,rfl⟩
theorem vZ:FA Tryz.prog 65 1 1:=⟨_,_,_,Tryz.runUnderlying65,rfl,Tryz.sizeOf2,rfl,rfl⟩
theorem aGH:ART Tryz.prog 127 2 2:=⟨Tryz.runUnderlying127,Tryz.isAgg2,Tryz.sizeOf2⟩
theorem aGI:∃ z,(∀ w,(zeroValue 127).run Tryz.prog w=.ok z w)∧z.cells=[i64 0,i64 0].toArray:=⟨_,Tryz.zeroValue127,rfl⟩
theorem aGJ:aHn Tryz.prog 127 (Int × Int):=aMR Tryz.runUnderlying127 Tryz.runUnderlying2 ⟨Tryz.isAgg2,Tryz.sizeOf2⟩
theorem aDX:FA Tryz.prog 65 2 2:=⟨_,_,_,Tryz.runUnderlying65,rfl,Tryz.sizeOf24,rfl,rfl⟩
theorem st_69:Tryz.prog.stoodInHeld 69=false:=by kernel_rfl
theorem eq_69 {x y:Edge}:EQT Tryz.prog 69 [i64 x.F,i64 x.B,i64 x.To] [i64 y.F,i64 y.B,i64 y.To] (decide (x=y)):=by
 refine ⟨by kernel_rfl,fun w=>?_⟩
 have h2:∀ (a b:Int),(Op.equalIn 9999 2 (i64 a) (i64 b)).run Tryz.prog w=.ok (a == b) w:=fun a b=>run_eqInI 9998 (Tryz.runUnderlying2 w)
 have:Op.maxDepth=9999+1:=rfl
 unfold Op.equal
 rw [this]
 unfold Op.equalIn
 simp [Tryz.runUnderlying69,st_69,part,h2,Tryz.isAgg2]
 cases x;cases y
 simp
 repeat' split<;>simp_all
theorem bZ:Tryz.prog.follows .mixedOrders=true:=by kernel_rfl
abbrev zC (d:cG) (a:Option Addr) (c:Nat) (b:Option Addr) (e:Nat):List Value:=[i64 d.N,i64 d.I,Value.slice a d.L.length c,Value.slice b d.E.length e]
abbrev zCa (d:cG) (a:Option Addr) (c:Nat) (b:Option Addr) (e:Nat):Array Value:=#[i64 d.N,i64 d.I,Value.slice a d.L.length c,Value.slice b d.E.length e]
abbrev zG:List Value:=[i64 0,i64 0,Value.slice none 0 0,Value.slice none 0 0]
abbrev zGa:Array Value:=#[i64 0,i64 0,Value.slice none 0 0,Value.slice none 0 0]
abbrev zK:List Value:=[i64 0,i64 0,Value.slice none 0 0,Value.slice none 0 0,Value.slice none 0 0,Value.slice none 0 0]
abbrev zKa:Array Value:=#[i64 0,i64 0,Value.slice none 0 0,Value.slice none 0 0,Value.slice none 0 0,Value.slice none 0 0]
end Gv
