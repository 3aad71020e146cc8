/- Readings of the program's data; what is known of its types. -/
import Derived.Test.YtnpdckpkipjngaaGreatDoorKXA
import Derived.Test.YtnpdckpkipjngaaGreatDoorKS
import Derived.Test.YtnpdckpkipjngaaGreatDoorProg
import Derived.KernelRfl
set_option linter.all false
namespace Gv
open Go.Value renaming slice→zS
open Go Go.Proofs
instance:fS Edge where
 sz:=3
 enc d:=[i64 d.F,i64 d.B,i64 d.To]
 len _:=rfl
 one _ v h:=by simp at h;rcases h with rfl|rfl|rfl<;>rfl
 pos:=by decide
instance:El cH where
 sz:=4
 rd K cs d:=∃ (a0:Option Addr) (c0:Nat) (a1:Option Addr) (c1:Nat),cs=[i64 d.N,i64 d.I,zS a0 d.L.length c0,zS a1 d.E.length c1]∧cJ K a0 c0 d.L∧cJ K a1 c1 d.E
 mono:=fun h ⟨a0,c0,a1,c1,e,h0,h1⟩=>⟨a0,c0,a1,c1,e,h0.mono h,h1.mono h⟩
 len:=fun ⟨_,_,_,_,e,_⟩=>by rw [e];rfl
 one:=fun ⟨_,_,_,_,e,_⟩ v hv=>by rw [e] at hv;simp at hv;rcases hv with rfl|rfl|rfl|rfl<;>rfl
 pos:=by decide
instance:El eZ where
 sz:=5
 rd K cs d:=∃ (a0:Option Addr) (c0:Nat) (a1:Option Addr) (c1:Nat) (a2:Option Addr) (c2:Nat),cs=[i64 d.S.N,i64 d.S.I,zS a0 d.S.L.length c0,zS a1 d.S.E.length c1,zS a2 d.Verdicts.length c2]∧cJ K a0 c0 d.S.L∧cJ K a1 c1 d.S.E∧cJ K a2 c2 d.Verdicts
 mono:=fun h ⟨a0,c0,a1,c1,a2,c2,e,h0,h1,h2⟩=>⟨a0,c0,a1,c1,a2,c2,e,h0.mono h,h1.mono h,h2.mono h⟩
 len:=fun ⟨_,_,_,_,_,_,e,_⟩=>by rw [e];rfl
 one:=fun ⟨_,_,_,_,_,_,e,_⟩ v hv=>by rw [e] at hv;simp at hv;rcases hv with rfl|rfl|rfl|rfl|rfl<;>rfl
 pos:=by decide
instance:fS lS where
 sz:=3
 enc d:=[i64 d.from_,cR d.label,i64 d.to_]
 len _:=rfl
 one _ v h:=by simp at h;rcases h with rfl|rfl|rfl<;>rfl
 pos:=by decide
instance:El eL where
 sz:=8
 rd K cs d:=∃ (a0:Option Addr) (c0:Nat) (a1:Option Addr) (c1:Nat) (a2:Option Addr) (c2:Nat) (a3:Option Addr) (c3:Nat),cs=[i64 d.t.N,i64 d.t.I,zS a0 d.t.L.length c0,zS a1 d.t.E.length c1,i64 d.p.N,i64 d.p.I,zS a2 d.p.L.length c2,zS a3 d.p.E.length c3]∧cJ K a0 c0 d.t.L∧cJ K a1 c1 d.t.E∧cJ K a2 c2 d.p.L∧cJ K a3 c3 d.p.E
 mono:=fun h ⟨a0,c0,a1,c1,a2,c2,a3,c3,e,h0,h1,h2,h3⟩=>⟨a0,c0,a1,c1,a2,c2,a3,c3,e,h0.mono h,h1.mono h,h2.mono h,h3.mono h⟩
 len:=fun ⟨_,_,_,_,_,_,_,_,e,_⟩=>by rw [e];rfl
 one:=fun ⟨_,_,_,_,_,_,_,_,e,_⟩ v hv=>by rw [e] at hv;simp at hv;rcases hv with rfl|rfl|rfl|rfl|rfl|rfl|rfl|rfl<;>rfl
 pos:=by decide
instance:El yM where
 sz:=2
 rd K cs d:=∃ (a0:Option Addr) (c0:Nat) (a1:Option Addr) (c1:Nat),cs=[zS a0 d.leave.length c0,zS a1 d.stay.length c1]∧cJ K a0 c0 d.leave∧cJ K a1 c1 d.stay
 mono:=fun h ⟨a0,c0,a1,c1,e,h0,h1⟩=>⟨a0,c0,a1,c1,e,h0.mono h,h1.mono h⟩
 len:=fun ⟨_,_,_,_,e,_⟩=>by rw [e];rfl
 one:=fun ⟨_,_,_,_,e,_⟩ v hv=>by rw [e] at hv;simp at hv;rcases hv with rfl|rfl<;>rfl
 pos:=by decide
instance:El dM where
 sz:=2
 rd K cs d:=∃ (a0:Option Addr) (c0:Nat),cs=[zS a0 d.states.length c0,i64 d.y]∧cJ K a0 c0 d.states
 mono:=fun h ⟨a0,c0,e,h0⟩=>⟨a0,c0,e,h0.mono h⟩
 len:=fun ⟨_,_,e,_⟩=>by rw [e];rfl
 one:=fun ⟨_,_,e,_⟩ v hv=>by rw [e] at hv;simp at hv;rcases hv with rfl|rfl<;>rfl
 pos:=by decide
instance:El cI where
 sz:=6
 rd K cs d:=∃ (a0:Option Addr) (c0:Nat) (a1:Option Addr) (c1:Nat) (a2:Option Addr) (c2:Nat) (a3:Option Addr) (c3:Nat),cs=[i64 d.S.N,i64 d.S.I,zS a0 d.S.L.length c0,zS a1 d.S.E.length c1,zS a2 d.M.length c2,zS a3 d.C.length c3]∧cJ K a0 c0 d.S.L∧cJ K a1 c1 d.S.E∧cJ K a2 c2 d.M∧cJ K a3 c3 d.C
 mono:=fun h ⟨a0,c0,a1,c1,a2,c2,a3,c3,e,h0,h1,h2,h3⟩=>⟨a0,c0,a1,c1,a2,c2,a3,c3,e,h0.mono h,h1.mono h,h2.mono h,h3.mono h⟩
 len:=fun ⟨_,_,_,_,_,_,_,_,e,_⟩=>by rw [e];rfl
 one:=fun ⟨_,_,_,_,_,_,_,_,e,_⟩ v hv=>by rw [e] at hv;simp at hv;rcases hv with rfl|rfl|rfl|rfl|rfl|rfl<;>rfl
 pos:=by decide
theorem cE:SLT Tryz.prog 22 9 1:=⟨Tryz.runUnderlying22,Tryz.sizeOf9⟩
theorem qR:SC Tryz.prog 9:=⟨Tryz.isAgg9,Tryz.sizeOf9⟩
theorem sl_23:SLT Tryz.prog 23 107 3:=⟨Tryz.runUnderlying23,Tryz.sizeOf107⟩
theorem fa_25_2:FA Tryz.prog 25 2 2:=⟨_,_,_,Tryz.runUnderlying25,rfl,Tryz.sizeOf22,rfl,rfl⟩
theorem jK:SC Tryz.prog 22:=⟨Tryz.isAgg22,Tryz.sizeOf22⟩
theorem fa_25_3:FA Tryz.prog 25 3 3:=⟨_,_,_,Tryz.runUnderlying25,rfl,Tryz.sizeOf23,rfl,rfl⟩
theorem sc_23:SC Tryz.prog 23:=⟨Tryz.isAgg23,Tryz.sizeOf23⟩
theorem oB:EZ Tryz.prog 9 [cR []]:=⟨⟨_,Tryz.zeroValue9,rfl⟩,⟨Tryz.t9,Tryz.typeInfo9,by show (16:Nat)≤128;decide,rfl,by kernel_rfl,_,rfl,rfl⟩⟩
theorem cG:SLT Tryz.prog 31 2 1:=⟨Tryz.runUnderlying31,Tryz.sizeOf2⟩
theorem sU:EZ Tryz.prog 2 [i64 0]:=⟨⟨_,Tryz.zeroValue2,rfl⟩,⟨Tryz.t2,Tryz.typeInfo2,by show (8:Nat)≤128;decide,rfl,by kernel_rfl,_,rfl,rfl⟩⟩
theorem iX:FA Tryz.prog 63 0 0:=⟨_,_,_,Tryz.runUnderlying63,rfl,Tryz.sizeOf2,rfl,rfl⟩
theorem dF:SC Tryz.prog 2:=⟨Tryz.isAgg2,Tryz.sizeOf2⟩
theorem gO:FA Tryz.prog 63 1 1:=⟨_,_,_,Tryz.runUnderlying63,rfl,Tryz.sizeOf2,rfl,rfl⟩
theorem lY:FA Tryz.prog 63 2 2:=⟨_,_,_,Tryz.runUnderlying63,rfl,Tryz.sizeOf2,rfl,rfl⟩
theorem aAR:FA Tryz.prog 30 0 0:=⟨_,_,_,Tryz.runUnderlying30,rfl,Tryz.sizeOf2,rfl,rfl⟩
theorem wV:FA Tryz.prog 30 1 1:=⟨_,_,_,Tryz.runUnderlying30,rfl,Tryz.sizeOf2,rfl,rfl⟩
theorem iO:FA Tryz.prog 30 2 2:=⟨_,_,_,Tryz.runUnderlying30,rfl,Tryz.sizeOf22,rfl,rfl⟩
theorem eO:FA Tryz.prog 30 3 3:=⟨_,_,_,Tryz.runUnderlying30,rfl,Tryz.sizeOf28,rfl,rfl⟩
theorem jQ:SC Tryz.prog 28:=⟨Tryz.isAgg28,Tryz.sizeOf28⟩
theorem cZ:SLT Tryz.prog 28 63 3:=⟨Tryz.runUnderlying28,Tryz.sizeOf63⟩
theorem oC:AG Tryz.prog 63 3:=⟨Tryz.isAgg63,Tryz.sizeOf63⟩
theorem aCc:SLT Tryz.prog 87 4 1:=⟨Tryz.runUnderlying87,Tryz.sizeOf4⟩
theorem ez_4:EZ Tryz.prog 4 [Value.bool false]:=⟨⟨_,Tryz.zeroValue4,rfl⟩,⟨Tryz.t4,Tryz.typeInfo4,by show (1:Nat)≤128;decide,rfl,by kernel_rfl,_,rfl,rfl⟩⟩
theorem sc_4:SC Tryz.prog 4:=⟨Tryz.isAgg4,Tryz.sizeOf4⟩
theorem aAm:EZ Tryz.prog 63 [i64 0,i64 0,i64 0]:=⟨⟨_,Tryz.zeroValue63,rfl⟩,⟨Tryz.t63,Tryz.typeInfo63,by show (24:Nat)≤128;decide,rfl,by kernel_rfl,_,rfl,rfl⟩⟩
theorem eQ:SLT Tryz.prog 49 31 1:=⟨Tryz.runUnderlying49,Tryz.sizeOf31⟩
theorem yN:EZ Tryz.prog 31 [zS none 0 0]:=⟨⟨_,Tryz.zeroValue31,rfl⟩,⟨Tryz.t31,Tryz.typeInfo31,by show (24:Nat)≤128;decide,rfl,by kernel_rfl,_,rfl,rfl⟩⟩
theorem kD:SC Tryz.prog 31:=⟨Tryz.isAgg31,Tryz.sizeOf31⟩
theorem bs_63:BS Tryz.prog 63 [(0,1),(1,1),(2,1)] [i64 0,i64 0,i64 0]:=⟨⟨_,Tryz.zeroValue63,rfl⟩,_,Tryz.runUnderlying63,fun w=>by simp [Tryz.sizeOf2]⟩
theorem bs_30:BS Tryz.prog 30 [(0,1),(1,1),(2,1),(3,1)] [i64 0,i64 0,zS none 0 0,zS none 0 0]:=⟨⟨_,Tryz.zeroValue30,rfl⟩,_,Tryz.runUnderlying30,fun w=>by simp [Tryz.sizeOf2,Tryz.sizeOf22,Tryz.sizeOf28]⟩
theorem fa_107_0:FA Tryz.prog 107 0 0:=⟨_,_,_,Tryz.runUnderlying107,rfl,Tryz.sizeOf2,rfl,rfl⟩
theorem fa_107_1:FA Tryz.prog 107 1 1:=⟨_,_,_,Tryz.runUnderlying107,rfl,Tryz.sizeOf2,rfl,rfl⟩
theorem fa_107_2:FA Tryz.prog 107 2 2:=⟨_,_,_,Tryz.runUnderlying107,rfl,Tryz.sizeOf2,rfl,rfl⟩
theorem ag_107:AG Tryz.prog 107 3:=⟨Tryz.isAgg107,Tryz.sizeOf107⟩
theorem fa_25_0:FA Tryz.prog 25 0 0:=⟨_,_,_,Tryz.runUnderlying25,rfl,Tryz.sizeOf2,rfl,rfl⟩
theorem fa_25_1:FA Tryz.prog 25 1 1:=⟨_,_,_,Tryz.runUnderlying25,rfl,Tryz.sizeOf2,rfl,rfl⟩
theorem kE:AG Tryz.prog 30 4:=⟨Tryz.isAgg30,Tryz.sizeOf30⟩
theorem sl_199:SLT Tryz.prog 199 3 1:=⟨Tryz.runUnderlying199,Tryz.sizeOf3⟩
theorem ez_3:EZ Tryz.prog 3 [i64 0]:=⟨⟨_,Tryz.zeroValue3,rfl⟩,⟨Tryz.t3,Tryz.typeInfo3,by show (8:Nat)≤128;decide,rfl,by kernel_rfl,_,rfl,rfl⟩⟩
theorem sc_3:SC Tryz.prog 3:=⟨Tryz.isAgg3,Tryz.sizeOf3⟩
theorem sl_68:SLT Tryz.prog 68 70 3:=⟨Tryz.runUnderlying68,Tryz.sizeOf70⟩
theorem ag_70:AG Tryz.prog 70 3:=⟨Tryz.isAgg70,Tryz.sizeOf70⟩
theorem fa_70_0:FA Tryz.prog 70 0 0:=⟨_,_,_,Tryz.runUnderlying70,rfl,Tryz.sizeOf2,rfl,rfl⟩
theorem fa_70_1:FA Tryz.prog 70 1 1:=⟨_,_,_,Tryz.runUnderlying70,rfl,Tryz.sizeOf9,rfl,rfl⟩
theorem fa_70_2:FA Tryz.prog 70 2 2:=⟨_,_,_,Tryz.runUnderlying70,rfl,Tryz.sizeOf2,rfl,rfl⟩
theorem bs_70:BS Tryz.prog 70 [(0,1),(1,1),(2,1)] [i64 0,cR [],i64 0]:=⟨⟨_,Tryz.zeroValue70,rfl⟩,_,Tryz.runUnderlying70,fun w=>by simp [Tryz.sizeOf2,Tryz.sizeOf9]⟩
theorem ez_70:EZ Tryz.prog 70 [i64 0,cR [],i64 0]:=⟨⟨_,Tryz.zeroValue70,rfl⟩,⟨Tryz.t70,Tryz.typeInfo70,by show (32:Nat)≤128;decide,rfl,by kernel_rfl,_,rfl,rfl⟩⟩
theorem sc_68:SC Tryz.prog 68:=⟨Tryz.isAgg68,Tryz.sizeOf68⟩
theorem sl_122:SLT Tryz.prog 122 5 1:=⟨Tryz.runUnderlying122,Tryz.sizeOf5⟩
theorem ez_5:EZ Tryz.prog 5 [Value.int .u8 0]:=⟨⟨_,Tryz.zeroValue5,rfl⟩,⟨Tryz.t5,Tryz.typeInfo5,by show (1:Nat)≤128;decide,rfl,by kernel_rfl,_,rfl,rfl⟩⟩
theorem aIY:AG Tryz.prog 25 4:=⟨Tryz.isAgg25,Tryz.sizeOf25⟩
theorem fa_45_0:FA Tryz.prog 45 0 0:=⟨_,_,_,Tryz.runUnderlying45,rfl,Tryz.sizeOf25,rfl,rfl⟩
theorem fa_45_1:FA Tryz.prog 45 1 4:=⟨_,_,_,Tryz.runUnderlying45,rfl,Tryz.sizeOf31,rfl,rfl⟩
theorem fa_45_2:FA Tryz.prog 45 2 5:=⟨_,_,_,Tryz.runUnderlying45,rfl,Tryz.sizeOf22,rfl,rfl⟩
theorem kK:FA Tryz.prog 48 0 0:=⟨_,_,_,Tryz.runUnderlying48,rfl,Tryz.sizeOf30,rfl,rfl⟩
theorem sV:FA Tryz.prog 48 1 4:=⟨_,_,_,Tryz.runUnderlying48,rfl,Tryz.sizeOf31,rfl,rfl⟩
theorem aAU:FA Tryz.prog 48 2 5:=⟨_,_,_,Tryz.runUnderlying48,rfl,Tryz.sizeOf22,rfl,rfl⟩
theorem bs_84:BS Tryz.prog 84 [(0,1),(1,1),(2,1),(3,1),(4,1)] [Value.pointer none,Value.pointer none,zS none 0 0,zS none 0 0,Value.bool false]:=⟨⟨_,Tryz.zeroValue84,rfl⟩,_,Tryz.runUnderlying84,fun w=>by simp [Tryz.sizeOf28,Tryz.sizeOf4,Tryz.sizeOf49,Tryz.sizeOf60,Tryz.sizeOf79]⟩
theorem qY:FA Tryz.prog 84 2 2:=⟨_,_,_,Tryz.runUnderlying84,rfl,Tryz.sizeOf49,rfl,rfl⟩
theorem uD:SC Tryz.prog 49:=⟨Tryz.isAgg49,Tryz.sizeOf49⟩
theorem aGK:FA Tryz.prog 84 3 3:=⟨_,_,_,Tryz.runUnderlying84,rfl,Tryz.sizeOf28,rfl,rfl⟩
theorem aLH:FA Tryz.prog 84 4 4:=⟨_,_,_,Tryz.runUnderlying84,rfl,Tryz.sizeOf4,rfl,rfl⟩
theorem yO:BS Tryz.prog 48 [(0,4),(4,1),(5,1)] [i64 0,i64 0,zS none 0 0,zS none 0 0,zS none 0 0,zS none 0 0]:=⟨⟨_,Tryz.zeroValue48,rfl⟩,_,Tryz.runUnderlying48,fun w=>by simp [Tryz.sizeOf22,Tryz.sizeOf30,Tryz.sizeOf31]⟩
theorem nV:AG Tryz.prog 48 6:=⟨Tryz.isAgg48,Tryz.sizeOf48⟩
theorem fa_84_0:FA Tryz.prog 84 0 0:=⟨_,_,_,Tryz.runUnderlying84,rfl,Tryz.sizeOf79,rfl,rfl⟩
theorem sc_79:SC Tryz.prog 79:=⟨Tryz.isAgg79,Tryz.sizeOf79⟩
theorem sl_130:SLT Tryz.prog 130 30 4:=⟨Tryz.runUnderlying130,Tryz.sizeOf30⟩
theorem bs_98:BS Tryz.prog 98 [(0,6),(6,4),(10,1),(11,1),(12,1)] [i64 0,i64 0,zS none 0 0,zS none 0 0,zS none 0 0,zS none 0 0,i64 0,i64 0,zS none 0 0,zS none 0 0,zS none 0 0,Value.map none,zS none 0 0]:=⟨⟨_,Tryz.zeroValue98,rfl⟩,_,Tryz.runUnderlying98,fun w=>by simp [Tryz.sizeOf30,Tryz.sizeOf48,Tryz.sizeOf49,Tryz.sizeOf95,Tryz.sizeOf96]⟩
theorem sc_133:SC Tryz.prog 133:=⟨Tryz.isAgg133,Tryz.sizeOf133⟩
theorem aGh:ART Tryz.prog 132 2 2:=⟨Tryz.runUnderlying132,Tryz.isAgg2,Tryz.sizeOf2⟩
theorem aIZ:∃ z,(∀ w,(zeroValue 132).run Tryz.prog w=.ok z w)∧z.cells=[i64 0,i64 0].toArray:=⟨_,Tryz.zeroValue132,rfl⟩
theorem aAn:SC Tryz.prog 92:=⟨Tryz.isAgg92,Tryz.sizeOf92⟩
theorem fa_98_3:FA Tryz.prog 98 3 11:=⟨_,_,_,Tryz.runUnderlying98,rfl,Tryz.sizeOf95,rfl,rfl⟩
theorem sc_95:SC Tryz.prog 95:=⟨Tryz.isAgg95,Tryz.sizeOf95⟩
theorem aLI:AG Tryz.prog 132 2:=⟨Tryz.isAgg132,Tryz.sizeOf132⟩
theorem aJa:aIU Tryz.prog 132 (Int × Int):=aOn Tryz.runUnderlying132 Tryz.runUnderlying2 ⟨Tryz.isAgg2,Tryz.sizeOf2⟩
theorem aCd:FA Tryz.prog 98 2 10:=⟨_,_,_,Tryz.runUnderlying98,rfl,Tryz.sizeOf49,rfl,rfl⟩
theorem aIH:FA Tryz.prog 98 4 12:=⟨_,_,_,Tryz.runUnderlying98,rfl,Tryz.sizeOf96,rfl,rfl⟩
theorem sc_96:SC Tryz.prog 96:=⟨Tryz.isAgg96,Tryz.sizeOf96⟩
theorem sl_96:SLT Tryz.prog 96 22 1:=⟨Tryz.runUnderlying96,Tryz.sizeOf22⟩
theorem ez_22:EZ Tryz.prog 22 [zS none 0 0]:=⟨⟨_,Tryz.zeroValue22,rfl⟩,⟨Tryz.t22,Tryz.typeInfo22,by show (24:Nat)≤128;decide,rfl,by kernel_rfl,_,rfl,rfl⟩⟩
theorem aFt:FA Tryz.prog 98 0 0:=⟨_,_,_,Tryz.runUnderlying98,rfl,Tryz.sizeOf48,rfl,rfl⟩
theorem aLJ:FA Tryz.prog 98 1 6:=⟨_,_,_,Tryz.runUnderlying98,rfl,Tryz.sizeOf30,rfl,rfl⟩
theorem ez_30:EZ Tryz.prog 30 [i64 0,i64 0,zS none 0 0,zS none 0 0]:=⟨⟨_,Tryz.zeroValue30,rfl⟩,⟨Tryz.t30,Tryz.typeInfo30,by show (64:Nat)≤128;decide,rfl,by kernel_rfl,_,rfl,rfl⟩⟩
theorem ag_45:AG Tryz.prog 45 6:=⟨Tryz.isAgg45,Tryz.sizeOf45⟩
theorem st_63:Tryz.prog.stoodInHeld 63=false:=by kernel_rfl
theorem eq_63 {x y:Edge}:EQT Tryz.prog 63 [i64 x.F,i64 x.B,i64 x.To] [i64 y.F,i64 y.B,i64 y.To] (decide (x=y)):=by
 refine ⟨by kernel_rfl,fun w=>?_⟩
 have h2:∀ (a b:Int),(Op.equalIn 9999 2 (i64 a) (i64 b)).run Tryz.prog w=.ok (a == b) w:=fun a b=>run_eqInI 9998 (Tryz.runUnderlying2 w)
 have:Op.maxDepth=9999+1:=rfl
 unfold Op.equal
 rw [this]
 unfold Op.equalIn
 simp [Tryz.runUnderlying63,st_63,part,h2,Tryz.isAgg2]
 cases x;cases y
 simp
 repeat' split<;>simp_all
theorem bQ:Tryz.prog.follows .mixedOrders=true:=by kernel_rfl
abbrev zC (d:cH) (a:Option Addr) (c:Nat) (b:Option Addr) (e:Nat):List Value:=[i64 d.N,i64 d.I,Value.slice a d.L.length c,Value.slice b d.E.length e]
abbrev zCa (d:cH) (a:Option Addr) (c:Nat) (b:Option Addr) (e:Nat):Array Value:=#[i64 d.N,i64 d.I,Value.slice a d.L.length c,Value.slice b d.E.length e]
abbrev zE (d:cI) (a:Option Addr) (c:Nat) (b:Option Addr) (e:Nat) (a2:Option Addr) (c2:Nat) (a3:Option Addr) (c3:Nat):List Value:=[i64 d.S.N,i64 d.S.I,Value.slice a d.S.L.length c,Value.slice b d.S.E.length e,Value.slice a2 d.M.length c2,Value.slice a3 d.C.length c3]
abbrev zEa (d:cI) (a:Option Addr) (c:Nat) (b:Option Addr) (e:Nat) (a2:Option Addr) (c2:Nat) (a3:Option Addr) (c3:Nat):Array Value:=#[i64 d.S.N,i64 d.S.I,Value.slice a d.S.L.length c,Value.slice b d.S.E.length e,Value.slice a2 d.M.length c2,Value.slice a3 d.C.length c3]
abbrev zG:List Value:=[i64 0,i64 0,Value.slice none 0 0,Value.slice none 0 0]
abbrev zGa:Array Value:=#[i64 0,i64 0,Value.slice none 0 0,Value.slice none 0 0]
abbrev zK:List Value:=[i64 0,i64 0,Value.slice none 0 0,Value.slice none 0 0,Value.slice none 0 0,Value.slice none 0 0]
abbrev zKa:Array Value:=#[i64 0,i64 0,Value.slice none 0 0,Value.slice none 0 0,Value.slice none 0 0,Value.slice none 0 0]
end Gv
