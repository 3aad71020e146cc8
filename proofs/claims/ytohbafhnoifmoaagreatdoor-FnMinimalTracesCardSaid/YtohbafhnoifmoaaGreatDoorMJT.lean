/- Readings of the program's data; what is known of its types. -/
import Derived.Test.YtohbafhnoifmoaaGreatDoorMJYS
import Derived.Test.YtohbafhnoifmoaaGreatDoorMJS
import Derived.Test.YtohbafhnoifmoaaGreatDoorProg
import Derived.KernelRfl
set_option linter.all false
namespace Gv
open Go.Value renaming slice→zS
open Go Go.Proofs
instance:eP Edge where
 sz:=3
 enc d:=[i64 d.F,i64 d.B,i64 d.To]
 len _:=rfl
 one _ v h:=by simp at h;rcases h with rfl|rfl|rfl<;>rfl
 pos:=by decide
instance:El cO where
 sz:=4
 rd K cs d:=∃ (a0:Option Addr) (c0:Nat) (a1:Option Addr) (c1:Nat),cs=[i64 d.N,i64 d.I,zS a0 d.L.length c0,zS a1 d.E.length c1]/\cR K a0 c0 d.L/\cR K a1 c1 d.E
 mono:=fun h ⟨a0,c0,a1,c1,e,h0,h1⟩=>⟨a0,c0,a1,c1,e,h0.mono h,h1.mono h⟩
 len:=fun ⟨_,_,_,_,e,_⟩=>by rw [e];rfl
 one:=fun ⟨_,_,_,_,e,_⟩ v hv=>by rw [e] at hv;simp at hv;rcases hv with rfl|rfl|rfl|rfl<;>rfl
 pos:=by decide
instance:eP gV where
 sz:=3
 enc d:=[i64 d.from_,str d.label,i64 d.to_]
 len _:=rfl
 one _ v h:=by simp at h;rcases h with rfl|rfl|rfl<;>rfl
 pos:=by decide
instance:El bT where
 sz:=3
 rd K cs d:=∃ (a0:Option Addr) (c0:Nat),cs=[i64 d.a,i64 d.b,zS a0 d.trace.length c0]/\cR K a0 c0 d.trace
 mono:=fun h ⟨a0,c0,e,h0⟩=>⟨a0,c0,e,h0.mono h⟩
 len:=fun ⟨_,_,e,_⟩=>by rw [e];rfl
 one:=fun ⟨_,_,e,_⟩ v hv=>by rw [e] at hv;simp at hv;rcases hv with rfl|rfl|rfl<;>rfl
 pos:=by decide
theorem cF:SLT Tryz.prog 24 9 1:=⟨Tryz.runUnderlying24,Tryz.sizeOf9⟩
theorem aIB:SC Tryz.prog 9:=⟨Tryz.isAgg9,Tryz.sizeOf9⟩
theorem bY:SLT Tryz.prog 35 2 1:=⟨Tryz.runUnderlying35,Tryz.sizeOf2⟩
theorem fC:EZ Tryz.prog 2 [i64 0]:=⟨⟨_,Tryz.zeroValue2,rfl⟩,⟨Tryz.t2,Tryz.typeInfo2,by show (8:Nat)<=128;decide,rfl,by kernel_rfl,_,rfl,rfl⟩⟩
theorem fL:EZ Tryz.prog 9 [str []]:=⟨⟨_,Tryz.zeroValue9,rfl⟩,⟨Tryz.t9,Tryz.typeInfo9,by show (16:Nat)<=128;decide,rfl,by kernel_rfl,_,rfl,rfl⟩⟩
theorem cN:SC Tryz.prog 2:=⟨Tryz.isAgg2,Tryz.sizeOf2⟩
theorem dX:FA Tryz.prog 27 0 0:=⟨_,_,_,Tryz.runUnderlying27,rfl,Tryz.sizeOf2,rfl,rfl⟩
theorem eQ:FA Tryz.prog 69 0 0:=⟨_,_,_,Tryz.runUnderlying69,rfl,Tryz.sizeOf2,rfl,rfl⟩
theorem fA:FA Tryz.prog 69 1 1:=⟨_,_,_,Tryz.runUnderlying69,rfl,Tryz.sizeOf2,rfl,rfl⟩
theorem eR:FA Tryz.prog 69 2 2:=⟨_,_,_,Tryz.runUnderlying69,rfl,Tryz.sizeOf2,rfl,rfl⟩
theorem aFQ:SLT Tryz.prog 92 3 1:=⟨Tryz.runUnderlying92,Tryz.sizeOf3⟩
theorem ez_3:EZ Tryz.prog 3 [i64 0]:=⟨⟨_,Tryz.zeroValue3,rfl⟩,⟨Tryz.t3,Tryz.typeInfo3,by show (8:Nat)<=128;decide,rfl,by kernel_rfl,_,rfl,rfl⟩⟩
theorem aDi:SC Tryz.prog 3:=⟨Tryz.isAgg3,Tryz.sizeOf3⟩
theorem cZ:AG Tryz.prog 27 4:=⟨Tryz.isAgg27,Tryz.sizeOf27⟩
theorem jP:FA Tryz.prog 27 1 1:=⟨_,_,_,Tryz.runUnderlying27,rfl,Tryz.sizeOf2,rfl,rfl⟩
theorem dT:FA Tryz.prog 27 2 2:=⟨_,_,_,Tryz.runUnderlying27,rfl,Tryz.sizeOf24,rfl,rfl⟩
theorem fX:SC Tryz.prog 24:=⟨Tryz.isAgg24,Tryz.sizeOf24⟩
theorem cP:FA Tryz.prog 27 3 3:=⟨_,_,_,Tryz.runUnderlying27,rfl,Tryz.sizeOf25,rfl,rfl⟩
theorem dL:SC Tryz.prog 25:=⟨Tryz.isAgg25,Tryz.sizeOf25⟩
theorem cI:SLT Tryz.prog 25 69 3:=⟨Tryz.runUnderlying25,Tryz.sizeOf69⟩
theorem aIp:AG Tryz.prog 69 3:=⟨Tryz.isAgg69,Tryz.sizeOf69⟩
theorem fG:EZ Tryz.prog 69 [i64 0,i64 0,i64 0]:=⟨⟨_,Tryz.zeroValue69,rfl⟩,⟨Tryz.t69,Tryz.typeInfo69,by show (24:Nat)<=128;decide,rfl,by kernel_rfl,_,rfl,rfl⟩⟩
theorem jT:BS Tryz.prog 27 [(0,1),(1,1),(2,1),(3,1)] [i64 0,i64 0,zS none 0 0,zS none 0 0]:=⟨⟨_,Tryz.zeroValue27,rfl⟩,_,Tryz.runUnderlying27,fun w=>by simp [Tryz.sizeOf2,Tryz.sizeOf24,Tryz.sizeOf25]⟩
theorem kU:SLT Tryz.prog 106 141 3:=⟨Tryz.runUnderlying106,Tryz.sizeOf141⟩
theorem ag_141:AG Tryz.prog 141 3:=⟨Tryz.isAgg141,Tryz.sizeOf141⟩
theorem aPR:FA Tryz.prog 141 0 0:=⟨_,_,_,Tryz.runUnderlying141,rfl,Tryz.sizeOf2,rfl,rfl⟩
theorem aHI:FA Tryz.prog 141 1 1:=⟨_,_,_,Tryz.runUnderlying141,rfl,Tryz.sizeOf9,rfl,rfl⟩
theorem aPS:FA Tryz.prog 141 2 2:=⟨_,_,_,Tryz.runUnderlying141,rfl,Tryz.sizeOf2,rfl,rfl⟩
theorem aDq:BS Tryz.prog 69 [(0,1),(1,1),(2,1)] [i64 0,i64 0,i64 0]:=⟨⟨_,Tryz.zeroValue69,rfl⟩,_,Tryz.runUnderlying69,fun w=>by simp [Tryz.sizeOf2]⟩
theorem aFR:BS Tryz.prog 141 [(0,1),(1,1),(2,1)] [i64 0,str [],i64 0]:=⟨⟨_,Tryz.zeroValue141,rfl⟩,_,Tryz.runUnderlying141,fun w=>by simp [Tryz.sizeOf2,Tryz.sizeOf9]⟩
theorem oW:EZ Tryz.prog 141 [i64 0,str [],i64 0]:=⟨⟨_,Tryz.zeroValue141,rfl⟩,⟨Tryz.t141,Tryz.typeInfo141,by show (32:Nat)<=128;decide,rfl,by kernel_rfl,_,rfl,rfl⟩⟩
theorem bs_139:BS Tryz.prog 139 [(0,1),(1,1),(2,1),(3,1)] [zS none 0 0,Value.map none,zS none 0 0,Value.nilFunc]:=⟨⟨_,Tryz.zeroValue139,rfl⟩,_,Tryz.runUnderlying139,fun w=>by simp [Tryz.sizeOf102,Tryz.sizeOf106,Tryz.sizeOf137,Tryz.sizeOf53]⟩
theorem wV:SC Tryz.prog 136:=⟨Tryz.isAgg136,Tryz.sizeOf136⟩
theorem fa_139_3:FA Tryz.prog 139 3 3:=⟨_,_,_,Tryz.runUnderlying139,rfl,Tryz.sizeOf102,rfl,rfl⟩
theorem sc_102:SC Tryz.prog 102:=⟨Tryz.isAgg102,Tryz.sizeOf102⟩
theorem aHJ:FA Tryz.prog 139 1 1:=⟨_,_,_,Tryz.runUnderlying139,rfl,Tryz.sizeOf137,rfl,rfl⟩
theorem aHc:SC Tryz.prog 137:=⟨Tryz.isAgg137,Tryz.sizeOf137⟩
theorem ko_9:aDo Tryz.prog 9 bD:=keyOk_str Tryz.runUnderlying9
theorem tU:FA Tryz.prog 139 0 0:=⟨_,_,_,Tryz.runUnderlying139,rfl,Tryz.sizeOf53,rfl,rfl⟩
theorem aFS:SC Tryz.prog 53:=⟨Tryz.isAgg53,Tryz.sizeOf53⟩
theorem iA:SLT Tryz.prog 53 35 1:=⟨Tryz.runUnderlying53,Tryz.sizeOf35⟩
theorem aAW:EZ Tryz.prog 35 [zS none 0 0]:=⟨⟨_,Tryz.zeroValue35,rfl⟩,⟨Tryz.t35,Tryz.typeInfo35,by show (24:Nat)<=128;decide,rfl,by kernel_rfl,_,rfl,rfl⟩⟩
theorem nI:SC Tryz.prog 35:=⟨Tryz.isAgg35,Tryz.sizeOf35⟩
theorem aAX:FA Tryz.prog 139 2 2:=⟨_,_,_,Tryz.runUnderlying139,rfl,Tryz.sizeOf106,rfl,rfl⟩
theorem aAh:SC Tryz.prog 106:=⟨Tryz.isAgg106,Tryz.sizeOf106⟩
theorem aEj:SLT Tryz.prog 32 24 1:=⟨Tryz.runUnderlying32,Tryz.sizeOf24⟩
theorem ez_24:EZ Tryz.prog 24 [zS none 0 0]:=⟨⟨_,Tryz.zeroValue24,rfl⟩,⟨Tryz.t24,Tryz.typeInfo24,by show (24:Nat)<=128;decide,rfl,by kernel_rfl,_,rfl,rfl⟩⟩
theorem fv_27_2:FV Tryz.prog 27 2 2:=⟨_,_,Tryz.runUnderlying27,rfl,fX,rfl⟩
theorem aFe:BS Tryz.prog 65 [(0,1),(1,1),(2,1)] [i64 0,i64 0,zS none 0 0]:=⟨⟨_,Tryz.zeroValue65,rfl⟩,_,Tryz.runUnderlying65,fun w=>by simp [Tryz.sizeOf2,Tryz.sizeOf24]⟩
theorem lG:SLT Tryz.prog 66 65 3:=⟨Tryz.runUnderlying66,Tryz.sizeOf65⟩
theorem yT:EZ Tryz.prog 65 [i64 0,i64 0,zS none 0 0]:=⟨⟨_,Tryz.zeroValue65,rfl⟩,⟨Tryz.t65,Tryz.typeInfo65,by show (40:Nat)<=128;decide,rfl,by kernel_rfl,_,rfl,rfl⟩⟩
theorem ag_65:AG Tryz.prog 65 3:=⟨Tryz.isAgg65,Tryz.sizeOf65⟩
theorem aBk:FA Tryz.prog 65 0 0:=⟨_,_,_,Tryz.runUnderlying65,rfl,Tryz.sizeOf2,rfl,rfl⟩
theorem aCX:FA Tryz.prog 65 1 1:=⟨_,_,_,Tryz.runUnderlying65,rfl,Tryz.sizeOf2,rfl,rfl⟩
theorem ar_127:ART Tryz.prog 127 2 2:=⟨Tryz.runUnderlying127,Tryz.isAgg2,Tryz.sizeOf2⟩
theorem bz_127:∃ z,(∀ w,(zeroValue 127).run Tryz.prog w=.ok z w)/\z.cells=[i64 0,i64 0].toArray:=⟨_,Tryz.zeroValue127,rfl⟩
theorem ko_127:aDo Tryz.prog 127 (Int × Int):=aIf Tryz.runUnderlying127 Tryz.runUnderlying2 ⟨Tryz.isAgg2,Tryz.sizeOf2⟩
theorem aEk:FA Tryz.prog 65 2 2:=⟨_,_,_,Tryz.runUnderlying65,rfl,Tryz.sizeOf24,rfl,rfl⟩
theorem aGM:SLT Tryz.prog 22 5 1:=⟨Tryz.runUnderlying22,Tryz.sizeOf5⟩
theorem bs_78:BS Tryz.prog 78 [(0,1),(1,1),(2,1)] [zS none 0 0,i64 0,Value.int .u64 0]:=⟨⟨_,Tryz.zeroValue78,rfl⟩,_,Tryz.runUnderlying78,fun w=>by simp [Tryz.sizeOf22,Tryz.sizeOf3,Tryz.sizeOf76]⟩
theorem dY:SLT Tryz.prog 117 4 1:=⟨Tryz.runUnderlying117,Tryz.sizeOf4⟩
theorem ez_4:EZ Tryz.prog 4 [Value.bool false]:=⟨⟨_,Tryz.zeroValue4,rfl⟩,⟨Tryz.t4,Tryz.typeInfo4,by show (1:Nat)<=128;decide,rfl,by kernel_rfl,_,rfl,rfl⟩⟩
theorem aBl:SC Tryz.prog 4:=⟨Tryz.isAgg4,Tryz.sizeOf4⟩
theorem aEl:FA Tryz.prog 78 1 1:=⟨_,_,_,Tryz.runUnderlying78,rfl,Tryz.sizeOf3,rfl,rfl⟩
theorem aHd:FA Tryz.prog 78 0 0:=⟨_,_,_,Tryz.runUnderlying78,rfl,Tryz.sizeOf22,rfl,rfl⟩
theorem sc_22:SC Tryz.prog 22:=⟨Tryz.isAgg22,Tryz.sizeOf22⟩
theorem sc_5:SC Tryz.prog 5:=⟨Tryz.isAgg5,Tryz.sizeOf5⟩
theorem aHe:FA Tryz.prog 78 2 2:=⟨_,_,_,Tryz.runUnderlying78,rfl,Tryz.sizeOf76,rfl,rfl⟩
theorem sc_76:SC Tryz.prog 76:=⟨Tryz.isAgg76,Tryz.sizeOf76⟩
theorem ko_2:aDo Tryz.prog 2 Int:=keyOk_int Tryz.runUnderlying2
theorem bs_190:BS Tryz.prog 190 [(0,1),(1,1),(2,1),(3,1)] [zS none 0 0,Value.map none,zS none 0 0,Value.nilFunc]:=⟨⟨_,Tryz.zeroValue190,rfl⟩,_,Tryz.runUnderlying190,fun w=>by simp [Tryz.sizeOf106,Tryz.sizeOf137,Tryz.sizeOf143,Tryz.sizeOf35]⟩
theorem wW:SC Tryz.prog 188:=⟨Tryz.isAgg188,Tryz.sizeOf188⟩
theorem fa_190_3:FA Tryz.prog 190 3 3:=⟨_,_,_,Tryz.runUnderlying190,rfl,Tryz.sizeOf143,rfl,rfl⟩
theorem sc_143:SC Tryz.prog 143:=⟨Tryz.isAgg143,Tryz.sizeOf143⟩
theorem aHK:FA Tryz.prog 190 1 1:=⟨_,_,_,Tryz.runUnderlying190,rfl,Tryz.sizeOf137,rfl,rfl⟩
theorem tV:FA Tryz.prog 190 0 0:=⟨_,_,_,Tryz.runUnderlying190,rfl,Tryz.sizeOf35,rfl,rfl⟩
theorem aAY:FA Tryz.prog 190 2 2:=⟨_,_,_,Tryz.runUnderlying190,rfl,Tryz.sizeOf106,rfl,rfl⟩
theorem st_69:Tryz.prog.stoodInHeld 69=false:=by kernel_rfl
theorem eq_69 {x y:Edge}:EQT Tryz.prog 69 [i64 x.F,i64 x.B,i64 x.To] [i64 y.F,i64 y.B,i64 y.To] (decide (x=y)):=by
 refine ⟨by kernel_rfl,fun w=>?_⟩
 have h2:∀ (a b:Int),(Op.equalIn 9999 2 (i64 a) (i64 b)).run Tryz.prog w=.ok (a == b) w:=fun a b=>run_eqInI 9998 (Tryz.runUnderlying2 w)
 have:Op.maxDepth=9999+1:=rfl
 unfold Op.equal
 rw [this]
 unfold Op.equalIn
 simp [Tryz.runUnderlying69,st_69,part,h2,Tryz.isAgg2]
 cases x;cases y
 simp
 repeat' split<;>simp_all
theorem bV:Tryz.prog.follows .mixedOrders=true:=by kernel_rfl
abbrev zC (d:cO) (a:Option Addr) (c:Nat) (b:Option Addr) (e:Nat):List Value:=[i64 d.N,i64 d.I,Value.slice a d.L.length c,Value.slice b d.E.length e]
abbrev zCa (d:cO) (a:Option Addr) (c:Nat) (b:Option Addr) (e:Nat):Array Value:=#[i64 d.N,i64 d.I,Value.slice a d.L.length c,Value.slice b d.E.length e]
abbrev zG:List Value:=[i64 0,i64 0,Value.slice none 0 0,Value.slice none 0 0]
abbrev zGa:Array Value:=#[i64 0,i64 0,Value.slice none 0 0,Value.slice none 0 0]
abbrev zK:List Value:=[i64 0,i64 0,Value.slice none 0 0,Value.slice none 0 0,Value.slice none 0 0,Value.slice none 0 0]
abbrev zKa:Array Value:=#[i64 0,i64 0,Value.slice none 0 0,Value.slice none 0 0,Value.slice none 0 0,Value.slice none 0 0]
end Gv
namespace Gv
open Go Go.Proofs
theorem st_S {p:Prop} (h:p:=by with_reducible first|exact cF|exact bY|exact aFQ|exact cI|exact kU|exact iA|exact aEj|exact lG|exact aGM|exact dY):p:=h
theorem aKi {p:Prop} (h:p:=by with_reducible first|exact aIB|exact cN|exact aDi|exact fX|exact dL|exact wV|exact sc_102|exact aHc|exact aFS|exact nI|exact aAh|exact aBl|exact sc_22|exact sc_5|exact sc_76|exact wW|exact sc_143):p:=h
theorem aLM {p:Prop} (h:p:=by with_reducible first|exact cZ|exact aIp|exact ag_141|exact ag_65):p:=h
theorem st_F {p:Prop} (h:p:=by with_reducible first|exact dX|exact eQ|exact fA|exact eR|exact jP|exact dT|exact cP|exact aPR|exact aHI|exact aPS|exact fa_139_3|exact aHJ|exact tU|exact aAX|exact aBk|exact aCX|exact aEk|exact aEl|exact aHd|exact aHe|exact fa_190_3|exact aHK|exact tV|exact aAY):p:=h
theorem st_V {p:Prop} (h:p:=by first|(apply V_move;exact zO)|(apply V_assign;exact zO)|(apply V_B;first|(apply V_add;exact zO;exact zO)|(apply V_sub;exact zO;exact zO)|(apply V_mul;exact zO;exact zO)|(apply V_lss;exact zO;exact zO)|(apply V_leq;exact zO;exact zO)|(apply V_gtr;exact zO;exact zO)|(apply V_geq;exact zO;exact zO)|(apply V_eql;exact zO;exact zO)|(apply V_neq;exact zO;exact zO)|(apply V_eqlS;exact zO;exact zO)|(apply V_neqS;exact zO;exact zO)|(apply V_lssS;exact zO;exact zO)|(apply V_leqS;exact zO;exact zO)|(apply V_gtrS;exact zO;exact zO)|(apply V_geqS;exact zO;exact zO))|(apply V_fldP;exact zO;exact st_F)|(apply V_fldE;exact zO;exact zV;exact st_F)|(apply V_fldO;exact zO;exact zV;exact aPL;exact zV;exact st_F)|(apply V_L;first|(apply V_ldB;exact zO;exact zV;exact aPL;exact rfl;exact aKi)|(apply V_ldBG;exact zO;exact zV;exact aPL;exact aLM;exact rfl;exact rfl)|(apply aNp (t:=0);exact zO;exact zV;exact zV;exact rfl;exact aKi)|(apply aNp (t:=1);exact zO;exact zV;exact zV;exact rfl;exact aKi)|(apply aNp (t:=2);exact zO;exact zV;exact zV;exact rfl;exact aKi)|(apply aNp (t:=3);exact zO;exact zV;exact zV;exact rfl;exact aKi)|(apply aNp (t:=4);exact zO;exact zV;exact zV;exact rfl;exact aKi)|(apply aNp (t:=5);exact zO;exact zV;exact zV;exact rfl;exact aKi)|(apply aNp (t:=6);exact zO;exact zV;exact zV;exact rfl;exact aKi)|(apply aNp (t:=7);exact zO;exact zV;exact zV;exact rfl;exact aKi)|(apply aLb (t:=0);exact zO;exact zV;exact zV;exact aLM;exact rfl;exact rfl)|(apply aLb (t:=1);exact zO;exact zV;exact zV;exact aLM;exact rfl;exact rfl)|(apply aLb (t:=2);exact zO;exact zV;exact zV;exact aLM;exact rfl;exact rfl)|(apply aLb (t:=3);exact zO;exact zV;exact zV;exact aLM;exact rfl;exact rfl)|(apply aLb (t:=4);exact zO;exact zV;exact zV;exact aLM;exact rfl;exact rfl)|(apply aLb (t:=5);exact zO;exact zV;exact zV;exact aLM;exact rfl;exact rfl)|(apply aLb (t:=6);exact zO;exact zV;exact zV;exact aLM;exact rfl;exact rfl)|(apply aLb (t:=7);exact zO;exact zV;exact zV;exact aLM;exact rfl;exact rfl)|(apply V_ldO (t:=0);exact zO;exact zV;exact aPL;exact zV;exact rfl;exact rfl;exact aKi)|(apply V_ldO (t:=1);exact zO;exact zV;exact aPL;exact zV;exact rfl;exact rfl;exact aKi)|(apply V_ldO (t:=2);exact zO;exact zV;exact aPL;exact zV;exact rfl;exact rfl;exact aKi)|(apply V_ldO (t:=3);exact zO;exact zV;exact aPL;exact zV;exact rfl;exact rfl;exact aKi)|(apply V_ldO (t:=4);exact zO;exact zV;exact aPL;exact zV;exact rfl;exact rfl;exact aKi)|(apply V_ldOG (t:=0);exact zO;exact zV;exact aPL;exact zV;exact rfl;exact aLM;exact rfl;exact rfl)|(apply V_ldOG (t:=1);exact zO;exact zV;exact aPL;exact zV;exact rfl;exact aLM;exact rfl;exact rfl)|(apply V_ldOG (t:=2);exact zO;exact zV;exact aPL;exact zV;exact rfl;exact aLM;exact rfl;exact rfl)|(apply aNs (t:=0);exact zO;exact zV;exact zV;exact aPJ;exact rfl;exact aKi)|(apply aNs (t:=1);exact zO;exact zV;exact zV;exact aPJ;exact rfl;exact aKi)|(apply aNs (t:=2);exact zO;exact zV;exact zV;exact aPJ;exact rfl;exact aKi)|(apply aNs (t:=3);exact zO;exact zV;exact zV;exact aPJ;exact rfl;exact aKi)|(apply aNs (t:=4);exact zO;exact zV;exact zV;exact aPJ;exact rfl;exact aKi)|(apply aNs (t:=5);exact zO;exact zV;exact zV;exact aPJ;exact rfl;exact aKi)|(apply aNs (t:=6);exact zO;exact zV;exact zV;exact aPJ;exact rfl;exact aKi)|(apply aNs (t:=7);exact zO;exact zV;exact zV;exact aPJ;exact rfl;exact aKi)|(apply aPK (t:=0);exact zO;exact zV;exact zV;exact aPJ;exact aLM;exact rfl;exact rfl)|(apply aPK (t:=1);exact zO;exact zV;exact zV;exact aPJ;exact aLM;exact rfl;exact rfl)|(apply aPK (t:=2);exact zO;exact zV;exact zV;exact aPJ;exact aLM;exact rfl;exact rfl)|(apply aPK (t:=3);exact zO;exact zV;exact zV;exact aPJ;exact aLM;exact rfl;exact rfl)|(apply aOa (t:=0);exact zV;exact zV;exact zO;exact rfl;exact aKi)|(apply aOa (t:=1);exact zV;exact zV;exact zO;exact rfl;exact aKi)|(apply aOa (t:=2);exact zV;exact zV;exact zO;exact rfl;exact aKi)|(apply aOa (t:=3);exact zV;exact zV;exact zO;exact rfl;exact aKi)|(apply aOa (t:=4);exact zV;exact zV;exact zO;exact rfl;exact aKi)|(apply aOa (t:=5);exact zV;exact zV;exact zO;exact rfl;exact aKi)|(apply aOa (t:=6);exact zV;exact zV;exact zO;exact rfl;exact aKi)|(apply aOa (t:=7);exact zV;exact zV;exact zO;exact rfl;exact aKi)|(apply aPQ (t:=0);exact zV;exact zV;exact zO;exact aLM;exact rfl;exact rfl)|(apply aPQ (t:=1);exact zV;exact zV;exact zO;exact aLM;exact rfl;exact rfl)|(apply aPQ (t:=2);exact zV;exact zV;exact zO;exact aLM;exact rfl;exact rfl)|(apply aPQ (t:=3);exact zV;exact zV;exact zO;exact aLM;exact rfl;exact rfl))|(apply V_lenS;exact st_S;exact zO)|(apply V_nilE;exact zO;exact zV)|(apply V_nilP;exact zO)|(apply V_nilO;exact zO;exact zV;exact aPL;exact zV)|(apply V_ixE;exact zO;exact zO;exact zV;exact zV;exact rfl;exact st_S;exact rfl)|(apply V_ixO;exact zO;exact zO;exact zV;exact aPL;exact zV;exact rfl;exact st_S;exact rfl)|(apply V_extract;exact zO;exact rfl)|(apply V_pickT;exact zO;exact aLc;exact zO)|(apply V_pickF;exact zO;exact aLc;exact zO)|(apply V_not;exact zO)):p:=h
theorem aHQ {P:Program} {n:Nat} {f:Nat->Value} {w:World} {ty:TypeId} {pos:String} {af:Array Go.Edge} {C:World->Prop} {R:(Nat->Value)->World->Prop} {os:List Oper} {d:Nat} {op:Op} {v:Value} {bs:List Nat} {m:Nat} {listed:Array Bool} (i:Nat) (h:WA P n os.toArray C bs R m (listed.setIfInBounds i true) (upd f d v) w) (hi:aBi os i=some ⟨some d,op,ty,pos,af,none⟩:=by exact rfl) (hB:lookB os.toArray bs listed i=true:=by kernel_rfl) (hC:C w:=by first|exact ⟨_,by assumption⟩|exact ⟨_,aH.weakK (by assumption) aPJ⟩) (hr:∀ w,C w->EX P f op v d ty pos af w:=by rintro _ ⟨_,_⟩;exact st_V):WA P n os.toArray C bs R (m+1) listed f w:=V_WA hi hB hC hr h
theorem aIQ {p q:Prop} (k:q) (h:Hd q->p:=by
 intro hk
 first
  |(apply VO;exact st_V)
  |(apply VQ;intro _ _;exact st_V)
  |(apply aX)
  |with_reducible apply aA
  |with_reducible apply bC
  |(apply aP)
  |(apply aN)
  |(apply aY)
  |(apply cB)
  |(apply V_condT;exact zO;exact aLc)
  |(apply V_condF;exact zO;exact aLc)
  |with_reducible apply aR
  |with_reducible apply bI
  |(with_reducible apply aPs;exact rfl)
  |(apply V_onT;exact rfl;exact zO;exact aLc)
  |(apply V_onF;exact rfl;exact zO;exact aLc)
  |(apply V_offF;exact rfl;exact zO;exact aLc)
  |(apply V_offT;exact rfl;exact zO;exact aLc)
  |(apply Q_onT;exact rfl;exact zO;exact aLc)
  |(apply Q_onF;exact rfl;exact zO;exact aLc)
  |(apply Q_offF;exact rfl;exact zO;exact aLc)
  |(apply Q_offT;exact rfl;exact zO;exact aLc)
  |(apply dE;exact rfl;exact zO)
  |(apply cD;exact rfl;exact zO)
  |(apply V_WE;exact rfl;rintro _ ⟨_,_⟩;exact st_V)
  |(apply V_WT;exact rfl;intro _;exact st_V)
 exact hk.k):p:=h ⟨k⟩
theorem yW {p q:Prop} (k:q) (h:Hd q->p:=by
 intro hk
 repeat (first
  |(apply VO;exact st_V)
  |(apply VQ;intro _ _;exact st_V)
  |(apply aX)
  |with_reducible apply aA
  |with_reducible apply bC
  |(apply aP)
  |(apply aN)
  |(apply aY)
  |(apply cB)
  |(apply V_condT;exact zO;exact aLc)
  |(apply V_condF;exact zO;exact aLc)
  |with_reducible apply aR
  |with_reducible apply bI
  |(with_reducible apply aPs;exact rfl)
  |(apply V_onT;exact rfl;exact zO;exact aLc)
  |(apply V_onF;exact rfl;exact zO;exact aLc)
  |(apply V_offF;exact rfl;exact zO;exact aLc)
  |(apply V_offT;exact rfl;exact zO;exact aLc)
  |(apply Q_onT;exact rfl;exact zO;exact aLc)
  |(apply Q_onF;exact rfl;exact zO;exact aLc)
  |(apply Q_offF;exact rfl;exact zO;exact aLc)
  |(apply Q_offT;exact rfl;exact zO;exact aLc)
  |(apply dE;exact rfl;exact zO)
  |(apply cD;exact rfl;exact zO)
  |(apply V_WE;exact rfl;rintro _ ⟨_,_⟩;exact st_V)
  |(apply V_WT;exact rfl;intro _;exact st_V))
 exact hk.k):p:=h ⟨k⟩
end Gv
