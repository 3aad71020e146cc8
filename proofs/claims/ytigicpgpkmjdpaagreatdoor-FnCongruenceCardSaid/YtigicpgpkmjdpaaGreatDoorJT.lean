/- Readings of the program's data; what is known of its types. -/
import Derived.Test.YtigicpgpkmjdpaaGreatDoorJYS
import Derived.Test.YtigicpgpkmjdpaaGreatDoorProg
set_option linter.all false
namespace Gv
open Go.Value renaming slice→zS
open Go Go.Proofs Go.Proofs.Tryz
instance:fA Edge where
 sz:=3
 enc d:=[i64 d.F,i64 d.B,i64 d.To]
 len _:=rfl
 one _ v h:=by simp at h;rcases h with rfl|rfl|rfl<;>rfl
 pos:=by decide
instance:El bB where
 sz:=4
 rd K cs d:=∃ (a0:Option Addr) (c0:Nat) (a1:Option Addr) (c1:Nat),cs=[i64 d.N,i64 d.I,zS a0 d.L.length c0,zS a1 d.E.length c1]/\bG K a0 c0 d.L/\bG K a1 c1 d.E
 mono:=fun h ⟨a0,c0,a1,c1,e,h0,h1⟩=>⟨a0,c0,a1,c1,e,h0.mono h,h1.mono h⟩
 len:=fun ⟨_,_,_,_,e,_⟩=>by rw [e];rfl
 one:=fun ⟨_,_,_,_,e,_⟩ v hv=>by rw [e] at hv;simp at hv;rcases hv with rfl|rfl|rfl|rfl<;>rfl
 pos:=by decide
instance:fA cF where
 sz:=3
 enc d:=[str d.Left,str d.Right,str d.Result]
 len _:=rfl
 one _ v h:=by simp at h;rcases h with rfl|rfl|rfl<;>rfl
 pos:=by decide
instance:El aX where
 sz:=4
 rd K cs d:=∃ (a0:Option Addr) (c0:Nat) (a1:Option Addr) (c1:Nat) (a2:Option Addr) (c2:Nat) (a3:Option Addr) (c3:Nat),cs=[zS a0 d.Parts.length c0,zS a1 d.Meetings.length c1,zS a2 d.Allowed.length c2,zS a3 d.Hidden.length c3]/\bG K a0 c0 d.Parts/\bG K a1 c1 d.Meetings/\bG K a2 c2 d.Allowed/\bG K a3 c3 d.Hidden
 mono:=fun h ⟨a0,c0,a1,c1,a2,c2,a3,c3,e,h0,h1,h2,h3⟩=>⟨a0,c0,a1,c1,a2,c2,a3,c3,e,h0.mono h,h1.mono h,h2.mono h,h3.mono h⟩
 len:=fun ⟨_,_,_,_,_,_,_,_,e,_⟩=>by rw [e];rfl
 one:=fun ⟨_,_,_,_,_,_,_,_,e,_⟩ v hv=>by rw [e] at hv;simp at hv;rcases hv with rfl|rfl|rfl|rfl<;>rfl
 pos:=by decide
instance:fA fX where
 sz:=3
 enc d:=[i64 d.from_,str d.label,i64 d.to_]
 len _:=rfl
 one _ v h:=by simp at h;rcases h with rfl|rfl|rfl<;>rfl
 pos:=by decide
instance:fA GTerm where
 sz:=2
 enc d:=[i64 d.Kind,i64 d.Value]
 len _:=rfl
 one _ v h:=by simp at h;rcases h with rfl|rfl<;>rfl
 pos:=by decide
instance:El Part where
 sz:=4
 rd K cs d:=∃ (a0:Option Addr) (c0:Nat),cs=[i64 d.Kind,i64 d.Number,str d.Name,zS a0 d.Arguments.length c0]/\bG K a0 c0 d.Arguments
 mono:=fun h ⟨a0,c0,e,h0⟩=>⟨a0,c0,e,h0.mono h⟩
 len:=fun ⟨_,_,e,_⟩=>by rw [e];rfl
 one:=fun ⟨_,_,e,_⟩ v hv=>by rw [e] at hv;simp at hv;rcases hv with rfl|rfl|rfl|rfl<;>rfl
 pos:=by decide
instance:El Definition where
 sz:=3
 rd K cs d:=∃ (a0:Option Addr) (c0:Nat),cs=[str d.Name,i64 d.Parameters,zS a0 d.Body.length c0]/\bG K a0 c0 d.Body
 mono:=fun h ⟨a0,c0,e,h0⟩=>⟨a0,c0,e,h0.mono h⟩
 len:=fun ⟨_,_,e,_⟩=>by rw [e];rfl
 one:=fun ⟨_,_,e,_⟩ v hv=>by rw [e] at hv;simp at hv;rcases hv with rfl|rfl|rfl<;>rfl
 pos:=by decide
instance:El aIY where
 sz:=2
 rd K cs d:=∃ (a0:Option Addr) (c0:Nat),cs=[i64 d.Definition,zS a0 d.Values.length c0]/\bG K a0 c0 d.Values
 mono:=fun h ⟨a0,c0,e,h0⟩=>⟨a0,c0,e,h0.mono h⟩
 len:=fun ⟨_,_,e,_⟩=>by rw [e];rfl
 one:=fun ⟨_,_,e,_⟩ v hv=>by rw [e] at hv;simp at hv;rcases hv with rfl|rfl<;>rfl
 pos:=by decide
instance:El aMX where
 sz:=5
 rd K cs d:=∃ (a0:Option Addr) (c0:Nat) (a1:Option Addr) (c1:Nat) (a2:Option Addr) (c2:Nat) (a3:Option Addr) (c3:Nat) (a4:Option Addr) (c4:Nat),cs=[zS a0 d.Definitions.length c0,zS a1 d.Components.length c1,zS a2 d.Meetings.length c2,zS a3 d.Allowed.length c3,zS a4 d.Hidden.length c4]/\bG K a0 c0 d.Definitions/\bG K a1 c1 d.Components/\bG K a2 c2 d.Meetings/\bG K a3 c3 d.Allowed/\bG K a4 c4 d.Hidden
 mono:=fun h ⟨a0,c0,a1,c1,a2,c2,a3,c3,a4,c4,e,h0,h1,h2,h3,h4⟩=>⟨a0,c0,a1,c1,a2,c2,a3,c3,a4,c4,e,h0.mono h,h1.mono h,h2.mono h,h3.mono h,h4.mono h⟩
 len:=fun ⟨_,_,_,_,_,_,_,_,_,_,e,_⟩=>by rw [e];rfl
 one:=fun ⟨_,_,_,_,_,_,_,_,_,_,e,_⟩ v hv=>by rw [e] at hv;simp at hv;rcases hv with rfl|rfl|rfl|rfl|rfl<;>rfl
 pos:=by decide
theorem bJ:SLT prog 29 2 1:=⟨runUnderlying29,sizeOf2⟩
theorem eG:SLT prog 26 9 1:=⟨runUnderlying26,sizeOf9⟩
theorem aDQ:EZ prog 9 [str []]:=⟨⟨_,zeroValue9,rfl⟩,⟨t9,typeInfo9,by show (16:Nat)<=128;decide,rfl,by kernel_rfl,_,rfl,rfl⟩⟩
theorem dC:SC prog 2:=⟨isAgg2,sizeOf2⟩
theorem aAq:SC prog 9:=⟨isAgg9,sizeOf9⟩
theorem zD:EZ prog 2 [i64 0]:=⟨⟨_,zeroValue2,rfl⟩,⟨t2,typeInfo2,by show (8:Nat)<=128;decide,rfl,by kernel_rfl,_,rfl,rfl⟩⟩
theorem sl_22:SLT prog 22 5 1:=⟨runUnderlying22,sizeOf5⟩
theorem bs_64:BS prog 64 [(0,1),(1,1),(2,1)] [zS none 0 0,i64 0,Value.int .u64 0]:=⟨⟨_,zeroValue64,rfl⟩,_,runUnderlying64,fun w=>by simp [sizeOf22,sizeOf3,sizeOf62]⟩
theorem uY:FA prog 70 0 0:=⟨_,_,_,runUnderlying70,rfl,sizeOf2,rfl,rfl⟩
theorem wO:FA prog 70 1 1:=⟨_,_,_,runUnderlying70,rfl,sizeOf2,rfl,rfl⟩
theorem pQ:FA prog 70 2 2:=⟨_,_,_,runUnderlying70,rfl,sizeOf2,rfl,rfl⟩
theorem cS:SLT prog 33 70 3:=⟨runUnderlying33,sizeOf70⟩
theorem qA:AG prog 70 3:=⟨isAgg70,sizeOf70⟩
theorem aJC:BS prog 70 [(0,1),(1,1),(2,1)] [i64 0,i64 0,i64 0]:=⟨⟨_,zeroValue70,rfl⟩,_,runUnderlying70,fun w=>by simp [sizeOf2]⟩
theorem sM:EZ prog 70 [i64 0,i64 0,i64 0]:=⟨⟨_,zeroValue70,rfl⟩,⟨t70,typeInfo70,by show (24:Nat)<=128;decide,rfl,by kernel_rfl,_,rfl,rfl⟩⟩
theorem aED:BS prog 35 [(0,1),(1,1),(2,1),(3,1)] [i64 0,i64 0,zS none 0 0,zS none 0 0]:=⟨⟨_,zeroValue35,rfl⟩,_,runUnderlying35,fun w=>by simp [sizeOf2,sizeOf26,sizeOf33]⟩
theorem oE:FA prog 35 2 2:=⟨_,_,_,runUnderlying35,rfl,sizeOf26,rfl,rfl⟩
theorem xV:SC prog 26:=⟨isAgg26,sizeOf26⟩
theorem fY:FA prog 35 3 3:=⟨_,_,_,runUnderlying35,rfl,sizeOf33,rfl,rfl⟩
theorem oJ:SC prog 33:=⟨isAgg33,sizeOf33⟩
theorem kJ:AG prog 35 4:=⟨isAgg35,sizeOf35⟩
theorem gT:FA prog 35 0 0:=⟨_,_,_,runUnderlying35,rfl,sizeOf2,rfl,rfl⟩
theorem aDX:FA prog 35 1 1:=⟨_,_,_,runUnderlying35,rfl,sizeOf2,rfl,rfl⟩
theorem rI:SLT prog 24 35 4:=⟨runUnderlying24,sizeOf35⟩
theorem aFC:EZ prog 35 [i64 0,i64 0,zS none 0 0,zS none 0 0]:=⟨⟨_,zeroValue35,rfl⟩,⟨t35,typeInfo35,by show (64:Nat)<=128;decide,rfl,by kernel_rfl,_,rfl,rfl⟩⟩
theorem bs_28:BS prog 28 [(0,1),(1,1),(2,1),(3,1)] [zS none 0 0,zS none 0 0,zS none 0 0,zS none 0 0]:=⟨⟨_,zeroValue28,rfl⟩,_,runUnderlying28,fun w=>by simp [sizeOf24,sizeOf25,sizeOf26]⟩
theorem fa_64_1:FA prog 64 1 1:=⟨_,_,_,runUnderlying64,rfl,sizeOf3,rfl,rfl⟩
theorem sc_3:SC prog 3:=⟨isAgg3,sizeOf3⟩
theorem fa_64_0:FA prog 64 0 0:=⟨_,_,_,runUnderlying64,rfl,sizeOf22,rfl,rfl⟩
theorem sc_22:SC prog 22:=⟨isAgg22,sizeOf22⟩
theorem sc_5:SC prog 5:=⟨isAgg5,sizeOf5⟩
theorem fa_64_2:FA prog 64 2 2:=⟨_,_,_,runUnderlying64,rfl,sizeOf62,rfl,rfl⟩
theorem sc_62:SC prog 62:=⟨isAgg62,sizeOf62⟩
theorem mS:FA prog 28 0 0:=⟨_,_,_,runUnderlying28,rfl,sizeOf24,rfl,rfl⟩
theorem aBH:SC prog 24:=⟨isAgg24,sizeOf24⟩
theorem aIs:FA prog 28 1 1:=⟨_,_,_,runUnderlying28,rfl,sizeOf25,rfl,rfl⟩
theorem aMf:SC prog 25:=⟨isAgg25,sizeOf25⟩
theorem bs_67:BS prog 67 [(0,1),(1,1),(2,1)] [str [],str [],str []]:=⟨⟨_,zeroValue67,rfl⟩,_,runUnderlying67,fun w=>by simp [sizeOf9]⟩
theorem aGc:SLT prog 25 67 3:=⟨runUnderlying25,sizeOf67⟩
theorem ez_67:EZ prog 67 [str [],str [],str []]:=⟨⟨_,zeroValue67,rfl⟩,⟨t67,typeInfo67,by show (48:Nat)<=128;decide,rfl,by kernel_rfl,_,rfl,rfl⟩⟩
theorem aMY:FA prog 28 2 2:=⟨_,_,_,runUnderlying28,rfl,sizeOf26,rfl,rfl⟩
theorem aMZ:FA prog 28 3 3:=⟨_,_,_,runUnderlying28,rfl,sizeOf26,rfl,rfl⟩
theorem aBI:AG prog 28 4:=⟨isAgg28,sizeOf28⟩
theorem lV:SLT prog 109 4 1:=⟨runUnderlying109,sizeOf4⟩
theorem ez_4:EZ prog 4 [Value.bool false]:=⟨⟨_,zeroValue4,rfl⟩,⟨t4,typeInfo4,by show (1:Nat)<=128;decide,rfl,by kernel_rfl,_,rfl,rfl⟩⟩
theorem sc_4:SC prog 4:=⟨isAgg4,sizeOf4⟩
theorem nW:SLT prog 39 29 1:=⟨runUnderlying39,sizeOf29⟩
theorem aDk:EZ prog 29 [zS none 0 0]:=⟨⟨_,zeroValue29,rfl⟩,⟨t29,typeInfo29,by show (24:Nat)<=128;decide,rfl,by kernel_rfl,_,rfl,rfl⟩⟩
theorem aAs:SC prog 29:=⟨isAgg29,sizeOf29⟩
theorem aNa:SLT prog 207 3 1:=⟨runUnderlying207,sizeOf3⟩
theorem ez_3:EZ prog 3 [i64 0]:=⟨⟨_,zeroValue3,rfl⟩,⟨t3,typeInfo3,by show (8:Nat)<=128;decide,rfl,by kernel_rfl,_,rfl,rfl⟩⟩
theorem aKd:FA prog 67 0 0:=⟨_,_,_,runUnderlying67,rfl,sizeOf9,rfl,rfl⟩
theorem aKe:FA prog 67 1 1:=⟨_,_,_,runUnderlying67,rfl,sizeOf9,rfl,rfl⟩
theorem ag_67:AG prog 67 3:=⟨isAgg67,sizeOf67⟩
theorem fa_67_2:FA prog 67 2 2:=⟨_,_,_,runUnderlying67,rfl,sizeOf9,rfl,rfl⟩
theorem sc_109:SC prog 109:=⟨isAgg109,sizeOf109⟩
theorem ko_2:aKA prog 2 Int:=keyOk_int runUnderlying2
theorem aBj:SLT prog 128 132 3:=⟨runUnderlying128,sizeOf132⟩
theorem ag_132:AG prog 132 3:=⟨isAgg132,sizeOf132⟩
theorem aOk:FA prog 132 0 0:=⟨_,_,_,runUnderlying132,rfl,sizeOf2,rfl,rfl⟩
theorem aOl:FA prog 132 1 1:=⟨_,_,_,runUnderlying132,rfl,sizeOf9,rfl,rfl⟩
theorem aOm:FA prog 132 2 2:=⟨_,_,_,runUnderlying132,rfl,sizeOf2,rfl,rfl⟩
theorem aOn:FA prog 178 2 2:=⟨_,_,_,runUnderlying178,rfl,sizeOf25,rfl,rfl⟩
theorem bs_178:BS prog 178 [(0,1),(1,1),(2,1),(3,1),(4,1)] [zS none 0 0,zS none 0 0,zS none 0 0,zS none 0 0,zS none 0 0]:=⟨⟨_,zeroValue178,rfl⟩,_,runUnderlying178,fun w=>by simp [sizeOf175,sizeOf176,sizeOf25,sizeOf26]⟩
theorem bs_130:BS prog 130 [(0,1),(1,1),(2,1),(3,1)] [zS none 0 0,Value.map none,zS none 0 0,Value.nilFunc]:=⟨⟨_,zeroValue130,rfl⟩,_,runUnderlying130,fun w=>by simp [sizeOf127,sizeOf128,sizeOf39,sizeOf89]⟩
theorem aDl:SC prog 126:=⟨isAgg126,sizeOf126⟩
theorem aOo:FA prog 130 3 3:=⟨_,_,_,runUnderlying130,rfl,sizeOf89,rfl,rfl⟩
theorem sc_89:SC prog 89:=⟨isAgg89,sizeOf89⟩
theorem aKH:FA prog 130 1 1:=⟨_,_,_,runUnderlying130,rfl,sizeOf127,rfl,rfl⟩
theorem sc_127:SC prog 127:=⟨isAgg127,sizeOf127⟩
theorem ko_9:aKA prog 9 aI:=keyOk_str runUnderlying9
theorem aBJ:FA prog 130 0 0:=⟨_,_,_,runUnderlying130,rfl,sizeOf39,rfl,rfl⟩
theorem aHj:SC prog 39:=⟨isAgg39,sizeOf39⟩
theorem sc_58:SC prog 58:=⟨isAgg58,sizeOf58⟩
theorem sc_90:SC prog 90:=⟨isAgg90,sizeOf90⟩
theorem aDm:FA prog 130 2 2:=⟨_,_,_,runUnderlying130,rfl,sizeOf128,rfl,rfl⟩
theorem aIZ:SC prog 128:=⟨isAgg128,sizeOf128⟩
theorem aNb:BS prog 132 [(0,1),(1,1),(2,1)] [i64 0,str [],i64 0]:=⟨⟨_,zeroValue132,rfl⟩,_,runUnderlying132,fun w=>by simp [sizeOf2,sizeOf9]⟩
theorem aFh:EZ prog 132 [i64 0,str [],i64 0]:=⟨⟨_,zeroValue132,rfl⟩,⟨t132,typeInfo132,by show (32:Nat)<=128;decide,rfl,by kernel_rfl,_,rfl,rfl⟩⟩
theorem aNc:SLT prog 227 26 1:=⟨runUnderlying227,sizeOf26⟩
theorem ez_26:EZ prog 26 [zS none 0 0]:=⟨⟨_,zeroValue26,rfl⟩,⟨t26,typeInfo26,by show (24:Nat)<=128;decide,rfl,by kernel_rfl,_,rfl,rfl⟩⟩
theorem st_70:prog.stoodInHeld 70=false:=by kernel_rfl
theorem eq_70 {x y:Edge}:EQT prog 70 [i64 x.F,i64 x.B,i64 x.To] [i64 y.F,i64 y.B,i64 y.To] (decide (x=y)):=by
 refine ⟨by kernel_rfl,fun w=>?_⟩
 have h2:∀ (a b:Int),(Op.equalIn 9999 2 (i64 a) (i64 b)).run prog w=.ok (a == b) w:=fun a b=>run_eqInI 9998 (runUnderlying2 w)
 have:Op.maxDepth=9999+1:=rfl
 unfold Op.equal
 rw [this]
 unfold Op.equalIn
 simp [runUnderlying70,st_70,part,h2,isAgg2]
 cases x;cases y
 simp
 repeat' split<;>simp_all
theorem Tryz_mixed:prog.follows .mixedOrders=true:=by kernel_rfl
abbrev zC (d:bB) (a:Option Addr) (c:Nat) (b:Option Addr) (e:Nat):List Value:=[i64 d.N,i64 d.I,Value.slice a d.L.length c,Value.slice b d.E.length e]
abbrev zCa (d:bB) (a:Option Addr) (c:Nat) (b:Option Addr) (e:Nat):Array Value:=#[i64 d.N,i64 d.I,Value.slice a d.L.length c,Value.slice b d.E.length e]
abbrev zG:List Value:=[i64 0,i64 0,Value.slice none 0 0,Value.slice none 0 0]
abbrev zGa:Array Value:=#[i64 0,i64 0,Value.slice none 0 0,Value.slice none 0 0]
abbrev zK:List Value:=[i64 0,i64 0,Value.slice none 0 0,Value.slice none 0 0,Value.slice none 0 0,Value.slice none 0 0]
abbrev zKa:Array Value:=#[i64 0,i64 0,Value.slice none 0 0,Value.slice none 0 0,Value.slice none 0 0,Value.slice none 0 0]
end Gv
namespace Gv
open Go.Value renaming slice→zS
open Gv.Hp renaming le_refl→zR
open Go Go.Proofs Go.Proofs.Tryz
theorem qB {p:Prop} (h:p:=by first|assumption|(apply st_cK;assumption;exact nD)):p:=h
theorem st_HR {p:Prop} (h:p:=by first|assumption|(apply st_rK;assumption;exact nD)):p:=h
theorem st_S {p:Prop} (h:p:=by with_reducible first|exact bJ|exact eG|exact sl_22|exact cS|exact rI|exact aGc|exact lV|exact nW|exact aNa|exact aBj|exact aNc):p:=h
theorem zF {p:Prop} (h:p:=by with_reducible first|exact dC|exact aAq|exact xV|exact oJ|exact sc_3|exact sc_22|exact sc_5|exact sc_62|exact aBH|exact aMf|exact sc_4|exact aAs|exact sc_109|exact aDl|exact sc_89|exact sc_127|exact aHj|exact sc_58|exact sc_90|exact aIZ):p:=h
theorem aEr {p:Prop} (h:p:=by with_reducible first|exact qA|exact kJ|exact aBI|exact ag_67|exact ag_132):p:=h
theorem st_F {p:Prop} (h:p:=by with_reducible first|exact uY|exact wO|exact pQ|exact oE|exact fY|exact gT|exact aDX|exact fa_64_1|exact fa_64_0|exact fa_64_2|exact mS|exact aIs|exact aMY|exact aMZ|exact aKd|exact aKe|exact fa_67_2|exact aOk|exact aOl|exact aOm|exact aOn|exact aOo|exact aKH|exact aBJ|exact aDm):p:=h
theorem za_3:ZA prog 3 [i64 0]:=⟨_,zeroValue3,rfl⟩
theorem za_28:ZA prog 28 [zS none 0 0,zS none 0 0,zS none 0 0,zS none 0 0]:=⟨_,zeroValue28,rfl⟩
theorem za_29:ZA prog 29 [zS none 0 0]:=⟨_,zeroValue29,rfl⟩
theorem za_35:ZA prog 35 [i64 0,i64 0,zS none 0 0,zS none 0 0]:=⟨_,zeroValue35,rfl⟩
theorem za_39:ZA prog 39 [zS none 0 0]:=⟨_,zeroValue39,rfl⟩
theorem za_67:ZA prog 67 [str ([]:aI),str ([]:aI),str ([]:aI)]:=⟨_,zeroValue67,rfl⟩
theorem za_70:ZA prog 70 [i64 0,i64 0,i64 0]:=⟨_,zeroValue70,rfl⟩
theorem za_109:ZA prog 109 [zS none 0 0]:=⟨_,zeroValue109,rfl⟩
theorem za_126:ZA prog 126 [Value.pointer none]:=⟨_,zeroValue126,rfl⟩
theorem za_132:ZA prog 132 [i64 0,str ([]:aI),i64 0]:=⟨_,zeroValue132,rfl⟩
theorem st_r {p:Prop} (h:p:=by with_reducible first|exact runUnderlying107|exact runUnderlying127|exact runUnderlying2|exact runUnderlying269|exact runUnderlying3|exact runUnderlying4|exact runUnderlying5|exact runUnderlying62|exact runUnderlying9):p:=h
theorem st_h {p:Prop} (h:p:=by with_reducible first|exact bs_64|exact aJC|exact aED|exact bs_28|exact bs_67|exact bs_178|exact bs_130|exact aNb):p:=h
theorem st_e {p:Prop} (h:p:=by with_reducible first|exact aDQ|exact zD|exact sM|exact aFC|exact ez_67|exact ez_4|exact aDk|exact ez_3|exact aFh|exact ez_26):p:=h
theorem st_u {p:Prop} (h:p:=by with_reducible first|exact underlying128|exact underlying24|exact underlying25|exact underlying26|exact underlying29|exact underlying33|exact underlying39):p:=h
theorem st_z {p:Prop} (h:p:=by with_reducible first|exact sizeOf109|exact sizeOf126|exact sizeOf128|exact sizeOf132|exact sizeOf2|exact sizeOf24|exact sizeOf25|exact sizeOf26|exact sizeOf28|exact sizeOf29|exact sizeOf3|exact sizeOf33|exact sizeOf35|exact sizeOf39|exact sizeOf4|exact sizeOf62|exact sizeOf67|exact sizeOf70|exact sizeOf9):p:=h
theorem st_y {p:Prop} (h:p:=by with_reducible first|exact za_3|exact za_28|exact za_29|exact za_35|exact za_39|exact za_67|exact za_70|exact za_109|exact za_126|exact za_132):p:=h
theorem st_V {p:Prop} (h:p:=by first|exact V_moveC|exact V_assignC|(apply V_B;first|(apply V_add;exact cD;exact cD)|(apply V_sub;exact cD;exact cD)|(apply V_mul;exact cD;exact cD)|(apply V_lss;exact cD;exact cD)|(apply V_leq;exact cD;exact cD)|(apply V_gtr;exact cD;exact cD)|(apply V_geq;exact cD;exact cD)|(apply V_eql;exact cD;exact cD)|(apply V_neq;exact cD;exact cD)|(apply V_eqlS;exact cD;exact cD)|(apply V_neqS;exact cD;exact cD)|(apply V_lssS;exact cD;exact cD)|(apply V_leqS;exact cD;exact cD)|(apply V_gtrS;exact cD;exact cD)|(apply V_geqS;exact cD;exact cD))|exact V_moveF|exact V_assignF|(apply V_move;exact cD)|(apply V_assign;exact cD)|(apply V_fldP;exact cD;exact st_F)|(apply V_fldE;exact cD;exact qB;exact st_F)|(apply V_fldO;exact cD;exact fQ;exact aHG;exact fQ;exact st_F)|(apply V_L;first|(apply V_ldB;exact cD;exact fQ;exact aHG;exact rfl;exact zF)|(apply V_ldBG;exact cD;exact fQ;exact aHG;exact aEr;exact st_D)|(apply aJy (t:=0);exact cD;exact qB;exact fQ;exact rfl;exact zF)|(apply aJy (t:=1);exact cD;exact qB;exact fQ;exact rfl;exact zF)|(apply aJy (t:=2);exact cD;exact qB;exact fQ;exact rfl;exact zF)|(apply aJy (t:=3);exact cD;exact qB;exact fQ;exact rfl;exact zF)|(apply aJy (t:=4);exact cD;exact qB;exact fQ;exact rfl;exact zF)|(apply aJy (t:=5);exact cD;exact qB;exact fQ;exact rfl;exact zF)|(apply aJy (t:=6);exact cD;exact qB;exact fQ;exact rfl;exact zF)|(apply aJy (t:=7);exact cD;exact qB;exact fQ;exact rfl;exact zF)|(apply aGb (t:=0);exact cD;exact qB;exact fQ;exact aEr;exact rfl;exact rfl)|(apply aGb (t:=1);exact cD;exact qB;exact fQ;exact aEr;exact rfl;exact rfl)|(apply aGb (t:=2);exact cD;exact qB;exact fQ;exact aEr;exact rfl;exact rfl)|(apply aGb (t:=3);exact cD;exact qB;exact fQ;exact aEr;exact rfl;exact rfl)|(apply aGb (t:=4);exact cD;exact qB;exact fQ;exact aEr;exact rfl;exact rfl)|(apply aGb (t:=5);exact cD;exact qB;exact fQ;exact aEr;exact rfl;exact rfl)|(apply aGb (t:=6);exact cD;exact qB;exact fQ;exact aEr;exact rfl;exact rfl)|(apply aGb (t:=7);exact cD;exact qB;exact fQ;exact aEr;exact rfl;exact rfl)|(apply V_ldO (t:=0);exact cD;exact fQ;exact aHG;exact fQ;exact rfl;exact rfl;exact zF)|(apply V_ldO (t:=1);exact cD;exact fQ;exact aHG;exact fQ;exact rfl;exact rfl;exact zF)|(apply V_ldO (t:=2);exact cD;exact fQ;exact aHG;exact fQ;exact rfl;exact rfl;exact zF)|(apply V_ldO (t:=3);exact cD;exact fQ;exact aHG;exact fQ;exact rfl;exact rfl;exact zF)|(apply V_ldO (t:=4);exact cD;exact fQ;exact aHG;exact fQ;exact rfl;exact rfl;exact zF)|(apply V_ldOG (t:=0);exact cD;exact fQ;exact aHG;exact fQ;exact rfl;exact aEr;exact rfl;exact rfl)|(apply V_ldOG (t:=1);exact cD;exact fQ;exact aHG;exact fQ;exact rfl;exact aEr;exact rfl;exact rfl)|(apply V_ldOG (t:=2);exact cD;exact fQ;exact aHG;exact fQ;exact rfl;exact aEr;exact rfl;exact rfl)|(apply aJA (t:=0);exact cD;exact fQ;exact fQ;exact nD;exact rfl;exact zF)|(apply aJA (t:=1);exact cD;exact fQ;exact fQ;exact nD;exact rfl;exact zF)|(apply aJA (t:=2);exact cD;exact fQ;exact fQ;exact nD;exact rfl;exact zF)|(apply aJA (t:=3);exact cD;exact fQ;exact fQ;exact nD;exact rfl;exact zF)|(apply aJA (t:=4);exact cD;exact fQ;exact fQ;exact nD;exact rfl;exact zF)|(apply aJA (t:=5);exact cD;exact fQ;exact fQ;exact nD;exact rfl;exact zF)|(apply aJA (t:=6);exact cD;exact fQ;exact fQ;exact nD;exact rfl;exact zF)|(apply aJA (t:=7);exact cD;exact fQ;exact fQ;exact nD;exact rfl;exact zF)|(apply aMW (t:=0);exact cD;exact fQ;exact fQ;exact nD;exact aEr;exact rfl;exact rfl)|(apply aMW (t:=1);exact cD;exact fQ;exact fQ;exact nD;exact aEr;exact rfl;exact rfl)|(apply aMW (t:=2);exact cD;exact fQ;exact fQ;exact nD;exact aEr;exact rfl;exact rfl)|(apply aMW (t:=3);exact cD;exact fQ;exact fQ;exact nD;exact aEr;exact rfl;exact rfl)|(apply aJz (t:=0);exact fQ;exact qB;exact cD;exact rfl;exact zF)|(apply aJz (t:=1);exact fQ;exact qB;exact cD;exact rfl;exact zF)|(apply aJz (t:=2);exact fQ;exact qB;exact cD;exact rfl;exact zF)|(apply aJz (t:=3);exact fQ;exact qB;exact cD;exact rfl;exact zF)|(apply aJz (t:=4);exact fQ;exact qB;exact cD;exact rfl;exact zF)|(apply aJz (t:=5);exact fQ;exact qB;exact cD;exact rfl;exact zF)|(apply aJz (t:=6);exact fQ;exact qB;exact cD;exact rfl;exact zF)|(apply aJz (t:=7);exact fQ;exact qB;exact cD;exact rfl;exact zF)|(apply aMV (t:=0);exact fQ;exact qB;exact cD;exact aEr;exact rfl;exact rfl)|(apply aMV (t:=1);exact fQ;exact qB;exact cD;exact aEr;exact rfl;exact rfl)|(apply aMV (t:=2);exact fQ;exact qB;exact cD;exact aEr;exact rfl;exact rfl)|(apply aMV (t:=3);exact fQ;exact qB;exact cD;exact aEr;exact rfl;exact rfl))|(apply V_lenS;exact st_S;exact cD)|(apply V_nilE;exact cD;exact qB)|(apply V_nilP;exact cD)|(apply V_nilO;exact cD;exact fQ;exact aHG;exact fQ)|(apply V_ixE;exact cD;exact cD;exact st_HR;exact fQ;exact rfl;exact st_S;exact rfl)|(apply V_ixO;exact cD;exact cD;exact fQ;exact aHG;exact fQ;exact rfl;exact st_S;exact rfl)|(apply V_extract;exact cD;exact rfl)|(apply V_pickT;exact cD;exact aJS;exact cD)|(apply V_pickF;exact cD;exact aJS;exact cD)|(apply V_not;exact cD)|(apply V_lenStr;exact st_r;exact cD)|(apply V_ixS;exact st_r;exact cD;exact cD;exact fQ)|(apply V_conv64;exact st_r;exact cD;exact ⟨_,st_r⟩)|(apply V_convu64;exact st_r;exact cD;exact ⟨_,st_r⟩)|(apply V_rem;exact cD;exact cD;exact fQ)|(apply V_cat;exact cD;exact cD;exact fQ)|(apply V_neqB;exact st_r;exact cD;exact cD)|(apply V_u64add;exact cD;exact cD)|(apply V_u64mul;exact cD;exact cD)|(apply V_shrU;exact cD;exact cD;exact fQ)|(apply V_andU;exact cD;exact cD)|(apply V_min;exact cD;exact cD)|(apply V_max;exact cD;exact cD)|(apply V_slSL;exact st_r;exact cD;exact cD;exact fQ)|(apply V_slSH;exact st_r;exact cD;exact cD;exact fQ)|(apply V_isNil;exact st_S;exact cD;exact rfl)|(apply V_build;exact st_h;exact rfl;exact (by kernel_rfl))|(apply aPq;exact rfl)):p:=h
theorem st_call {p:Prop} (h:p:=by with_reducible first|exact call4|exact call5|exact call6|exact call7|exact call8|exact call9|exact call10|exact call11|exact call12|exact call13|exact call14|exact call15|exact call16|exact call17|exact call18|exact call19|exact call20|exact call21|exact call22|exact call23|exact call24|exact call25|exact call26|exact call27|exact call28|exact call29|exact call30|exact call31|exact call32|exact call33|exact call34|exact call35|exact call36|exact call37|exact call38|exact call39|exact call40|exact call41|exact call42|exact call43|exact call44|exact call45|exact call46|exact call47|exact call48|exact call49|exact call50|exact call51|exact call52|exact call54|exact call55|exact call56|exact call57|exact call58|exact call59|exact call60|exact call61|exact call62|exact call63|exact call64|exact call65|exact call66|exact call67|exact call68|exact call69|exact call70|exact call71|exact call72|exact call73|exact call74|exact call75|exact call76|exact call77|exact call78|exact call79|exact call80|exact call81|exact call82|exact call83|exact call84|exact call85|exact call86|exact call87|exact call88|exact call89|exact call90|exact call91|exact call92|exact call93|exact call96|exact call97|exact call98|exact call99|exact call100|exact call101|exact call102|exact call103|exact call104|exact call105|exact call106|exact call107|exact call108|exact call109|exact call110|exact call111|exact call112|exact call113|exact call114|exact call115|exact call116|exact call117|exact call118|exact call119|exact call121|exact call122|exact call127|exact call128|exact call129|exact call140|exact call142|exact call143|exact call144|exact call145|exact call146|exact call147|exact call148|exact call149|exact call150|exact call151|exact call152|exact call153|exact call154|exact call155|exact call156|exact call157|exact call158|exact call159|exact call160|exact call161|exact call162|exact call163|exact call164|exact call165|exact call166|exact call168|exact call172|exact call173|exact call188|exact call190|exact call191|exact call192|exact call193|exact call194|exact call195|exact call196|exact call197|exact call199|exact call200|exact call201|exact call202|exact call203|exact call204|exact call205|exact call221|exact call222|exact call223|exact call234|exact call235|exact call236|exact call237|exact call247):p:=h
theorem st_f {p:Prop} (h:p:=by with_reducible first|exact func3|exact func4|exact func5|exact func6|exact func7|exact func8|exact func9|exact func10|exact func11|exact func12|exact func13|exact func14|exact func15|exact func16|exact func17|exact func18|exact func19|exact func20|exact func21|exact func22|exact func23|exact func24|exact func25|exact func26|exact func27|exact func28|exact func29|exact func30|exact func31|exact func32|exact func33|exact func34|exact func35|exact func36|exact func37|exact func38|exact func39|exact func40|exact func41|exact func42|exact func43|exact func44|exact func45|exact func46|exact func47|exact func48|exact func49|exact func50|exact func51|exact func53|exact func54|exact func55|exact func56|exact func57|exact func58|exact func59|exact func60|exact func61|exact func62|exact func63|exact func64|exact func65|exact func66|exact func67|exact func68|exact func69|exact func70|exact func71|exact func72|exact func73|exact func74|exact func75|exact func76|exact func77|exact func78|exact func79|exact func80|exact func81|exact func82|exact func83|exact func84|exact func85|exact func86|exact func87|exact func90|exact func91|exact func92|exact func93|exact func96|exact func97|exact func98|exact func99|exact func101|exact func102|exact func103|exact func104|exact func105|exact func106|exact func107|exact func108|exact func109|exact func110|exact func111|exact func112|exact func113|exact func114|exact func115|exact func116|exact func117|exact func118|exact func120|exact func121|exact func122|exact func127|exact func128|exact func129|exact func140|exact func143|exact func145|exact func146|exact func147|exact func148|exact func149|exact func150|exact func151|exact func152|exact func154|exact func155|exact func156|exact func157|exact func158|exact func159|exact func160|exact func161|exact func162|exact func163|exact func164|exact func165|exact func166|exact func172|exact func173|exact func190|exact func192|exact func193|exact func194|exact func195|exact func196|exact func197|exact func199|exact func200|exact func201|exact func202|exact func203|exact func204|exact func205|exact func221|exact func222|exact func223|exact func234|exact func236|exact func237|exact func247):p:=h
theorem aMg {p:Prop} (h:p:=by first|((with_reducible apply aMQ);exact rfl;exact rfl)|((with_reducible apply V_rvG);exact cD;exact fQ;exact aHG;exact aEr;exact rfl;exact rfl)|((with_reducible apply V_rvB);exact cD;exact fQ;exact aHG;exact zF;exact rfl)):p:=h
theorem st_X {p:Prop} (h:p:=by
 (repeat (first
  |exact bL
  |(with_reducible apply Exists.intro)
  |((with_reducible apply And.intro);· first|exact bL|(with_reducible assumption)|exact (Option.some.inj (by with_reducible assumption)).symm|exact rfl|assumption|exact zR _|exact nD|exact aCF _|(apply st_rK;assumption;exact nD)|(apply st_cK;assumption;exact nD)|exact jG (by assumption))
  |(with_reducible assumption)|exact st_c|exact rfl|assumption));first|done|fail):p:=h
theorem aDn {p q:Prop} (k:q) (h:Hd q->p:=by
 intro hk
 (first|apply st_ca|apply st_cb|apply st_cq);exact st_call;(first|(with_reducible intro z z)|skip);(first|((with_reducible first|apply aCx|apply aCy|apply aEO|apply xF|apply aIE|apply aAn|apply wL|apply aOs|apply aFJ|apply xR|apply aCD|apply aFF|apply aLQ|apply aEQ|apply aER|apply aGA|apply aFG|apply aHv|apply aDG|apply aHw|apply aHK|apply aNi|apply aFH|apply aAR|apply aCe|apply wK|apply yL|apply aAm|apply pY|apply aFr|apply aCq|apply aEP|apply aJI|apply yW|apply aGy|apply aFE|apply uB|apply aGz|apply aAQ|apply aLP|apply aJc|apply aDE|apply aDF|apply aLL|apply aKL|apply aLM|apply aJV|apply aLN|apply aKM|apply aCw|apply uA|apply aJb|apply aGu|apply aHI|apply xE|apply wF|apply aDR|apply aBr|apply aKN|apply aHu|apply aDA|apply aDB|apply aGv|apply aGw|apply aLO|apply pM|apply aDC|apply aGx|apply wH|apply nM|apply kB|apply aEi|apply iB|apply aCB|apply aAj|apply aFp|apply aLR|apply pO|apply aBZ|apply lL|apply aEj|apply aDH|apply aAk|apply aHy|apply aCa|apply aGD|apply oM|apply aCc|apply nA|apply oD|apply aFq|apply aCp|apply wJ|apply yK|apply aBc|apply xM|apply aJe|apply vH|apply aCd|apply iZ|apply sK|apply vF|apply nB|apply sG|apply jV|apply oC|apply wB|apply aBX|apply aDz|apply aCv|apply rD|apply wC|apply wD|apply aCb|apply sI|apply mR|apply wI|apply sJ|apply aAT|apply aAU|apply rJ|apply aCC|apply uD|apply aCR|apply aHM|apply rK|apply aAl|apply aCo|apply aFo|apply aBY|apply iD|apply aID|apply aKO|apply sH|apply qW|apply aCz|apply aHL|apply jW|apply bT|apply aCA|apply tO|apply aJd|apply zU|apply pN|apply uC|apply aGC|apply aHx|apply aAh|apply aFI|apply wG|apply aAS|apply qC|apply aAi|apply rE|apply jO);with_reducible assumption)|(with_reducible apply fH;with_reducible assumption)|(with_reducible apply uS;with_reducible assumption)|(with_reducible apply gG;with_reducible assumption)|(with_reducible apply aFN;with_reducible assumption)|(with_reducible apply aHJ;with_reducible assumption)|(with_reducible apply uT;with_reducible assumption)|(with_reducible apply vE;with_reducible assumption)|(with_reducible apply aGB;with_reducible assumption)|(with_reducible apply wE;with_reducible assumption)|(with_reducible apply aDD;with_reducible assumption)|(with_reducible apply iE;with_reducible assumption)|(with_reducible apply lT;with_reducible assumption)|(with_reducible apply aJW;with_reducible assumption)|(with_reducible apply aDI;with_reducible assumption)|(with_reducible apply oI;with_reducible assumption)|(with_reducible apply lib_Cut;all_goals (try with_reducible assumption))|(with_reducible apply lib_Split;all_goals (try with_reducible assumption))|(with_reducible apply aJG;all_goals (try with_reducible assumption))|(with_reducible apply aNh;all_goals (try with_reducible assumption))|(with_reducible apply lib_Join;all_goals (try with_reducible assumption))|(with_reducible apply aEh;all_goals (try with_reducible assumption))|(with_reducible apply aJH;all_goals (try with_reducible assumption))|(with_reducible apply aJU;all_goals (try with_reducible assumption))|(with_reducible apply lib_GrowStr;all_goals (try with_reducible assumption))|(with_reducible apply lib_SortIdx;all_goals (try with_reducible assumption))|(with_reducible apply lib_SortStr;all_goals (try with_reducible assumption))|(with_reducible apply lib_SortEdge;all_goals (try with_reducible assumption)));(case hv=>exact rfl);(repeat (first|assumption|exact st_c|(apply st_rK;assumption;exact nD)|(apply st_cK;assumption;exact nD)|exact aCF _|exact nD|exact zR _|exact rfl|exact jG (by assumption)));exact hk.k;first|done|fail):p:=h ⟨k⟩
set_option maxRecDepth 100000 in
theorem aP {p:Prop} (h:p:=by
 repeat' (first
  |(apply st_i;exact cD;exact cD;exact fQ;exact fQ;exact rfl;exact st_S;exact rfl;intro z z zr;first|(have zr:=st_pd zr;subst zr)|obtain ⟨z,z,rfl,z⟩:=zr|obtain ⟨z,z,z,z,rfl,z,z⟩:=zr|obtain ⟨z,z,z,z,z,z,rfl,z,z,z⟩:=zr|obtain ⟨z,z,z,z,z,z,z,z,rfl,z,z,z,z⟩:=zr)
  |(apply st_iQ;exact cD;exact cD;exact fQ;exact fQ;exact rfl;exact st_S;exact rfl;intro z z zr;first|(have zr:=st_pd zr;subst zr)|obtain ⟨z,z,rfl,z⟩:=zr|obtain ⟨z,z,z,z,rfl,z,z⟩:=zr|obtain ⟨z,z,z,z,z,z,rfl,z,z,z⟩:=zr|obtain ⟨z,z,z,z,z,z,z,z,rfl,z,z,z,z⟩:=zr)
  |(apply st_iE;exact rfl;exact cD;exact cD;exact fQ;exact fQ;exact rfl;exact st_S;exact rfl;intro z z zr;first|(have zr:=st_pd zr;subst zr)|obtain ⟨z,z,rfl,z⟩:=zr|obtain ⟨z,z,z,z,rfl,z,z⟩:=zr|obtain ⟨z,z,z,z,z,z,rfl,z,z,z⟩:=zr|obtain ⟨z,z,z,z,z,z,z,z,rfl,z,z,z,z⟩:=zr)
  |(apply VO;exact st_V)
  |(apply VQ;intro _ _;exact st_V)
  |(apply aT)
  |with_reducible apply aC
  |with_reducible apply dB
  |(apply aM)
  |(apply aU)
  |(apply aY)
  |(apply aBe)
  |(apply V_condT;exact cD;exact aJS)
  |(apply V_condF;exact cD;exact aJS)
  |with_reducible apply kO
  |with_reducible apply vL
  |(with_reducible apply blockQ_ne;exact rfl)
  |(apply V_onT;exact rfl;exact cD;exact aJS)
  |(apply V_onF;exact rfl;exact cD;exact aJS)
  |(apply V_offF;exact rfl;exact cD;exact aJS)
  |(apply V_offT;exact rfl;exact cD;exact aJS)
  |(apply Q_onT;exact rfl;exact cD;exact aJS)
  |(apply Q_onF;exact rfl;exact cD;exact aJS)
  |(apply Q_offF;exact rfl;exact cD;exact aJS)
  |(apply Q_offT;exact rfl;exact cD;exact aJS)
  |(apply WO_off_u;exact rfl;exact cD)
  |(apply tQ;exact rfl;exact cD)
  |(apply V_WE;exact rfl;rintro _ ⟨_,_⟩;exact st_V)
  |(apply V_WT;exact rfl;intro _;exact st_V)
  |apply fU
  |with_reducible apply cT
  |with_reducible apply lE
  |exact st_X
  |(apply eE;exact rfl;exact rfl;refine aJB hm (fun z=>?_);subst z;exact st_X)
  |(apply retQ_2;exact rfl;exact rfl;exact rfl;refine aJB hm (fun z=>?_);subst z;exact st_X)
  |(apply retQ_3;exact rfl;exact rfl;exact rfl;exact rfl;refine aJB hm (fun z=>?_);subst z;exact st_X)
  |(apply aIl;exact rfl;exact aMg;refine aJB hm (fun z=>?_);subst z;exact st_X)
  |(apply retQ_m2;exact rfl;exact aMg;exact aMg;refine aJB hm (fun z=>?_);subst z;exact st_X)
  |(apply retQ_m3;exact rfl;exact aMg;exact aMg;exact aMg;refine aJB hm (fun z=>?_);subst z;exact st_X)
  |(apply retQ_0n;exact rfl;refine aJB hm (fun z=>?_);subst z;exact st_X)
  |(apply retQ_0;exact rfl;refine aJB hm (fun z=>?_);subst z;exact st_X)
  |(refine st_I st_f ?_)
  |intro (hm:(_:Option _)=some _)
  |intro (hr:∀ r',_=Sum.inr r'->_)
  |(with_reducible refine aCt fun z=>?_)
  |(with_reducible refine aCu ?_)
  |(intro (zv:(_:Value)=_);subst zv)
  |intro z
  |((with_reducible apply st_we);first|exact ⟨_,by assumption⟩|exact ⟨_,aF.weakK (by assumption) nD⟩)
  |(apply jN;exact rfl)
  |(apply WE_s;exact rfl)
  |apply oS
  |(have zq:=hr _ (Option.some.inj hm).symm;subst zq;have hm:=ho;clear hr ho;try dsimp only at hm)
  |obtain ⟨z,z,hm⟩:=aB hm
  |exact st_no hm
  |refine st_a (fun z z z=>?_)
  |refine st_s (fun z z=>?_)
  |refine st_x (fun z z z=>?_)
  |refine st_ba (by with_reducible assumption) (fun z z z=>?_)
  |refine st_b (T:=24) ([]:List bB) (fun z z z=>?_)
  |refine st_b (T:=25) ([]:List cF) (fun z z z=>?_)
  |refine st_b (T:=26) ([]:List aI) (fun z z z=>?_)
  |refine st_b (T:=29) ([]:List Int) (fun z z z=>?_)
  |refine st_b (T:=33) ([]:List Edge) (fun z z z=>?_)
  |refine st_b (T:=39) ([]:List (List Int)) (fun z z z=>?_)
  |refine st_p (fun z z z z=>?_)
  |(apply st_q2;exact cD;exact cD;(first|assumption|(apply st_rK;assumption;exact nD));assumption;exact st_M;assumption;exact st_S;exact st_u;exact st_e;exact rfl;exact rfl;exact rfl;exact rfl;intro z z z z)
  |(apply vN;intro z z)
  |refine st_k ?_
  |(apply cV)
  |(refine aDn ?_;first|(intro z z;repeat (first|(with_reducible refine aCt fun z=>?_)|with_reducible refine aCu ?_|(intro (zv:(_:Value)=_);subst zv)|intro z))|skip)
  |((first|(apply qK;(with_reducible assumption);exact .head;(first|exact zR _|exact nD);intro zK zh zr zs bk)|(apply qL;(with_reducible assumption);exact .head;intro zK zh zr zs bk));refine aDn ?_;(first|(intro z z;repeat (first|(with_reducible refine aCt fun z=>?_)|with_reducible refine aCu ?_|(intro (zv:(_:Value)=_);subst zv)|intro z))|skip);(have z:=bk _ _ (by with_reducible assumption);clear bk))
  |((first|(apply qK;(with_reducible assumption);exact zt1;(first|exact zR _|exact nD);intro zK zh zr zs bk)|(apply qL;(with_reducible assumption);exact zt1;intro zK zh zr zs bk));refine aDn ?_;(first|(intro z z;repeat (first|(with_reducible refine aCt fun z=>?_)|with_reducible refine aCu ?_|(intro (zv:(_:Value)=_);subst zv)|intro z))|skip);(have z:=bk _ _ (by with_reducible assumption);clear bk))
  |((first|(apply qK;(with_reducible assumption);exact zt2;(first|exact zR _|exact nD);intro zK zh zr zs bk)|(apply qL;(with_reducible assumption);exact zt2;intro zK zh zr zs bk));refine aDn ?_;(first|(intro z z;repeat (first|(with_reducible refine aCt fun z=>?_)|with_reducible refine aCu ?_|(intro (zv:(_:Value)=_);subst zv)|intro z))|skip);(have z:=bk _ _ (by with_reducible assumption);clear bk))
  |((first|(apply qK;(with_reducible assumption);exact zt3;(first|exact zR _|exact nD);intro zK zh zr zs bk)|(apply qL;(with_reducible assumption);exact zt3;intro zK zh zr zs bk));refine aDn ?_;(first|(intro z z;repeat (first|(with_reducible refine aCt fun z=>?_)|with_reducible refine aCu ?_|(intro (zv:(_:Value)=_);subst zv)|intro z))|skip);(have z:=bk _ _ (by with_reducible assumption);clear bk))
  |((first|(apply qK;(with_reducible assumption);exact zt4;(first|exact zR _|exact nD);intro zK zh zr zs bk)|(apply qL;(with_reducible assumption);exact zt4;intro zK zh zr zs bk));refine aDn ?_;(first|(intro z z;repeat (first|(with_reducible refine aCt fun z=>?_)|with_reducible refine aCu ?_|(intro (zv:(_:Value)=_);subst zv)|intro z))|skip);(have z:=bk _ _ (by with_reducible assumption);clear bk))
  |((first|(apply qK;(with_reducible assumption);exact .head;(first|exact zR _|exact nD);intro zK zh zr zs bk)|(apply qL;(with_reducible assumption);exact .head;intro zK zh zr zs bk));(first|(apply qK;(with_reducible assumption);exact .head;(first|exact zR _|exact nD);intro zK zh zr zs bk)|(apply qL;(with_reducible assumption);exact .head;intro zK zh zr zs bk));refine aDn ?_;(first|(intro z z;repeat (first|(with_reducible refine aCt fun z=>?_)|with_reducible refine aCu ?_|(intro (zv:(_:Value)=_);subst zv)|intro z))|skip);(have z:=bk _ _ (by with_reducible assumption);clear bk);(have z:=bk _ _ (by with_reducible assumption);clear bk))
  |((first|(apply qK;(with_reducible assumption);exact zt1;(first|exact zR _|exact nD);intro zK zh zr zs bk)|(apply qL;(with_reducible assumption);exact zt1;intro zK zh zr zs bk));(first|(apply qK;(with_reducible assumption);exact zt1;(first|exact zR _|exact nD);intro zK zh zr zs bk)|(apply qL;(with_reducible assumption);exact zt1;intro zK zh zr zs bk));refine aDn ?_;(first|(intro z z;repeat (first|(with_reducible refine aCt fun z=>?_)|with_reducible refine aCu ?_|(intro (zv:(_:Value)=_);subst zv)|intro z))|skip);(have z:=bk _ _ (by with_reducible assumption);clear bk);(have z:=bk _ _ (by with_reducible assumption);clear bk))
  |((first|(apply qK;(with_reducible assumption);exact zt1;(first|exact zR _|exact nD);intro zK zh zr zs bk)|(apply qL;(with_reducible assumption);exact zt1;intro zK zh zr zs bk));(first|(apply qK;(with_reducible assumption);exact .head;(first|exact zR _|exact nD);intro zK zh zr zs bk)|(apply qL;(with_reducible assumption);exact .head;intro zK zh zr zs bk));refine aDn ?_;(first|(intro z z;repeat (first|(with_reducible refine aCt fun z=>?_)|with_reducible refine aCu ?_|(intro (zv:(_:Value)=_);subst zv)|intro z))|skip);(have z:=bk _ _ (by with_reducible assumption);clear bk);(have z:=bk _ _ (by with_reducible assumption);clear bk))
  |((first|(apply qK;(with_reducible assumption);exact zt2;(first|exact zR _|exact nD);intro zK zh zr zs bk)|(apply qL;(with_reducible assumption);exact zt2;intro zK zh zr zs bk));(first|(apply qK;(with_reducible assumption);exact zt1;(first|exact zR _|exact nD);intro zK zh zr zs bk)|(apply qL;(with_reducible assumption);exact zt1;intro zK zh zr zs bk));refine aDn ?_;(first|(intro z z;repeat (first|(with_reducible refine aCt fun z=>?_)|with_reducible refine aCu ?_|(intro (zv:(_:Value)=_);subst zv)|intro z))|skip);(have z:=bk _ _ (by with_reducible assumption);clear bk);(have z:=bk _ _ (by with_reducible assumption);clear bk))
  |((first|(apply qK;(with_reducible assumption);exact zt2;(first|exact zR _|exact nD);intro zK zh zr zs bk)|(apply qL;(with_reducible assumption);exact zt2;intro zK zh zr zs bk));(first|(apply qK;(with_reducible assumption);exact zt1;(first|exact zR _|exact nD);intro zK zh zr zs bk)|(apply qL;(with_reducible assumption);exact zt1;intro zK zh zr zs bk));(first|(apply qK;(with_reducible assumption);exact zt1;(first|exact zR _|exact nD);intro zK zh zr zs bk)|(apply qL;(with_reducible assumption);exact zt1;intro zK zh zr zs bk));refine aDn ?_;(first|(intro z z;repeat (first|(with_reducible refine aCt fun z=>?_)|with_reducible refine aCu ?_|(intro (zv:(_:Value)=_);subst zv)|intro z))|skip);(have z:=bk _ _ (by with_reducible assumption);clear bk);(have z:=bk _ _ (by with_reducible assumption);clear bk);(have z:=bk _ _ (by with_reducible assumption);clear bk))
  |((first|(apply qK;(with_reducible assumption);exact .head;(first|exact zR _|exact nD);intro zK zh zr zs bk)|(apply qL;(with_reducible assumption);exact .head;intro zK zh zr zs bk));(first|(apply qK;(with_reducible assumption);exact .head;(first|exact zR _|exact nD);intro zK zh zr zs bk)|(apply qL;(with_reducible assumption);exact .head;intro zK zh zr zs bk));(first|(apply qK;(with_reducible assumption);exact .head;(first|exact zR _|exact nD);intro zK zh zr zs bk)|(apply qL;(with_reducible assumption);exact .head;intro zK zh zr zs bk));refine aDn ?_;(first|(intro z z;repeat (first|(with_reducible refine aCt fun z=>?_)|with_reducible refine aCu ?_|(intro (zv:(_:Value)=_);subst zv)|intro z))|skip);(have z:=bk _ _ (by with_reducible assumption);clear bk);(have z:=bk _ _ (by with_reducible assumption);clear bk);(have z:=bk _ _ (by with_reducible assumption);clear bk))
  |((first|(apply qK;(with_reducible assumption);exact zt1;(first|exact zR _|exact nD);intro zK zh zr zs bk)|(apply qL;(with_reducible assumption);exact zt1;intro zK zh zr zs bk));(first|(apply qK;(with_reducible assumption);exact zt1;(first|exact zR _|exact nD);intro zK zh zr zs bk)|(apply qL;(with_reducible assumption);exact zt1;intro zK zh zr zs bk));(first|(apply qK;(with_reducible assumption);exact zt1;(first|exact zR _|exact nD);intro zK zh zr zs bk)|(apply qL;(with_reducible assumption);exact zt1;intro zK zh zr zs bk));refine aDn ?_;(first|(intro z z;repeat (first|(with_reducible refine aCt fun z=>?_)|with_reducible refine aCu ?_|(intro (zv:(_:Value)=_);subst zv)|intro z))|skip);(have z:=bk _ _ (by with_reducible assumption);clear bk);(have z:=bk _ _ (by with_reducible assumption);clear bk);(have z:=bk _ _ (by with_reducible assumption);clear bk))
  |((first|(apply qK;(with_reducible assumption);exact zt3;(first|exact zR _|exact nD);intro zK zh zr zs bk)|(apply qL;(with_reducible assumption);exact zt3;intro zK zh zr zs bk));(first|(apply qK;(with_reducible assumption);exact zt2;(first|exact zR _|exact nD);intro zK zh zr zs bk)|(apply qL;(with_reducible assumption);exact zt2;intro zK zh zr zs bk));(first|(apply qK;(with_reducible assumption);exact zt2;(first|exact zR _|exact nD);intro zK zh zr zs bk)|(apply qL;(with_reducible assumption);exact zt2;intro zK zh zr zs bk));refine aDn ?_;(first|(intro z z;repeat (first|(with_reducible refine aCt fun z=>?_)|with_reducible refine aCu ?_|(intro (zv:(_:Value)=_);subst zv)|intro z))|skip);(have z:=bk _ _ (by with_reducible assumption);clear bk);(have z:=bk _ _ (by with_reducible assumption);clear bk);(have z:=bk _ _ (by with_reducible assumption);clear bk))
  |((first|(apply qK;(with_reducible assumption);exact .head;(first|exact zR _|exact nD);intro zK zh zr zs bk)|(apply qL;(with_reducible assumption);exact .head;intro zK zh zr zs bk));(first|(apply qK;(with_reducible assumption);exact .head;(first|exact zR _|exact nD);intro zK zh zr zs bk)|(apply qL;(with_reducible assumption);exact .head;intro zK zh zr zs bk));(first|(apply qK;(with_reducible assumption);exact .head;(first|exact zR _|exact nD);intro zK zh zr zs bk)|(apply qL;(with_reducible assumption);exact .head;intro zK zh zr zs bk));(first|(apply qK;(with_reducible assumption);exact .head;(first|exact zR _|exact nD);intro zK zh zr zs bk)|(apply qL;(with_reducible assumption);exact .head;intro zK zh zr zs bk));refine aDn ?_;(first|(intro z z;repeat (first|(with_reducible refine aCt fun z=>?_)|with_reducible refine aCu ?_|(intro (zv:(_:Value)=_);subst zv)|intro z))|skip);(have z:=bk _ _ (by with_reducible assumption);clear bk);(have z:=bk _ _ (by with_reducible assumption);clear bk);(have z:=bk _ _ (by with_reducible assumption);clear bk);(have z:=bk _ _ (by with_reducible assumption);clear bk))
  |((first|(with_reducible apply st_g0)|(with_reducible apply st_g1)|(with_reducible apply st_g2)|(with_reducible apply st_g3)|(apply st_g4;exact rfl));rcases aN hm with ⟨z,hm⟩|⟨z,hm⟩))):p:=h
end Gv
