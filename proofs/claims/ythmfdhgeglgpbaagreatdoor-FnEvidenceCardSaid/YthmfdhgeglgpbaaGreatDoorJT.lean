/- Readings of the program's data; what is known of its types. -/
import Derived.Test.YthmfdhgeglgpbaaGreatDoorJYS
import Derived.Test.YthmfdhgeglgpbaaGreatDoorProg
set_option linter.all false
namespace Gv
open Go.Value renaming slice→zS,bool→zB
open Go Go.Proofs Go.Proofs.Tryz
instance:dV Edge where
 sz:=3
 enc d:=[i64 d.F,i64 d.B,i64 d.To]
 len _:=rfl
 one _ v h:=by simp at h;rcases h with rfl|rfl|rfl<;>rfl
 pos:=by decide
instance:El cN where
 sz:=4
 rd K cs d:=∃ (a0:Option Addr) (c0:Nat) (a1:Option Addr) (c1:Nat),cs=[i64 d.N,i64 d.I,zS a0 d.L.length c0,zS a1 d.E.length c1]/\bI K a0 c0 d.L/\bI K a1 c1 d.E
 mono:=fun h ⟨a0,c0,a1,c1,e,h0,h1⟩=>⟨a0,c0,a1,c1,e,h0.mono h,h1.mono h⟩
 len:=fun ⟨_,_,_,_,e,_⟩=>by rw [e];rfl
 one:=fun ⟨_,_,_,_,e,_⟩ v hv=>by rw [e] at hv;simp at hv;rcases hv with rfl|rfl|rfl|rfl<;>rfl
 pos:=by decide
instance:dV aT where
 sz:=4
 enc d:=[i64 d.Kind,i64 d.Variable,str d.B,zB d.Not]
 len _:=rfl
 one _ v h:=by simp at h;rcases h with rfl|rfl|rfl|rfl<;>rfl
 pos:=by decide
instance:El aO where
 sz:=3
 rd K cs d:=∃ (a0:Option Addr) (c0:Nat),cs=[i64 d.Owner,i64 d.Priority,zS a0 d.Next.length c0]/\bI K a0 c0 d.Next
 mono:=fun h ⟨a0,c0,e,h0⟩=>⟨a0,c0,e,h0.mono h⟩
 len:=fun ⟨_,_,e,_⟩=>by rw [e];rfl
 one:=fun ⟨_,_,e,_⟩ v hv=>by rw [e] at hv;simp at hv;rcases hv with rfl|rfl|rfl<;>rfl
 pos:=by decide
instance:El bB where
 sz:=3
 rd K cs d:=∃ (a0:Option Addr) (c0:Nat),cs=[zB d.Greatest,zB d.All,zS a0 d.Terms.length c0]/\bI K a0 c0 d.Terms
 mono:=fun h ⟨a0,c0,e,h0⟩=>⟨a0,c0,e,h0.mono h⟩
 len:=fun ⟨_,_,e,_⟩=>by rw [e];rfl
 one:=fun ⟨_,_,e,_⟩ v hv=>by rw [e] at hv;simp at hv;rcases hv with rfl|rfl|rfl<;>rfl
 pos:=by decide
instance:El fS where
 sz:=3
 rd K cs d:=∃ (a0:Option Addr) (c0:Nat) (a1:Option Addr) (c1:Nat) (a2:Option Addr) (c2:Nat),cs=[zS a0 d.g.length c0,zS a1 d.back.length c1,zS a2 d.in_.length c2]/\bI K a0 c0 d.g/\bI K a1 c1 d.back/\bI K a2 c2 d.in_
 mono:=fun h ⟨a0,c0,a1,c1,a2,c2,e,h0,h1,h2⟩=>⟨a0,c0,a1,c1,a2,c2,e,h0.mono h,h1.mono h,h2.mono h⟩
 len:=fun ⟨_,_,_,_,_,_,e,_⟩=>by rw [e];rfl
 one:=fun ⟨_,_,_,_,_,_,e,_⟩ v hv=>by rw [e] at hv;simp at hv;rcases hv with rfl|rfl|rfl<;>rfl
 pos:=by decide
instance:El gY where
 sz:=9
 rd K cs d:=∃ (a0:Option Addr) (c0:Nat) (a1:Option Addr) (c1:Nat) (a2:Option Addr) (c2:Nat) (a3:Option Addr) (c3:Nat) (a4:Option Addr) (c4:Nat) (a5:Option Addr) (c5:Nat),cs=[zS a0 d.f.length c0,i64 d.t.N,i64 d.t.I,zS a1 d.t.L.length c1,zS a2 d.t.E.length c2,zS a3 d.equations.length c3,zS a4 d.list.length c4,zS a5 d.game.length c5,i64 d.start]/\bI K a0 c0 d.f/\bI K a1 c1 d.t.L/\bI K a2 c2 d.t.E/\bI K a3 c3 d.equations/\bI K a4 c4 d.list/\bI K a5 c5 d.game
 mono:=fun h ⟨a0,c0,a1,c1,a2,c2,a3,c3,a4,c4,a5,c5,e,h0,h1,h2,h3,h4,h5⟩=>⟨a0,c0,a1,c1,a2,c2,a3,c3,a4,c4,a5,c5,e,h0.mono h,h1.mono h,h2.mono h,h3.mono h,h4.mono h,h5.mono h⟩
 len:=fun ⟨_,_,_,_,_,_,_,_,_,_,_,_,e,_⟩=>by rw [e];rfl
 one:=fun ⟨_,_,_,_,_,_,_,_,_,_,_,_,e,_⟩ v hv=>by rw [e] at hv;simp at hv;rcases hv with rfl|rfl|rfl|rfl|rfl|rfl|rfl|rfl|rfl<;>rfl
 pos:=by decide
instance:El aFF where
 sz:=2
 rd K cs d:=∃ (a0:Option Addr) (c0:Nat),cs=[zB d.Verdict,zS a0 d.Rows.length c0]/\bI K a0 c0 d.Rows
 mono:=fun h ⟨a0,c0,e,h0⟩=>⟨a0,c0,e,h0.mono h⟩
 len:=fun ⟨_,_,e,_⟩=>by rw [e];rfl
 one:=fun ⟨_,_,e,_⟩ v hv=>by rw [e] at hv;simp at hv;rcases hv with rfl|rfl<;>rfl
 pos:=by decide
instance:El aMR where
 sz:=4
 rd K cs d:=∃ (a0:Option Addr) (c0:Nat) (a1:Option Addr) (c1:Nat) (a2:Option Addr) (c2:Nat),cs=[zS a0 d.e.length c0,zS a1 d.places.length c1,zS a2 d.g.length c2,i64 d.start]/\bI K a0 c0 d.e/\bI K a1 c1 d.places/\bI K a2 c2 d.g
 mono:=fun h ⟨a0,c0,a1,c1,a2,c2,e,h0,h1,h2⟩=>⟨a0,c0,a1,c1,a2,c2,e,h0.mono h,h1.mono h,h2.mono h⟩
 len:=fun ⟨_,_,_,_,_,_,e,_⟩=>by rw [e];rfl
 one:=fun ⟨_,_,_,_,_,_,e,_⟩ v hv=>by rw [e] at hv;simp at hv;rcases hv with rfl|rfl|rfl|rfl<;>rfl
 pos:=by decide
theorem lI:SLT prog 25 9 1:=⟨runUnderlying25,sizeOf9⟩
theorem sc_9:SC prog 9:=⟨isAgg9,sizeOf9⟩
theorem bF:SLT prog 88 2 1:=⟨runUnderlying88,sizeOf2⟩
theorem jV:EZ prog 2 [i64 0]:=⟨⟨_,zeroValue2,rfl⟩,⟨t2,typeInfo2,by show (8:Nat)<=128;decide,rfl,by kernel_rfl,_,rfl,rfl⟩⟩
theorem dJ:SC prog 2:=⟨isAgg2,sizeOf2⟩
theorem aIY:EZ prog 9 [str []]:=⟨⟨_,zeroValue9,rfl⟩,⟨t9,typeInfo9,by show (16:Nat)<=128;decide,rfl,by kernel_rfl,_,rfl,rfl⟩⟩
theorem sl_22:SLT prog 22 5 1:=⟨runUnderlying22,sizeOf5⟩
theorem bs_74:BS prog 74 [(0,1),(1,1),(2,1)] [zS none 0 0,i64 0,Value.int .u64 0]:=⟨⟨_,zeroValue74,rfl⟩,_,runUnderlying74,fun w=>by simp [sizeOf22,sizeOf3,sizeOf72]⟩
theorem aPx:FA prog 68 0 0:=⟨_,_,_,runUnderlying68,rfl,sizeOf2,rfl,rfl⟩
theorem aGt:FA prog 68 1 1:=⟨_,_,_,runUnderlying68,rfl,sizeOf2,rfl,rfl⟩
theorem aKi:FA prog 68 2 2:=⟨_,_,_,runUnderlying68,rfl,sizeOf2,rfl,rfl⟩
theorem eW:SLT prog 26 68 3:=⟨runUnderlying26,sizeOf68⟩
theorem zV:AG prog 68 3:=⟨isAgg68,sizeOf68⟩
theorem bs_68:BS prog 68 [(0,1),(1,1),(2,1)] [i64 0,i64 0,i64 0]:=⟨⟨_,zeroValue68,rfl⟩,_,runUnderlying68,fun w=>by simp [sizeOf2]⟩
theorem aEE:EZ prog 68 [i64 0,i64 0,i64 0]:=⟨⟨_,zeroValue68,rfl⟩,⟨t68,typeInfo68,by show (24:Nat)<=128;decide,rfl,by kernel_rfl,_,rfl,rfl⟩⟩
theorem bs_28:BS prog 28 [(0,1),(1,1),(2,1),(3,1)] [i64 0,i64 0,zS none 0 0,zS none 0 0]:=⟨⟨_,zeroValue28,rfl⟩,_,runUnderlying28,fun w=>by simp [sizeOf2,sizeOf25,sizeOf26]⟩
theorem aEF:FA prog 28 2 2:=⟨_,_,_,runUnderlying28,rfl,sizeOf25,rfl,rfl⟩
theorem aMT:SC prog 25:=⟨isAgg25,sizeOf25⟩
theorem nF:FA prog 28 3 3:=⟨_,_,_,runUnderlying28,rfl,sizeOf26,rfl,rfl⟩
theorem aAn:SC prog 26:=⟨isAgg26,sizeOf26⟩
theorem sQ:AG prog 28 4:=⟨isAgg28,sizeOf28⟩
theorem pM:FA prog 28 0 0:=⟨_,_,_,runUnderlying28,rfl,sizeOf2,rfl,rfl⟩
theorem aEG:FA prog 28 1 1:=⟨_,_,_,runUnderlying28,rfl,sizeOf2,rfl,rfl⟩
theorem gS:SLT prog 24 45 4:=⟨runUnderlying24,sizeOf45⟩
theorem yD:FA prog 45 0 0:=⟨_,_,_,runUnderlying45,rfl,sizeOf2,rfl,rfl⟩
theorem aKj:FA prog 45 2 2:=⟨_,_,_,runUnderlying45,rfl,sizeOf9,rfl,rfl⟩
theorem aMt:FA prog 45 3 3:=⟨_,_,_,runUnderlying45,rfl,sizeOf4,rfl,rfl⟩
theorem wX:SC prog 4:=⟨isAgg4,sizeOf4⟩
theorem aKk:FA prog 45 1 1:=⟨_,_,_,runUnderlying45,rfl,sizeOf2,rfl,rfl⟩
theorem fa_74_1:FA prog 74 1 1:=⟨_,_,_,runUnderlying74,rfl,sizeOf3,rfl,rfl⟩
theorem sc_3:SC prog 3:=⟨isAgg3,sizeOf3⟩
theorem fa_74_0:FA prog 74 0 0:=⟨_,_,_,runUnderlying74,rfl,sizeOf22,rfl,rfl⟩
theorem sc_22:SC prog 22:=⟨isAgg22,sizeOf22⟩
theorem sc_5:SC prog 5:=⟨isAgg5,sizeOf5⟩
theorem fa_74_2:FA prog 74 2 2:=⟨_,_,_,runUnderlying74,rfl,sizeOf72,rfl,rfl⟩
theorem sc_72:SC prog 72:=⟨isAgg72,sizeOf72⟩
theorem mC:BS prog 45 [(0,1),(1,1),(2,1),(3,1)] [i64 0,i64 0,str [],zB false]:=⟨⟨_,zeroValue45,rfl⟩,_,runUnderlying45,fun w=>by simp [sizeOf2,sizeOf4,sizeOf9]⟩
theorem uU:EZ prog 45 [i64 0,i64 0,str [],zB false]:=⟨⟨_,zeroValue45,rfl⟩,⟨t45,typeInfo45,by show (40:Nat)<=128;decide,rfl,by kernel_rfl,_,rfl,rfl⟩⟩
theorem aGU:AG prog 45 4:=⟨isAgg45,sizeOf45⟩
theorem aMU:SLT prog 77 24 1:=⟨runUnderlying77,sizeOf24⟩
theorem ez_24:EZ prog 24 [zS none 0 0]:=⟨⟨_,zeroValue24,rfl⟩,⟨t24,typeInfo24,by show (24:Nat)<=128;decide,rfl,by kernel_rfl,_,rfl,rfl⟩⟩
theorem sc_24:SC prog 24:=⟨isAgg24,sizeOf24⟩
theorem aKW:SLT prog 168 3 1:=⟨runUnderlying168,sizeOf3⟩
theorem ez_3:EZ prog 3 [i64 0]:=⟨⟨_,zeroValue3,rfl⟩,⟨t3,typeInfo3,by show (8:Nat)<=128;decide,rfl,by kernel_rfl,_,rfl,rfl⟩⟩
theorem aKX:BS prog 123 [(0,1),(1,1),(2,1)] [i64 0,i64 0,zS none 0 0]:=⟨⟨_,zeroValue123,rfl⟩,_,runUnderlying123,fun w=>by simp [sizeOf2,sizeOf88]⟩
theorem aAo:FA prog 123 0 0:=⟨_,_,_,runUnderlying123,rfl,sizeOf2,rfl,rfl⟩
theorem lS:FA prog 123 2 2:=⟨_,_,_,runUnderlying123,rfl,sizeOf88,rfl,rfl⟩
theorem oZ:SC prog 88:=⟨isAgg88,sizeOf88⟩
theorem eL:SLT prog 94 123 3:=⟨runUnderlying94,sizeOf123⟩
theorem qD:SLT prog 50 88 1:=⟨runUnderlying50,sizeOf88⟩
theorem aHI:EZ prog 88 [zS none 0 0]:=⟨⟨_,zeroValue88,rfl⟩,⟨t88,typeInfo88,by show (24:Nat)<=128;decide,rfl,by kernel_rfl,_,rfl,rfl⟩⟩
theorem aCA:SLT prog 91 102 3:=⟨runUnderlying91,sizeOf102⟩
theorem aPy:AG prog 102 3:=⟨isAgg102,sizeOf102⟩
theorem aQw:FA prog 102 0 0:=⟨_,_,_,runUnderlying102,rfl,sizeOf4,rfl,rfl⟩
theorem cQ:SLT prog 64 4 1:=⟨runUnderlying64,sizeOf4⟩
theorem aFG:FA prog 123 1 1:=⟨_,_,_,runUnderlying123,rfl,sizeOf2,rfl,rfl⟩
theorem aKY:AG prog 123 3:=⟨isAgg123,sizeOf123⟩
theorem aBk:EZ prog 123 [i64 0,i64 0,zS none 0 0]:=⟨⟨_,zeroValue123,rfl⟩,⟨t123,typeInfo123,by show (40:Nat)<=128;decide,rfl,by kernel_rfl,_,rfl,rfl⟩⟩
theorem ko_2:aMK prog 2 Int:=keyOk_int runUnderlying2
theorem bs_102:BS prog 102 [(0,1),(1,1),(2,1)] [zB false,zB false,zS none 0 0]:=⟨⟨_,zeroValue102,rfl⟩,_,runUnderlying102,fun w=>by simp [sizeOf4,sizeOf88]⟩
theorem aKZ:EZ prog 102 [zB false,zB false,zS none 0 0]:=⟨⟨_,zeroValue102,rfl⟩,⟨t102,typeInfo102,by show (32:Nat)<=128;decide,rfl,by kernel_rfl,_,rfl,rfl⟩⟩
theorem aQy:FA prog 102 1 1:=⟨_,_,_,runUnderlying102,rfl,sizeOf4,rfl,rfl⟩
theorem aFH:FA prog 102 2 2:=⟨_,_,_,runUnderlying102,rfl,sizeOf88,rfl,rfl⟩
theorem bs_98:BS prog 98 [(0,1),(1,4),(5,1),(6,1),(7,1),(8,1)] [zS none 0 0,i64 0,i64 0,zS none 0 0,zS none 0 0,zS none 0 0,zS none 0 0,zS none 0 0,i64 0]:=⟨⟨_,zeroValue98,rfl⟩,_,runUnderlying98,fun w=>by simp [sizeOf24,sizeOf28,sizeOf3,sizeOf50,sizeOf91,sizeOf94]⟩
theorem aEy:EZ prog 4 [zB false]:=⟨⟨_,zeroValue4,rfl⟩,⟨t4,typeInfo4,by show (1:Nat)<=128;decide,rfl,by kernel_rfl,_,rfl,rfl⟩⟩
theorem aMV:BS prog 217 [(0,1),(1,1),(2,1)] [zS none 0 0,zS none 0 0,zS none 0 0]:=⟨⟨_,zeroValue217,rfl⟩,_,runUnderlying217,fun w=>by simp [sizeOf50,sizeOf64,sizeOf94]⟩
theorem aHJ:FA prog 217 1 1:=⟨_,_,_,runUnderlying217,rfl,sizeOf50,rfl,rfl⟩
theorem aKl:SC prog 50:=⟨isAgg50,sizeOf50⟩
theorem tS:FA prog 217 0 0:=⟨_,_,_,runUnderlying217,rfl,sizeOf94,rfl,rfl⟩
theorem aCB:SC prog 94:=⟨isAgg94,sizeOf94⟩
theorem xJ:FA prog 217 2 2:=⟨_,_,_,runUnderlying217,rfl,sizeOf64,rfl,rfl⟩
theorem aDG:SC prog 64:=⟨isAgg64,sizeOf64⟩
theorem wY:SC prog 161:=⟨isAgg161,sizeOf161⟩
theorem aPz:FA prog 98 2 5:=⟨_,_,_,runUnderlying98,rfl,sizeOf91,rfl,rfl⟩
theorem sc_91:SC prog 91:=⟨isAgg91,sizeOf91⟩
theorem aPA:FA prog 98 5 8:=⟨_,_,_,runUnderlying98,rfl,sizeOf3,rfl,rfl⟩
theorem bs_52:BS prog 52 [(0,1),(1,1)] [zB false,zS none 0 0]:=⟨⟨_,zeroValue52,rfl⟩,_,runUnderlying52,fun w=>by simp [sizeOf4,sizeOf50]⟩
theorem fa_98_4:FA prog 98 4 7:=⟨_,_,_,runUnderlying98,rfl,sizeOf94,rfl,rfl⟩
theorem aKm:FA prog 52 0 0:=⟨_,_,_,runUnderlying52,rfl,sizeOf4,rfl,rfl⟩
theorem aPB:FA prog 98 3 6:=⟨_,_,_,runUnderlying98,rfl,sizeOf50,rfl,rfl⟩
theorem aMu:FA prog 52 1 1:=⟨_,_,_,runUnderlying52,rfl,sizeOf50,rfl,rfl⟩
theorem ag_52:AG prog 52 2:=⟨isAgg52,sizeOf52⟩
theorem sc_47:SC prog 47:=⟨isAgg47,sizeOf47⟩
theorem fa_98_0:FA prog 98 0 0:=⟨_,_,_,runUnderlying98,rfl,sizeOf24,rfl,rfl⟩
theorem fa_98_1:FA prog 98 1 1:=⟨_,_,_,runUnderlying98,rfl,sizeOf28,rfl,rfl⟩
theorem st_68:prog.stoodInHeld 68=false:=by kernel_rfl
theorem eq_68 {x y:Edge}:EQT prog 68 [i64 x.F,i64 x.B,i64 x.To] [i64 y.F,i64 y.B,i64 y.To] (decide (x=y)):=by
 refine ⟨by kernel_rfl,fun w=>?_⟩
 have h2:∀ (a b:Int),(Op.equalIn 9999 2 (i64 a) (i64 b)).run prog w=.ok (a == b) w:=fun a b=>run_eqInI 9998 (runUnderlying2 w)
 have:Op.maxDepth=9999+1:=rfl
 unfold Op.equal
 rw [this]
 unfold Op.equalIn
 simp [runUnderlying68,st_68,part,h2,isAgg2]
 cases x;cases y
 simp
 repeat' split<;>simp_all
theorem Tryz_mixed:prog.follows .mixedOrders=true:=by kernel_rfl
abbrev zC (d:cN) (a:Option Addr) (c:Nat) (b:Option Addr) (e:Nat):List Value:=[i64 d.N,i64 d.I,Value.slice a d.L.length c,Value.slice b d.E.length e]
abbrev zCa (d:cN) (a:Option Addr) (c:Nat) (b:Option Addr) (e:Nat):Array Value:=#[i64 d.N,i64 d.I,Value.slice a d.L.length c,Value.slice b d.E.length e]
abbrev zG:List Value:=[i64 0,i64 0,Value.slice none 0 0,Value.slice none 0 0]
abbrev zGa:Array Value:=#[i64 0,i64 0,Value.slice none 0 0,Value.slice none 0 0]
abbrev zK:List Value:=[i64 0,i64 0,Value.slice none 0 0,Value.slice none 0 0,Value.slice none 0 0,Value.slice none 0 0]
abbrev zKa:Array Value:=#[i64 0,i64 0,Value.slice none 0 0,Value.slice none 0 0,Value.slice none 0 0,Value.slice none 0 0]
end Gv
namespace Gv
open Go.Value renaming slice→zS
open Gv.Hp renaming le_refl→zR
open Go Go.Proofs Go.Proofs.Tryz
theorem pR {p:Prop} (h:p:=by first|assumption|(apply st_cK;assumption;exact nC)):p:=h
theorem st_HR {p:Prop} (h:p:=by first|assumption|(apply st_rK;assumption;exact nC)):p:=h
theorem st_S {p:Prop} (h:p:=by with_reducible first|exact lI|exact bF|exact sl_22|exact eW|exact gS|exact aMU|exact aKW|exact eL|exact qD|exact aCA|exact cQ):p:=h
theorem yP {p:Prop} (h:p:=by with_reducible first|exact sc_9|exact dJ|exact aMT|exact aAn|exact wX|exact sc_3|exact sc_22|exact sc_5|exact sc_72|exact sc_24|exact oZ|exact aKl|exact aCB|exact aDG|exact wY|exact sc_91|exact sc_47):p:=h
theorem aFk {p:Prop} (h:p:=by with_reducible first|exact zV|exact sQ|exact aGU|exact aPy|exact aKY|exact ag_52):p:=h
theorem st_F {p:Prop} (h:p:=by with_reducible first|exact aPx|exact aGt|exact aKi|exact aEF|exact nF|exact pM|exact aEG|exact yD|exact aKj|exact aMt|exact aKk|exact fa_74_1|exact fa_74_0|exact fa_74_2|exact aAo|exact lS|exact aQw|exact aFG|exact aQy|exact aFH|exact aHJ|exact tS|exact xJ|exact aPz|exact aPA|exact fa_98_4|exact aKm|exact aPB|exact aMu|exact fa_98_0|exact fa_98_1):p:=h
theorem za_2:ZA prog 2 [i64 0]:=⟨_,zeroValue2,rfl⟩
theorem za_28:ZA prog 28 [i64 0,i64 0,zS none 0 0,zS none 0 0]:=⟨_,zeroValue28,rfl⟩
theorem za_45:ZA prog 45 [i64 0,i64 0,str ([]:aJ),Value.bool false]:=⟨_,zeroValue45,rfl⟩
theorem za_52:ZA prog 52 [Value.bool false,zS none 0 0]:=⟨_,zeroValue52,rfl⟩
theorem za_64:ZA prog 64 [zS none 0 0]:=⟨_,zeroValue64,rfl⟩
theorem za_68:ZA prog 68 [i64 0,i64 0,i64 0]:=⟨_,zeroValue68,rfl⟩
theorem za_88:ZA prog 88 [zS none 0 0]:=⟨_,zeroValue88,rfl⟩
theorem za_102:ZA prog 102 [Value.bool false,Value.bool false,zS none 0 0]:=⟨_,zeroValue102,rfl⟩
theorem za_123:ZA prog 123 [i64 0,i64 0,zS none 0 0]:=⟨_,zeroValue123,rfl⟩
theorem za_161:ZA prog 161 [Value.pointer none]:=⟨_,zeroValue161,rfl⟩
theorem st_r {p:Prop} (h:p:=by with_reducible first|exact runUnderlying147|exact runUnderlying178|exact runUnderlying2|exact runUnderlying219|exact runUnderlying3|exact runUnderlying4|exact runUnderlying5|exact runUnderlying72|exact runUnderlying9):p:=h
theorem st_h {p:Prop} (h:p:=by with_reducible first|exact bs_74|exact bs_68|exact bs_28|exact mC|exact aKX|exact bs_102|exact bs_98|exact aMV|exact bs_52):p:=h
theorem st_e {p:Prop} (h:p:=by with_reducible first|exact jV|exact aIY|exact aEE|exact uU|exact ez_24|exact ez_3|exact aHI|exact aBk|exact aKZ|exact aEy):p:=h
theorem st_u {p:Prop} (h:p:=by with_reducible first|exact underlying168|exact underlying24|exact underlying25|exact underlying26|exact underlying50|exact underlying64|exact underlying88|exact underlying91|exact underlying94):p:=h
theorem st_z {p:Prop} (h:p:=by with_reducible first|exact sizeOf102|exact sizeOf123|exact sizeOf161|exact sizeOf2|exact sizeOf25|exact sizeOf26|exact sizeOf28|exact sizeOf3|exact sizeOf4|exact sizeOf45|exact sizeOf50|exact sizeOf52|exact sizeOf64|exact sizeOf68|exact sizeOf72|exact sizeOf88|exact sizeOf9):p:=h
theorem st_y {p:Prop} (h:p:=by with_reducible first|exact za_2|exact za_28|exact za_45|exact za_52|exact za_64|exact za_68|exact za_88|exact za_102|exact za_123|exact za_161):p:=h
theorem aOB {p:Prop} (h:p:=by first|exact V_moveC|exact V_assignC|(apply V_B;first|(apply V_add;exact cC;exact cC)|(apply V_sub;exact cC;exact cC)|(apply V_mul;exact cC;exact cC)|(apply V_lss;exact cC;exact cC)|(apply V_leq;exact cC;exact cC)|(apply V_gtr;exact cC;exact cC)|(apply V_geq;exact cC;exact cC)|(apply V_eql;exact cC;exact cC)|(apply V_neq;exact cC;exact cC)|(apply V_eqlS;exact cC;exact cC)|(apply V_neqS;exact cC;exact cC)|(apply V_lssS;exact cC;exact cC)|(apply V_leqS;exact cC;exact cC)|(apply V_gtrS;exact cC;exact cC)|(apply V_geqS;exact cC;exact cC))|exact V_moveF|exact V_assignF|(apply V_move;exact cC)|(apply V_assign;exact cC)|(apply V_fldP;exact cC;exact st_F)|(apply V_fldE;exact cC;exact pR;exact st_F)|(apply V_fldO;exact cC;exact eV;exact aJz;exact eV;exact st_F)|(apply V_L;first|(apply V_ldB;exact cC;exact eV;exact aJz;exact rfl;exact yP)|(apply V_ldBG;exact cC;exact eV;exact aJz;exact aFk;exact st_D)|(apply aLF (t:=0);exact cC;exact pR;exact eV;exact rfl;exact yP)|(apply aLF (t:=1);exact cC;exact pR;exact eV;exact rfl;exact yP)|(apply aLF (t:=2);exact cC;exact pR;exact eV;exact rfl;exact yP)|(apply aLF (t:=3);exact cC;exact pR;exact eV;exact rfl;exact yP)|(apply aLF (t:=4);exact cC;exact pR;exact eV;exact rfl;exact yP)|(apply aLF (t:=5);exact cC;exact pR;exact eV;exact rfl;exact yP)|(apply aLF (t:=6);exact cC;exact pR;exact eV;exact rfl;exact yP)|(apply aLF (t:=7);exact cC;exact pR;exact eV;exact rfl;exact yP)|(apply aHH (t:=0);exact cC;exact pR;exact eV;exact aFk;exact rfl;exact rfl)|(apply aHH (t:=1);exact cC;exact pR;exact eV;exact aFk;exact rfl;exact rfl)|(apply aHH (t:=2);exact cC;exact pR;exact eV;exact aFk;exact rfl;exact rfl)|(apply aHH (t:=3);exact cC;exact pR;exact eV;exact aFk;exact rfl;exact rfl)|(apply aHH (t:=4);exact cC;exact pR;exact eV;exact aFk;exact rfl;exact rfl)|(apply aHH (t:=5);exact cC;exact pR;exact eV;exact aFk;exact rfl;exact rfl)|(apply aHH (t:=6);exact cC;exact pR;exact eV;exact aFk;exact rfl;exact rfl)|(apply aHH (t:=7);exact cC;exact pR;exact eV;exact aFk;exact rfl;exact rfl)|(apply V_ldO (t:=0);exact cC;exact eV;exact aJz;exact eV;exact rfl;exact rfl;exact yP)|(apply V_ldO (t:=1);exact cC;exact eV;exact aJz;exact eV;exact rfl;exact rfl;exact yP)|(apply V_ldO (t:=2);exact cC;exact eV;exact aJz;exact eV;exact rfl;exact rfl;exact yP)|(apply V_ldO (t:=3);exact cC;exact eV;exact aJz;exact eV;exact rfl;exact rfl;exact yP)|(apply V_ldO (t:=4);exact cC;exact eV;exact aJz;exact eV;exact rfl;exact rfl;exact yP)|(apply V_ldOG (t:=0);exact cC;exact eV;exact aJz;exact eV;exact rfl;exact aFk;exact rfl;exact rfl)|(apply V_ldOG (t:=1);exact cC;exact eV;exact aJz;exact eV;exact rfl;exact aFk;exact rfl;exact rfl)|(apply V_ldOG (t:=2);exact cC;exact eV;exact aJz;exact eV;exact rfl;exact aFk;exact rfl;exact rfl)|(apply aLH (t:=0);exact cC;exact eV;exact eV;exact nC;exact rfl;exact yP)|(apply aLH (t:=1);exact cC;exact eV;exact eV;exact nC;exact rfl;exact yP)|(apply aLH (t:=2);exact cC;exact eV;exact eV;exact nC;exact rfl;exact yP)|(apply aLH (t:=3);exact cC;exact eV;exact eV;exact nC;exact rfl;exact yP)|(apply aLH (t:=4);exact cC;exact eV;exact eV;exact nC;exact rfl;exact yP)|(apply aLH (t:=5);exact cC;exact eV;exact eV;exact nC;exact rfl;exact yP)|(apply aLH (t:=6);exact cC;exact eV;exact eV;exact nC;exact rfl;exact yP)|(apply aLH (t:=7);exact cC;exact eV;exact eV;exact nC;exact rfl;exact yP)|(apply aPw (t:=0);exact cC;exact eV;exact eV;exact nC;exact aFk;exact rfl;exact rfl)|(apply aPw (t:=1);exact cC;exact eV;exact eV;exact nC;exact aFk;exact rfl;exact rfl)|(apply aPw (t:=2);exact cC;exact eV;exact eV;exact nC;exact aFk;exact rfl;exact rfl)|(apply aPw (t:=3);exact cC;exact eV;exact eV;exact nC;exact aFk;exact rfl;exact rfl)|(apply aLG (t:=0);exact eV;exact pR;exact cC;exact rfl;exact yP)|(apply aLG (t:=1);exact eV;exact pR;exact cC;exact rfl;exact yP)|(apply aLG (t:=2);exact eV;exact pR;exact cC;exact rfl;exact yP)|(apply aLG (t:=3);exact eV;exact pR;exact cC;exact rfl;exact yP)|(apply aLG (t:=4);exact eV;exact pR;exact cC;exact rfl;exact yP)|(apply aLG (t:=5);exact eV;exact pR;exact cC;exact rfl;exact yP)|(apply aLG (t:=6);exact eV;exact pR;exact cC;exact rfl;exact yP)|(apply aLG (t:=7);exact eV;exact pR;exact cC;exact rfl;exact yP)|(apply aPv (t:=0);exact eV;exact pR;exact cC;exact aFk;exact rfl;exact rfl)|(apply aPv (t:=1);exact eV;exact pR;exact cC;exact aFk;exact rfl;exact rfl)|(apply aPv (t:=2);exact eV;exact pR;exact cC;exact aFk;exact rfl;exact rfl)|(apply aPv (t:=3);exact eV;exact pR;exact cC;exact aFk;exact rfl;exact rfl))|(apply V_lenS;exact st_S;exact cC)|(apply V_nilE;exact cC;exact pR)|(apply V_nilP;exact cC)|(apply V_nilO;exact cC;exact eV;exact aJz;exact eV)|(apply V_ixE;exact cC;exact cC;exact st_HR;exact eV;exact rfl;exact st_S;exact rfl)|(apply V_ixO;exact cC;exact cC;exact eV;exact aJz;exact eV;exact rfl;exact st_S;exact rfl)|(apply V_extract;exact cC;exact rfl)|(apply V_pickT;exact cC;exact aMa;exact cC)|(apply V_pickF;exact cC;exact aMa;exact cC)|(apply V_not;exact cC)|(apply V_lenStr;exact st_r;exact cC)|(apply V_ixS;exact st_r;exact cC;exact cC;exact eV)|(apply V_conv64;exact st_r;exact cC;exact ⟨_,st_r⟩)|(apply V_convu64;exact st_r;exact cC;exact ⟨_,st_r⟩)|(apply V_u8sub';exact cC;exact cC)|(apply V_neg;exact cC)|(apply V_quo;exact cC;exact cC;exact eV)|(apply V_rem;exact cC;exact cC;exact eV)|(apply V_cat;exact cC;exact cC;exact eV)|(apply V_eqlB;exact st_r;exact cC;exact cC)|(apply V_neqB;exact st_r;exact cC;exact cC)|(apply V_u64add;exact cC;exact cC)|(apply V_u64mul;exact cC;exact cC)|(apply V_shrU;exact cC;exact cC;exact eV)|(apply V_andU;exact cC;exact cC)|(apply V_min;exact cC;exact cC)|(apply V_slSLH;exact st_r;exact cC;exact cC;exact cC;exact eV)|(apply V_slSL;exact st_r;exact cC;exact cC;exact eV)|(apply V_slSH;exact st_r;exact cC;exact cC;exact eV)|(apply V_isNil;exact st_S;exact cC;exact rfl)|(apply V_build;exact st_h;exact rfl;exact (by kernel_rfl))|(apply aRH;exact rfl)):p:=h
theorem aDz {P:Program} {n:Nat} {f:Nat->Value} {w:World} {ty:TypeId} {pos:String} {af:Array Go.Edge} {C:World->Prop} {R:(Nat->Value)->World->Prop} {os:List Oper} {d:Nat} {op:Op} {v:Value} {bs:List Nat} {m:Nat} {listed:Array Bool} (i:Nat) (h:WA P n os.toArray C bs R m (listed.setIfInBounds i true) (upd f d v) w) (hi:aDD os i=some ⟨some d,op,ty,pos,af,none⟩:=by exact rfl) (hB:lookB os.toArray bs listed i=true:=by kernel_rfl) (hC:C w:=by first|exact ⟨_,by assumption⟩|exact ⟨_,aF.weakK (by assumption) nC⟩) (hr:∀ w,C w->EX P f op v d ty pos af w:=by rintro _ ⟨_,_⟩;exact aOB):WA P n os.toArray C bs R (m+1) listed f w:=V_WA hi hB hC hr h
theorem aBh {p q:Prop} (k:q) (h:Hd q->p:=by
 intro hk
 first
  |(apply VO;exact aOB)
  |(apply VQ;intro _ _;exact aOB)
  |(apply aY)
  |with_reducible apply aC
  |with_reducible apply bW
  |(apply aK)
  |(apply aU)
  |(apply aW)
  |(apply yO)
  |(apply aRg;exact cC;exact aMa)
  |(apply aRk;exact cC;exact aMa)
  |with_reducible apply gZ
  |with_reducible apply vB
  |(with_reducible apply aOr;exact rfl)
  |(apply V_onT;exact rfl;exact cC;exact aMa)
  |(apply V_onF;exact rfl;exact cC;exact aMa)
  |(apply V_offF;exact rfl;exact cC;exact aMa)
  |(apply V_offT;exact rfl;exact cC;exact aMa)
  |(apply Q_onT;exact rfl;exact cC;exact aMa)
  |(apply Q_onF;exact rfl;exact cC;exact aMa)
  |(apply Q_offF;exact rfl;exact cC;exact aMa)
  |(apply Q_offT;exact rfl;exact cC;exact aMa)
  |(apply xF;exact rfl;exact cC)
  |(apply aPC;exact rfl;exact cC)
  |(apply V_WE;exact rfl;rintro _ ⟨_,_⟩;exact aOB)
  |(apply V_WT;exact rfl;intro _;exact aOB)
 exact hk.k):p:=h ⟨k⟩
theorem aAW {p q:Prop} (k:q) (h:Hd q->p:=by
 intro hk
 repeat (first
  |(apply VO;exact aOB)
  |(apply VQ;intro _ _;exact aOB)
  |(apply aY)
  |with_reducible apply aC
  |with_reducible apply bW
  |(apply aK)
  |(apply aU)
  |(apply aW)
  |(apply yO)
  |(apply aRg;exact cC;exact aMa)
  |(apply aRk;exact cC;exact aMa)
  |with_reducible apply gZ
  |with_reducible apply vB
  |(with_reducible apply aOr;exact rfl)
  |(apply V_onT;exact rfl;exact cC;exact aMa)
  |(apply V_onF;exact rfl;exact cC;exact aMa)
  |(apply V_offF;exact rfl;exact cC;exact aMa)
  |(apply V_offT;exact rfl;exact cC;exact aMa)
  |(apply Q_onT;exact rfl;exact cC;exact aMa)
  |(apply Q_onF;exact rfl;exact cC;exact aMa)
  |(apply Q_offF;exact rfl;exact cC;exact aMa)
  |(apply Q_offT;exact rfl;exact cC;exact aMa)
  |(apply xF;exact rfl;exact cC)
  |(apply aPC;exact rfl;exact cC)
  |(apply V_WE;exact rfl;rintro _ ⟨_,_⟩;exact aOB)
  |(apply V_WT;exact rfl;intro _;exact aOB))
 exact hk.k):p:=h ⟨k⟩
theorem st_call {p:Prop} (h:p:=by with_reducible first|exact call4|exact call5|exact call6|exact call7|exact call8|exact call9|exact call10|exact call11|exact call12|exact call13|exact call14|exact call15|exact call16|exact call17|exact call18|exact call19|exact call20|exact call21|exact call22|exact call23|exact call24|exact call25|exact call26|exact call27|exact call28|exact call29|exact call30|exact call31|exact call32|exact call33|exact call34|exact call35|exact call36|exact call37|exact call38|exact call39|exact call40|exact call41|exact call42|exact call43|exact call44|exact call45|exact call46|exact call47|exact call48|exact call49|exact call50|exact call51|exact call52|exact call53|exact call54|exact call55|exact call56|exact call57|exact call58|exact call59|exact call60|exact call61|exact call63|exact call66|exact call67|exact call68|exact call69|exact call70|exact call71|exact call72|exact call73|exact call74|exact call75|exact call76|exact call77|exact call78|exact call79|exact call80|exact call81|exact call82|exact call83|exact call84|exact call85|exact call86|exact call87|exact call88|exact call89|exact call90|exact call91|exact call92|exact call93|exact call94|exact call95|exact call96|exact call99|exact call100|exact call102|exact call103|exact call104|exact call105|exact call106|exact call107|exact call108|exact call109|exact call110|exact call111|exact call112|exact call113|exact call114|exact call115|exact call116|exact call117|exact call118|exact call119|exact call120|exact call121|exact call122|exact call123|exact call124|exact call125|exact call126|exact call127|exact call128|exact call129|exact call130|exact call131|exact call132|exact call133|exact call134|exact call135|exact call136|exact call137|exact call138|exact call139|exact call140|exact call141|exact call142|exact call143|exact call145|exact call146|exact call147|exact call148|exact call149|exact call150|exact call162|exact call163|exact call172|exact call173|exact call174|exact call175|exact call176|exact call177|exact call178|exact call179|exact call180|exact call181|exact call182|exact call183|exact call184|exact call185|exact call186|exact call187|exact call188|exact call189|exact call190|exact call191|exact call192|exact call193|exact call194|exact call195|exact call196|exact call198|exact call206|exact call207|exact call208|exact call209|exact call210|exact call211|exact call215|exact call216|exact call217|exact call218|exact call219|exact call230|exact call232|exact call233|exact call234|exact call236|exact call243|exact call247|exact call248|exact call249|exact call250|exact call251):p:=h
theorem st_f {p:Prop} (h:p:=by with_reducible first|exact func3|exact func4|exact func5|exact func6|exact func7|exact func8|exact func9|exact func10|exact func11|exact func12|exact func13|exact func14|exact func15|exact func16|exact func17|exact func18|exact func19|exact func20|exact func24|exact func25|exact func27|exact func28|exact func29|exact func30|exact func31|exact func32|exact func33|exact func34|exact func35|exact func36|exact func37|exact func38|exact func39|exact func40|exact func41|exact func42|exact func43|exact func44|exact func45|exact func46|exact func47|exact func48|exact func49|exact func50|exact func52|exact func53|exact func54|exact func55|exact func56|exact func57|exact func59|exact func60|exact func61|exact func62|exact func63|exact func64|exact func65|exact func66|exact func67|exact func68|exact func69|exact func70|exact func71|exact func72|exact func73|exact func74|exact func75|exact func76|exact func77|exact func78|exact func79|exact func80|exact func81|exact func82|exact func83|exact func84|exact func85|exact func86|exact func87|exact func88|exact func89|exact func90|exact func91|exact func92|exact func93|exact func94|exact func95|exact func96|exact func99|exact func100|exact func102|exact func103|exact func104|exact func105|exact func106|exact func107|exact func108|exact func109|exact func110|exact func111|exact func112|exact func113|exact func114|exact func115|exact func116|exact func117|exact func118|exact func119|exact func120|exact func121|exact func122|exact func123|exact func124|exact func125|exact func126|exact func127|exact func128|exact func129|exact func130|exact func131|exact func132|exact func133|exact func134|exact func135|exact func136|exact func137|exact func138|exact func139|exact func140|exact func141|exact func142|exact func144|exact func145|exact func146|exact func147|exact func148|exact func150|exact func162|exact func163|exact func172|exact func173|exact func174|exact func175|exact func176|exact func177|exact func178|exact func179|exact func180|exact func181|exact func182|exact func183|exact func184|exact func185|exact func186|exact func187|exact func188|exact func189|exact func190|exact func191|exact func192|exact func193|exact func194|exact func195|exact func196|exact func198|exact func206|exact func208|exact func210|exact func211|exact func215|exact func216|exact func217|exact func218|exact func219|exact func232|exact func233|exact func234|exact func236|exact func247|exact func248|exact func249|exact func251):p:=h
theorem aOD {p:Prop} (h:p:=by first|((with_reducible apply aKQ);exact rfl;exact rfl)|((with_reducible apply V_rvG);exact cC;exact eV;exact aJz;exact aFk;exact rfl;exact rfl)|((with_reducible apply V_rvB);exact cC;exact eV;exact aJz;exact yP;exact rfl)):p:=h
theorem st_X {p:Prop} (h:p:=by
 (repeat (first
  |exact bG
  |(with_reducible apply Exists.intro)
  |((with_reducible apply And.intro);· first|exact bG|(with_reducible assumption)|exact (Option.some.inj (by with_reducible assumption)).symm|exact rfl|assumption|exact zR _|exact nC|exact aCO _|(apply st_rK;assumption;exact nC)|(apply st_cK;assumption;exact nC)|exact dH (by assumption))
  |(with_reducible assumption)|exact aCN|exact rfl|assumption));first|done|fail):p:=h
theorem aDH {p q:Prop} (k:q) (h:Hd q->p:=by
 intro hk
 (first|apply st_ca|apply st_cb|apply st_cq);exact st_call;(first|(with_reducible intro z z)|skip);(first|((with_reducible first|apply lG|apply aFY|apply yZ|apply aNj|apply aIg|apply xC|apply aIq|apply aGd|apply aNm|apply aIr|apply aMj|apply aHj|apply qX|apply aEt|apply vY|apply aIs|apply kF|apply yA|apply jK|apply uS|apply aBe|apply aHi|apply aJc|apply aKE|apply aOi|apply aCu|apply aIp|apply aEs|apply aMi|apply aEX|apply aEY|apply aAR|apply vW|apply aGF|apply jJ|apply aGc|apply oM|apply zJ|apply mE|apply pK|apply aHh|apply rI|apply wV|apply tN|apply lB|apply xD|apply vX|apply tM|apply wU|apply rH|apply aLl|apply aIj|apply aCG|apply aJa|apply aKD|apply aJr|apply aJb|apply aBc|apply pJ|apply oB|apply zD|apply aLm|apply aCH|apply mM|apply aEV|apply aIk|apply aIl|apply dK|apply oC|apply aFZ|apply pO|apply aCi|apply aCj|apply zF|apply aHf|apply aBd|apply aJG|apply aGa|apply aHg|apply aFx|apply aEp|apply lA|apply nA|apply nB|apply aCI|apply aCK|apply aAN|apply oL|apply aCL|apply aCM|apply aCl|apply aJE|apply aNe|apply aOd|apply aMc|apply aOe|apply aNf|apply aCE|apply uA|apply aLf|apply aOf|apply aIb|apply wT|apply vV|apply aEz|apply aLg|apply aNg|apply aIc|apply aId|apply aEk|apply aOg|apply aEl|apply aIe|apply aNh|apply aJq|apply mL|apply aPF|apply aHb|apply aMd|apply aHc|apply aNi|apply aLh|apply aIf|apply aHd|apply aLk|apply aNk|apply aIh|apply aIZ|apply aEo|apply aIi|apply aJF|apply aPG|apply aMh|apply aCh|apply aNl|apply aFX|apply aLi|apply aMe|apply aEU|apply aHe|apply aMf|apply aOh|apply aLj|apply aGD|apply aMg|apply aGE|apply aEm|apply bH|apply nJ|apply aCF|apply aAf|apply lP|apply aJD|apply aCD|apply dZ|apply aAS|apply aJs|apply aIt|apply aMk|apply aMl|apply aHk|apply aJt|apply aHl|apply aHn|apply rS|apply xE|apply aMm|apply aBf|apply tO|apply rL|apply aJH|apply uR|apply aIm|apply aCk|apply aIn|apply aEW|apply kZ|apply aIo|apply zH|apply gM);with_reducible assumption)|(with_reducible apply aCf;with_reducible assumption)|(with_reducible apply aCg;with_reducible assumption)|(with_reducible apply aEn;with_reducible assumption)|(with_reducible apply aAQ;with_reducible assumption)|(with_reducible apply lN;with_reducible assumption)|(with_reducible apply aCJ;with_reducible assumption)|(with_reducible apply aAM;with_reducible assumption)|(with_reducible apply aAO;with_reducible assumption)|(with_reducible apply aAP;with_reducible assumption)|(with_reducible apply aEq;with_reducible assumption)|(with_reducible apply aEr;with_reducible assumption)|(with_reducible apply aGb;with_reducible assumption)|(with_reducible apply vU;with_reducible assumption)|(with_reducible apply aEu;with_reducible assumption)|(with_reducible apply aEv;with_reducible assumption)|(with_reducible apply aGe;with_reducible assumption)|(with_reducible apply lib_SortRowsF;all_goals (try with_reducible assumption))|(with_reducible apply lib_Cut;all_goals (try with_reducible assumption))|(with_reducible apply lib_Split;all_goals (try with_reducible assumption))|(with_reducible apply aPE;all_goals (try with_reducible assumption))|(with_reducible apply lib_Join;all_goals (try with_reducible assumption))|(with_reducible apply aIa;all_goals (try with_reducible assumption))|(with_reducible apply aLP;all_goals (try with_reducible assumption))|(with_reducible apply aMb;all_goals (try with_reducible assumption))|(with_reducible apply lib_SortEdge;all_goals (try with_reducible assumption))|(with_reducible apply aQP;all_goals (try with_reducible assumption))|(with_reducible apply aPN;all_goals (try with_reducible assumption)));(case hv=>exact rfl);(repeat (first|assumption|exact aCN|(apply st_rK;assumption;exact nC)|(apply st_cK;assumption;exact nC)|exact aCO _|exact nC|exact zR _|exact rfl|exact dH (by assumption)));exact hk.k;first|done|fail):p:=h ⟨k⟩
set_option maxRecDepth 100000 in
theorem aN {p:Prop} (h:p:=by
 repeat' (first
  |(apply st_i;exact cC;exact cC;exact eV;exact eV;exact rfl;exact st_S;exact rfl;intro z z zr;first|(have zr:=st_pd zr;subst zr)|obtain ⟨z,z,rfl,z⟩:=zr|obtain ⟨z,z,z,z,rfl,z,z⟩:=zr|obtain ⟨z,z,z,z,z,z,rfl,z,z,z⟩:=zr|obtain ⟨z,z,z,z,z,z,z,z,rfl,z,z,z,z⟩:=zr)
  |(apply st_iQ;exact cC;exact cC;exact eV;exact eV;exact rfl;exact st_S;exact rfl;intro z z zr;first|(have zr:=st_pd zr;subst zr)|obtain ⟨z,z,rfl,z⟩:=zr|obtain ⟨z,z,z,z,rfl,z,z⟩:=zr|obtain ⟨z,z,z,z,z,z,rfl,z,z,z⟩:=zr|obtain ⟨z,z,z,z,z,z,z,z,rfl,z,z,z,z⟩:=zr)
  |(apply st_iE;exact rfl;exact cC;exact cC;exact eV;exact eV;exact rfl;exact st_S;exact rfl;intro z z zr;first|(have zr:=st_pd zr;subst zr)|obtain ⟨z,z,rfl,z⟩:=zr|obtain ⟨z,z,z,z,rfl,z,z⟩:=zr|obtain ⟨z,z,z,z,z,z,rfl,z,z,z⟩:=zr|obtain ⟨z,z,z,z,z,z,z,z,rfl,z,z,z,z⟩:=zr)
  |(apply VO;exact aOB)
  |(apply VQ;intro _ _;exact aOB)
  |(apply aY)
  |with_reducible apply aC
  |with_reducible apply bW
  |(apply aK)
  |(apply aU)
  |(apply aW)
  |(apply yO)
  |(apply aRg;exact cC;exact aMa)
  |(apply aRk;exact cC;exact aMa)
  |with_reducible apply gZ
  |with_reducible apply vB
  |(with_reducible apply aOr;exact rfl)
  |(apply V_onT;exact rfl;exact cC;exact aMa)
  |(apply V_onF;exact rfl;exact cC;exact aMa)
  |(apply V_offF;exact rfl;exact cC;exact aMa)
  |(apply V_offT;exact rfl;exact cC;exact aMa)
  |(apply Q_onT;exact rfl;exact cC;exact aMa)
  |(apply Q_onF;exact rfl;exact cC;exact aMa)
  |(apply Q_offF;exact rfl;exact cC;exact aMa)
  |(apply Q_offT;exact rfl;exact cC;exact aMa)
  |(apply xF;exact rfl;exact cC)
  |(apply aPC;exact rfl;exact cC)
  |(apply V_WE;exact rfl;rintro _ ⟨_,_⟩;exact aOB)
  |(apply V_WT;exact rfl;intro _;exact aOB)
  |apply nD
  |with_reducible apply kJ
  |with_reducible apply aHv
  |exact st_X
  |(apply oW;exact rfl;exact rfl;refine aLI hm (fun z=>?_);subst z;exact st_X)
  |(apply retQ_2;exact rfl;exact rfl;exact rfl;refine aLI hm (fun z=>?_);subst z;exact st_X)
  |(apply aPj;exact rfl;exact rfl;exact rfl;exact rfl;refine aLI hm (fun z=>?_);subst z;exact st_X)
  |(apply retQ_m1;exact rfl;exact aOD;refine aLI hm (fun z=>?_);subst z;exact st_X)
  |(apply aMs;exact rfl;exact aOD;exact aOD;refine aLI hm (fun z=>?_);subst z;exact st_X)
  |(apply retQ_m3;exact rfl;exact aOD;exact aOD;exact aOD;refine aLI hm (fun z=>?_);subst z;exact st_X)
  |(apply retQ_0n;exact rfl;refine aLI hm (fun z=>?_);subst z;exact st_X)
  |(apply retQ_0;exact rfl;refine aLI hm (fun z=>?_);subst z;exact st_X)
  |(refine aBM st_f ?_)
  |intro (hm:(_:Option _)=some _)
  |intro (hr:∀ r',_=Sum.inr r'->_)
  |(with_reducible refine aCy fun z=>?_)
  |(with_reducible refine aCz ?_)
  |(intro (zv:(_:Value)=_);subst zv)
  |intro z
  |((with_reducible apply st_we);first|exact ⟨_,by assumption⟩|exact ⟨_,aF.weakK (by assumption) nC⟩)
  |(apply fR;exact rfl)
  |(apply aHm;exact rfl)
  |apply lV
  |(have zq:=hr _ (Option.some.inj hm).symm;subst zq;have hm:=ho;clear hr ho;try dsimp only at hm)
  |obtain ⟨z,z,hm⟩:=aB hm
  |exact st_no hm
  |refine aEx (fun z z z=>?_)
  |refine aFy (fun z z=>?_)
  |refine aGg (fun z z z=>?_)
  |refine st_ba (by with_reducible assumption) (fun z z z=>?_)
  |refine aCp (T:=24) ([]:List aT) (fun z z z=>?_)
  |refine aCp (T:=25) ([]:List aJ) (fun z z z=>?_)
  |refine aCp (T:=26) ([]:List Edge) (fun z z z=>?_)
  |refine aCp (T:=64) ([]:List Bool) (fun z z z=>?_)
  |refine aCp (T:=88) ([]:List Int) (fun z z z=>?_)
  |refine aCp (T:=91) ([]:List bB) (fun z z z=>?_)
  |refine aCp (T:=94) ([]:List aO) (fun z z z=>?_)
  |refine aNS (fun z z z z=>?_)
  |(apply st_q2;exact cC;exact cC;(first|assumption|(apply st_rK;assumption;exact nC));assumption;exact st_M;assumption;exact st_S;exact st_u;exact st_e;exact rfl;exact rfl;exact rfl;exact rfl;intro z z z z)
  |(apply aAm;intro z z)
  |refine aOY ?_
  |(apply bZ)
  |(refine aDH ?_;first|(intro z z;repeat (first|(with_reducible refine aCy fun z=>?_)|with_reducible refine aCz ?_|(intro (zv:(_:Value)=_);subst zv)|intro z))|skip)
  |((first|(apply qB;(with_reducible assumption);exact .head;(first|exact zR _|exact nC);intro zK zh zr zs bk)|(apply qC;(with_reducible assumption);exact .head;intro zK zh zr zs bk));refine aDH ?_;(first|(intro z z;repeat (first|(with_reducible refine aCy fun z=>?_)|with_reducible refine aCz ?_|(intro (zv:(_:Value)=_);subst zv)|intro z))|skip);(have z:=bk _ _ (by with_reducible assumption);clear bk))
  |((first|(apply qB;(with_reducible assumption);exact zt1;(first|exact zR _|exact nC);intro zK zh zr zs bk)|(apply qC;(with_reducible assumption);exact zt1;intro zK zh zr zs bk));refine aDH ?_;(first|(intro z z;repeat (first|(with_reducible refine aCy fun z=>?_)|with_reducible refine aCz ?_|(intro (zv:(_:Value)=_);subst zv)|intro z))|skip);(have z:=bk _ _ (by with_reducible assumption);clear bk))
  |((first|(apply qB;(with_reducible assumption);exact zt2;(first|exact zR _|exact nC);intro zK zh zr zs bk)|(apply qC;(with_reducible assumption);exact zt2;intro zK zh zr zs bk));refine aDH ?_;(first|(intro z z;repeat (first|(with_reducible refine aCy fun z=>?_)|with_reducible refine aCz ?_|(intro (zv:(_:Value)=_);subst zv)|intro z))|skip);(have z:=bk _ _ (by with_reducible assumption);clear bk))
  |((first|(apply qB;(with_reducible assumption);exact zt3;(first|exact zR _|exact nC);intro zK zh zr zs bk)|(apply qC;(with_reducible assumption);exact zt3;intro zK zh zr zs bk));refine aDH ?_;(first|(intro z z;repeat (first|(with_reducible refine aCy fun z=>?_)|with_reducible refine aCz ?_|(intro (zv:(_:Value)=_);subst zv)|intro z))|skip);(have z:=bk _ _ (by with_reducible assumption);clear bk))
  |((first|(apply qB;(with_reducible assumption);exact zt4;(first|exact zR _|exact nC);intro zK zh zr zs bk)|(apply qC;(with_reducible assumption);exact zt4;intro zK zh zr zs bk));refine aDH ?_;(first|(intro z z;repeat (first|(with_reducible refine aCy fun z=>?_)|with_reducible refine aCz ?_|(intro (zv:(_:Value)=_);subst zv)|intro z))|skip);(have z:=bk _ _ (by with_reducible assumption);clear bk))
  |((first|(apply qB;(with_reducible assumption);exact .head;(first|exact zR _|exact nC);intro zK zh zr zs bk)|(apply qC;(with_reducible assumption);exact .head;intro zK zh zr zs bk));(first|(apply qB;(with_reducible assumption);exact .head;(first|exact zR _|exact nC);intro zK zh zr zs bk)|(apply qC;(with_reducible assumption);exact .head;intro zK zh zr zs bk));refine aDH ?_;(first|(intro z z;repeat (first|(with_reducible refine aCy fun z=>?_)|with_reducible refine aCz ?_|(intro (zv:(_:Value)=_);subst zv)|intro z))|skip);(have z:=bk _ _ (by with_reducible assumption);clear bk);(have z:=bk _ _ (by with_reducible assumption);clear bk))
  |((first|(apply qB;(with_reducible assumption);exact zt1;(first|exact zR _|exact nC);intro zK zh zr zs bk)|(apply qC;(with_reducible assumption);exact zt1;intro zK zh zr zs bk));(first|(apply qB;(with_reducible assumption);exact zt1;(first|exact zR _|exact nC);intro zK zh zr zs bk)|(apply qC;(with_reducible assumption);exact zt1;intro zK zh zr zs bk));refine aDH ?_;(first|(intro z z;repeat (first|(with_reducible refine aCy fun z=>?_)|with_reducible refine aCz ?_|(intro (zv:(_:Value)=_);subst zv)|intro z))|skip);(have z:=bk _ _ (by with_reducible assumption);clear bk);(have z:=bk _ _ (by with_reducible assumption);clear bk))
  |((first|(apply qB;(with_reducible assumption);exact zt1;(first|exact zR _|exact nC);intro zK zh zr zs bk)|(apply qC;(with_reducible assumption);exact zt1;intro zK zh zr zs bk));(first|(apply qB;(with_reducible assumption);exact .head;(first|exact zR _|exact nC);intro zK zh zr zs bk)|(apply qC;(with_reducible assumption);exact .head;intro zK zh zr zs bk));refine aDH ?_;(first|(intro z z;repeat (first|(with_reducible refine aCy fun z=>?_)|with_reducible refine aCz ?_|(intro (zv:(_:Value)=_);subst zv)|intro z))|skip);(have z:=bk _ _ (by with_reducible assumption);clear bk);(have z:=bk _ _ (by with_reducible assumption);clear bk))
  |((first|(apply qB;(with_reducible assumption);exact zt2;(first|exact zR _|exact nC);intro zK zh zr zs bk)|(apply qC;(with_reducible assumption);exact zt2;intro zK zh zr zs bk));(first|(apply qB;(with_reducible assumption);exact zt1;(first|exact zR _|exact nC);intro zK zh zr zs bk)|(apply qC;(with_reducible assumption);exact zt1;intro zK zh zr zs bk));refine aDH ?_;(first|(intro z z;repeat (first|(with_reducible refine aCy fun z=>?_)|with_reducible refine aCz ?_|(intro (zv:(_:Value)=_);subst zv)|intro z))|skip);(have z:=bk _ _ (by with_reducible assumption);clear bk);(have z:=bk _ _ (by with_reducible assumption);clear bk))
  |((first|(apply qB;(with_reducible assumption);exact zt2;(first|exact zR _|exact nC);intro zK zh zr zs bk)|(apply qC;(with_reducible assumption);exact zt2;intro zK zh zr zs bk));(first|(apply qB;(with_reducible assumption);exact zt1;(first|exact zR _|exact nC);intro zK zh zr zs bk)|(apply qC;(with_reducible assumption);exact zt1;intro zK zh zr zs bk));(first|(apply qB;(with_reducible assumption);exact zt1;(first|exact zR _|exact nC);intro zK zh zr zs bk)|(apply qC;(with_reducible assumption);exact zt1;intro zK zh zr zs bk));refine aDH ?_;(first|(intro z z;repeat (first|(with_reducible refine aCy fun z=>?_)|with_reducible refine aCz ?_|(intro (zv:(_:Value)=_);subst zv)|intro z))|skip);(have z:=bk _ _ (by with_reducible assumption);clear bk);(have z:=bk _ _ (by with_reducible assumption);clear bk);(have z:=bk _ _ (by with_reducible assumption);clear bk))
  |((first|(apply qB;(with_reducible assumption);exact .head;(first|exact zR _|exact nC);intro zK zh zr zs bk)|(apply qC;(with_reducible assumption);exact .head;intro zK zh zr zs bk));(first|(apply qB;(with_reducible assumption);exact .head;(first|exact zR _|exact nC);intro zK zh zr zs bk)|(apply qC;(with_reducible assumption);exact .head;intro zK zh zr zs bk));(first|(apply qB;(with_reducible assumption);exact .head;(first|exact zR _|exact nC);intro zK zh zr zs bk)|(apply qC;(with_reducible assumption);exact .head;intro zK zh zr zs bk));refine aDH ?_;(first|(intro z z;repeat (first|(with_reducible refine aCy fun z=>?_)|with_reducible refine aCz ?_|(intro (zv:(_:Value)=_);subst zv)|intro z))|skip);(have z:=bk _ _ (by with_reducible assumption);clear bk);(have z:=bk _ _ (by with_reducible assumption);clear bk);(have z:=bk _ _ (by with_reducible assumption);clear bk))
  |((first|(apply qB;(with_reducible assumption);exact zt1;(first|exact zR _|exact nC);intro zK zh zr zs bk)|(apply qC;(with_reducible assumption);exact zt1;intro zK zh zr zs bk));(first|(apply qB;(with_reducible assumption);exact zt1;(first|exact zR _|exact nC);intro zK zh zr zs bk)|(apply qC;(with_reducible assumption);exact zt1;intro zK zh zr zs bk));(first|(apply qB;(with_reducible assumption);exact zt1;(first|exact zR _|exact nC);intro zK zh zr zs bk)|(apply qC;(with_reducible assumption);exact zt1;intro zK zh zr zs bk));refine aDH ?_;(first|(intro z z;repeat (first|(with_reducible refine aCy fun z=>?_)|with_reducible refine aCz ?_|(intro (zv:(_:Value)=_);subst zv)|intro z))|skip);(have z:=bk _ _ (by with_reducible assumption);clear bk);(have z:=bk _ _ (by with_reducible assumption);clear bk);(have z:=bk _ _ (by with_reducible assumption);clear bk))
  |((first|(apply qB;(with_reducible assumption);exact zt3;(first|exact zR _|exact nC);intro zK zh zr zs bk)|(apply qC;(with_reducible assumption);exact zt3;intro zK zh zr zs bk));(first|(apply qB;(with_reducible assumption);exact zt2;(first|exact zR _|exact nC);intro zK zh zr zs bk)|(apply qC;(with_reducible assumption);exact zt2;intro zK zh zr zs bk));(first|(apply qB;(with_reducible assumption);exact zt2;(first|exact zR _|exact nC);intro zK zh zr zs bk)|(apply qC;(with_reducible assumption);exact zt2;intro zK zh zr zs bk));refine aDH ?_;(first|(intro z z;repeat (first|(with_reducible refine aCy fun z=>?_)|with_reducible refine aCz ?_|(intro (zv:(_:Value)=_);subst zv)|intro z))|skip);(have z:=bk _ _ (by with_reducible assumption);clear bk);(have z:=bk _ _ (by with_reducible assumption);clear bk);(have z:=bk _ _ (by with_reducible assumption);clear bk))
  |((first|(apply qB;(with_reducible assumption);exact .head;(first|exact zR _|exact nC);intro zK zh zr zs bk)|(apply qC;(with_reducible assumption);exact .head;intro zK zh zr zs bk));(first|(apply qB;(with_reducible assumption);exact .head;(first|exact zR _|exact nC);intro zK zh zr zs bk)|(apply qC;(with_reducible assumption);exact .head;intro zK zh zr zs bk));(first|(apply qB;(with_reducible assumption);exact .head;(first|exact zR _|exact nC);intro zK zh zr zs bk)|(apply qC;(with_reducible assumption);exact .head;intro zK zh zr zs bk));(first|(apply qB;(with_reducible assumption);exact .head;(first|exact zR _|exact nC);intro zK zh zr zs bk)|(apply qC;(with_reducible assumption);exact .head;intro zK zh zr zs bk));refine aDH ?_;(first|(intro z z;repeat (first|(with_reducible refine aCy fun z=>?_)|with_reducible refine aCz ?_|(intro (zv:(_:Value)=_);subst zv)|intro z))|skip);(have z:=bk _ _ (by with_reducible assumption);clear bk);(have z:=bk _ _ (by with_reducible assumption);clear bk);(have z:=bk _ _ (by with_reducible assumption);clear bk);(have z:=bk _ _ (by with_reducible assumption);clear bk))
  |((first|(with_reducible apply st_g0)|(with_reducible apply st_g1)|(with_reducible apply st_g2)|(with_reducible apply st_g3)|(apply st_g4;exact rfl));rcases aM hm with ⟨z,hm⟩|⟨z,hm⟩))):p:=h
end Gv
