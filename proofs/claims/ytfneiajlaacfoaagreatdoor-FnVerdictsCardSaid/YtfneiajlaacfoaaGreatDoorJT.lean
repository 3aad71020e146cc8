/- Readings of the program's data; what is known of its types. -/
import Derived.Test.YtfneiajlaacfoaaGreatDoorJYS
import Derived.Test.YtfneiajlaacfoaaGreatDoorProg
set_option linter.all false
namespace Gv
open Go.Value renaming slice→zS,bool→zB
open Go Go.Proofs Go.Proofs.Tryz
instance:eQ Edge where
 sz:=3
 enc d:=[i64 d.F,i64 d.B,i64 d.To]
 len _:=rfl
 one _ v h:=by simp at h;rcases h with rfl|rfl|rfl<;>rfl
 pos:=by decide
instance:El cR where
 sz:=4
 rd K cs d:=∃ (a0:Option Addr) (c0:Nat) (a1:Option Addr) (c1:Nat),cs=[i64 d.N,i64 d.I,zS a0 d.L.length c0,zS a1 d.E.length c1]/\bL K a0 c0 d.L/\bL K a1 c1 d.E
 mono:=fun h ⟨a0,c0,a1,c1,e,h0,h1⟩=>⟨a0,c0,a1,c1,e,h0.mono h,h1.mono h⟩
 len:=fun ⟨_,_,_,_,e,_⟩=>by rw [e];rfl
 one:=fun ⟨_,_,_,_,e,_⟩ v hv=>by rw [e] at hv;simp at hv;rcases hv with rfl|rfl|rfl|rfl<;>rfl
 pos:=by decide
instance:eQ aO where
 sz:=4
 enc d:=[i64 d.Kind,i64 d.Variable,str d.B,zB d.Not]
 len _:=rfl
 one _ v h:=by simp at h;rcases h with rfl|rfl|rfl|rfl<;>rfl
 pos:=by decide
instance:El aV where
 sz:=3
 rd K cs d:=∃ (a0:Option Addr) (c0:Nat),cs=[i64 d.Owner,i64 d.Priority,zS a0 d.Next.length c0]/\bL K a0 c0 d.Next
 mono:=fun h ⟨a0,c0,e,h0⟩=>⟨a0,c0,e,h0.mono h⟩
 len:=fun ⟨_,_,e,_⟩=>by rw [e];rfl
 one:=fun ⟨_,_,e,_⟩ v hv=>by rw [e] at hv;simp at hv;rcases hv with rfl|rfl|rfl<;>rfl
 pos:=by decide
instance:El aS where
 sz:=3
 rd K cs d:=∃ (a0:Option Addr) (c0:Nat),cs=[zB d.Greatest,zB d.All,zS a0 d.Terms.length c0]/\bL K a0 c0 d.Terms
 mono:=fun h ⟨a0,c0,e,h0⟩=>⟨a0,c0,e,h0.mono h⟩
 len:=fun ⟨_,_,e,_⟩=>by rw [e];rfl
 one:=fun ⟨_,_,e,_⟩ v hv=>by rw [e] at hv;simp at hv;rcases hv with rfl|rfl|rfl<;>rfl
 pos:=by decide
instance:El eS where
 sz:=3
 rd K cs d:=∃ (a0:Option Addr) (c0:Nat) (a1:Option Addr) (c1:Nat) (a2:Option Addr) (c2:Nat),cs=[zS a0 d.g.length c0,zS a1 d.back.length c1,zS a2 d.in_.length c2]/\bL K a0 c0 d.g/\bL K a1 c1 d.back/\bL K a2 c2 d.in_
 mono:=fun h ⟨a0,c0,a1,c1,a2,c2,e,h0,h1,h2⟩=>⟨a0,c0,a1,c1,a2,c2,e,h0.mono h,h1.mono h,h2.mono h⟩
 len:=fun ⟨_,_,_,_,_,_,e,_⟩=>by rw [e];rfl
 one:=fun ⟨_,_,_,_,_,_,e,_⟩ v hv=>by rw [e] at hv;simp at hv;rcases hv with rfl|rfl|rfl<;>rfl
 pos:=by decide
theorem kN:SLT prog 25 9 1:=⟨runUnderlying25,sizeOf9⟩
theorem sc_9:SC prog 9:=⟨isAgg9,sizeOf9⟩
theorem bJ:SLT prog 41 2 1:=⟨runUnderlying41,sizeOf2⟩
theorem lN:EZ prog 2 [i64 0]:=⟨⟨_,zeroValue2,rfl⟩,⟨t2,typeInfo2,by show (8:Nat)<=128;decide,rfl,by kernel_rfl,_,rfl,rfl⟩⟩
theorem dM:SC prog 2:=⟨isAgg2,sizeOf2⟩
theorem aGK:EZ prog 9 [str []]:=⟨⟨_,zeroValue9,rfl⟩,⟨t9,typeInfo9,by show (16:Nat)<=128;decide,rfl,by kernel_rfl,_,rfl,rfl⟩⟩
theorem sl_22:SLT prog 22 5 1:=⟨runUnderlying22,sizeOf5⟩
theorem bs_75:BS prog 75 [(0,1),(1,1),(2,1)] [zS none 0 0,i64 0,Value.int .u64 0]:=⟨⟨_,zeroValue75,rfl⟩,_,runUnderlying75,fun w=>by simp [sizeOf22,sizeOf3,sizeOf73]⟩
theorem aLt:FA prog 86 0 0:=⟨_,_,_,runUnderlying86,rfl,sizeOf2,rfl,rfl⟩
theorem aDN:FA prog 86 1 1:=⟨_,_,_,runUnderlying86,rfl,sizeOf2,rfl,rfl⟩
theorem aGL:FA prog 86 2 2:=⟨_,_,_,runUnderlying86,rfl,sizeOf2,rfl,rfl⟩
theorem jK:SLT prog 26 86 3:=⟨runUnderlying26,sizeOf86⟩
theorem aEG:AG prog 86 3:=⟨isAgg86,sizeOf86⟩
theorem bs_86:BS prog 86 [(0,1),(1,1),(2,1)] [i64 0,i64 0,i64 0]:=⟨⟨_,zeroValue86,rfl⟩,_,runUnderlying86,fun w=>by simp [sizeOf2]⟩
theorem aEH:EZ prog 86 [i64 0,i64 0,i64 0]:=⟨⟨_,zeroValue86,rfl⟩,⟨t86,typeInfo86,by show (24:Nat)<=128;decide,rfl,by kernel_rfl,_,rfl,rfl⟩⟩
theorem bs_28:BS prog 28 [(0,1),(1,1),(2,1),(3,1)] [i64 0,i64 0,zS none 0 0,zS none 0 0]:=⟨⟨_,zeroValue28,rfl⟩,_,runUnderlying28,fun w=>by simp [sizeOf2,sizeOf25,sizeOf26]⟩
theorem aCk:FA prog 28 2 2:=⟨_,_,_,runUnderlying28,rfl,sizeOf25,rfl,rfl⟩
theorem aIY:SC prog 25:=⟨isAgg25,sizeOf25⟩
theorem lW:FA prog 28 3 3:=⟨_,_,_,runUnderlying28,rfl,sizeOf26,rfl,rfl⟩
theorem xV:SC prog 26:=⟨isAgg26,sizeOf26⟩
theorem xW:AG prog 28 4:=⟨isAgg28,sizeOf28⟩
theorem kZ:FA prog 28 0 0:=⟨_,_,_,runUnderlying28,rfl,sizeOf2,rfl,rfl⟩
theorem aDO:FA prog 28 1 1:=⟨_,_,_,runUnderlying28,rfl,sizeOf2,rfl,rfl⟩
theorem fQ:SLT prog 24 55 4:=⟨runUnderlying24,sizeOf55⟩
theorem uX:FA prog 55 0 0:=⟨_,_,_,runUnderlying55,rfl,sizeOf2,rfl,rfl⟩
theorem aGM:FA prog 55 2 2:=⟨_,_,_,runUnderlying55,rfl,sizeOf9,rfl,rfl⟩
theorem aIB:FA prog 55 3 3:=⟨_,_,_,runUnderlying55,rfl,sizeOf4,rfl,rfl⟩
theorem aCc:SC prog 4:=⟨isAgg4,sizeOf4⟩
theorem aGN:FA prog 55 1 1:=⟨_,_,_,runUnderlying55,rfl,sizeOf2,rfl,rfl⟩
theorem fa_75_1:FA prog 75 1 1:=⟨_,_,_,runUnderlying75,rfl,sizeOf3,rfl,rfl⟩
theorem sc_3:SC prog 3:=⟨isAgg3,sizeOf3⟩
theorem fa_75_0:FA prog 75 0 0:=⟨_,_,_,runUnderlying75,rfl,sizeOf22,rfl,rfl⟩
theorem sc_22:SC prog 22:=⟨isAgg22,sizeOf22⟩
theorem sc_5:SC prog 5:=⟨isAgg5,sizeOf5⟩
theorem fa_75_2:FA prog 75 2 2:=⟨_,_,_,runUnderlying75,rfl,sizeOf73,rfl,rfl⟩
theorem sc_73:SC prog 73:=⟨isAgg73,sizeOf73⟩
theorem kD:BS prog 55 [(0,1),(1,1),(2,1),(3,1)] [i64 0,i64 0,str [],zB false]:=⟨⟨_,zeroValue55,rfl⟩,_,runUnderlying55,fun w=>by simp [sizeOf2,sizeOf4,sizeOf9]⟩
theorem rZ:EZ prog 55 [i64 0,i64 0,str [],zB false]:=⟨⟨_,zeroValue55,rfl⟩,⟨t55,typeInfo55,by show (40:Nat)<=128;decide,rfl,by kernel_rfl,_,rfl,rfl⟩⟩
theorem aEI:AG prog 55 4:=⟨isAgg55,sizeOf55⟩
theorem aIZ:SLT prog 77 24 1:=⟨runUnderlying77,sizeOf24⟩
theorem ez_24:EZ prog 24 [zS none 0 0]:=⟨⟨_,zeroValue24,rfl⟩,⟨t24,typeInfo24,by show (24:Nat)<=128;decide,rfl,by kernel_rfl,_,rfl,rfl⟩⟩
theorem sc_24:SC prog 24:=⟨isAgg24,sizeOf24⟩
theorem aHt:SLT prog 138 3 1:=⟨runUnderlying138,sizeOf3⟩
theorem ez_3:EZ prog 3 [i64 0]:=⟨⟨_,zeroValue3,rfl⟩,⟨t3,typeInfo3,by show (8:Nat)<=128;decide,rfl,by kernel_rfl,_,rfl,rfl⟩⟩
theorem bs_100:BS prog 100 [(0,1),(1,1),(2,1)] [i64 0,i64 0,zS none 0 0]:=⟨⟨_,zeroValue100,rfl⟩,_,runUnderlying100,fun w=>by simp [sizeOf2,sizeOf41]⟩
theorem aDg:FA prog 100 0 0:=⟨_,_,_,runUnderlying100,rfl,sizeOf2,rfl,rfl⟩
theorem aBo:FA prog 100 2 2:=⟨_,_,_,runUnderlying100,rfl,sizeOf41,rfl,rfl⟩
theorem xX:SC prog 41:=⟨isAgg41,sizeOf41⟩
theorem pU:SLT prog 38 100 3:=⟨runUnderlying38,sizeOf100⟩
theorem mN:SLT prog 32 41 1:=⟨runUnderlying32,sizeOf41⟩
theorem aEl:EZ prog 41 [zS none 0 0]:=⟨⟨_,zeroValue41,rfl⟩,⟨t41,typeInfo41,by show (24:Nat)<=128;decide,rfl,by kernel_rfl,_,rfl,rfl⟩⟩
theorem aAu:SLT prog 31 68 3:=⟨runUnderlying31,sizeOf68⟩
theorem aKA:AG prog 68 3:=⟨isAgg68,sizeOf68⟩
theorem fa_68_0:FA prog 68 0 0:=⟨_,_,_,runUnderlying68,rfl,sizeOf4,rfl,rfl⟩
theorem dB:SLT prog 35 4 1:=⟨runUnderlying35,sizeOf4⟩
theorem aGO:FA prog 100 1 1:=⟨_,_,_,runUnderlying100,rfl,sizeOf2,rfl,rfl⟩
theorem aJa:AG prog 100 3:=⟨isAgg100,sizeOf100⟩
theorem aJb:EZ prog 100 [i64 0,i64 0,zS none 0 0]:=⟨⟨_,zeroValue100,rfl⟩,⟨t100,typeInfo100,by show (40:Nat)<=128;decide,rfl,by kernel_rfl,_,rfl,rfl⟩⟩
theorem ko_2:aIQ prog 2 Int:=keyOk_int runUnderlying2
theorem bs_68:BS prog 68 [(0,1),(1,1),(2,1)] [zB false,zB false,zS none 0 0]:=⟨⟨_,zeroValue68,rfl⟩,_,runUnderlying68,fun w=>by simp [sizeOf4,sizeOf41]⟩
theorem aKB:EZ prog 68 [zB false,zB false,zS none 0 0]:=⟨⟨_,zeroValue68,rfl⟩,⟨t68,typeInfo68,by show (32:Nat)<=128;decide,rfl,by kernel_rfl,_,rfl,rfl⟩⟩
theorem aGP:EZ prog 4 [zB false]:=⟨⟨_,zeroValue4,rfl⟩,⟨t4,typeInfo4,by show (1:Nat)<=128;decide,rfl,by kernel_rfl,_,rfl,rfl⟩⟩
theorem fa_68_1:FA prog 68 1 1:=⟨_,_,_,runUnderlying68,rfl,sizeOf4,rfl,rfl⟩
theorem aGQ:FA prog 68 2 2:=⟨_,_,_,runUnderlying68,rfl,sizeOf41,rfl,rfl⟩
theorem sc_31:SC prog 31:=⟨isAgg31,sizeOf31⟩
theorem aJc:BS prog 154 [(0,1),(1,1),(2,1)] [zS none 0 0,zS none 0 0,zS none 0 0]:=⟨⟨_,zeroValue154,rfl⟩,_,runUnderlying154,fun w=>by simp [sizeOf32,sizeOf35,sizeOf38]⟩
theorem aEJ:FA prog 154 1 1:=⟨_,_,_,runUnderlying154,rfl,sizeOf32,rfl,rfl⟩
theorem sc_32:SC prog 32:=⟨isAgg32,sizeOf32⟩
theorem qU:FA prog 154 0 0:=⟨_,_,_,runUnderlying154,rfl,sizeOf38,rfl,rfl⟩
theorem zM:SC prog 38:=⟨isAgg38,sizeOf38⟩
theorem uJ:FA prog 154 2 2:=⟨_,_,_,runUnderlying154,rfl,sizeOf35,rfl,rfl⟩
theorem aBp:SC prog 35:=⟨isAgg35,sizeOf35⟩
theorem uA:SC prog 116:=⟨isAgg116,sizeOf116⟩
theorem st_86:prog.stoodInHeld 86=false:=by kernel_rfl
theorem eq_86 {x y:Edge}:EQT prog 86 [i64 x.F,i64 x.B,i64 x.To] [i64 y.F,i64 y.B,i64 y.To] (decide (x=y)):=by
 refine ⟨by kernel_rfl,fun w=>?_⟩
 have h2:∀ (a b:Int),(Op.equalIn 9999 2 (i64 a) (i64 b)).run prog w=.ok (a == b) w:=fun a b=>run_eqInI 9998 (runUnderlying2 w)
 have:Op.maxDepth=9999+1:=rfl
 unfold Op.equal
 rw [this]
 unfold Op.equalIn
 simp [runUnderlying86,st_86,part,h2,isAgg2]
 cases x;cases y
 simp
 repeat' split<;>simp_all
theorem Tryz_mixed:prog.follows .mixedOrders=true:=by kernel_rfl
abbrev zC (d:cR) (a:Option Addr) (c:Nat) (b:Option Addr) (e:Nat):List Value:=[i64 d.N,i64 d.I,Value.slice a d.L.length c,Value.slice b d.E.length e]
abbrev zCa (d:cR) (a:Option Addr) (c:Nat) (b:Option Addr) (e:Nat):Array Value:=#[i64 d.N,i64 d.I,Value.slice a d.L.length c,Value.slice b d.E.length e]
abbrev zG:List Value:=[i64 0,i64 0,Value.slice none 0 0,Value.slice none 0 0]
abbrev zGa:Array Value:=#[i64 0,i64 0,Value.slice none 0 0,Value.slice none 0 0]
abbrev zK:List Value:=[i64 0,i64 0,Value.slice none 0 0,Value.slice none 0 0,Value.slice none 0 0,Value.slice none 0 0]
abbrev zKa:Array Value:=#[i64 0,i64 0,Value.slice none 0 0,Value.slice none 0 0,Value.slice none 0 0,Value.slice none 0 0]
end Gv
namespace Gv
open Go.Value renaming slice→zS
open Gv.Hp renaming le_refl→zR
open Go Go.Proofs Go.Proofs.Tryz
theorem nC {p:Prop} (h:p:=by first|assumption|(apply st_cK;assumption;exact kX)):p:=h
theorem st_HR {p:Prop} (h:p:=by first|assumption|(apply st_rK;assumption;exact kX)):p:=h
theorem st_S {p:Prop} (h:p:=by with_reducible first|exact kN|exact bJ|exact sl_22|exact jK|exact fQ|exact aIZ|exact aHt|exact pU|exact mN|exact aAu|exact dB):p:=h
theorem vE {p:Prop} (h:p:=by with_reducible first|exact sc_9|exact dM|exact aIY|exact xV|exact aCc|exact sc_3|exact sc_22|exact sc_5|exact sc_73|exact sc_24|exact xX|exact sc_31|exact sc_32|exact zM|exact aBp|exact uA):p:=h
theorem aCN {p:Prop} (h:p:=by with_reducible first|exact aEG|exact xW|exact aEI|exact aKA|exact aJa):p:=h
theorem st_F {p:Prop} (h:p:=by with_reducible first|exact aLt|exact aDN|exact aGL|exact aCk|exact lW|exact kZ|exact aDO|exact uX|exact aGM|exact aIB|exact aGN|exact fa_75_1|exact fa_75_0|exact fa_75_2|exact aDg|exact aBo|exact fa_68_0|exact aGO|exact fa_68_1|exact aGQ|exact aEJ|exact qU|exact uJ):p:=h
theorem za_2:ZA prog 2 [i64 0]:=⟨_,zeroValue2,rfl⟩
theorem za_28:ZA prog 28 [i64 0,i64 0,zS none 0 0,zS none 0 0]:=⟨_,zeroValue28,rfl⟩
theorem za_35:ZA prog 35 [zS none 0 0]:=⟨_,zeroValue35,rfl⟩
theorem za_55:ZA prog 55 [i64 0,i64 0,str ([]:aF),Value.bool false]:=⟨_,zeroValue55,rfl⟩
theorem za_68:ZA prog 68 [Value.bool false,Value.bool false,zS none 0 0]:=⟨_,zeroValue68,rfl⟩
theorem za_86:ZA prog 86 [i64 0,i64 0,i64 0]:=⟨_,zeroValue86,rfl⟩
theorem za_100:ZA prog 100 [i64 0,i64 0,zS none 0 0]:=⟨_,zeroValue100,rfl⟩
theorem za_116:ZA prog 116 [Value.pointer none]:=⟨_,zeroValue116,rfl⟩
theorem st_r {p:Prop} (h:p:=by with_reducible first|exact runUnderlying145|exact runUnderlying156|exact runUnderlying2|exact runUnderlying3|exact runUnderlying4|exact runUnderlying5|exact runUnderlying73|exact runUnderlying9|exact runUnderlying95):p:=h
theorem st_h {p:Prop} (h:p:=by with_reducible first|exact bs_75|exact bs_86|exact bs_28|exact kD|exact bs_100|exact bs_68|exact aJc):p:=h
theorem st_e {p:Prop} (h:p:=by with_reducible first|exact lN|exact aGK|exact aEH|exact rZ|exact ez_24|exact ez_3|exact aEl|exact aJb|exact aKB|exact aGP):p:=h
theorem st_u {p:Prop} (h:p:=by with_reducible first|exact underlying138|exact underlying24|exact underlying25|exact underlying26|exact underlying31|exact underlying32|exact underlying35|exact underlying38|exact underlying41):p:=h
theorem st_z {p:Prop} (h:p:=by with_reducible first|exact sizeOf100|exact sizeOf116|exact sizeOf2|exact sizeOf25|exact sizeOf26|exact sizeOf28|exact sizeOf3|exact sizeOf35|exact sizeOf4|exact sizeOf41|exact sizeOf55|exact sizeOf68|exact sizeOf73|exact sizeOf86|exact sizeOf9):p:=h
theorem st_y {p:Prop} (h:p:=by with_reducible first|exact za_2|exact za_28|exact za_35|exact za_55|exact za_68|exact za_86|exact za_100|exact za_116):p:=h
theorem st_V {p:Prop} (h:p:=by first|exact V_moveC|exact V_assignC|(apply V_B;first|(apply V_add;exact bQ;exact bQ)|(apply V_sub;exact bQ;exact bQ)|(apply V_mul;exact bQ;exact bQ)|(apply V_lss;exact bQ;exact bQ)|(apply V_leq;exact bQ;exact bQ)|(apply V_gtr;exact bQ;exact bQ)|(apply V_geq;exact bQ;exact bQ)|(apply V_eql;exact bQ;exact bQ)|(apply V_neq;exact bQ;exact bQ)|(apply V_eqlS;exact bQ;exact bQ)|(apply V_neqS;exact bQ;exact bQ)|(apply V_lssS;exact bQ;exact bQ)|(apply V_leqS;exact bQ;exact bQ)|(apply V_gtrS;exact bQ;exact bQ)|(apply V_geqS;exact bQ;exact bQ))|exact V_moveF|exact V_assignF|(apply V_move;exact bQ)|(apply V_assign;exact bQ)|(apply V_fldP;exact bQ;exact st_F)|(apply V_fldE;exact bQ;exact nC;exact st_F)|(apply V_fldO;exact bQ;exact dW;exact aGi;exact dW;exact st_F)|(apply V_L;first|(apply V_ldB;exact bQ;exact dW;exact aGi;exact rfl;exact vE)|(apply V_ldBG;exact bQ;exact dW;exact aGi;exact aCN;exact st_D)|(apply aHT (t:=0);exact bQ;exact nC;exact dW;exact rfl;exact vE)|(apply aHT (t:=1);exact bQ;exact nC;exact dW;exact rfl;exact vE)|(apply aHT (t:=2);exact bQ;exact nC;exact dW;exact rfl;exact vE)|(apply aHT (t:=3);exact bQ;exact nC;exact dW;exact rfl;exact vE)|(apply aHT (t:=4);exact bQ;exact nC;exact dW;exact rfl;exact vE)|(apply aHT (t:=5);exact bQ;exact nC;exact dW;exact rfl;exact vE)|(apply aHT (t:=6);exact bQ;exact nC;exact dW;exact rfl;exact vE)|(apply aHT (t:=7);exact bQ;exact nC;exact dW;exact rfl;exact vE)|(apply aEF (t:=0);exact bQ;exact nC;exact dW;exact aCN;exact rfl;exact rfl)|(apply aEF (t:=1);exact bQ;exact nC;exact dW;exact aCN;exact rfl;exact rfl)|(apply aEF (t:=2);exact bQ;exact nC;exact dW;exact aCN;exact rfl;exact rfl)|(apply aEF (t:=3);exact bQ;exact nC;exact dW;exact aCN;exact rfl;exact rfl)|(apply aEF (t:=4);exact bQ;exact nC;exact dW;exact aCN;exact rfl;exact rfl)|(apply aEF (t:=5);exact bQ;exact nC;exact dW;exact aCN;exact rfl;exact rfl)|(apply aEF (t:=6);exact bQ;exact nC;exact dW;exact aCN;exact rfl;exact rfl)|(apply aEF (t:=7);exact bQ;exact nC;exact dW;exact aCN;exact rfl;exact rfl)|(apply V_ldO (t:=0);exact bQ;exact dW;exact aGi;exact dW;exact rfl;exact rfl;exact vE)|(apply V_ldO (t:=1);exact bQ;exact dW;exact aGi;exact dW;exact rfl;exact rfl;exact vE)|(apply V_ldO (t:=2);exact bQ;exact dW;exact aGi;exact dW;exact rfl;exact rfl;exact vE)|(apply V_ldO (t:=3);exact bQ;exact dW;exact aGi;exact dW;exact rfl;exact rfl;exact vE)|(apply V_ldO (t:=4);exact bQ;exact dW;exact aGi;exact dW;exact rfl;exact rfl;exact vE)|(apply V_ldOG (t:=0);exact bQ;exact dW;exact aGi;exact dW;exact rfl;exact aCN;exact rfl;exact rfl)|(apply V_ldOG (t:=1);exact bQ;exact dW;exact aGi;exact dW;exact rfl;exact aCN;exact rfl;exact rfl)|(apply V_ldOG (t:=2);exact bQ;exact dW;exact aGi;exact dW;exact rfl;exact aCN;exact rfl;exact rfl)|(apply aHV (t:=0);exact bQ;exact dW;exact dW;exact kX;exact rfl;exact vE)|(apply aHV (t:=1);exact bQ;exact dW;exact dW;exact kX;exact rfl;exact vE)|(apply aHV (t:=2);exact bQ;exact dW;exact dW;exact kX;exact rfl;exact vE)|(apply aHV (t:=3);exact bQ;exact dW;exact dW;exact kX;exact rfl;exact vE)|(apply aHV (t:=4);exact bQ;exact dW;exact dW;exact kX;exact rfl;exact vE)|(apply aHV (t:=5);exact bQ;exact dW;exact dW;exact kX;exact rfl;exact vE)|(apply aHV (t:=6);exact bQ;exact dW;exact dW;exact kX;exact rfl;exact vE)|(apply aHV (t:=7);exact bQ;exact dW;exact dW;exact kX;exact rfl;exact vE)|(apply aLs (t:=0);exact bQ;exact dW;exact dW;exact kX;exact aCN;exact rfl;exact rfl)|(apply aLs (t:=1);exact bQ;exact dW;exact dW;exact kX;exact aCN;exact rfl;exact rfl)|(apply aLs (t:=2);exact bQ;exact dW;exact dW;exact kX;exact aCN;exact rfl;exact rfl)|(apply aLs (t:=3);exact bQ;exact dW;exact dW;exact kX;exact aCN;exact rfl;exact rfl)|(apply aHU (t:=0);exact dW;exact nC;exact bQ;exact rfl;exact vE)|(apply aHU (t:=1);exact dW;exact nC;exact bQ;exact rfl;exact vE)|(apply aHU (t:=2);exact dW;exact nC;exact bQ;exact rfl;exact vE)|(apply aHU (t:=3);exact dW;exact nC;exact bQ;exact rfl;exact vE)|(apply aHU (t:=4);exact dW;exact nC;exact bQ;exact rfl;exact vE)|(apply aHU (t:=5);exact dW;exact nC;exact bQ;exact rfl;exact vE)|(apply aHU (t:=6);exact dW;exact nC;exact bQ;exact rfl;exact vE)|(apply aHU (t:=7);exact dW;exact nC;exact bQ;exact rfl;exact vE)|(apply aLr (t:=0);exact dW;exact nC;exact bQ;exact aCN;exact rfl;exact rfl)|(apply aLr (t:=1);exact dW;exact nC;exact bQ;exact aCN;exact rfl;exact rfl)|(apply aLr (t:=2);exact dW;exact nC;exact bQ;exact aCN;exact rfl;exact rfl)|(apply aLr (t:=3);exact dW;exact nC;exact bQ;exact aCN;exact rfl;exact rfl))|(apply V_lenS;exact st_S;exact bQ)|(apply V_nilE;exact bQ;exact nC)|(apply V_nilP;exact bQ)|(apply V_nilO;exact bQ;exact dW;exact aGi;exact dW)|(apply V_ixE;exact bQ;exact bQ;exact st_HR;exact dW;exact rfl;exact st_S;exact rfl)|(apply V_ixO;exact bQ;exact bQ;exact dW;exact aGi;exact dW;exact rfl;exact st_S;exact rfl)|(apply V_extract;exact bQ;exact rfl)|(apply V_pickT;exact bQ;exact aIm;exact bQ)|(apply V_pickF;exact bQ;exact aIm;exact bQ)|(apply V_not;exact bQ)|(apply V_lenStr;exact st_r;exact bQ)|(apply V_ixS;exact st_r;exact bQ;exact bQ;exact dW)|(apply V_conv64;exact st_r;exact bQ;exact ⟨_,st_r⟩)|(apply V_convu64;exact st_r;exact bQ;exact ⟨_,st_r⟩)|(apply V_u8sub';exact bQ;exact bQ)|(apply V_neg;exact bQ)|(apply V_quo;exact bQ;exact bQ;exact dW)|(apply V_rem;exact bQ;exact bQ;exact dW)|(apply V_cat;exact bQ;exact bQ;exact dW)|(apply V_eqlB;exact st_r;exact bQ;exact bQ)|(apply V_neqB;exact st_r;exact bQ;exact bQ)|(apply V_u64add;exact bQ;exact bQ)|(apply V_u64mul;exact bQ;exact bQ)|(apply V_shrU;exact bQ;exact bQ;exact dW)|(apply V_andU;exact bQ;exact bQ)|(apply V_min;exact bQ;exact bQ)|(apply V_slSLH;exact st_r;exact bQ;exact bQ;exact bQ;exact dW)|(apply V_slSL;exact st_r;exact bQ;exact bQ;exact dW)|(apply V_slSH;exact st_r;exact bQ;exact bQ;exact dW)|(apply V_isNil;exact st_S;exact bQ;exact rfl)|(apply V_build;exact st_h;exact rfl;exact (by kernel_rfl))|(apply aNz;exact rfl)):p:=h
theorem st_call {p:Prop} (h:p:=by with_reducible first|exact call4|exact call5|exact call6|exact call7|exact call8|exact call9|exact call10|exact call11|exact call12|exact call13|exact call14|exact call15|exact call16|exact call17|exact call18|exact call19|exact call20|exact call21|exact call22|exact call23|exact call24|exact call25|exact call26|exact call27|exact call28|exact call29|exact call30|exact call31|exact call32|exact call33|exact call34|exact call35|exact call36|exact call37|exact call38|exact call39|exact call40|exact call41|exact call42|exact call43|exact call44|exact call45|exact call46|exact call47|exact call48|exact call49|exact call50|exact call51|exact call52|exact call54|exact call55|exact call56|exact call57|exact call58|exact call59|exact call60|exact call61|exact call62|exact call63|exact call64|exact call65|exact call66|exact call67|exact call68|exact call69|exact call70|exact call71|exact call72|exact call73|exact call74|exact call75|exact call76|exact call77|exact call78|exact call79|exact call80|exact call81|exact call82|exact call83|exact call84|exact call85|exact call86|exact call87|exact call88|exact call89|exact call90|exact call91|exact call92|exact call93|exact call94|exact call95|exact call96|exact call97|exact call98|exact call99|exact call100|exact call101|exact call102|exact call103|exact call104|exact call105|exact call106|exact call107|exact call108|exact call111|exact call112|exact call113|exact call114|exact call115|exact call116|exact call117|exact call118|exact call119|exact call120|exact call121|exact call122|exact call123|exact call124|exact call125|exact call126|exact call127|exact call128|exact call129|exact call130|exact call131|exact call132|exact call133|exact call134|exact call135|exact call136|exact call137|exact call138|exact call139|exact call140|exact call151|exact call152|exact call153|exact call154|exact call155|exact call156|exact call157|exact call158|exact call159|exact call160|exact call161|exact call162|exact call163|exact call164|exact call165|exact call166|exact call167|exact call176|exact call177|exact call179|exact call181|exact call182|exact call183|exact call184|exact call185|exact call199|exact call203|exact call204|exact call205|exact call206):p:=h
theorem st_f {p:Prop} (h:p:=by with_reducible first|exact func3|exact func4|exact func5|exact func6|exact func7|exact func8|exact func9|exact func10|exact func11|exact func12|exact func13|exact func14|exact func15|exact func16|exact func17|exact func18|exact func19|exact func20|exact func21|exact func22|exact func23|exact func24|exact func25|exact func26|exact func27|exact func28|exact func29|exact func30|exact func31|exact func32|exact func33|exact func34|exact func35|exact func36|exact func37|exact func38|exact func39|exact func40|exact func41|exact func42|exact func43|exact func44|exact func45|exact func46|exact func47|exact func48|exact func49|exact func50|exact func51|exact func53|exact func54|exact func55|exact func56|exact func57|exact func58|exact func59|exact func60|exact func61|exact func62|exact func63|exact func64|exact func65|exact func66|exact func67|exact func68|exact func69|exact func70|exact func71|exact func72|exact func73|exact func74|exact func75|exact func76|exact func77|exact func78|exact func79|exact func80|exact func81|exact func82|exact func83|exact func84|exact func85|exact func86|exact func87|exact func88|exact func89|exact func90|exact func91|exact func92|exact func93|exact func94|exact func95|exact func96|exact func97|exact func98|exact func99|exact func100|exact func101|exact func102|exact func103|exact func104|exact func105|exact func106|exact func107|exact func108|exact func111|exact func112|exact func113|exact func114|exact func115|exact func116|exact func117|exact func118|exact func119|exact func120|exact func121|exact func122|exact func123|exact func124|exact func125|exact func126|exact func127|exact func128|exact func129|exact func130|exact func131|exact func132|exact func133|exact func134|exact func135|exact func136|exact func137|exact func138|exact func140|exact func151|exact func152|exact func154|exact func155|exact func156|exact func157|exact func158|exact func159|exact func160|exact func162|exact func164|exact func165|exact func166|exact func167|exact func176|exact func177|exact func181|exact func182|exact func183|exact func184|exact func185|exact func203|exact func204|exact func206):p:=h
theorem aKC {p:Prop} (h:p:=by first|((with_reducible apply aLi);exact rfl;exact rfl)|((with_reducible apply V_rvG);exact bQ;exact dW;exact aGi;exact aCN;exact rfl;exact rfl)|((with_reducible apply V_rvB);exact bQ;exact dW;exact aGi;exact vE;exact rfl)):p:=h
theorem st_X {p:Prop} (h:p:=by
 (repeat (first
  |exact bK
  |(with_reducible apply Exists.intro)
  |((with_reducible apply And.intro);· first|exact bK|(with_reducible assumption)|exact (Option.some.inj (by with_reducible assumption)).symm|exact rfl|assumption|exact zR _|exact kX|exact aCe _|(apply st_rK;assumption;exact kX)|(apply st_cK;assumption;exact kX)|exact fP (by assumption))
  |(with_reducible assumption)|exact st_c|exact rfl|assumption));first|done|fail):p:=h
theorem aBq {p q:Prop} (k:q) (h:Hd q->p:=by
 intro hk
 (first|apply st_ca|apply st_cb|apply st_cq);exact st_call;(first|(with_reducible intro z z)|skip);(first|((with_reducible first|apply aHC|apply aJn|apply aFc|apply aFJ|apply aBS|apply aFd|apply aGn|apply aLw|apply aIt|apply aAh|apply aJo|apply kV|apply kW|apply aAA|apply aAC|apply xE|apply mF|apply aAD|apply aAE|apply aAl|apply xI|apply aBX|apply aHe|apply yA|apply aGa|apply aAF|apply mY|apply fK|apply aHF|apply aDA|apply xJ|apply aAG|apply aAH|apply aAI|apply aCC|apply jD|apply aFk|apply xK|apply aFl|apply aCD|apply aGm|apply aJh|apply aKd|apply aIo|apply aFX|apply aJi|apply aAw|apply aHx|apply aKe|apply aEW|apply tU|apply tC|apply aCd|apply aHy|apply aJj|apply aEX|apply aEY|apply aBO|apply aEZ|apply aBP|apply aKf|apply aJk|apply aFY|apply uV|apply aLv|apply aEo|apply aIp|apply aEp|apply aJl|apply aHz|apply aFa|apply aEq|apply wF|apply jQ|apply aGl|apply aFI|apply dG|apply aDv|apply aHA|apply aIq|apply aCA|apply aEr|apply aIr|apply aKg|apply aHB|apply aDX|apply aIs|apply aDY|apply aBQ|apply bB|apply lE|apply aAx|apply qQ|apply tV|apply oR|apply aHD|apply aFe|apply aAy|apply aFK|apply aHb|apply aFZ|apply aFL|apply xY|apply mX|apply lT|apply vP|apply kL|apply aCB|apply aFf|apply aHE|apply aAz|apply aFg|apply iG|apply lU|apply aDx|apply mZ|apply aAi|apply aAj|apply vQ|apply aEs|apply xZ|apply aGo|apply aDy|apply jJ|apply aDw|apply vO|apply aJm|apply aFb|apply uE|apply rW|apply aFh|apply tD|apply aFM|apply aHc|apply aKh|apply aAo|apply aFi|apply aBT|apply aEt|apply aIu|apply aFj|apply aAk|apply aHd|apply uW|apply lK|apply eR|apply aEw|apply aIc|apply fH|apply aEu|apply aCX|apply aBU|apply jC);with_reducible assumption)|(with_reducible apply aAB;with_reducible assumption)|(with_reducible apply xD;with_reducible assumption)|(with_reducible apply xF;with_reducible assumption)|(with_reducible apply xG;with_reducible assumption)|(with_reducible apply aBV;with_reducible assumption)|(with_reducible apply aBW;with_reducible assumption)|(with_reducible apply aDz;with_reducible assumption)|(with_reducible apply xH;with_reducible assumption)|(with_reducible apply rD;with_reducible assumption)|(with_reducible apply iN;with_reducible assumption)|(with_reducible apply tB;with_reducible assumption)|(with_reducible apply rC;with_reducible assumption)|(with_reducible apply aAf;with_reducible assumption)|(with_reducible apply aAg;with_reducible assumption)|(with_reducible apply aBR;with_reducible assumption)|(with_reducible apply lib_SortRowsF;all_goals (try with_reducible assumption))|(with_reducible apply lib_Cut;all_goals (try with_reducible assumption))|(with_reducible apply lib_Split;all_goals (try with_reducible assumption))|(with_reducible apply lib_Mul;all_goals (try with_reducible assumption))|(with_reducible apply lib_Join;all_goals (try with_reducible assumption))|(with_reducible apply aIa;all_goals (try with_reducible assumption))|(with_reducible apply aIb;all_goals (try with_reducible assumption))|(with_reducible apply aIn;all_goals (try with_reducible assumption))|(with_reducible apply aLB;all_goals (try with_reducible assumption)));(case hv=>exact rfl);(repeat (first|assumption|exact st_c|(apply st_rK;assumption;exact kX)|(apply st_cK;assumption;exact kX)|exact aCe _|exact kX|exact zR _|exact rfl|exact fP (by assumption)));exact hk.k;first|done|fail):p:=h ⟨k⟩
set_option maxRecDepth 100000 in
theorem aM {p:Prop} (h:p:=by
 repeat' (first
  |(apply st_i;exact bQ;exact bQ;exact dW;exact dW;exact rfl;exact st_S;exact rfl;intro z z zr;first|(have zr:=st_pd zr;subst zr)|obtain ⟨z,z,rfl,z⟩:=zr|obtain ⟨z,z,z,z,rfl,z,z⟩:=zr|obtain ⟨z,z,z,z,z,z,rfl,z,z,z⟩:=zr|obtain ⟨z,z,z,z,z,z,z,z,rfl,z,z,z,z⟩:=zr)
  |(apply st_iQ;exact bQ;exact bQ;exact dW;exact dW;exact rfl;exact st_S;exact rfl;intro z z zr;first|(have zr:=st_pd zr;subst zr)|obtain ⟨z,z,rfl,z⟩:=zr|obtain ⟨z,z,z,z,rfl,z,z⟩:=zr|obtain ⟨z,z,z,z,z,z,rfl,z,z,z⟩:=zr|obtain ⟨z,z,z,z,z,z,z,z,rfl,z,z,z,z⟩:=zr)
  |(apply st_iE;exact rfl;exact bQ;exact bQ;exact dW;exact dW;exact rfl;exact st_S;exact rfl;intro z z zr;first|(have zr:=st_pd zr;subst zr)|obtain ⟨z,z,rfl,z⟩:=zr|obtain ⟨z,z,z,z,rfl,z,z⟩:=zr|obtain ⟨z,z,z,z,z,z,rfl,z,z,z⟩:=zr|obtain ⟨z,z,z,z,z,z,z,z,rfl,z,z,z,z⟩:=zr)
  |(apply VO;exact st_V)
  |(apply VQ;intro _ _;exact st_V)
  |(apply aZ)
  |with_reducible apply aC
  |with_reducible apply cL
  |(apply aJ)
  |(apply aU)
  |(apply aW)
  |(apply aBk)
  |(apply V_condT;exact bQ;exact aIm)
  |(apply V_condF;exact bQ;exact aIm)
  |with_reducible apply kG
  |with_reducible apply uF
  |(with_reducible apply blockQ_ne;exact rfl)
  |(apply V_onT;exact rfl;exact bQ;exact aIm)
  |(apply V_onF;exact rfl;exact bQ;exact aIm)
  |(apply V_offF;exact rfl;exact bQ;exact aIm)
  |(apply V_offT;exact rfl;exact bQ;exact aIm)
  |(apply Q_onT;exact rfl;exact bQ;exact aIm)
  |(apply Q_onF;exact rfl;exact bQ;exact aIm)
  |(apply Q_offF;exact rfl;exact bQ;exact aIm)
  |(apply Q_offT;exact rfl;exact bQ;exact aIm)
  |(apply uG;exact rfl;exact bQ)
  |(apply WQ_off_u;exact rfl;exact bQ)
  |(apply V_WE;exact rfl;rintro _ ⟨_,_⟩;exact st_V)
  |(apply V_WT;exact rfl;intro _;exact st_V)
  |apply pS
  |with_reducible apply gZ
  |with_reducible apply aDb
  |exact st_X
  |(apply rT;exact rfl;exact rfl;refine aHW hm (fun z=>?_);subst z;exact st_X)
  |(apply retQ_2;exact rfl;exact rfl;exact rfl;refine aHW hm (fun z=>?_);subst z;exact st_X)
  |(apply aIJ;exact rfl;exact rfl;exact rfl;exact rfl;refine aHW hm (fun z=>?_);subst z;exact st_X)
  |(apply retQ_m1;exact rfl;exact aKC;refine aHW hm (fun z=>?_);subst z;exact st_X)
  |(apply aIA;exact rfl;exact aKC;exact aKC;refine aHW hm (fun z=>?_);subst z;exact st_X)
  |(apply retQ_m3;exact rfl;exact aKC;exact aKC;exact aKC;refine aHW hm (fun z=>?_);subst z;exact st_X)
  |(apply retQ_0n;exact rfl;refine aHW hm (fun z=>?_);subst z;exact st_X)
  |(apply retQ_0;exact rfl;refine aHW hm (fun z=>?_);subst z;exact st_X)
  |(refine st_I st_f ?_)
  |intro (hm:(_:Option _)=some _)
  |intro (hr:∀ r',_=Sum.inr r'->_)
  |(with_reducible refine aAs fun z=>?_)
  |(with_reducible refine aAt ?_)
  |(intro (zv:(_:Value)=_);subst zv)
  |intro z
  |((with_reducible apply st_we);first|exact ⟨_,by assumption⟩|exact ⟨_,aE.weakK (by assumption) kX⟩)
  |(apply gK;exact rfl)
  |(apply aGf;exact rfl)
  |apply pC
  |(have zq:=hr _ (Option.some.inj hm).symm;subst zq;have hm:=ho;clear hr ho;try dsimp only at hm)
  |obtain ⟨z,z,hm⟩:=aB hm
  |exact st_no hm
  |refine st_a (fun z z z=>?_)
  |refine st_s (fun z z=>?_)
  |refine st_x (fun z z z=>?_)
  |refine st_ba (by with_reducible assumption) (fun z z z=>?_)
  |refine st_b (T:=24) ([]:List aO) (fun z z z=>?_)
  |refine st_b (T:=25) ([]:List aF) (fun z z z=>?_)
  |refine st_b (T:=26) ([]:List Edge) (fun z z z=>?_)
  |refine st_b (T:=31) ([]:List aS) (fun z z z=>?_)
  |refine st_b (T:=32) ([]:List (List Int)) (fun z z z=>?_)
  |refine st_b (T:=35) ([]:List Bool) (fun z z z=>?_)
  |refine st_b (T:=41) ([]:List Int) (fun z z z=>?_)
  |refine st_p (fun z z z z=>?_)
  |(apply st_q2;exact bQ;exact bQ;(first|assumption|(apply st_rK;assumption;exact kX));assumption;exact st_M;assumption;exact st_S;exact st_u;exact st_e;exact rfl;exact rfl;exact rfl;exact rfl;intro z z z z)
  |(apply aDJ;intro z z)
  |refine st_k ?_
  |(apply cD)
  |(refine aBq ?_;first|(intro z z;repeat (first|(with_reducible refine aAs fun z=>?_)|with_reducible refine aAt ?_|(intro (zv:(_:Value)=_);subst zv)|intro z))|skip)
  |((first|(apply nO;(with_reducible assumption);exact .head;(first|exact zR _|exact kX);intro zK zh zr zs bk)|(apply nP;(with_reducible assumption);exact .head;intro zK zh zr zs bk));refine aBq ?_;(first|(intro z z;repeat (first|(with_reducible refine aAs fun z=>?_)|with_reducible refine aAt ?_|(intro (zv:(_:Value)=_);subst zv)|intro z))|skip);(have z:=bk _ _ (by with_reducible assumption);clear bk))
  |((first|(apply nO;(with_reducible assumption);exact zt1;(first|exact zR _|exact kX);intro zK zh zr zs bk)|(apply nP;(with_reducible assumption);exact zt1;intro zK zh zr zs bk));refine aBq ?_;(first|(intro z z;repeat (first|(with_reducible refine aAs fun z=>?_)|with_reducible refine aAt ?_|(intro (zv:(_:Value)=_);subst zv)|intro z))|skip);(have z:=bk _ _ (by with_reducible assumption);clear bk))
  |((first|(apply nO;(with_reducible assumption);exact zt2;(first|exact zR _|exact kX);intro zK zh zr zs bk)|(apply nP;(with_reducible assumption);exact zt2;intro zK zh zr zs bk));refine aBq ?_;(first|(intro z z;repeat (first|(with_reducible refine aAs fun z=>?_)|with_reducible refine aAt ?_|(intro (zv:(_:Value)=_);subst zv)|intro z))|skip);(have z:=bk _ _ (by with_reducible assumption);clear bk))
  |((first|(apply nO;(with_reducible assumption);exact zt3;(first|exact zR _|exact kX);intro zK zh zr zs bk)|(apply nP;(with_reducible assumption);exact zt3;intro zK zh zr zs bk));refine aBq ?_;(first|(intro z z;repeat (first|(with_reducible refine aAs fun z=>?_)|with_reducible refine aAt ?_|(intro (zv:(_:Value)=_);subst zv)|intro z))|skip);(have z:=bk _ _ (by with_reducible assumption);clear bk))
  |((first|(apply nO;(with_reducible assumption);exact zt4;(first|exact zR _|exact kX);intro zK zh zr zs bk)|(apply nP;(with_reducible assumption);exact zt4;intro zK zh zr zs bk));refine aBq ?_;(first|(intro z z;repeat (first|(with_reducible refine aAs fun z=>?_)|with_reducible refine aAt ?_|(intro (zv:(_:Value)=_);subst zv)|intro z))|skip);(have z:=bk _ _ (by with_reducible assumption);clear bk))
  |((first|(apply nO;(with_reducible assumption);exact .head;(first|exact zR _|exact kX);intro zK zh zr zs bk)|(apply nP;(with_reducible assumption);exact .head;intro zK zh zr zs bk));(first|(apply nO;(with_reducible assumption);exact .head;(first|exact zR _|exact kX);intro zK zh zr zs bk)|(apply nP;(with_reducible assumption);exact .head;intro zK zh zr zs bk));refine aBq ?_;(first|(intro z z;repeat (first|(with_reducible refine aAs fun z=>?_)|with_reducible refine aAt ?_|(intro (zv:(_:Value)=_);subst zv)|intro z))|skip);(have z:=bk _ _ (by with_reducible assumption);clear bk);(have z:=bk _ _ (by with_reducible assumption);clear bk))
  |((first|(apply nO;(with_reducible assumption);exact zt1;(first|exact zR _|exact kX);intro zK zh zr zs bk)|(apply nP;(with_reducible assumption);exact zt1;intro zK zh zr zs bk));(first|(apply nO;(with_reducible assumption);exact zt1;(first|exact zR _|exact kX);intro zK zh zr zs bk)|(apply nP;(with_reducible assumption);exact zt1;intro zK zh zr zs bk));refine aBq ?_;(first|(intro z z;repeat (first|(with_reducible refine aAs fun z=>?_)|with_reducible refine aAt ?_|(intro (zv:(_:Value)=_);subst zv)|intro z))|skip);(have z:=bk _ _ (by with_reducible assumption);clear bk);(have z:=bk _ _ (by with_reducible assumption);clear bk))
  |((first|(apply nO;(with_reducible assumption);exact zt1;(first|exact zR _|exact kX);intro zK zh zr zs bk)|(apply nP;(with_reducible assumption);exact zt1;intro zK zh zr zs bk));(first|(apply nO;(with_reducible assumption);exact .head;(first|exact zR _|exact kX);intro zK zh zr zs bk)|(apply nP;(with_reducible assumption);exact .head;intro zK zh zr zs bk));refine aBq ?_;(first|(intro z z;repeat (first|(with_reducible refine aAs fun z=>?_)|with_reducible refine aAt ?_|(intro (zv:(_:Value)=_);subst zv)|intro z))|skip);(have z:=bk _ _ (by with_reducible assumption);clear bk);(have z:=bk _ _ (by with_reducible assumption);clear bk))
  |((first|(apply nO;(with_reducible assumption);exact zt2;(first|exact zR _|exact kX);intro zK zh zr zs bk)|(apply nP;(with_reducible assumption);exact zt2;intro zK zh zr zs bk));(first|(apply nO;(with_reducible assumption);exact zt1;(first|exact zR _|exact kX);intro zK zh zr zs bk)|(apply nP;(with_reducible assumption);exact zt1;intro zK zh zr zs bk));refine aBq ?_;(first|(intro z z;repeat (first|(with_reducible refine aAs fun z=>?_)|with_reducible refine aAt ?_|(intro (zv:(_:Value)=_);subst zv)|intro z))|skip);(have z:=bk _ _ (by with_reducible assumption);clear bk);(have z:=bk _ _ (by with_reducible assumption);clear bk))
  |((first|(apply nO;(with_reducible assumption);exact zt2;(first|exact zR _|exact kX);intro zK zh zr zs bk)|(apply nP;(with_reducible assumption);exact zt2;intro zK zh zr zs bk));(first|(apply nO;(with_reducible assumption);exact zt1;(first|exact zR _|exact kX);intro zK zh zr zs bk)|(apply nP;(with_reducible assumption);exact zt1;intro zK zh zr zs bk));(first|(apply nO;(with_reducible assumption);exact zt1;(first|exact zR _|exact kX);intro zK zh zr zs bk)|(apply nP;(with_reducible assumption);exact zt1;intro zK zh zr zs bk));refine aBq ?_;(first|(intro z z;repeat (first|(with_reducible refine aAs fun z=>?_)|with_reducible refine aAt ?_|(intro (zv:(_:Value)=_);subst zv)|intro z))|skip);(have z:=bk _ _ (by with_reducible assumption);clear bk);(have z:=bk _ _ (by with_reducible assumption);clear bk);(have z:=bk _ _ (by with_reducible assumption);clear bk))
  |((first|(apply nO;(with_reducible assumption);exact .head;(first|exact zR _|exact kX);intro zK zh zr zs bk)|(apply nP;(with_reducible assumption);exact .head;intro zK zh zr zs bk));(first|(apply nO;(with_reducible assumption);exact .head;(first|exact zR _|exact kX);intro zK zh zr zs bk)|(apply nP;(with_reducible assumption);exact .head;intro zK zh zr zs bk));(first|(apply nO;(with_reducible assumption);exact .head;(first|exact zR _|exact kX);intro zK zh zr zs bk)|(apply nP;(with_reducible assumption);exact .head;intro zK zh zr zs bk));refine aBq ?_;(first|(intro z z;repeat (first|(with_reducible refine aAs fun z=>?_)|with_reducible refine aAt ?_|(intro (zv:(_:Value)=_);subst zv)|intro z))|skip);(have z:=bk _ _ (by with_reducible assumption);clear bk);(have z:=bk _ _ (by with_reducible assumption);clear bk);(have z:=bk _ _ (by with_reducible assumption);clear bk))
  |((first|(apply nO;(with_reducible assumption);exact zt1;(first|exact zR _|exact kX);intro zK zh zr zs bk)|(apply nP;(with_reducible assumption);exact zt1;intro zK zh zr zs bk));(first|(apply nO;(with_reducible assumption);exact zt1;(first|exact zR _|exact kX);intro zK zh zr zs bk)|(apply nP;(with_reducible assumption);exact zt1;intro zK zh zr zs bk));(first|(apply nO;(with_reducible assumption);exact zt1;(first|exact zR _|exact kX);intro zK zh zr zs bk)|(apply nP;(with_reducible assumption);exact zt1;intro zK zh zr zs bk));refine aBq ?_;(first|(intro z z;repeat (first|(with_reducible refine aAs fun z=>?_)|with_reducible refine aAt ?_|(intro (zv:(_:Value)=_);subst zv)|intro z))|skip);(have z:=bk _ _ (by with_reducible assumption);clear bk);(have z:=bk _ _ (by with_reducible assumption);clear bk);(have z:=bk _ _ (by with_reducible assumption);clear bk))
  |((first|(apply nO;(with_reducible assumption);exact zt3;(first|exact zR _|exact kX);intro zK zh zr zs bk)|(apply nP;(with_reducible assumption);exact zt3;intro zK zh zr zs bk));(first|(apply nO;(with_reducible assumption);exact zt2;(first|exact zR _|exact kX);intro zK zh zr zs bk)|(apply nP;(with_reducible assumption);exact zt2;intro zK zh zr zs bk));(first|(apply nO;(with_reducible assumption);exact zt2;(first|exact zR _|exact kX);intro zK zh zr zs bk)|(apply nP;(with_reducible assumption);exact zt2;intro zK zh zr zs bk));refine aBq ?_;(first|(intro z z;repeat (first|(with_reducible refine aAs fun z=>?_)|with_reducible refine aAt ?_|(intro (zv:(_:Value)=_);subst zv)|intro z))|skip);(have z:=bk _ _ (by with_reducible assumption);clear bk);(have z:=bk _ _ (by with_reducible assumption);clear bk);(have z:=bk _ _ (by with_reducible assumption);clear bk))
  |((first|(apply nO;(with_reducible assumption);exact .head;(first|exact zR _|exact kX);intro zK zh zr zs bk)|(apply nP;(with_reducible assumption);exact .head;intro zK zh zr zs bk));(first|(apply nO;(with_reducible assumption);exact .head;(first|exact zR _|exact kX);intro zK zh zr zs bk)|(apply nP;(with_reducible assumption);exact .head;intro zK zh zr zs bk));(first|(apply nO;(with_reducible assumption);exact .head;(first|exact zR _|exact kX);intro zK zh zr zs bk)|(apply nP;(with_reducible assumption);exact .head;intro zK zh zr zs bk));(first|(apply nO;(with_reducible assumption);exact .head;(first|exact zR _|exact kX);intro zK zh zr zs bk)|(apply nP;(with_reducible assumption);exact .head;intro zK zh zr zs bk));refine aBq ?_;(first|(intro z z;repeat (first|(with_reducible refine aAs fun z=>?_)|with_reducible refine aAt ?_|(intro (zv:(_:Value)=_);subst zv)|intro z))|skip);(have z:=bk _ _ (by with_reducible assumption);clear bk);(have z:=bk _ _ (by with_reducible assumption);clear bk);(have z:=bk _ _ (by with_reducible assumption);clear bk);(have z:=bk _ _ (by with_reducible assumption);clear bk))
  |((first|(with_reducible apply st_g0)|(with_reducible apply st_g1)|(with_reducible apply st_g2)|(with_reducible apply st_g3)|(apply st_g4;exact rfl));rcases aK hm with ⟨z,hm⟩|⟨z,hm⟩))):p:=h
end Gv
