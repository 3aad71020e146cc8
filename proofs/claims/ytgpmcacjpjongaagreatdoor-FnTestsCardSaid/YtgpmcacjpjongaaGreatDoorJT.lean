/- Readings of the program's data; what is known of its types. -/
import Derived.Test.YtgpmcacjpjongaaGreatDoorJYS
import Derived.Test.YtgpmcacjpjongaaGreatDoorProg
set_option linter.all false
namespace Gv
open Go.Value renaming slice→zS
open Go Go.Proofs Go.Proofs.Tryz
instance:eZ Edge where
 sz:=3
 enc d:=[i64 d.F,i64 d.B,i64 d.To]
 len _:=rfl
 one _ v h:=by simp at h;rcases h with rfl|rfl|rfl<;>rfl
 pos:=by decide
instance:El bF where
 sz:=4
 rd K cs d:=∃ (a0:Option Addr) (c0:Nat) (a1:Option Addr) (c1:Nat),cs=[i64 d.N,i64 d.I,zS a0 d.L.length c0,zS a1 d.E.length c1]/\bS K a0 c0 d.L/\bS K a1 c1 d.E
 mono:=fun h ⟨a0,c0,a1,c1,e,h0,h1⟩=>⟨a0,c0,a1,c1,e,h0.mono h,h1.mono h⟩
 len:=fun ⟨_,_,_,_,e,_⟩=>by rw [e];rfl
 one:=fun ⟨_,_,_,_,e,_⟩ v hv=>by rw [e] at hv;simp at hv;rcases hv with rfl|rfl|rfl|rfl<;>rfl
 pos:=by decide
instance:eZ mN where
 sz:=3
 enc d:=[i64 d.from_,str d.label,i64 d.to_]
 len _:=rfl
 one _ v h:=by simp at h;rcases h with rfl|rfl|rfl<;>rfl
 pos:=by decide
instance:El aS where
 sz:=3
 rd K cs d:=∃ (a0:Option Addr) (c0:Nat),cs=[i64 d.a,i64 d.b,zS a0 d.trace.length c0]/\bS K a0 c0 d.trace
 mono:=fun h ⟨a0,c0,e,h0⟩=>⟨a0,c0,e,h0.mono h⟩
 len:=fun ⟨_,_,e,_⟩=>by rw [e];rfl
 one:=fun ⟨_,_,e,_⟩ v hv=>by rw [e] at hv;simp at hv;rcases hv with rfl|rfl|rfl<;>rfl
 pos:=by decide
theorem bE:SLT prog 24 9 1:=⟨runUnderlying24,sizeOf9⟩
theorem xB:SC prog 9:=⟨isAgg9,sizeOf9⟩
theorem dA:SLT prog 55 2 1:=⟨runUnderlying55,sizeOf2⟩
theorem rZ:EZ prog 2 [i64 0]:=⟨⟨_,zeroValue2,rfl⟩,⟨t2,typeInfo2,by show (8:Nat)<=128;decide,rfl,by kernel_rfl,_,rfl,rfl⟩⟩
theorem iW:EZ prog 9 [str []]:=⟨⟨_,zeroValue9,rfl⟩,⟨t9,typeInfo9,by show (16:Nat)<=128;decide,rfl,by kernel_rfl,_,rfl,rfl⟩⟩
theorem fK:SC prog 2:=⟨isAgg2,sizeOf2⟩
theorem sl_22:SLT prog 22 5 1:=⟨runUnderlying22,sizeOf5⟩
theorem bs_72:BS prog 72 [(0,1),(1,1),(2,1)] [zS none 0 0,i64 0,Value.int .u64 0]:=⟨⟨_,zeroValue72,rfl⟩,_,runUnderlying72,fun w=>by simp [sizeOf22,sizeOf3,sizeOf70]⟩
theorem aJv:FA prog 46 0 0:=⟨_,_,_,runUnderlying46,rfl,sizeOf2,rfl,rfl⟩
theorem aAG:FA prog 46 1 1:=⟨_,_,_,runUnderlying46,rfl,sizeOf2,rfl,rfl⟩
theorem aBM:FA prog 46 2 2:=⟨_,_,_,runUnderlying46,rfl,sizeOf2,rfl,rfl⟩
theorem cM:SLT prog 25 46 3:=⟨runUnderlying25,sizeOf46⟩
theorem tE:AG prog 46 3:=⟨isAgg46,sizeOf46⟩
theorem aFk:BS prog 46 [(0,1),(1,1),(2,1)] [i64 0,i64 0,i64 0]:=⟨⟨_,zeroValue46,rfl⟩,_,runUnderlying46,fun w=>by simp [sizeOf2]⟩
theorem qA:EZ prog 46 [i64 0,i64 0,i64 0]:=⟨⟨_,zeroValue46,rfl⟩,⟨t46,typeInfo46,by show (24:Nat)<=128;decide,rfl,by kernel_rfl,_,rfl,rfl⟩⟩
theorem aJX:BS prog 27 [(0,1),(1,1),(2,1),(3,1)] [i64 0,i64 0,zS none 0 0,zS none 0 0]:=⟨⟨_,zeroValue27,rfl⟩,_,runUnderlying27,fun w=>by simp [sizeOf2,sizeOf24,sizeOf25]⟩
theorem fT:FA prog 27 2 2:=⟨_,_,_,runUnderlying27,rfl,sizeOf24,rfl,rfl⟩
theorem gY:SC prog 24:=⟨isAgg24,sizeOf24⟩
theorem dF:FA prog 27 3 3:=⟨_,_,_,runUnderlying27,rfl,sizeOf25,rfl,rfl⟩
theorem iT:SC prog 25:=⟨isAgg25,sizeOf25⟩
theorem cW:AG prog 27 4:=⟨isAgg27,sizeOf27⟩
theorem lB:FA prog 27 0 0:=⟨_,_,_,runUnderlying27,rfl,sizeOf2,rfl,rfl⟩
theorem yK:FA prog 27 1 1:=⟨_,_,_,runUnderlying27,rfl,sizeOf2,rfl,rfl⟩
theorem fa_72_1:FA prog 72 1 1:=⟨_,_,_,runUnderlying72,rfl,sizeOf3,rfl,rfl⟩
theorem sc_3:SC prog 3:=⟨isAgg3,sizeOf3⟩
theorem fa_72_0:FA prog 72 0 0:=⟨_,_,_,runUnderlying72,rfl,sizeOf22,rfl,rfl⟩
theorem sc_22:SC prog 22:=⟨isAgg22,sizeOf22⟩
theorem sc_5:SC prog 5:=⟨isAgg5,sizeOf5⟩
theorem fa_72_2:FA prog 72 2 2:=⟨_,_,_,runUnderlying72,rfl,sizeOf70,rfl,rfl⟩
theorem sc_70:SC prog 70:=⟨isAgg70,sizeOf70⟩
theorem sl_104:SLT prog 104 3 1:=⟨runUnderlying104,sizeOf3⟩
theorem ez_3:EZ prog 3 [i64 0]:=⟨⟨_,zeroValue3,rfl⟩,⟨t3,typeInfo3,by show (8:Nat)<=128;decide,rfl,by kernel_rfl,_,rfl,rfl⟩⟩
theorem bs_88:BS prog 88 [(0,1),(1,1),(2,1)] [i64 0,str [],i64 0]:=⟨⟨_,zeroValue88,rfl⟩,_,runUnderlying88,fun w=>by simp [sizeOf2,sizeOf9]⟩
theorem aFl:SLT prog 85 88 3:=⟨runUnderlying85,sizeOf88⟩
theorem aHH:EZ prog 88 [i64 0,str [],i64 0]:=⟨⟨_,zeroValue88,rfl⟩,⟨t88,typeInfo88,by show (32:Nat)<=128;decide,rfl,by kernel_rfl,_,rfl,rfl⟩⟩
theorem ag_88:AG prog 88 3:=⟨isAgg88,sizeOf88⟩
theorem fa_88_0:FA prog 88 0 0:=⟨_,_,_,runUnderlying88,rfl,sizeOf2,rfl,rfl⟩
theorem fa_88_1:FA prog 88 1 1:=⟨_,_,_,runUnderlying88,rfl,sizeOf9,rfl,rfl⟩
theorem fa_88_2:FA prog 88 2 2:=⟨_,_,_,runUnderlying88,rfl,sizeOf2,rfl,rfl⟩
theorem bs_181:BS prog 181 [(0,1),(1,1),(2,1),(3,1)] [zS none 0 0,Value.map none,zS none 0 0,Value.nilFunc]:=⟨⟨_,zeroValue181,rfl⟩,_,runUnderlying181,fun w=>by simp [sizeOf158,sizeOf179,sizeOf48,sizeOf85]⟩
theorem aCA:SC prog 178:=⟨isAgg178,sizeOf178⟩
theorem aNB:FA prog 181 3 3:=⟨_,_,_,runUnderlying181,rfl,sizeOf158,rfl,rfl⟩
theorem sc_158:SC prog 158:=⟨isAgg158,sizeOf158⟩
theorem aJY:FA prog 181 1 1:=⟨_,_,_,runUnderlying181,rfl,sizeOf179,rfl,rfl⟩
theorem sc_179:SC prog 179:=⟨isAgg179,sizeOf179⟩
theorem ko_9:aIM prog 9 aF:=keyOk_str runUnderlying9
theorem aAW:FA prog 181 0 0:=⟨_,_,_,runUnderlying181,rfl,sizeOf48,rfl,rfl⟩
theorem aHI:SC prog 48:=⟨isAgg48,sizeOf48⟩
theorem aAq:SLT prog 48 55 1:=⟨runUnderlying48,sizeOf55⟩
theorem aLE:EZ prog 55 [zS none 0 0]:=⟨⟨_,zeroValue55,rfl⟩,⟨t55,typeInfo55,by show (24:Nat)<=128;decide,rfl,by kernel_rfl,_,rfl,rfl⟩⟩
theorem aLF:SC prog 55:=⟨isAgg55,sizeOf55⟩
theorem aCB:FA prog 181 2 2:=⟨_,_,_,runUnderlying181,rfl,sizeOf85,rfl,rfl⟩
theorem aLG:SC prog 85:=⟨isAgg85,sizeOf85⟩
theorem sH:SLT prog 34 24 1:=⟨runUnderlying34,sizeOf24⟩
theorem aFK:EZ prog 24 [zS none 0 0]:=⟨⟨_,zeroValue24,rfl⟩,⟨t24,typeInfo24,by show (24:Nat)<=128;decide,rfl,by kernel_rfl,_,rfl,rfl⟩⟩
theorem aMx:FV prog 27 2 2:=⟨_,_,runUnderlying27,rfl,gY,rfl⟩
theorem aDx:BS prog 93 [(0,1),(1,1),(2,1)] [i64 0,i64 0,zS none 0 0]:=⟨⟨_,zeroValue93,rfl⟩,_,runUnderlying93,fun w=>by simp [sizeOf2,sizeOf24]⟩
theorem lM:SLT prog 94 93 3:=⟨runUnderlying94,sizeOf93⟩
theorem sI:EZ prog 93 [i64 0,i64 0,zS none 0 0]:=⟨⟨_,zeroValue93,rfl⟩,⟨t93,typeInfo93,by show (40:Nat)<=128;decide,rfl,by kernel_rfl,_,rfl,rfl⟩⟩
theorem ag_93:AG prog 93 3:=⟨isAgg93,sizeOf93⟩
theorem sJ:FA prog 93 0 0:=⟨_,_,_,runUnderlying93,rfl,sizeOf2,rfl,rfl⟩
theorem uJ:FA prog 93 1 1:=⟨_,_,_,runUnderlying93,rfl,sizeOf2,rfl,rfl⟩
theorem aLH:ART prog 95 2 2:=⟨runUnderlying95,isAgg2,sizeOf2⟩
theorem aLI:∃ z,(∀ w,(zeroValue 95).run prog w=.ok z w)/\z.cells=[i64 0,i64 0].toArray:=⟨_,zeroValue95,rfl⟩
theorem aLJ:aIM prog 95 (Int × Int):=aOK runUnderlying95 runUnderlying2 ⟨isAgg2,sizeOf2⟩
theorem aDy:FA prog 93 2 2:=⟨_,_,_,runUnderlying93,rfl,sizeOf24,rfl,rfl⟩
theorem aHe:SLT prog 168 4 1:=⟨runUnderlying168,sizeOf4⟩
theorem ez_4:EZ prog 4 [Value.bool false]:=⟨⟨_,zeroValue4,rfl⟩,⟨t4,typeInfo4,by show (1:Nat)<=128;decide,rfl,by kernel_rfl,_,rfl,rfl⟩⟩
theorem sc_4:SC prog 4:=⟨isAgg4,sizeOf4⟩
theorem st_46:prog.stoodInHeld 46=false:=by kernel_rfl
theorem eq_46 {x y:Edge}:EQT prog 46 [i64 x.F,i64 x.B,i64 x.To] [i64 y.F,i64 y.B,i64 y.To] (decide (x=y)):=by
 refine ⟨by kernel_rfl,fun w=>?_⟩
 have h2:∀ (a b:Int),(Op.equalIn 9999 2 (i64 a) (i64 b)).run prog w=.ok (a == b) w:=fun a b=>run_eqInI 9998 (runUnderlying2 w)
 have:Op.maxDepth=9999+1:=rfl
 unfold Op.equal
 rw [this]
 unfold Op.equalIn
 simp [runUnderlying46,st_46,part,h2,isAgg2]
 cases x;cases y
 simp
 repeat' split<;>simp_all
theorem Tryz_mixed:prog.follows .mixedOrders=true:=by kernel_rfl
abbrev zC (d:bF) (a:Option Addr) (c:Nat) (b:Option Addr) (e:Nat):List Value:=[i64 d.N,i64 d.I,Value.slice a d.L.length c,Value.slice b d.E.length e]
abbrev zCa (d:bF) (a:Option Addr) (c:Nat) (b:Option Addr) (e:Nat):Array Value:=#[i64 d.N,i64 d.I,Value.slice a d.L.length c,Value.slice b d.E.length e]
abbrev zG:List Value:=[i64 0,i64 0,Value.slice none 0 0,Value.slice none 0 0]
abbrev zGa:Array Value:=#[i64 0,i64 0,Value.slice none 0 0,Value.slice none 0 0]
abbrev zK:List Value:=[i64 0,i64 0,Value.slice none 0 0,Value.slice none 0 0,Value.slice none 0 0,Value.slice none 0 0]
abbrev zKa:Array Value:=#[i64 0,i64 0,Value.slice none 0 0,Value.slice none 0 0,Value.slice none 0 0,Value.slice none 0 0]
end Gv
namespace Gv
open Go.Value renaming slice→zS
open Gv.Hp renaming le_refl→zR
open Go Go.Proofs Go.Proofs.Tryz
theorem nK {p:Prop} (h:p:=by first|assumption|(apply st_cK;assumption;exact lK)):p:=h
theorem st_HR {p:Prop} (h:p:=by first|assumption|(apply st_rK;assumption;exact lK)):p:=h
theorem st_S {p:Prop} (h:p:=by with_reducible first|exact bE|exact dA|exact sl_22|exact cM|exact sl_104|exact aFl|exact aAq|exact sH|exact lM|exact aHe):p:=h
theorem xC {p:Prop} (h:p:=by with_reducible first|exact xB|exact fK|exact gY|exact iT|exact sc_3|exact sc_22|exact sc_5|exact sc_70|exact aCA|exact sc_158|exact sc_179|exact aHI|exact aLF|exact aLG|exact sc_4):p:=h
theorem aDU {p:Prop} (h:p:=by with_reducible first|exact tE|exact cW|exact ag_88|exact ag_93):p:=h
theorem st_F {p:Prop} (h:p:=by with_reducible first|exact aJv|exact aAG|exact aBM|exact fT|exact dF|exact lB|exact yK|exact fa_72_1|exact fa_72_0|exact fa_72_2|exact fa_88_0|exact fa_88_1|exact fa_88_2|exact aNB|exact aJY|exact aAW|exact aCB|exact sJ|exact uJ|exact aDy):p:=h
theorem za_3:ZA prog 3 [i64 0]:=⟨_,zeroValue3,rfl⟩
theorem za_24:ZA prog 24 [zS none 0 0]:=⟨_,zeroValue24,rfl⟩
theorem za_27:ZA prog 27 [i64 0,i64 0,zS none 0 0,zS none 0 0]:=⟨_,zeroValue27,rfl⟩
theorem za_46:ZA prog 46 [i64 0,i64 0,i64 0]:=⟨_,zeroValue46,rfl⟩
theorem za_48:ZA prog 48 [zS none 0 0]:=⟨_,zeroValue48,rfl⟩
theorem za_88:ZA prog 88 [i64 0,str ([]:aF),i64 0]:=⟨_,zeroValue88,rfl⟩
theorem za_93:ZA prog 93 [i64 0,i64 0,zS none 0 0]:=⟨_,zeroValue93,rfl⟩
theorem za_178:ZA prog 178 [Value.pointer none]:=⟨_,zeroValue178,rfl⟩
theorem st_r {p:Prop} (h:p:=by with_reducible first|exact runUnderlying179|exact runUnderlying2|exact runUnderlying3|exact runUnderlying4|exact runUnderlying5|exact runUnderlying70|exact runUnderlying9|exact runUnderlying91):p:=h
theorem st_v {p:Prop} (h:p:=by with_reducible first|exact aMx):p:=h
theorem st_h {p:Prop} (h:p:=by with_reducible first|exact bs_72|exact aFk|exact aJX|exact bs_88|exact bs_181|exact aDx):p:=h
theorem st_e {p:Prop} (h:p:=by with_reducible first|exact rZ|exact iW|exact qA|exact ez_3|exact aHH|exact aLE|exact aFK|exact sI|exact ez_4):p:=h
theorem st_u {p:Prop} (h:p:=by with_reducible first|exact underlying24|exact underlying25|exact underlying34|exact underlying48|exact underlying55|exact underlying85|exact underlying94):p:=h
theorem st_z {p:Prop} (h:p:=by with_reducible first|exact sizeOf178|exact sizeOf2|exact sizeOf24|exact sizeOf25|exact sizeOf27|exact sizeOf3|exact sizeOf4|exact sizeOf46|exact sizeOf48|exact sizeOf70|exact sizeOf85|exact sizeOf88|exact sizeOf9|exact sizeOf93):p:=h
theorem st_y {p:Prop} (h:p:=by with_reducible first|exact za_3|exact za_24|exact za_27|exact za_46|exact za_48|exact za_88|exact za_93|exact za_178):p:=h
theorem st_V {p:Prop} (h:p:=by first|exact V_moveC|exact V_assignC|(apply V_B;first|(apply V_add;exact cE;exact cE)|(apply V_sub;exact cE;exact cE)|(apply V_mul;exact cE;exact cE)|(apply V_lss;exact cE;exact cE)|(apply V_leq;exact cE;exact cE)|(apply V_gtr;exact cE;exact cE)|(apply V_geq;exact cE;exact cE)|(apply V_eql;exact cE;exact cE)|(apply V_neq;exact cE;exact cE)|(apply V_eqlS;exact cE;exact cE)|(apply V_neqS;exact cE;exact cE)|(apply V_lssS;exact cE;exact cE)|(apply V_leqS;exact cE;exact cE)|(apply V_gtrS;exact cE;exact cE)|(apply V_geqS;exact cE;exact cE))|exact V_moveF|exact V_assignF|(apply V_move;exact cE)|(apply V_assign;exact cE)|(apply V_fldP;exact cE;exact st_F)|(apply V_fldE;exact cE;exact nK;exact st_F)|(apply V_fldO;exact cE;exact fA;exact aHd;exact fA;exact st_F)|(apply V_L;first|(apply V_ldB;exact cE;exact fA;exact aHd;exact rfl;exact xC)|(apply V_ldBG;exact cE;exact fA;exact aHd;exact aDU;exact st_D)|(apply aIN (t:=0);exact cE;exact nK;exact fA;exact rfl;exact xC)|(apply aIN (t:=1);exact cE;exact nK;exact fA;exact rfl;exact xC)|(apply aIN (t:=2);exact cE;exact nK;exact fA;exact rfl;exact xC)|(apply aIN (t:=3);exact cE;exact nK;exact fA;exact rfl;exact xC)|(apply aIN (t:=4);exact cE;exact nK;exact fA;exact rfl;exact xC)|(apply aIN (t:=5);exact cE;exact nK;exact fA;exact rfl;exact xC)|(apply aIN (t:=6);exact cE;exact nK;exact fA;exact rfl;exact xC)|(apply aIN (t:=7);exact cE;exact nK;exact fA;exact rfl;exact xC)|(apply aFJ (t:=0);exact cE;exact nK;exact fA;exact aDU;exact rfl;exact rfl)|(apply aFJ (t:=1);exact cE;exact nK;exact fA;exact aDU;exact rfl;exact rfl)|(apply aFJ (t:=2);exact cE;exact nK;exact fA;exact aDU;exact rfl;exact rfl)|(apply aFJ (t:=3);exact cE;exact nK;exact fA;exact aDU;exact rfl;exact rfl)|(apply aFJ (t:=4);exact cE;exact nK;exact fA;exact aDU;exact rfl;exact rfl)|(apply aFJ (t:=5);exact cE;exact nK;exact fA;exact aDU;exact rfl;exact rfl)|(apply aFJ (t:=6);exact cE;exact nK;exact fA;exact aDU;exact rfl;exact rfl)|(apply aFJ (t:=7);exact cE;exact nK;exact fA;exact aDU;exact rfl;exact rfl)|(apply V_ldO (t:=0);exact cE;exact fA;exact aHd;exact fA;exact rfl;exact rfl;exact xC)|(apply V_ldO (t:=1);exact cE;exact fA;exact aHd;exact fA;exact rfl;exact rfl;exact xC)|(apply V_ldO (t:=2);exact cE;exact fA;exact aHd;exact fA;exact rfl;exact rfl;exact xC)|(apply V_ldO (t:=3);exact cE;exact fA;exact aHd;exact fA;exact rfl;exact rfl;exact xC)|(apply V_ldO (t:=4);exact cE;exact fA;exact aHd;exact fA;exact rfl;exact rfl;exact xC)|(apply V_ldOG (t:=0);exact cE;exact fA;exact aHd;exact fA;exact rfl;exact aDU;exact rfl;exact rfl)|(apply V_ldOG (t:=1);exact cE;exact fA;exact aHd;exact fA;exact rfl;exact aDU;exact rfl;exact rfl)|(apply V_ldOG (t:=2);exact cE;exact fA;exact aHd;exact fA;exact rfl;exact aDU;exact rfl;exact rfl)|(apply aIP (t:=0);exact cE;exact fA;exact fA;exact lK;exact rfl;exact xC)|(apply aIP (t:=1);exact cE;exact fA;exact fA;exact lK;exact rfl;exact xC)|(apply aIP (t:=2);exact cE;exact fA;exact fA;exact lK;exact rfl;exact xC)|(apply aIP (t:=3);exact cE;exact fA;exact fA;exact lK;exact rfl;exact xC)|(apply aIP (t:=4);exact cE;exact fA;exact fA;exact lK;exact rfl;exact xC)|(apply aIP (t:=5);exact cE;exact fA;exact fA;exact lK;exact rfl;exact xC)|(apply aIP (t:=6);exact cE;exact fA;exact fA;exact lK;exact rfl;exact xC)|(apply aIP (t:=7);exact cE;exact fA;exact fA;exact lK;exact rfl;exact xC)|(apply aMw (t:=0);exact cE;exact fA;exact fA;exact lK;exact aDU;exact rfl;exact rfl)|(apply aMw (t:=1);exact cE;exact fA;exact fA;exact lK;exact aDU;exact rfl;exact rfl)|(apply aMw (t:=2);exact cE;exact fA;exact fA;exact lK;exact aDU;exact rfl;exact rfl)|(apply aMw (t:=3);exact cE;exact fA;exact fA;exact lK;exact aDU;exact rfl;exact rfl)|(apply aIO (t:=0);exact fA;exact nK;exact cE;exact rfl;exact xC)|(apply aIO (t:=1);exact fA;exact nK;exact cE;exact rfl;exact xC)|(apply aIO (t:=2);exact fA;exact nK;exact cE;exact rfl;exact xC)|(apply aIO (t:=3);exact fA;exact nK;exact cE;exact rfl;exact xC)|(apply aIO (t:=4);exact fA;exact nK;exact cE;exact rfl;exact xC)|(apply aIO (t:=5);exact fA;exact nK;exact cE;exact rfl;exact xC)|(apply aIO (t:=6);exact fA;exact nK;exact cE;exact rfl;exact xC)|(apply aIO (t:=7);exact fA;exact nK;exact cE;exact rfl;exact xC)|(apply aMv (t:=0);exact fA;exact nK;exact cE;exact aDU;exact rfl;exact rfl)|(apply aMv (t:=1);exact fA;exact nK;exact cE;exact aDU;exact rfl;exact rfl)|(apply aMv (t:=2);exact fA;exact nK;exact cE;exact aDU;exact rfl;exact rfl)|(apply aMv (t:=3);exact fA;exact nK;exact cE;exact aDU;exact rfl;exact rfl))|(apply V_lenS;exact st_S;exact cE)|(apply V_nilE;exact cE;exact nK)|(apply V_nilP;exact cE)|(apply V_nilO;exact cE;exact fA;exact aHd;exact fA)|(apply V_ixE;exact cE;exact cE;exact st_HR;exact fA;exact rfl;exact st_S;exact rfl)|(apply V_ixO;exact cE;exact cE;exact fA;exact aHd;exact fA;exact rfl;exact st_S;exact rfl)|(apply V_extract;exact cE;exact rfl)|(apply V_pickT;exact cE;exact aJg;exact cE)|(apply V_pickF;exact cE;exact aJg;exact cE)|(apply V_not;exact cE)|(apply V_lenStr;exact st_r;exact cE)|(apply V_ixS;exact st_r;exact cE;exact cE;exact fA)|(apply V_conv64;exact st_r;exact cE;exact ⟨_,st_r⟩)|(apply V_convu64;exact st_r;exact cE;exact ⟨_,st_r⟩)|(apply V_u8sub';exact cE;exact cE)|(apply V_neg;exact cE)|(apply V_rem;exact cE;exact cE;exact fA)|(apply V_cat;exact cE;exact cE;exact fA)|(apply V_neqB;exact st_r;exact cE;exact cE)|(apply V_u64add;exact cE;exact cE)|(apply V_u64mul;exact cE;exact cE)|(apply V_shrU;exact cE;exact cE;exact fA)|(apply V_andU;exact cE;exact cE)|(apply V_slSLH;exact st_r;exact cE;exact cE;exact cE;exact fA)|(apply V_slSL;exact st_r;exact cE;exact cE;exact fA)|(apply V_slSH;exact st_r;exact cE;exact cE;exact fA)|(apply V_isNil;exact st_S;exact cE;exact rfl)|(apply V_field;exact st_v;exact cE;exact rfl)|(apply V_build;exact st_h;exact rfl;exact (by kernel_rfl))|(apply aOM;exact rfl)):p:=h
theorem st_call {p:Prop} (h:p:=by with_reducible first|exact call4|exact call5|exact call6|exact call7|exact call8|exact call9|exact call10|exact call11|exact call12|exact call13|exact call14|exact call15|exact call16|exact call17|exact call18|exact call19|exact call20|exact call21|exact call22|exact call23|exact call24|exact call25|exact call26|exact call27|exact call28|exact call29|exact call30|exact call31|exact call32|exact call33|exact call34|exact call35|exact call36|exact call37|exact call38|exact call39|exact call40|exact call41|exact call42|exact call43|exact call44|exact call45|exact call46|exact call47|exact call48|exact call49|exact call50|exact call51|exact call52|exact call53|exact call54|exact call55|exact call56|exact call57|exact call58|exact call62|exact call63|exact call64|exact call65|exact call66|exact call67|exact call68|exact call69|exact call70|exact call71|exact call72|exact call73|exact call74|exact call75|exact call76|exact call77|exact call78|exact call79|exact call80|exact call81|exact call82|exact call83|exact call84|exact call85|exact call86|exact call87|exact call88|exact call89|exact call90|exact call91|exact call92|exact call93|exact call94|exact call96|exact call97|exact call98|exact call99|exact call100|exact call101|exact call102|exact call103|exact call104|exact call105|exact call106|exact call107|exact call108|exact call109|exact call110|exact call111|exact call112|exact call113|exact call114|exact call115|exact call116|exact call117|exact call118|exact call119|exact call120|exact call121|exact call122|exact call123|exact call124|exact call125|exact call126|exact call127|exact call128|exact call129|exact call130|exact call131|exact call132|exact call133|exact call136|exact call138|exact call139|exact call141|exact call142|exact call143|exact call144|exact call145|exact call146|exact call147|exact call148|exact call149|exact call150|exact call151|exact call153|exact call155|exact call156|exact call157|exact call158|exact call159|exact call160|exact call161|exact call190|exact call191|exact call192|exact call199|exact call200|exact call201|exact call202):p:=h
theorem st_f {p:Prop} (h:p:=by with_reducible first|exact func3|exact func4|exact func5|exact func6|exact func7|exact func8|exact func9|exact func10|exact func11|exact func12|exact func13|exact func14|exact func15|exact func16|exact func17|exact func18|exact func19|exact func20|exact func21|exact func22|exact func24|exact func25|exact func26|exact func27|exact func28|exact func29|exact func30|exact func31|exact func32|exact func33|exact func34|exact func35|exact func36|exact func37|exact func38|exact func39|exact func40|exact func41|exact func42|exact func43|exact func44|exact func45|exact func46|exact func47|exact func48|exact func49|exact func50|exact func51|exact func52|exact func53|exact func54|exact func55|exact func56|exact func57|exact func58|exact func59|exact func60|exact func61|exact func62|exact func63|exact func64|exact func65|exact func66|exact func67|exact func68|exact func69|exact func70|exact func71|exact func72|exact func73|exact func74|exact func75|exact func76|exact func77|exact func78|exact func79|exact func80|exact func81|exact func82|exact func83|exact func84|exact func85|exact func86|exact func87|exact func88|exact func89|exact func90|exact func91|exact func92|exact func93|exact func95|exact func96|exact func98|exact func100|exact func101|exact func102|exact func103|exact func104|exact func105|exact func107|exact func108|exact func109|exact func110|exact func111|exact func112|exact func113|exact func114|exact func115|exact func116|exact func117|exact func118|exact func119|exact func120|exact func121|exact func122|exact func123|exact func125|exact func127|exact func128|exact func129|exact func130|exact func131|exact func132|exact func133|exact func138|exact func139|exact func141|exact func142|exact func143|exact func144|exact func145|exact func146|exact func147|exact func148|exact func149|exact func150|exact func151|exact func155|exact func156|exact func157|exact func158|exact func159|exact func190|exact func191|exact func192|exact func199|exact func200|exact func201|exact func202):p:=h
theorem aLK {p:Prop} (h:p:=by first|((with_reducible apply yJ);exact rfl;exact rfl)|((with_reducible apply V_rvG);exact cE;exact fA;exact aHd;exact aDU;exact rfl;exact rfl)|((with_reducible apply V_rvB);exact cE;exact fA;exact aHd;exact xC;exact rfl)):p:=h
theorem st_X {p:Prop} (h:p:=by
 (repeat (first
  |exact bW
  |(with_reducible apply Exists.intro)
  |((with_reducible apply And.intro);· first|exact bW|(with_reducible assumption)|exact (Option.some.inj (by with_reducible assumption)).symm|exact rfl|assumption|exact zR _|exact lK|exact uG _|(apply st_rK;assumption;exact lK)|(apply st_cK;assumption;exact lK)|exact mV (by assumption))
  |(with_reducible assumption)|exact st_c|exact rfl|assumption));first|done|fail):p:=h
theorem aCC {p q:Prop} (k:q) (h:Hd q->p:=by
 intro hk
 (first|apply st_ca|apply st_cb|apply st_cq);exact st_call;(first|(with_reducible intro z z)|skip);(first|((with_reducible first|apply mA|apply aDN|apply nH|apply vP|apply aBw|apply vF|apply aDi|apply iC|apply sV|apply vG|apply wL|apply aFb|apply aAs|apply kA|apply gV|apply aAk|apply kP|apply aBv|apply aIW|apply aDh|apply iK|apply aFa|apply aKl|apply uB|apply pQ|apply kZ|apply aBk|apply pR|apply qV|apply bA|apply aY|apply aGa|apply uC|apply xO|apply vB|apply aBh|apply yC|apply kM|apply aHh|apply aBE|apply aKm|apply sD|apply aDj|apply sW|apply mU|apply iR|apply aDk|apply aDg|apply aBi|apply aEv|apply aHj|apply aMB|apply wV|apply aBj|apply aHS|apply aFZ|apply aIx|apply wK|apply aHi|apply aKg|apply aLm|apply aJi|apply aLn|apply aGT|apply aKh|apply aBF|apply rK|apply aIr|apply aFT|apply vA|apply tZ|apply aDp|apply aIs|apply aKi|apply aBG|apply aIt|apply lZ|apply sX|apply aDM|apply aFU|apply aFV|apply aDb|apply aLo|apply aDc|apply aFW|apply aDd|apply aAS|apply aMA|apply aJj|apply aFs|apply aKj|apply aIu|apply aDm|apply yD|apply aBm|apply aGf|apply aFX|apply aFt|apply aEt|apply aIv|apply aJk|apply aJl|apply aEZ|apply aHP|apply aGE|apply aAi|apply aBy|apply aKn|apply aFv|apply aLp|apply aGb|apply aGc|apply aGd|apply aDl|apply aJn|apply aHT|apply aIy|apply aMC|apply aEx|apply aJo|apply aAl|apply aEy|apply aFw|apply aGe|apply mB|apply aLq|apply aAt|apply aAu|apply aBx|apply aEw|apply aJm|apply aDP|apply aFu);with_reducible assumption)|(with_reducible apply jM;with_reducible assumption)|(with_reducible apply aBI;with_reducible assumption)|(with_reducible apply aGF;with_reducible assumption)|(with_reducible apply aAr;with_reducible assumption)|(with_reducible apply aHQ;with_reducible assumption)|(with_reducible apply aHR;with_reducible assumption)|(with_reducible apply pY;with_reducible assumption)|(with_reducible apply oS;with_reducible assumption)|(with_reducible apply pZ;with_reducible assumption)|(with_reducible apply oT;with_reducible assumption)|(with_reducible apply kH;with_reducible assumption)|(with_reducible apply kI;with_reducible assumption)|(with_reducible apply jN;with_reducible assumption)|(with_reducible apply jI;with_reducible assumption)|(with_reducible apply aDO;with_reducible assumption)|(with_reducible apply pX;with_reducible assumption)|(with_reducible apply oR;with_reducible assumption)|(with_reducible apply tY;with_reducible assumption)|(with_reducible apply sB;with_reducible assumption)|(with_reducible apply pW;with_reducible assumption)|(with_reducible apply aEu;with_reducible assumption)|(with_reducible apply sC;with_reducible assumption)|(with_reducible apply aFz;with_reducible assumption)|(with_reducible apply aIw;with_reducible assumption)|(with_reducible apply aDf;with_reducible assumption)|(with_reducible apply aKk;with_reducible assumption)|(with_reducible apply aFY;with_reducible assumption)|(with_reducible apply bY;with_reducible assumption)|(with_reducible apply uA;with_reducible assumption)|(with_reducible apply aAj;with_reducible assumption)|(with_reducible apply mG;with_reducible assumption)|(with_reducible apply aBl;with_reducible assumption)|(with_reducible apply aDe;with_reducible assumption)|(with_reducible apply bK;with_reducible assumption)|(with_reducible apply oJ;with_reducible assumption)|(with_reducible apply aBH;with_reducible assumption)|(with_reducible apply oZ;with_reducible assumption)|(with_reducible apply pS;with_reducible assumption)|(with_reducible apply iV;with_reducible assumption)|(with_reducible apply oK;with_reducible assumption)|(with_reducible apply iL;with_reducible assumption)|(with_reducible apply lib_SortStr;all_goals (try with_reducible assumption))|(with_reducible apply lib_SortEdge;all_goals (try with_reducible assumption))|(with_reducible apply lib_Cut;all_goals (try with_reducible assumption))|(with_reducible apply lib_Split;all_goals (try with_reducible assumption))|(with_reducible apply aND;all_goals (try with_reducible assumption))|(with_reducible apply lib_Join;all_goals (try with_reducible assumption))|(with_reducible apply aFS;all_goals (try with_reducible assumption))|(with_reducible apply aIV;all_goals (try with_reducible assumption))|(with_reducible apply aJh;all_goals (try with_reducible assumption))|(with_reducible apply lib_GrowStr;all_goals (try with_reducible assumption)));(case hv=>exact rfl);(repeat (first|assumption|exact st_c|(apply st_rK;assumption;exact lK)|(apply st_cK;assumption;exact lK)|exact uG _|exact lK|exact zR _|exact rfl|exact mV (by assumption)));exact hk.k;first|done|fail):p:=h ⟨k⟩
set_option maxRecDepth 100000 in
theorem aP {p:Prop} (h:p:=by
 repeat' (first
  |(apply st_i;exact cE;exact cE;exact fA;exact fA;exact rfl;exact st_S;exact rfl;intro z z zr;first|(have zr:=st_pd zr;subst zr)|obtain ⟨z,z,rfl,z⟩:=zr|obtain ⟨z,z,z,z,rfl,z,z⟩:=zr|obtain ⟨z,z,z,z,z,z,rfl,z,z,z⟩:=zr|obtain ⟨z,z,z,z,z,z,z,z,rfl,z,z,z,z⟩:=zr)
  |(apply st_iQ;exact cE;exact cE;exact fA;exact fA;exact rfl;exact st_S;exact rfl;intro z z zr;first|(have zr:=st_pd zr;subst zr)|obtain ⟨z,z,rfl,z⟩:=zr|obtain ⟨z,z,z,z,rfl,z,z⟩:=zr|obtain ⟨z,z,z,z,z,z,rfl,z,z,z⟩:=zr|obtain ⟨z,z,z,z,z,z,z,z,rfl,z,z,z,z⟩:=zr)
  |(apply st_iE;exact rfl;exact cE;exact cE;exact fA;exact fA;exact rfl;exact st_S;exact rfl;intro z z zr;first|(have zr:=st_pd zr;subst zr)|obtain ⟨z,z,rfl,z⟩:=zr|obtain ⟨z,z,z,z,rfl,z,z⟩:=zr|obtain ⟨z,z,z,z,z,z,rfl,z,z,z⟩:=zr|obtain ⟨z,z,z,z,z,z,z,z,rfl,z,z,z,z⟩:=zr)
  |(apply VO;exact st_V)
  |(apply VQ;intro _ _;exact st_V)
  |(apply aJ)
  |with_reducible apply aB
  |with_reducible apply cT
  |(apply aM)
  |(apply aZ)
  |(apply bB)
  |(apply yH)
  |(apply V_condT;exact cE;exact aJg)
  |(apply V_condF;exact cE;exact aJg)
  |with_reducible apply iP
  |with_reducible apply pC
  |(with_reducible apply aLw;exact rfl)
  |(apply V_onT;exact rfl;exact cE;exact aJg)
  |(apply V_onF;exact rfl;exact cE;exact aJg)
  |(apply V_offF;exact rfl;exact cE;exact aJg)
  |(apply V_offT;exact rfl;exact cE;exact aJg)
  |(apply Q_onT;exact rfl;exact cE;exact aJg)
  |(apply Q_onF;exact rfl;exact cE;exact aJg)
  |(apply Q_offF;exact rfl;exact cE;exact aJg)
  |(apply Q_offT;exact rfl;exact cE;exact aJg)
  |(apply WO_off_u;exact rfl;exact cE)
  |(apply WQ_off_u;exact rfl;exact cE)
  |(apply V_WE;exact rfl;rintro _ ⟨_,_⟩;exact st_V)
  |(apply V_WT;exact rfl;intro _;exact st_V)
  |apply kX
  |with_reducible apply cC
  |with_reducible apply gO
  |exact st_X
  |(apply aCr;exact rfl;exact rfl;refine aIQ hm (fun z=>?_);subst z;exact st_X)
  |(apply aGX;exact rfl;exact rfl;exact rfl;refine aIQ hm (fun z=>?_);subst z;exact st_X)
  |(apply retQ_3;exact rfl;exact rfl;exact rfl;exact rfl;refine aIQ hm (fun z=>?_);subst z;exact st_X)
  |(apply retQ_m1;exact rfl;exact aLK;refine aIQ hm (fun z=>?_);subst z;exact st_X)
  |(apply retQ_m2;exact rfl;exact aLK;exact aLK;refine aIQ hm (fun z=>?_);subst z;exact st_X)
  |(apply aDw;exact rfl;exact aLK;exact aLK;exact aLK;refine aIQ hm (fun z=>?_);subst z;exact st_X)
  |(apply retQ_0n;exact rfl;refine aIQ hm (fun z=>?_);subst z;exact st_X)
  |(apply retQ_0;exact rfl;refine aIQ hm (fun z=>?_);subst z;exact st_X)
  |(refine st_I st_f ?_)
  |intro (hm:(_:Option _)=some _)
  |intro (hr:∀ r',_=Sum.inr r'->_)
  |(with_reducible refine aBB fun z=>?_)
  |(with_reducible refine aBC ?_)
  |(intro (zv:(_:Value)=_);subst zv)
  |intro z
  |((with_reducible apply st_we);first|exact ⟨_,by assumption⟩|exact ⟨_,aD.weakK (by assumption) lK⟩)
  |(apply gP;exact rfl)
  |(apply aFy;exact rfl)
  |apply aCv
  |(have zq:=hr _ (Option.some.inj hm).symm;subst zq;have hm:=ho;clear hr ho;try dsimp only at hm)
  |obtain ⟨z,z,hm⟩:=aC hm
  |exact st_no hm
  |refine st_a (fun z z z=>?_)
  |refine st_s (fun z z=>?_)
  |refine st_x (fun z z z=>?_)
  |refine st_ba (by with_reducible assumption) (fun z z z=>?_)
  |refine st_b (T:=24) ([]:List aF) (fun z z z=>?_)
  |refine st_b (T:=25) ([]:List Edge) (fun z z z=>?_)
  |refine st_b (T:=55) ([]:List Int) (fun z z z=>?_)
  |refine st_p (fun z z z z=>?_)
  |(apply st_q2;exact cE;exact cE;(first|assumption|(apply st_rK;assumption;exact lK));assumption;exact st_M;assumption;exact st_S;exact st_u;exact st_e;exact rfl;exact rfl;exact rfl;exact rfl;intro z z z z)
  |(apply aCu;intro z z)
  |refine st_k ?_
  |(apply cS)
  |(refine aCC ?_;first|(intro z z;repeat (first|(with_reducible refine aBB fun z=>?_)|with_reducible refine aBC ?_|(intro (zv:(_:Value)=_);subst zv)|intro z))|skip)
  |((first|(apply nX;(with_reducible assumption);exact .head;(first|exact zR _|exact lK);intro zK zh zr zs bk)|(apply nY;(with_reducible assumption);exact .head;intro zK zh zr zs bk));refine aCC ?_;(first|(intro z z;repeat (first|(with_reducible refine aBB fun z=>?_)|with_reducible refine aBC ?_|(intro (zv:(_:Value)=_);subst zv)|intro z))|skip);(have z:=bk _ _ (by with_reducible assumption);clear bk))
  |((first|(apply nX;(with_reducible assumption);exact zt1;(first|exact zR _|exact lK);intro zK zh zr zs bk)|(apply nY;(with_reducible assumption);exact zt1;intro zK zh zr zs bk));refine aCC ?_;(first|(intro z z;repeat (first|(with_reducible refine aBB fun z=>?_)|with_reducible refine aBC ?_|(intro (zv:(_:Value)=_);subst zv)|intro z))|skip);(have z:=bk _ _ (by with_reducible assumption);clear bk))
  |((first|(apply nX;(with_reducible assumption);exact zt2;(first|exact zR _|exact lK);intro zK zh zr zs bk)|(apply nY;(with_reducible assumption);exact zt2;intro zK zh zr zs bk));refine aCC ?_;(first|(intro z z;repeat (first|(with_reducible refine aBB fun z=>?_)|with_reducible refine aBC ?_|(intro (zv:(_:Value)=_);subst zv)|intro z))|skip);(have z:=bk _ _ (by with_reducible assumption);clear bk))
  |((first|(apply nX;(with_reducible assumption);exact zt3;(first|exact zR _|exact lK);intro zK zh zr zs bk)|(apply nY;(with_reducible assumption);exact zt3;intro zK zh zr zs bk));refine aCC ?_;(first|(intro z z;repeat (first|(with_reducible refine aBB fun z=>?_)|with_reducible refine aBC ?_|(intro (zv:(_:Value)=_);subst zv)|intro z))|skip);(have z:=bk _ _ (by with_reducible assumption);clear bk))
  |((first|(apply nX;(with_reducible assumption);exact zt4;(first|exact zR _|exact lK);intro zK zh zr zs bk)|(apply nY;(with_reducible assumption);exact zt4;intro zK zh zr zs bk));refine aCC ?_;(first|(intro z z;repeat (first|(with_reducible refine aBB fun z=>?_)|with_reducible refine aBC ?_|(intro (zv:(_:Value)=_);subst zv)|intro z))|skip);(have z:=bk _ _ (by with_reducible assumption);clear bk))
  |((first|(apply nX;(with_reducible assumption);exact .head;(first|exact zR _|exact lK);intro zK zh zr zs bk)|(apply nY;(with_reducible assumption);exact .head;intro zK zh zr zs bk));(first|(apply nX;(with_reducible assumption);exact .head;(first|exact zR _|exact lK);intro zK zh zr zs bk)|(apply nY;(with_reducible assumption);exact .head;intro zK zh zr zs bk));refine aCC ?_;(first|(intro z z;repeat (first|(with_reducible refine aBB fun z=>?_)|with_reducible refine aBC ?_|(intro (zv:(_:Value)=_);subst zv)|intro z))|skip);(have z:=bk _ _ (by with_reducible assumption);clear bk);(have z:=bk _ _ (by with_reducible assumption);clear bk))
  |((first|(apply nX;(with_reducible assumption);exact zt1;(first|exact zR _|exact lK);intro zK zh zr zs bk)|(apply nY;(with_reducible assumption);exact zt1;intro zK zh zr zs bk));(first|(apply nX;(with_reducible assumption);exact zt1;(first|exact zR _|exact lK);intro zK zh zr zs bk)|(apply nY;(with_reducible assumption);exact zt1;intro zK zh zr zs bk));refine aCC ?_;(first|(intro z z;repeat (first|(with_reducible refine aBB fun z=>?_)|with_reducible refine aBC ?_|(intro (zv:(_:Value)=_);subst zv)|intro z))|skip);(have z:=bk _ _ (by with_reducible assumption);clear bk);(have z:=bk _ _ (by with_reducible assumption);clear bk))
  |((first|(apply nX;(with_reducible assumption);exact zt1;(first|exact zR _|exact lK);intro zK zh zr zs bk)|(apply nY;(with_reducible assumption);exact zt1;intro zK zh zr zs bk));(first|(apply nX;(with_reducible assumption);exact .head;(first|exact zR _|exact lK);intro zK zh zr zs bk)|(apply nY;(with_reducible assumption);exact .head;intro zK zh zr zs bk));refine aCC ?_;(first|(intro z z;repeat (first|(with_reducible refine aBB fun z=>?_)|with_reducible refine aBC ?_|(intro (zv:(_:Value)=_);subst zv)|intro z))|skip);(have z:=bk _ _ (by with_reducible assumption);clear bk);(have z:=bk _ _ (by with_reducible assumption);clear bk))
  |((first|(apply nX;(with_reducible assumption);exact zt2;(first|exact zR _|exact lK);intro zK zh zr zs bk)|(apply nY;(with_reducible assumption);exact zt2;intro zK zh zr zs bk));(first|(apply nX;(with_reducible assumption);exact zt1;(first|exact zR _|exact lK);intro zK zh zr zs bk)|(apply nY;(with_reducible assumption);exact zt1;intro zK zh zr zs bk));refine aCC ?_;(first|(intro z z;repeat (first|(with_reducible refine aBB fun z=>?_)|with_reducible refine aBC ?_|(intro (zv:(_:Value)=_);subst zv)|intro z))|skip);(have z:=bk _ _ (by with_reducible assumption);clear bk);(have z:=bk _ _ (by with_reducible assumption);clear bk))
  |((first|(apply nX;(with_reducible assumption);exact zt2;(first|exact zR _|exact lK);intro zK zh zr zs bk)|(apply nY;(with_reducible assumption);exact zt2;intro zK zh zr zs bk));(first|(apply nX;(with_reducible assumption);exact zt1;(first|exact zR _|exact lK);intro zK zh zr zs bk)|(apply nY;(with_reducible assumption);exact zt1;intro zK zh zr zs bk));(first|(apply nX;(with_reducible assumption);exact zt1;(first|exact zR _|exact lK);intro zK zh zr zs bk)|(apply nY;(with_reducible assumption);exact zt1;intro zK zh zr zs bk));refine aCC ?_;(first|(intro z z;repeat (first|(with_reducible refine aBB fun z=>?_)|with_reducible refine aBC ?_|(intro (zv:(_:Value)=_);subst zv)|intro z))|skip);(have z:=bk _ _ (by with_reducible assumption);clear bk);(have z:=bk _ _ (by with_reducible assumption);clear bk);(have z:=bk _ _ (by with_reducible assumption);clear bk))
  |((first|(apply nX;(with_reducible assumption);exact .head;(first|exact zR _|exact lK);intro zK zh zr zs bk)|(apply nY;(with_reducible assumption);exact .head;intro zK zh zr zs bk));(first|(apply nX;(with_reducible assumption);exact .head;(first|exact zR _|exact lK);intro zK zh zr zs bk)|(apply nY;(with_reducible assumption);exact .head;intro zK zh zr zs bk));(first|(apply nX;(with_reducible assumption);exact .head;(first|exact zR _|exact lK);intro zK zh zr zs bk)|(apply nY;(with_reducible assumption);exact .head;intro zK zh zr zs bk));refine aCC ?_;(first|(intro z z;repeat (first|(with_reducible refine aBB fun z=>?_)|with_reducible refine aBC ?_|(intro (zv:(_:Value)=_);subst zv)|intro z))|skip);(have z:=bk _ _ (by with_reducible assumption);clear bk);(have z:=bk _ _ (by with_reducible assumption);clear bk);(have z:=bk _ _ (by with_reducible assumption);clear bk))
  |((first|(apply nX;(with_reducible assumption);exact zt1;(first|exact zR _|exact lK);intro zK zh zr zs bk)|(apply nY;(with_reducible assumption);exact zt1;intro zK zh zr zs bk));(first|(apply nX;(with_reducible assumption);exact zt1;(first|exact zR _|exact lK);intro zK zh zr zs bk)|(apply nY;(with_reducible assumption);exact zt1;intro zK zh zr zs bk));(first|(apply nX;(with_reducible assumption);exact zt1;(first|exact zR _|exact lK);intro zK zh zr zs bk)|(apply nY;(with_reducible assumption);exact zt1;intro zK zh zr zs bk));refine aCC ?_;(first|(intro z z;repeat (first|(with_reducible refine aBB fun z=>?_)|with_reducible refine aBC ?_|(intro (zv:(_:Value)=_);subst zv)|intro z))|skip);(have z:=bk _ _ (by with_reducible assumption);clear bk);(have z:=bk _ _ (by with_reducible assumption);clear bk);(have z:=bk _ _ (by with_reducible assumption);clear bk))
  |((first|(apply nX;(with_reducible assumption);exact zt3;(first|exact zR _|exact lK);intro zK zh zr zs bk)|(apply nY;(with_reducible assumption);exact zt3;intro zK zh zr zs bk));(first|(apply nX;(with_reducible assumption);exact zt2;(first|exact zR _|exact lK);intro zK zh zr zs bk)|(apply nY;(with_reducible assumption);exact zt2;intro zK zh zr zs bk));(first|(apply nX;(with_reducible assumption);exact zt2;(first|exact zR _|exact lK);intro zK zh zr zs bk)|(apply nY;(with_reducible assumption);exact zt2;intro zK zh zr zs bk));refine aCC ?_;(first|(intro z z;repeat (first|(with_reducible refine aBB fun z=>?_)|with_reducible refine aBC ?_|(intro (zv:(_:Value)=_);subst zv)|intro z))|skip);(have z:=bk _ _ (by with_reducible assumption);clear bk);(have z:=bk _ _ (by with_reducible assumption);clear bk);(have z:=bk _ _ (by with_reducible assumption);clear bk))
  |((first|(apply nX;(with_reducible assumption);exact .head;(first|exact zR _|exact lK);intro zK zh zr zs bk)|(apply nY;(with_reducible assumption);exact .head;intro zK zh zr zs bk));(first|(apply nX;(with_reducible assumption);exact .head;(first|exact zR _|exact lK);intro zK zh zr zs bk)|(apply nY;(with_reducible assumption);exact .head;intro zK zh zr zs bk));(first|(apply nX;(with_reducible assumption);exact .head;(first|exact zR _|exact lK);intro zK zh zr zs bk)|(apply nY;(with_reducible assumption);exact .head;intro zK zh zr zs bk));(first|(apply nX;(with_reducible assumption);exact .head;(first|exact zR _|exact lK);intro zK zh zr zs bk)|(apply nY;(with_reducible assumption);exact .head;intro zK zh zr zs bk));refine aCC ?_;(first|(intro z z;repeat (first|(with_reducible refine aBB fun z=>?_)|with_reducible refine aBC ?_|(intro (zv:(_:Value)=_);subst zv)|intro z))|skip);(have z:=bk _ _ (by with_reducible assumption);clear bk);(have z:=bk _ _ (by with_reducible assumption);clear bk);(have z:=bk _ _ (by with_reducible assumption);clear bk);(have z:=bk _ _ (by with_reducible assumption);clear bk))
  |((first|(with_reducible apply st_g0)|(with_reducible apply st_g1)|(with_reducible apply st_g2)|(with_reducible apply st_g3)|(apply st_g4;exact rfl));rcases aN hm with ⟨z,hm⟩|⟨z,hm⟩))):p:=h
end Gv
