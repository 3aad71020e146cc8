/- Readings of the program's data; what is known of its types. -/
import Derived.Test.YtnelhgfdoneljaaGreatDoorJYS
import Derived.Test.YtnelhgfdoneljaaGreatDoorProg
set_option linter.all false
namespace Gv
open Go.Value renaming slice→zS
open Go Go.Proofs Go.Proofs.Tryz
instance:dI bD where
 sz:=4
 enc d:=[i64 d.Kind,i64 d.Variable,str d.B,Value.bool d.Not]
 len _:=rfl
 one _ v h:=by simp at h;rcases h with rfl|rfl|rfl|rfl<;>rfl
 pos:=by decide
instance:dI Edge where
 sz:=3
 enc d:=[i64 d.F,i64 d.B,i64 d.To]
 len _:=rfl
 one _ v h:=by simp at h;rcases h with rfl|rfl|rfl<;>rfl
 pos:=by decide
instance:El bQ where
 sz:=4
 rd K cs d:=∃ (a0:Option Addr) (c0:Nat) (a1:Option Addr) (c1:Nat),cs=[i64 d.N,i64 d.I,zS a0 d.L.length c0,zS a1 d.E.length c1]/\bL K a0 c0 d.L/\bL K a1 c1 d.E
 mono:=fun h ⟨a0,c0,a1,c1,e,h0,h1⟩=>⟨a0,c0,a1,c1,e,h0.mono h,h1.mono h⟩
 len:=fun ⟨_,_,_,_,e,_⟩=>by rw [e];rfl
 one:=fun ⟨_,_,_,_,e,_⟩ v hv=>by rw [e] at hv;simp at hv;rcases hv with rfl|rfl|rfl|rfl<;>rfl
 pos:=by decide
instance:El bM where
 sz:=3
 rd K cs d:=∃ (a0:Option Addr) (c0:Nat),cs=[i64 d.Owner,i64 d.Priority,zS a0 d.Next.length c0]/\bL K a0 c0 d.Next
 mono:=fun h ⟨a0,c0,e,h0⟩=>⟨a0,c0,e,h0.mono h⟩
 len:=fun ⟨_,_,e,_⟩=>by rw [e];rfl
 one:=fun ⟨_,_,e,_⟩ v hv=>by rw [e] at hv;simp at hv;rcases hv with rfl|rfl|rfl<;>rfl
 pos:=by decide
instance:El eO where
 sz:=3
 rd K cs d:=∃ (a0:Option Addr) (c0:Nat) (a1:Option Addr) (c1:Nat) (a2:Option Addr) (c2:Nat),cs=[zS a0 d.g.length c0,zS a1 d.back.length c1,zS a2 d.in_.length c2]/\bL K a0 c0 d.g/\bL K a1 c1 d.back/\bL K a2 c2 d.in_
 mono:=fun h ⟨a0,c0,a1,c1,a2,c2,e,h0,h1,h2⟩=>⟨a0,c0,a1,c1,a2,c2,e,h0.mono h,h1.mono h,h2.mono h⟩
 len:=fun ⟨_,_,_,_,_,_,e,_⟩=>by rw [e];rfl
 one:=fun ⟨_,_,_,_,_,_,e,_⟩ v hv=>by rw [e] at hv;simp at hv;rcases hv with rfl|rfl|rfl<;>rfl
 pos:=by decide
instance:dI Arc where
 sz:=3
 enc d:=[i64 d.from_,str d.label,i64 d.to_]
 len _:=rfl
 one _ v h:=by simp at h;rcases h with rfl|rfl|rfl<;>rfl
 pos:=by decide
theorem fD:SLT prog 26 9 1:=⟨runUnderlying26,sizeOf9⟩
theorem aFW:SC prog 9:=⟨isAgg9,sizeOf9⟩
theorem bN:SLT prog 32 2 1:=⟨runUnderlying32,sizeOf2⟩
theorem kQ:EZ prog 2 [i64 0]:=⟨⟨_,zeroValue2,rfl⟩,⟨t2,typeInfo2,by show (8:Nat)<=128;decide,rfl,by kernel_rfl,_,rfl,rfl⟩⟩
theorem cR:SC prog 2:=⟨isAgg2,sizeOf2⟩
theorem aGu:EZ prog 9 [str []]:=⟨⟨_,zeroValue9,rfl⟩,⟨t9,typeInfo9,by show (16:Nat)<=128;decide,rfl,by kernel_rfl,_,rfl,rfl⟩⟩
theorem sl_22:SLT prog 22 5 1:=⟨runUnderlying22,sizeOf5⟩
theorem bs_63:BS prog 63 [(0,1),(1,1),(2,1)] [zS none 0 0,i64 0,Value.int .u64 0]:=⟨⟨_,zeroValue63,rfl⟩,_,runUnderlying63,fun w=>by simp [sizeOf22,sizeOf3,sizeOf61]⟩
theorem fa_63_1:FA prog 63 1 1:=⟨_,_,_,runUnderlying63,rfl,sizeOf3,rfl,rfl⟩
theorem sc_3:SC prog 3:=⟨isAgg3,sizeOf3⟩
theorem fa_63_0:FA prog 63 0 0:=⟨_,_,_,runUnderlying63,rfl,sizeOf22,rfl,rfl⟩
theorem sc_22:SC prog 22:=⟨isAgg22,sizeOf22⟩
theorem sc_5:SC prog 5:=⟨isAgg5,sizeOf5⟩
theorem fa_63_2:FA prog 63 2 2:=⟨_,_,_,runUnderlying63,rfl,sizeOf61,rfl,rfl⟩
theorem sc_61:SC prog 61:=⟨isAgg61,sizeOf61⟩
theorem aEj:BS prog 66 [(0,1),(1,1),(2,1),(3,1)] [i64 0,i64 0,str [],Value.bool false]:=⟨⟨_,zeroValue66,rfl⟩,_,runUnderlying66,fun w=>by simp [sizeOf2,sizeOf4,sizeOf9]⟩
theorem tD:SLT prog 24 66 4:=⟨runUnderlying24,sizeOf66⟩
theorem aAy:EZ prog 66 [i64 0,i64 0,str [],Value.bool false]:=⟨⟨_,zeroValue66,rfl⟩,⟨t66,typeInfo66,by show (40:Nat)<=128;decide,rfl,by kernel_rfl,_,rfl,rfl⟩⟩
theorem fa_66_3:FA prog 66 3 3:=⟨_,_,_,runUnderlying66,rfl,sizeOf4,rfl,rfl⟩
theorem aFA:AG prog 66 4:=⟨isAgg66,sizeOf66⟩
theorem aIg:FA prog 66 1 1:=⟨_,_,_,runUnderlying66,rfl,sizeOf2,rfl,rfl⟩
theorem aCb:FA prog 66 0 0:=⟨_,_,_,runUnderlying66,rfl,sizeOf2,rfl,rfl⟩
theorem uJ:FA prog 51 0 0:=⟨_,_,_,runUnderlying51,rfl,sizeOf2,rfl,rfl⟩
theorem aCc:FA prog 51 1 1:=⟨_,_,_,runUnderlying51,rfl,sizeOf2,rfl,rfl⟩
theorem uK:FA prog 51 2 2:=⟨_,_,_,runUnderlying51,rfl,sizeOf2,rfl,rfl⟩
theorem cP:SLT prog 27 51 3:=⟨runUnderlying27,sizeOf51⟩
theorem tE:AG prog 51 3:=⟨isAgg51,sizeOf51⟩
theorem aIC:BS prog 51 [(0,1),(1,1),(2,1)] [i64 0,i64 0,i64 0]:=⟨⟨_,zeroValue51,rfl⟩,_,runUnderlying51,fun w=>by simp [sizeOf2]⟩
theorem qT:EZ prog 51 [i64 0,i64 0,i64 0]:=⟨⟨_,zeroValue51,rfl⟩,⟨t51,typeInfo51,by show (24:Nat)<=128;decide,rfl,by kernel_rfl,_,rfl,rfl⟩⟩
theorem bs_29:BS prog 29 [(0,1),(1,1),(2,1),(3,1)] [i64 0,i64 0,zS none 0 0,zS none 0 0]:=⟨⟨_,zeroValue29,rfl⟩,_,runUnderlying29,fun w=>by simp [sizeOf2,sizeOf26,sizeOf27]⟩
theorem pM:FA prog 29 2 2:=⟨_,_,_,runUnderlying29,rfl,sizeOf26,rfl,rfl⟩
theorem aCV:SC prog 26:=⟨isAgg26,sizeOf26⟩
theorem fK:FA prog 29 3 3:=⟨_,_,_,runUnderlying29,rfl,sizeOf27,rfl,rfl⟩
theorem oJ:SC prog 27:=⟨isAgg27,sizeOf27⟩
theorem rE:AG prog 29 4:=⟨isAgg29,sizeOf29⟩
theorem aFg:FA prog 29 1 1:=⟨_,_,_,runUnderlying29,rfl,sizeOf2,rfl,rfl⟩
theorem fA:FA prog 29 0 0:=⟨_,_,_,runUnderlying29,rfl,sizeOf2,rfl,rfl⟩
theorem cS:SLT prog 57 4 1:=⟨runUnderlying57,sizeOf4⟩
theorem aFu:EZ prog 4 [Value.bool false]:=⟨⟨_,zeroValue4,rfl⟩,⟨t4,typeInfo4,by show (1:Nat)<=128;decide,rfl,by kernel_rfl,_,rfl,rfl⟩⟩
theorem aDv:SC prog 4:=⟨isAgg4,sizeOf4⟩
theorem iG:SLT prog 81 32 1:=⟨runUnderlying81,sizeOf32⟩
theorem aBg:EZ prog 32 [zS none 0 0]:=⟨⟨_,zeroValue32,rfl⟩,⟨t32,typeInfo32,by show (24:Nat)<=128;decide,rfl,by kernel_rfl,_,rfl,rfl⟩⟩
theorem vU:SC prog 32:=⟨isAgg32,sizeOf32⟩
theorem aHi:SLT prog 123 3 1:=⟨runUnderlying123,sizeOf3⟩
theorem ez_3:EZ prog 3 [i64 0]:=⟨⟨_,zeroValue3,rfl⟩,⟨t3,typeInfo3,by show (8:Nat)<=128;decide,rfl,by kernel_rfl,_,rfl,rfl⟩⟩
theorem ko_2:aJY prog 2 Int:=keyOk_int runUnderlying2
theorem fa_66_2:FA prog 66 2 2:=⟨_,_,_,runUnderlying66,rfl,sizeOf9,rfl,rfl⟩
theorem sl_84:SLT prog 84 24 1:=⟨runUnderlying84,sizeOf24⟩
theorem sc_24:SC prog 24:=⟨isAgg24,sizeOf24⟩
theorem vV:SLT prog 88 117 3:=⟨runUnderlying88,sizeOf117⟩
theorem aID:BS prog 148 [(0,1),(1,1),(2,1)] [zS none 0 0,zS none 0 0,zS none 0 0]:=⟨⟨_,zeroValue148,rfl⟩,_,runUnderlying148,fun w=>by simp [sizeOf57,sizeOf81,sizeOf88]⟩
theorem ag_117:AG prog 117 3:=⟨isAgg117,sizeOf117⟩
theorem aEk:FA prog 117 2 2:=⟨_,_,_,runUnderlying117,rfl,sizeOf32,rfl,rfl⟩
theorem aEl:FA prog 148 1 1:=⟨_,_,_,runUnderlying148,rfl,sizeOf81,rfl,rfl⟩
theorem sc_81:SC prog 81:=⟨isAgg81,sizeOf81⟩
theorem pY:FA prog 148 0 0:=⟨_,_,_,runUnderlying148,rfl,sizeOf88,rfl,rfl⟩
theorem aBh:SC prog 88:=⟨isAgg88,sizeOf88⟩
theorem tT:FA prog 148 2 2:=⟨_,_,_,runUnderlying148,rfl,sizeOf57,rfl,rfl⟩
theorem aBi:SC prog 57:=⟨isAgg57,sizeOf57⟩
theorem aEm:FA prog 117 0 0:=⟨_,_,_,runUnderlying117,rfl,sizeOf2,rfl,rfl⟩
theorem tF:SC prog 113:=⟨isAgg113,sizeOf113⟩
theorem aGv:FA prog 117 1 1:=⟨_,_,_,runUnderlying117,rfl,sizeOf2,rfl,rfl⟩
theorem bs_117:BS prog 117 [(0,1),(1,1),(2,1)] [i64 0,i64 0,zS none 0 0]:=⟨⟨_,zeroValue117,rfl⟩,_,runUnderlying117,fun w=>by simp [sizeOf2,sizeOf32]⟩
theorem ez_24:EZ prog 24 [zS none 0 0]:=⟨⟨_,zeroValue24,rfl⟩,⟨t24,typeInfo24,by show (24:Nat)<=128;decide,rfl,by kernel_rfl,_,rfl,rfl⟩⟩
theorem ez_117:EZ prog 117 [i64 0,i64 0,zS none 0 0]:=⟨⟨_,zeroValue117,rfl⟩,⟨t117,typeInfo117,by show (40:Nat)<=128;decide,rfl,by kernel_rfl,_,rfl,rfl⟩⟩
theorem bs_159:BS prog 159 [(0,1),(1,1),(2,1)] [i64 0,str [],i64 0]:=⟨⟨_,zeroValue159,rfl⟩,_,runUnderlying159,fun w=>by simp [sizeOf2,sizeOf9]⟩
theorem aHj:SLT prog 156 159 3:=⟨runUnderlying156,sizeOf159⟩
theorem ez_159:EZ prog 159 [i64 0,str [],i64 0]:=⟨⟨_,zeroValue159,rfl⟩,⟨t159,typeInfo159,by show (32:Nat)<=128;decide,rfl,by kernel_rfl,_,rfl,rfl⟩⟩
theorem ag_159:AG prog 159 3:=⟨isAgg159,sizeOf159⟩
theorem aLF:FA prog 159 0 0:=⟨_,_,_,runUnderlying159,rfl,sizeOf2,rfl,rfl⟩
theorem aLG:FA prog 159 1 1:=⟨_,_,_,runUnderlying159,rfl,sizeOf9,rfl,rfl⟩
theorem aLH:FA prog 159 2 2:=⟨_,_,_,runUnderlying159,rfl,sizeOf2,rfl,rfl⟩
theorem aKH:SLT prog 188 26 1:=⟨runUnderlying188,sizeOf26⟩
theorem ez_26:EZ prog 26 [zS none 0 0]:=⟨⟨_,zeroValue26,rfl⟩,⟨t26,typeInfo26,by show (24:Nat)<=128;decide,rfl,by kernel_rfl,_,rfl,rfl⟩⟩
theorem st_51:prog.stoodInHeld 51=false:=by kernel_rfl
theorem eq_51 {x y:Edge}:EQT prog 51 [i64 x.F,i64 x.B,i64 x.To] [i64 y.F,i64 y.B,i64 y.To] (decide (x=y)):=by
 refine ⟨by kernel_rfl,fun w=>?_⟩
 have h2:∀ (a b:Int),(Op.equalIn 9999 2 (i64 a) (i64 b)).run prog w=.ok (a == b) w:=fun a b=>run_eqInI 9998 (runUnderlying2 w)
 have:Op.maxDepth=9999+1:=rfl
 unfold Op.equal
 rw [this]
 unfold Op.equalIn
 simp [runUnderlying51,st_51,part,h2,isAgg2]
 cases x;cases y
 simp
 repeat' split<;>simp_all
theorem Tryz_mixed:prog.follows .mixedOrders=true:=by kernel_rfl
abbrev zC (d:bQ) (a:Option Addr) (c:Nat) (b:Option Addr) (e:Nat):List Value:=[i64 d.N,i64 d.I,Value.slice a d.L.length c,Value.slice b d.E.length e]
abbrev zCa (d:bQ) (a:Option Addr) (c:Nat) (b:Option Addr) (e:Nat):Array Value:=#[i64 d.N,i64 d.I,Value.slice a d.L.length c,Value.slice b d.E.length e]
abbrev zG:List Value:=[i64 0,i64 0,Value.slice none 0 0,Value.slice none 0 0]
abbrev zGa:Array Value:=#[i64 0,i64 0,Value.slice none 0 0,Value.slice none 0 0]
abbrev zK:List Value:=[i64 0,i64 0,Value.slice none 0 0,Value.slice none 0 0,Value.slice none 0 0,Value.slice none 0 0]
abbrev zKa:Array Value:=#[i64 0,i64 0,Value.slice none 0 0,Value.slice none 0 0,Value.slice none 0 0,Value.slice none 0 0]
end Gv
namespace Gv
open Go.Value renaming slice→zS
open Gv.Hp renaming le_refl→zR
open Go Go.Proofs Go.Proofs.Tryz
theorem mI {p:Prop} (h:p:=by first|assumption|(apply st_cK;assumption;exact kD)):p:=h
theorem st_HR {p:Prop} (h:p:=by first|assumption|(apply st_rK;assumption;exact kD)):p:=h
theorem st_S {p:Prop} (h:p:=by with_reducible first|exact fD|exact bN|exact sl_22|exact tD|exact cP|exact cS|exact iG|exact aHi|exact sl_84|exact vV|exact aHj|exact aKH):p:=h
theorem uW {p:Prop} (h:p:=by with_reducible first|exact aFW|exact cR|exact sc_3|exact sc_22|exact sc_5|exact sc_61|exact aCV|exact oJ|exact aDv|exact vU|exact sc_24|exact sc_81|exact aBh|exact aBi|exact tF):p:=h
theorem aCE {p:Prop} (h:p:=by with_reducible first|exact aFA|exact tE|exact rE|exact ag_117|exact ag_159):p:=h
theorem st_F {p:Prop} (h:p:=by with_reducible first|exact fa_63_1|exact fa_63_0|exact fa_63_2|exact fa_66_3|exact aIg|exact aCb|exact uJ|exact aCc|exact uK|exact pM|exact fK|exact aFg|exact fA|exact fa_66_2|exact aEk|exact aEl|exact pY|exact tT|exact aEm|exact aGv|exact aLF|exact aLG|exact aLH):p:=h
theorem za_2:ZA prog 2 [i64 0]:=⟨_,zeroValue2,rfl⟩
theorem za_29:ZA prog 29 [i64 0,i64 0,zS none 0 0,zS none 0 0]:=⟨_,zeroValue29,rfl⟩
theorem za_32:ZA prog 32 [zS none 0 0]:=⟨_,zeroValue32,rfl⟩
theorem za_51:ZA prog 51 [i64 0,i64 0,i64 0]:=⟨_,zeroValue51,rfl⟩
theorem za_57:ZA prog 57 [zS none 0 0]:=⟨_,zeroValue57,rfl⟩
theorem za_66:ZA prog 66 [i64 0,i64 0,str ([]:aQ),Value.bool false]:=⟨_,zeroValue66,rfl⟩
theorem za_113:ZA prog 113 [Value.pointer none]:=⟨_,zeroValue113,rfl⟩
theorem za_117:ZA prog 117 [i64 0,i64 0,zS none 0 0]:=⟨_,zeroValue117,rfl⟩
theorem za_159:ZA prog 159 [i64 0,str ([]:aQ),i64 0]:=⟨_,zeroValue159,rfl⟩
theorem st_r {p:Prop} (h:p:=by with_reducible first|exact runUnderlying150|exact runUnderlying179|exact runUnderlying2|exact runUnderlying3|exact runUnderlying4|exact runUnderlying5|exact runUnderlying61|exact runUnderlying9|exact runUnderlying95):p:=h
theorem st_h {p:Prop} (h:p:=by with_reducible first|exact bs_63|exact aEj|exact aIC|exact bs_29|exact aID|exact bs_117|exact bs_159):p:=h
theorem st_e {p:Prop} (h:p:=by with_reducible first|exact kQ|exact aGu|exact aAy|exact qT|exact aFu|exact aBg|exact ez_3|exact ez_24|exact ez_117|exact ez_159|exact ez_26):p:=h
theorem st_u {p:Prop} (h:p:=by with_reducible first|exact underlying123|exact underlying156|exact underlying24|exact underlying26|exact underlying27|exact underlying32|exact underlying57|exact underlying81|exact underlying88):p:=h
theorem st_z {p:Prop} (h:p:=by with_reducible first|exact sizeOf113|exact sizeOf117|exact sizeOf159|exact sizeOf2|exact sizeOf26|exact sizeOf27|exact sizeOf29|exact sizeOf3|exact sizeOf32|exact sizeOf4|exact sizeOf51|exact sizeOf57|exact sizeOf61|exact sizeOf66|exact sizeOf9):p:=h
theorem st_y {p:Prop} (h:p:=by with_reducible first|exact za_2|exact za_29|exact za_32|exact za_51|exact za_57|exact za_66|exact za_113|exact za_117|exact za_159):p:=h
theorem st_V {p:Prop} (h:p:=by first|exact V_moveC|exact V_assignC|(apply V_B;first|(apply V_add;exact bT;exact bT)|(apply V_sub;exact bT;exact bT)|(apply V_mul;exact bT;exact bT)|(apply V_lss;exact bT;exact bT)|(apply V_leq;exact bT;exact bT)|(apply V_gtr;exact bT;exact bT)|(apply V_geq;exact bT;exact bT)|(apply V_eql;exact bT;exact bT)|(apply V_neq;exact bT;exact bT)|(apply V_eqlS;exact bT;exact bT)|(apply V_neqS;exact bT;exact bT)|(apply V_lssS;exact bT;exact bT)|(apply V_leqS;exact bT;exact bT)|(apply V_gtrS;exact bT;exact bT)|(apply V_geqS;exact bT;exact bT))|exact V_moveF|exact V_assignF|(apply V_move;exact bT)|(apply V_assign;exact bT)|(apply V_fldP;exact bT;exact st_F)|(apply V_fldE;exact bT;exact mI;exact st_F)|(apply V_fldO;exact bT;exact dV;exact aFV;exact dV;exact st_F)|(apply V_L;first|(apply V_ldB;exact bT;exact dV;exact aFV;exact rfl;exact uW)|(apply V_ldBG;exact bT;exact dV;exact aFV;exact aCE;exact st_D)|(apply aHE (t:=0);exact bT;exact mI;exact dV;exact rfl;exact uW)|(apply aHE (t:=1);exact bT;exact mI;exact dV;exact rfl;exact uW)|(apply aHE (t:=2);exact bT;exact mI;exact dV;exact rfl;exact uW)|(apply aHE (t:=3);exact bT;exact mI;exact dV;exact rfl;exact uW)|(apply aHE (t:=4);exact bT;exact mI;exact dV;exact rfl;exact uW)|(apply aHE (t:=5);exact bT;exact mI;exact dV;exact rfl;exact uW)|(apply aHE (t:=6);exact bT;exact mI;exact dV;exact rfl;exact uW)|(apply aHE (t:=7);exact bT;exact mI;exact dV;exact rfl;exact uW)|(apply aEi (t:=0);exact bT;exact mI;exact dV;exact aCE;exact rfl;exact rfl)|(apply aEi (t:=1);exact bT;exact mI;exact dV;exact aCE;exact rfl;exact rfl)|(apply aEi (t:=2);exact bT;exact mI;exact dV;exact aCE;exact rfl;exact rfl)|(apply aEi (t:=3);exact bT;exact mI;exact dV;exact aCE;exact rfl;exact rfl)|(apply aEi (t:=4);exact bT;exact mI;exact dV;exact aCE;exact rfl;exact rfl)|(apply aEi (t:=5);exact bT;exact mI;exact dV;exact aCE;exact rfl;exact rfl)|(apply aEi (t:=6);exact bT;exact mI;exact dV;exact aCE;exact rfl;exact rfl)|(apply aEi (t:=7);exact bT;exact mI;exact dV;exact aCE;exact rfl;exact rfl)|(apply V_ldO (t:=0);exact bT;exact dV;exact aFV;exact dV;exact rfl;exact rfl;exact uW)|(apply V_ldO (t:=1);exact bT;exact dV;exact aFV;exact dV;exact rfl;exact rfl;exact uW)|(apply V_ldO (t:=2);exact bT;exact dV;exact aFV;exact dV;exact rfl;exact rfl;exact uW)|(apply V_ldO (t:=3);exact bT;exact dV;exact aFV;exact dV;exact rfl;exact rfl;exact uW)|(apply V_ldO (t:=4);exact bT;exact dV;exact aFV;exact dV;exact rfl;exact rfl;exact uW)|(apply V_ldOG (t:=0);exact bT;exact dV;exact aFV;exact dV;exact rfl;exact aCE;exact rfl;exact rfl)|(apply V_ldOG (t:=1);exact bT;exact dV;exact aFV;exact dV;exact rfl;exact aCE;exact rfl;exact rfl)|(apply V_ldOG (t:=2);exact bT;exact dV;exact aFV;exact dV;exact rfl;exact aCE;exact rfl;exact rfl)|(apply aHG (t:=0);exact bT;exact dV;exact dV;exact kD;exact rfl;exact uW)|(apply aHG (t:=1);exact bT;exact dV;exact dV;exact kD;exact rfl;exact uW)|(apply aHG (t:=2);exact bT;exact dV;exact dV;exact kD;exact rfl;exact uW)|(apply aHG (t:=3);exact bT;exact dV;exact dV;exact kD;exact rfl;exact uW)|(apply aHG (t:=4);exact bT;exact dV;exact dV;exact kD;exact rfl;exact uW)|(apply aHG (t:=5);exact bT;exact dV;exact dV;exact kD;exact rfl;exact uW)|(apply aHG (t:=6);exact bT;exact dV;exact dV;exact kD;exact rfl;exact uW)|(apply aHG (t:=7);exact bT;exact dV;exact dV;exact kD;exact rfl;exact uW)|(apply aKG (t:=0);exact bT;exact dV;exact dV;exact kD;exact aCE;exact rfl;exact rfl)|(apply aKG (t:=1);exact bT;exact dV;exact dV;exact kD;exact aCE;exact rfl;exact rfl)|(apply aKG (t:=2);exact bT;exact dV;exact dV;exact kD;exact aCE;exact rfl;exact rfl)|(apply aKG (t:=3);exact bT;exact dV;exact dV;exact kD;exact aCE;exact rfl;exact rfl)|(apply aHF (t:=0);exact dV;exact mI;exact bT;exact rfl;exact uW)|(apply aHF (t:=1);exact dV;exact mI;exact bT;exact rfl;exact uW)|(apply aHF (t:=2);exact dV;exact mI;exact bT;exact rfl;exact uW)|(apply aHF (t:=3);exact dV;exact mI;exact bT;exact rfl;exact uW)|(apply aHF (t:=4);exact dV;exact mI;exact bT;exact rfl;exact uW)|(apply aHF (t:=5);exact dV;exact mI;exact bT;exact rfl;exact uW)|(apply aHF (t:=6);exact dV;exact mI;exact bT;exact rfl;exact uW)|(apply aHF (t:=7);exact dV;exact mI;exact bT;exact rfl;exact uW)|(apply aKF (t:=0);exact dV;exact mI;exact bT;exact aCE;exact rfl;exact rfl)|(apply aKF (t:=1);exact dV;exact mI;exact bT;exact aCE;exact rfl;exact rfl)|(apply aKF (t:=2);exact dV;exact mI;exact bT;exact aCE;exact rfl;exact rfl)|(apply aKF (t:=3);exact dV;exact mI;exact bT;exact aCE;exact rfl;exact rfl))|(apply V_lenS;exact st_S;exact bT)|(apply V_nilE;exact bT;exact mI)|(apply V_nilP;exact bT)|(apply V_nilO;exact bT;exact dV;exact aFV;exact dV)|(apply V_ixE;exact bT;exact bT;exact st_HR;exact dV;exact rfl;exact st_S;exact rfl)|(apply V_ixO;exact bT;exact bT;exact dV;exact aFV;exact dV;exact rfl;exact st_S;exact rfl)|(apply V_extract;exact bT;exact rfl)|(apply V_pickT;exact bT;exact aHV;exact bT)|(apply V_pickF;exact bT;exact aHV;exact bT)|(apply V_not;exact bT)|(apply V_lenStr;exact st_r;exact bT)|(apply V_ixS;exact st_r;exact bT;exact bT;exact dV)|(apply V_conv64;exact st_r;exact bT;exact ⟨_,st_r⟩)|(apply V_convu64;exact st_r;exact bT;exact ⟨_,st_r⟩)|(apply V_quo;exact bT;exact bT;exact dV)|(apply V_rem;exact bT;exact bT;exact dV)|(apply V_cat;exact bT;exact bT;exact dV)|(apply V_eqlB;exact st_r;exact bT;exact bT)|(apply V_neqB;exact st_r;exact bT;exact bT)|(apply V_u64add;exact bT;exact bT)|(apply V_u64mul;exact bT;exact bT)|(apply V_shrU;exact bT;exact bT;exact dV)|(apply V_andU;exact bT;exact bT)|(apply V_min;exact bT;exact bT)|(apply V_slSL;exact st_r;exact bT;exact bT;exact dV)|(apply V_slSH;exact st_r;exact bT;exact bT;exact dV)|(apply V_isNil;exact st_S;exact bT;exact rfl)|(apply V_build;exact st_h;exact rfl;exact (by kernel_rfl))|(apply aMK;exact rfl)):p:=h
theorem st_call {p:Prop} (h:p:=by with_reducible first|exact call4|exact call5|exact call6|exact call7|exact call8|exact call9|exact call10|exact call11|exact call12|exact call13|exact call14|exact call15|exact call16|exact call17|exact call18|exact call19|exact call20|exact call21|exact call22|exact call23|exact call24|exact call25|exact call26|exact call27|exact call28|exact call29|exact call30|exact call31|exact call32|exact call33|exact call34|exact call35|exact call36|exact call37|exact call38|exact call39|exact call40|exact call41|exact call42|exact call43|exact call44|exact call45|exact call46|exact call47|exact call48|exact call49|exact call50|exact call51|exact call52|exact call53|exact call54|exact call55|exact call56|exact call57|exact call58|exact call59|exact call60|exact call61|exact call62|exact call63|exact call64|exact call65|exact call66|exact call67|exact call68|exact call69|exact call70|exact call71|exact call72|exact call73|exact call74|exact call75|exact call76|exact call77|exact call78|exact call79|exact call80|exact call81|exact call82|exact call83|exact call84|exact call85|exact call86|exact call87|exact call88|exact call89|exact call90|exact call91|exact call92|exact call93|exact call94|exact call95|exact call96|exact call97|exact call98|exact call99|exact call100|exact call101|exact call102|exact call103|exact call104|exact call105|exact call106|exact call107|exact call110|exact call111|exact call112|exact call113|exact call114|exact call115|exact call116|exact call117|exact call118|exact call119|exact call120|exact call121|exact call122|exact call123|exact call124|exact call125|exact call126|exact call127|exact call128|exact call129|exact call130|exact call131|exact call132|exact call134|exact call136|exact call137|exact call138|exact call139|exact call151|exact call152|exact call153|exact call154|exact call156|exact call157|exact call158|exact call159|exact call160|exact call164|exact call168|exact call169|exact call170|exact call171|exact call172|exact call173|exact call182|exact call195|exact call196):p:=h
theorem st_f {p:Prop} (h:p:=by with_reducible first|exact func3|exact func4|exact func5|exact func6|exact func7|exact func8|exact func9|exact func10|exact func11|exact func12|exact func13|exact func14|exact func15|exact func16|exact func17|exact func18|exact func19|exact func20|exact func21|exact func22|exact func23|exact func24|exact func25|exact func26|exact func27|exact func28|exact func29|exact func30|exact func31|exact func32|exact func33|exact func34|exact func35|exact func36|exact func37|exact func38|exact func39|exact func40|exact func41|exact func42|exact func43|exact func44|exact func45|exact func46|exact func47|exact func48|exact func49|exact func50|exact func51|exact func52|exact func53|exact func54|exact func55|exact func56|exact func57|exact func58|exact func59|exact func60|exact func61|exact func62|exact func63|exact func64|exact func65|exact func66|exact func67|exact func68|exact func69|exact func70|exact func71|exact func72|exact func74|exact func75|exact func76|exact func77|exact func78|exact func79|exact func80|exact func81|exact func82|exact func83|exact func84|exact func85|exact func86|exact func87|exact func88|exact func89|exact func90|exact func91|exact func92|exact func93|exact func94|exact func95|exact func96|exact func97|exact func98|exact func99|exact func100|exact func101|exact func103|exact func105|exact func106|exact func107|exact func110|exact func111|exact func112|exact func113|exact func114|exact func115|exact func116|exact func117|exact func118|exact func119|exact func120|exact func121|exact func122|exact func123|exact func124|exact func125|exact func126|exact func127|exact func128|exact func129|exact func130|exact func131|exact func132|exact func136|exact func137|exact func138|exact func139|exact func152|exact func153|exact func155|exact func156|exact func157|exact func159|exact func168|exact func169|exact func170|exact func171|exact func172|exact func195|exact func196):p:=h
theorem aKc {p:Prop} (h:p:=by first|((with_reducible apply rv_tmp);exact rfl;exact rfl)|((with_reducible apply V_rvG);exact bT;exact dV;exact aFV;exact aCE;exact rfl;exact rfl)|((with_reducible apply V_rvB);exact bT;exact dV;exact aFV;exact uW;exact rfl)):p:=h
theorem st_X {p:Prop} (h:p:=by
 (repeat (first
  |exact bF
  |(with_reducible apply Exists.intro)
  |((with_reducible apply And.intro);· first|exact bF|(with_reducible assumption)|exact (Option.some.inj (by with_reducible assumption)).symm|exact rfl|assumption|exact zR _|exact kD|exact aGl _|(apply st_rK;assumption;exact kD)|(apply st_cK;assumption;exact kD)|exact eL (by assumption))
  |(with_reducible assumption)|exact st_c|exact rfl|assumption));first|done|fail):p:=h
theorem aBj {p q:Prop} (k:q) (h:Hd q->p:=by
 intro hk
 (first|apply st_ca|apply st_cb|apply st_cq);exact st_call;(first|(with_reducible intro z z)|skip);(first|((with_reducible first|apply aAa|apply vP|apply jF|apply aFX|apply aAz|apply xG|apply aAJ|apply aAh|apply aDB|apply aDC|apply aAt|apply pD|apply kC|apply kW|apply aMP|apply sZ|apply aGM|apply aLN|apply sC|apply aDM|apply aJJ|apply aDj|apply aDk|apply aEN|apply aDN|apply aBH|apply aEO|apply aDl|apply aHp|apply aEP|apply aDO|apply aAB|apply aAH|apply nP|apply aAg|apply xA|apply aET|apply aCt|apply aEU|apply aHr|apply aAI|apply aEV|apply mE|apply aDo|apply mH|apply aAC|apply aFv|apply aGL|apply aFN|apply aFw|apply xF|apply mD|apply kV|apply aBJ|apply aCJ|apply fC|apply aDP|apply aBK|apply iS|apply kA|apply kB|apply aAD|apply aAF|apply wW|apply lF|apply aAG|apply aEJ|apply aEK|apply aJH|apply aEL|apply aFK|apply uT|apply aBF|apply aAs|apply qG|apply aEM|apply wU|apply aJI|apply aHo|apply aBG|apply aHZ|apply aER|apply aFL|apply aJK|apply mC|apply aAd|apply iR|apply aCq|apply eJ|apply aCr|apply aFM|apply aCs|apply aAe|apply aAf|apply aIK|apply pV|apply sY|apply oA|apply aHq|apply aES|apply aIa|apply aAK|apply tN|apply aAL|apply aFY|apply aIH|apply aJE|apply aHY|apply aJF|apply aII|apply aAA|apply sA|apply qF|apply aHl|apply aJG|apply aEH|apply sX|apply sB|apply aBV|apply aHm|apply aIJ|apply aFJ|apply aEI|apply uI|apply tL|apply aFZ|apply tM|apply aHn|apply aDi|apply aBE|apply aDm|apply xY|apply aBI|apply aGK|apply aGa|apply aKK);with_reducible assumption)|(with_reducible apply wX;with_reducible assumption)|(with_reducible apply wY;with_reducible assumption)|(with_reducible apply aBL;with_reducible assumption)|(with_reducible apply aBM;with_reducible assumption)|(with_reducible apply aDn;with_reducible assumption)|(with_reducible apply wZ;with_reducible assumption)|(with_reducible apply aAE;with_reducible assumption)|(with_reducible apply wV;with_reducible assumption)|(with_reducible apply aBC;with_reducible assumption)|(with_reducible apply aZ;with_reducible assumption)|(with_reducible apply qZ;with_reducible assumption)|(with_reducible apply aAb;with_reducible assumption)|(with_reducible apply aAc;with_reducible assumption)|(with_reducible apply aBD;with_reducible assumption)|(with_reducible apply qP;with_reducible assumption)|(with_reducible apply aDS;with_reducible assumption)|(with_reducible apply aDT;with_reducible assumption)|(with_reducible apply aEQ;with_reducible assumption)|(with_reducible apply lib_GrowStr;all_goals (try with_reducible assumption))|(with_reducible apply lib_SortStr;all_goals (try with_reducible assumption))|(with_reducible apply lib_SortEdge;all_goals (try with_reducible assumption))|(with_reducible apply lib_Cut;all_goals (try with_reducible assumption))|(with_reducible apply lib_Split;all_goals (try with_reducible assumption))|(with_reducible apply aLJ;all_goals (try with_reducible assumption))|(with_reducible apply lib_Mul;all_goals (try with_reducible assumption))|(with_reducible apply lib_Join;all_goals (try with_reducible assumption))|(with_reducible apply aEG;all_goals (try with_reducible assumption))|(with_reducible apply aHM;all_goals (try with_reducible assumption))|(with_reducible apply aHX;all_goals (try with_reducible assumption)));(case hv=>exact rfl);(repeat (first|assumption|exact st_c|(apply st_rK;assumption;exact kD)|(apply st_cK;assumption;exact kD)|exact aGl _|exact kD|exact zR _|exact rfl|exact eL (by assumption)));exact hk.k;first|done|fail):p:=h ⟨k⟩
set_option maxRecDepth 100000 in
theorem aM {p:Prop} (h:p:=by
 repeat' (first
  |(apply st_i;exact bT;exact bT;exact dV;exact dV;exact rfl;exact st_S;exact rfl;intro z z zr;first|(have zr:=st_pd zr;subst zr)|obtain ⟨z,z,rfl,z⟩:=zr|obtain ⟨z,z,z,z,rfl,z,z⟩:=zr|obtain ⟨z,z,z,z,z,z,rfl,z,z,z⟩:=zr|obtain ⟨z,z,z,z,z,z,z,z,rfl,z,z,z,z⟩:=zr)
  |(apply st_iQ;exact bT;exact bT;exact dV;exact dV;exact rfl;exact st_S;exact rfl;intro z z zr;first|(have zr:=st_pd zr;subst zr)|obtain ⟨z,z,rfl,z⟩:=zr|obtain ⟨z,z,z,z,rfl,z,z⟩:=zr|obtain ⟨z,z,z,z,z,z,rfl,z,z,z⟩:=zr|obtain ⟨z,z,z,z,z,z,z,z,rfl,z,z,z,z⟩:=zr)
  |(apply st_iE;exact rfl;exact bT;exact bT;exact dV;exact dV;exact rfl;exact st_S;exact rfl;intro z z zr;first|(have zr:=st_pd zr;subst zr)|obtain ⟨z,z,rfl,z⟩:=zr|obtain ⟨z,z,z,z,rfl,z,z⟩:=zr|obtain ⟨z,z,z,z,z,z,rfl,z,z,z⟩:=zr|obtain ⟨z,z,z,z,z,z,z,z,rfl,z,z,z,z⟩:=zr)
  |(apply VO;exact st_V)
  |(apply VQ;intro _ _;exact st_V)
  |(apply aV)
  |with_reducible apply aC
  |with_reducible apply cH
  |(apply aK)
  |(apply aS)
  |(apply aW)
  |(apply aCA)
  |(apply V_condT;exact bT;exact aHV)
  |(apply V_condF;exact bT;exact aHV)
  |with_reducible apply kY
  |with_reducible apply vS
  |(with_reducible apply blockQ_ne;exact rfl)
  |(apply V_onT;exact rfl;exact bT;exact aHV)
  |(apply V_onF;exact rfl;exact bT;exact aHV)
  |(apply V_offF;exact rfl;exact bT;exact aHV)
  |(apply V_offT;exact rfl;exact bT;exact aHV)
  |(apply Q_onT;exact rfl;exact bT;exact aHV)
  |(apply Q_onF;exact rfl;exact bT;exact aHV)
  |(apply Q_offF;exact rfl;exact bT;exact aHV)
  |(apply Q_offT;exact rfl;exact bT;exact aHV)
  |(apply aDZ;exact rfl;exact bT)
  |(apply WQ_off_u;exact rfl;exact bT)
  |(apply V_WE;exact rfl;rintro _ ⟨_,_⟩;exact st_V)
  |(apply V_WT;exact rfl;intro _;exact st_V)
  |apply tC
  |with_reducible apply mG
  |with_reducible apply aCR
  |exact st_X
  |(apply pJ;exact rfl;exact rfl;refine aHH hm (fun z=>?_);subst z;exact st_X)
  |(apply retQ_2;exact rfl;exact rfl;exact rfl;refine aHH hm (fun z=>?_);subst z;exact st_X)
  |(apply retQ_3;exact rfl;exact rfl;exact rfl;exact rfl;refine aHH hm (fun z=>?_);subst z;exact st_X)
  |(apply retQ_m1;exact rfl;exact aKc;refine aHH hm (fun z=>?_);subst z;exact st_X)
  |(apply retQ_m2;exact rfl;exact aKc;exact aKc;refine aHH hm (fun z=>?_);subst z;exact st_X)
  |(apply retQ_m3;exact rfl;exact aKc;exact aKc;exact aKc;refine aHH hm (fun z=>?_);subst z;exact st_X)
  |(apply retQ_0n;exact rfl;refine aHH hm (fun z=>?_);subst z;exact st_X)
  |(apply retQ_0;exact rfl;refine aHH hm (fun z=>?_);subst z;exact st_X)
  |(refine st_I st_f ?_)
  |intro (hm:(_:Option _)=some _)
  |intro (hr:∀ r',_=Sum.inr r'->_)
  |(with_reducible refine aAw fun z=>?_)
  |(with_reducible refine aAx ?_)
  |(intro (zv:(_:Value)=_);subst zv)
  |intro z
  |((with_reducible apply st_we);first|exact ⟨_,by assumption⟩|exact ⟨_,aF.weakK (by assumption) kD⟩)
  |(apply nT;exact rfl)
  |(apply WE_s;exact rfl)
  |apply xI
  |(have zq:=hr _ (Option.some.inj hm).symm;subst zq;have hm:=ho;clear hr ho;try dsimp only at hm)
  |obtain ⟨z,z,hm⟩:=aB hm
  |exact st_no hm
  |refine st_a (fun z z z=>?_)
  |refine st_s (fun z z=>?_)
  |refine st_x (fun z z z=>?_)
  |refine st_ba (by with_reducible assumption) (fun z z z=>?_)
  |refine st_b (T:=26) ([]:List aQ) (fun z z z=>?_)
  |refine st_b (T:=27) ([]:List Edge) (fun z z z=>?_)
  |refine st_b (T:=32) ([]:List Int) (fun z z z=>?_)
  |refine st_b (T:=57) ([]:List Bool) (fun z z z=>?_)
  |refine st_b (T:=81) ([]:List (List Int)) (fun z z z=>?_)
  |refine st_p (fun z z z z=>?_)
  |(apply st_q2;exact bT;exact bT;(first|assumption|(apply st_rK;assumption;exact kD));assumption;exact st_M;assumption;exact st_S;exact st_u;exact st_e;exact rfl;exact rfl;exact rfl;exact rfl;intro z z z z)
  |(apply uV;intro z z)
  |refine st_k ?_
  |(apply cD)
  |(refine aBj ?_;first|(intro z z;repeat (first|(with_reducible refine aAw fun z=>?_)|with_reducible refine aAx ?_|(intro (zv:(_:Value)=_);subst zv)|intro z))|skip)
  |((first|(apply mV;(with_reducible assumption);exact .head;(first|exact zR _|exact kD);intro zK zh zr zs bk)|(apply mW;(with_reducible assumption);exact .head;intro zK zh zr zs bk));refine aBj ?_;(first|(intro z z;repeat (first|(with_reducible refine aAw fun z=>?_)|with_reducible refine aAx ?_|(intro (zv:(_:Value)=_);subst zv)|intro z))|skip);(have z:=bk _ _ (by with_reducible assumption);clear bk))
  |((first|(apply mV;(with_reducible assumption);exact zt1;(first|exact zR _|exact kD);intro zK zh zr zs bk)|(apply mW;(with_reducible assumption);exact zt1;intro zK zh zr zs bk));refine aBj ?_;(first|(intro z z;repeat (first|(with_reducible refine aAw fun z=>?_)|with_reducible refine aAx ?_|(intro (zv:(_:Value)=_);subst zv)|intro z))|skip);(have z:=bk _ _ (by with_reducible assumption);clear bk))
  |((first|(apply mV;(with_reducible assumption);exact zt2;(first|exact zR _|exact kD);intro zK zh zr zs bk)|(apply mW;(with_reducible assumption);exact zt2;intro zK zh zr zs bk));refine aBj ?_;(first|(intro z z;repeat (first|(with_reducible refine aAw fun z=>?_)|with_reducible refine aAx ?_|(intro (zv:(_:Value)=_);subst zv)|intro z))|skip);(have z:=bk _ _ (by with_reducible assumption);clear bk))
  |((first|(apply mV;(with_reducible assumption);exact zt3;(first|exact zR _|exact kD);intro zK zh zr zs bk)|(apply mW;(with_reducible assumption);exact zt3;intro zK zh zr zs bk));refine aBj ?_;(first|(intro z z;repeat (first|(with_reducible refine aAw fun z=>?_)|with_reducible refine aAx ?_|(intro (zv:(_:Value)=_);subst zv)|intro z))|skip);(have z:=bk _ _ (by with_reducible assumption);clear bk))
  |((first|(apply mV;(with_reducible assumption);exact zt4;(first|exact zR _|exact kD);intro zK zh zr zs bk)|(apply mW;(with_reducible assumption);exact zt4;intro zK zh zr zs bk));refine aBj ?_;(first|(intro z z;repeat (first|(with_reducible refine aAw fun z=>?_)|with_reducible refine aAx ?_|(intro (zv:(_:Value)=_);subst zv)|intro z))|skip);(have z:=bk _ _ (by with_reducible assumption);clear bk))
  |((first|(apply mV;(with_reducible assumption);exact .head;(first|exact zR _|exact kD);intro zK zh zr zs bk)|(apply mW;(with_reducible assumption);exact .head;intro zK zh zr zs bk));(first|(apply mV;(with_reducible assumption);exact .head;(first|exact zR _|exact kD);intro zK zh zr zs bk)|(apply mW;(with_reducible assumption);exact .head;intro zK zh zr zs bk));refine aBj ?_;(first|(intro z z;repeat (first|(with_reducible refine aAw fun z=>?_)|with_reducible refine aAx ?_|(intro (zv:(_:Value)=_);subst zv)|intro z))|skip);(have z:=bk _ _ (by with_reducible assumption);clear bk);(have z:=bk _ _ (by with_reducible assumption);clear bk))
  |((first|(apply mV;(with_reducible assumption);exact zt1;(first|exact zR _|exact kD);intro zK zh zr zs bk)|(apply mW;(with_reducible assumption);exact zt1;intro zK zh zr zs bk));(first|(apply mV;(with_reducible assumption);exact zt1;(first|exact zR _|exact kD);intro zK zh zr zs bk)|(apply mW;(with_reducible assumption);exact zt1;intro zK zh zr zs bk));refine aBj ?_;(first|(intro z z;repeat (first|(with_reducible refine aAw fun z=>?_)|with_reducible refine aAx ?_|(intro (zv:(_:Value)=_);subst zv)|intro z))|skip);(have z:=bk _ _ (by with_reducible assumption);clear bk);(have z:=bk _ _ (by with_reducible assumption);clear bk))
  |((first|(apply mV;(with_reducible assumption);exact zt1;(first|exact zR _|exact kD);intro zK zh zr zs bk)|(apply mW;(with_reducible assumption);exact zt1;intro zK zh zr zs bk));(first|(apply mV;(with_reducible assumption);exact .head;(first|exact zR _|exact kD);intro zK zh zr zs bk)|(apply mW;(with_reducible assumption);exact .head;intro zK zh zr zs bk));refine aBj ?_;(first|(intro z z;repeat (first|(with_reducible refine aAw fun z=>?_)|with_reducible refine aAx ?_|(intro (zv:(_:Value)=_);subst zv)|intro z))|skip);(have z:=bk _ _ (by with_reducible assumption);clear bk);(have z:=bk _ _ (by with_reducible assumption);clear bk))
  |((first|(apply mV;(with_reducible assumption);exact zt2;(first|exact zR _|exact kD);intro zK zh zr zs bk)|(apply mW;(with_reducible assumption);exact zt2;intro zK zh zr zs bk));(first|(apply mV;(with_reducible assumption);exact zt1;(first|exact zR _|exact kD);intro zK zh zr zs bk)|(apply mW;(with_reducible assumption);exact zt1;intro zK zh zr zs bk));refine aBj ?_;(first|(intro z z;repeat (first|(with_reducible refine aAw fun z=>?_)|with_reducible refine aAx ?_|(intro (zv:(_:Value)=_);subst zv)|intro z))|skip);(have z:=bk _ _ (by with_reducible assumption);clear bk);(have z:=bk _ _ (by with_reducible assumption);clear bk))
  |((first|(apply mV;(with_reducible assumption);exact zt2;(first|exact zR _|exact kD);intro zK zh zr zs bk)|(apply mW;(with_reducible assumption);exact zt2;intro zK zh zr zs bk));(first|(apply mV;(with_reducible assumption);exact zt1;(first|exact zR _|exact kD);intro zK zh zr zs bk)|(apply mW;(with_reducible assumption);exact zt1;intro zK zh zr zs bk));(first|(apply mV;(with_reducible assumption);exact zt1;(first|exact zR _|exact kD);intro zK zh zr zs bk)|(apply mW;(with_reducible assumption);exact zt1;intro zK zh zr zs bk));refine aBj ?_;(first|(intro z z;repeat (first|(with_reducible refine aAw fun z=>?_)|with_reducible refine aAx ?_|(intro (zv:(_:Value)=_);subst zv)|intro z))|skip);(have z:=bk _ _ (by with_reducible assumption);clear bk);(have z:=bk _ _ (by with_reducible assumption);clear bk);(have z:=bk _ _ (by with_reducible assumption);clear bk))
  |((first|(apply mV;(with_reducible assumption);exact .head;(first|exact zR _|exact kD);intro zK zh zr zs bk)|(apply mW;(with_reducible assumption);exact .head;intro zK zh zr zs bk));(first|(apply mV;(with_reducible assumption);exact .head;(first|exact zR _|exact kD);intro zK zh zr zs bk)|(apply mW;(with_reducible assumption);exact .head;intro zK zh zr zs bk));(first|(apply mV;(with_reducible assumption);exact .head;(first|exact zR _|exact kD);intro zK zh zr zs bk)|(apply mW;(with_reducible assumption);exact .head;intro zK zh zr zs bk));refine aBj ?_;(first|(intro z z;repeat (first|(with_reducible refine aAw fun z=>?_)|with_reducible refine aAx ?_|(intro (zv:(_:Value)=_);subst zv)|intro z))|skip);(have z:=bk _ _ (by with_reducible assumption);clear bk);(have z:=bk _ _ (by with_reducible assumption);clear bk);(have z:=bk _ _ (by with_reducible assumption);clear bk))
  |((first|(apply mV;(with_reducible assumption);exact zt1;(first|exact zR _|exact kD);intro zK zh zr zs bk)|(apply mW;(with_reducible assumption);exact zt1;intro zK zh zr zs bk));(first|(apply mV;(with_reducible assumption);exact zt1;(first|exact zR _|exact kD);intro zK zh zr zs bk)|(apply mW;(with_reducible assumption);exact zt1;intro zK zh zr zs bk));(first|(apply mV;(with_reducible assumption);exact zt1;(first|exact zR _|exact kD);intro zK zh zr zs bk)|(apply mW;(with_reducible assumption);exact zt1;intro zK zh zr zs bk));refine aBj ?_;(first|(intro z z;repeat (first|(with_reducible refine aAw fun z=>?_)|with_reducible refine aAx ?_|(intro (zv:(_:Value)=_);subst zv)|intro z))|skip);(have z:=bk _ _ (by with_reducible assumption);clear bk);(have z:=bk _ _ (by with_reducible assumption);clear bk);(have z:=bk _ _ (by with_reducible assumption);clear bk))
  |((first|(apply mV;(with_reducible assumption);exact zt3;(first|exact zR _|exact kD);intro zK zh zr zs bk)|(apply mW;(with_reducible assumption);exact zt3;intro zK zh zr zs bk));(first|(apply mV;(with_reducible assumption);exact zt2;(first|exact zR _|exact kD);intro zK zh zr zs bk)|(apply mW;(with_reducible assumption);exact zt2;intro zK zh zr zs bk));(first|(apply mV;(with_reducible assumption);exact zt2;(first|exact zR _|exact kD);intro zK zh zr zs bk)|(apply mW;(with_reducible assumption);exact zt2;intro zK zh zr zs bk));refine aBj ?_;(first|(intro z z;repeat (first|(with_reducible refine aAw fun z=>?_)|with_reducible refine aAx ?_|(intro (zv:(_:Value)=_);subst zv)|intro z))|skip);(have z:=bk _ _ (by with_reducible assumption);clear bk);(have z:=bk _ _ (by with_reducible assumption);clear bk);(have z:=bk _ _ (by with_reducible assumption);clear bk))
  |((first|(apply mV;(with_reducible assumption);exact .head;(first|exact zR _|exact kD);intro zK zh zr zs bk)|(apply mW;(with_reducible assumption);exact .head;intro zK zh zr zs bk));(first|(apply mV;(with_reducible assumption);exact .head;(first|exact zR _|exact kD);intro zK zh zr zs bk)|(apply mW;(with_reducible assumption);exact .head;intro zK zh zr zs bk));(first|(apply mV;(with_reducible assumption);exact .head;(first|exact zR _|exact kD);intro zK zh zr zs bk)|(apply mW;(with_reducible assumption);exact .head;intro zK zh zr zs bk));(first|(apply mV;(with_reducible assumption);exact .head;(first|exact zR _|exact kD);intro zK zh zr zs bk)|(apply mW;(with_reducible assumption);exact .head;intro zK zh zr zs bk));refine aBj ?_;(first|(intro z z;repeat (first|(with_reducible refine aAw fun z=>?_)|with_reducible refine aAx ?_|(intro (zv:(_:Value)=_);subst zv)|intro z))|skip);(have z:=bk _ _ (by with_reducible assumption);clear bk);(have z:=bk _ _ (by with_reducible assumption);clear bk);(have z:=bk _ _ (by with_reducible assumption);clear bk);(have z:=bk _ _ (by with_reducible assumption);clear bk))
  |((first|(with_reducible apply st_g0)|(with_reducible apply st_g1)|(with_reducible apply st_g2)|(with_reducible apply st_g3)|(apply st_g4;exact rfl));rcases aL hm with ⟨z,hm⟩|⟨z,hm⟩))):p:=h
end Gv
