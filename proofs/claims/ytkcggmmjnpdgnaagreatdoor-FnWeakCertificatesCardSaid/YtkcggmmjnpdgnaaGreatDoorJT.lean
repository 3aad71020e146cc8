/- Readings of the program's data; what is known of its types. -/
import Derived.Test.YtkcggmmjnpdgnaaGreatDoorJYS
import Derived.Test.YtkcggmmjnpdgnaaGreatDoorProg
set_option linter.all false
namespace Gv
open Go.Value renaming slice→zS
open Go Go.Proofs Go.Proofs.Tryz
instance:gH Edge where
 sz:=3
 enc d:=[i64 d.F,i64 d.B,i64 d.To]
 len _:=rfl
 one _ v h:=by simp at h;rcases h with rfl|rfl|rfl<;>rfl
 pos:=by decide
instance:El cB where
 sz:=4
 rd K cs d:=∃ (a0:Option Addr) (c0:Nat) (a1:Option Addr) (c1:Nat),cs=[i64 d.N,i64 d.I,zS a0 d.L.length c0,zS a1 d.E.length c1]/\bW K a0 c0 d.L/\bW K a1 c1 d.E
 mono:=fun h ⟨a0,c0,a1,c1,e,h0,h1⟩=>⟨a0,c0,a1,c1,e,h0.mono h,h1.mono h⟩
 len:=fun ⟨_,_,_,_,e,_⟩=>by rw [e];rfl
 one:=fun ⟨_,_,_,_,e,_⟩ v hv=>by rw [e] at hv;simp at hv;rcases hv with rfl|rfl|rfl|rfl<;>rfl
 pos:=by decide
instance:gH dD where
 sz:=4
 enc d:=[i64 d.Kind,i64 d.Variable,str d.B,Value.bool d.Not]
 len _:=rfl
 one _ v h:=by simp at h;rcases h with rfl|rfl|rfl|rfl<;>rfl
 pos:=by decide
theorem dE:SLT prog 24 9 1:=⟨runUnderlying24,sizeOf9⟩
theorem aAU:SC prog 9:=⟨isAgg9,sizeOf9⟩
theorem bV:SLT prog 63 2 1:=⟨runUnderlying63,sizeOf2⟩
theorem iD:EZ prog 2 [i64 0]:=⟨⟨_,zeroValue2,rfl⟩,⟨t2,typeInfo2,by show (8:Nat)<=128;decide,rfl,by kernel_rfl,_,rfl,rfl⟩⟩
theorem cE:SC prog 2:=⟨isAgg2,sizeOf2⟩
theorem oM:EZ prog 9 [str []]:=⟨⟨_,zeroValue9,rfl⟩,⟨t9,typeInfo9,by show (16:Nat)<=128;decide,rfl,by kernel_rfl,_,rfl,rfl⟩⟩
theorem aKJ:SLT prog 22 5 1:=⟨runUnderlying22,sizeOf5⟩
theorem bs_56:BS prog 56 [(0,1),(1,1),(2,1)] [zS none 0 0,i64 0,Value.int .u64 0]:=⟨⟨_,zeroValue56,rfl⟩,_,runUnderlying56,fun w=>by simp [sizeOf22,sizeOf3,sizeOf54]⟩
theorem iY:FA prog 66 0 0:=⟨_,_,_,runUnderlying66,rfl,sizeOf2,rfl,rfl⟩
theorem iR:FA prog 66 1 1:=⟨_,_,_,runUnderlying66,rfl,sizeOf2,rfl,rfl⟩
theorem gY:FA prog 66 2 2:=⟨_,_,_,runUnderlying66,rfl,sizeOf2,rfl,rfl⟩
theorem cK:SLT prog 25 66 3:=⟨runUnderlying25,sizeOf66⟩
theorem oX:AG prog 66 3:=⟨isAgg66,sizeOf66⟩
theorem aIn:BS prog 66 [(0,1),(1,1),(2,1)] [i64 0,i64 0,i64 0]:=⟨⟨_,zeroValue66,rfl⟩,_,runUnderlying66,fun w=>by simp [sizeOf2]⟩
theorem gP:EZ prog 66 [i64 0,i64 0,i64 0]:=⟨⟨_,zeroValue66,rfl⟩,⟨t66,typeInfo66,by show (24:Nat)<=128;decide,rfl,by kernel_rfl,_,rfl,rfl⟩⟩
theorem aCG:BS prog 27 [(0,1),(1,1),(2,1),(3,1)] [i64 0,i64 0,zS none 0 0,zS none 0 0]:=⟨⟨_,zeroValue27,rfl⟩,_,runUnderlying27,fun w=>by simp [sizeOf2,sizeOf24,sizeOf25]⟩
theorem fF:FA prog 27 2 2:=⟨_,_,_,runUnderlying27,rfl,sizeOf24,rfl,rfl⟩
theorem oF:SC prog 24:=⟨isAgg24,sizeOf24⟩
theorem cM:FA prog 27 3 3:=⟨_,_,_,runUnderlying27,rfl,sizeOf25,rfl,rfl⟩
theorem eK:SC prog 25:=⟨isAgg25,sizeOf25⟩
theorem eS:AG prog 27 4:=⟨isAgg27,sizeOf27⟩
theorem fU:SLT prog 49 4 1:=⟨runUnderlying49,sizeOf4⟩
theorem aCH:SC prog 4:=⟨isAgg4,sizeOf4⟩
theorem cT:FA prog 27 0 0:=⟨_,_,_,runUnderlying27,rfl,sizeOf2,rfl,rfl⟩
theorem ez_4:EZ prog 4 [Value.bool false]:=⟨⟨_,zeroValue4,rfl⟩,⟨t4,typeInfo4,by show (1:Nat)<=128;decide,rfl,by kernel_rfl,_,rfl,rfl⟩⟩
theorem oC:FA prog 27 1 1:=⟨_,_,_,runUnderlying27,rfl,sizeOf2,rfl,rfl⟩
theorem eL:SLT prog 28 63 1:=⟨runUnderlying28,sizeOf63⟩
theorem qL:EZ prog 63 [zS none 0 0]:=⟨⟨_,zeroValue63,rfl⟩,⟨t63,typeInfo63,by show (24:Nat)<=128;decide,rfl,by kernel_rfl,_,rfl,rfl⟩⟩
theorem vT:SC prog 63:=⟨isAgg63,sizeOf63⟩
theorem aFR:SLT prog 91 49 1:=⟨runUnderlying91,sizeOf49⟩
theorem aMg:EZ prog 49 [zS none 0 0]:=⟨⟨_,zeroValue49,rfl⟩,⟨t49,typeInfo49,by show (24:Nat)<=128;decide,rfl,by kernel_rfl,_,rfl,rfl⟩⟩
theorem aJV:SC prog 49:=⟨isAgg49,sizeOf49⟩
theorem aAV:FA prog 56 1 1:=⟨_,_,_,runUnderlying56,rfl,sizeOf3,rfl,rfl⟩
theorem sc_3:SC prog 3:=⟨isAgg3,sizeOf3⟩
theorem aGE:FA prog 56 0 0:=⟨_,_,_,runUnderlying56,rfl,sizeOf22,rfl,rfl⟩
theorem aKK:SC prog 22:=⟨isAgg22,sizeOf22⟩
theorem sc_5:SC prog 5:=⟨isAgg5,sizeOf5⟩
theorem aGF:FA prog 56 2 2:=⟨_,_,_,runUnderlying56,rfl,sizeOf54,rfl,rfl⟩
theorem sc_54:SC prog 54:=⟨isAgg54,sizeOf54⟩
theorem sl_175:SLT prog 175 3 1:=⟨runUnderlying175,sizeOf3⟩
theorem ez_3:EZ prog 3 [i64 0]:=⟨⟨_,zeroValue3,rfl⟩,⟨t3,typeInfo3,by show (8:Nat)<=128;decide,rfl,by kernel_rfl,_,rfl,rfl⟩⟩
theorem aJx:ART prog 126 2 2:=⟨runUnderlying126,isAgg2,sizeOf2⟩
theorem bz_126:∃ z,(∀ w,(zeroValue 126).run prog w=.ok z w)/\z.cells=[i64 0,i64 0].toArray:=⟨_,zeroValue126,rfl⟩
theorem ko_126:KeyOk prog 126 (Int × Int):=aPb runUnderlying126 runUnderlying2 ⟨isAgg2,sizeOf2⟩
theorem bs_76:BS prog 76 [(0,4),(4,4),(8,1)] [i64 0,i64 0,zS none 0 0,zS none 0 0,i64 0,i64 0,zS none 0 0,zS none 0 0,Value.nilFunc]:=⟨⟨_,zeroValue76,rfl⟩,_,runUnderlying76,fun w=>by simp [sizeOf27,sizeOf74]⟩
theorem sc_123:SC prog 123:=⟨isAgg123,sizeOf123⟩
theorem aMh:AG prog 76 9:=⟨isAgg76,sizeOf76⟩
theorem aHW:FA prog 76 0 0:=⟨_,_,_,runUnderlying76,rfl,sizeOf27,rfl,rfl⟩
theorem aKq:FA prog 76 1 4:=⟨_,_,_,runUnderlying76,rfl,sizeOf27,rfl,rfl⟩
theorem aKr:FA prog 76 2 8:=⟨_,_,_,runUnderlying76,rfl,sizeOf74,rfl,rfl⟩
theorem sc_74:SC prog 74:=⟨isAgg74,sizeOf74⟩
theorem bs_93:BS prog 93 [(0,1),(1,1),(2,1),(3,1)] [i64 0,i64 0,str [],Value.bool false]:=⟨⟨_,zeroValue93,rfl⟩,_,runUnderlying93,fun w=>by simp [sizeOf2,sizeOf4,sizeOf9]⟩
theorem aGG:FA prog 93 2 2:=⟨_,_,_,runUnderlying93,rfl,sizeOf9,rfl,rfl⟩
theorem aKs:FA prog 93 3 3:=⟨_,_,_,runUnderlying93,rfl,sizeOf4,rfl,rfl⟩
theorem aGR:AG prog 93 4:=⟨isAgg93,sizeOf93⟩
theorem aHr:SLT prog 32 93 4:=⟨runUnderlying32,sizeOf93⟩
theorem ez_93:EZ prog 93 [i64 0,i64 0,str [],Value.bool false]:=⟨⟨_,zeroValue93,rfl⟩,⟨t93,typeInfo93,by show (40:Nat)<=128;decide,rfl,by kernel_rfl,_,rfl,rfl⟩⟩
theorem aCo:FA prog 93 0 0:=⟨_,_,_,runUnderlying93,rfl,sizeOf2,rfl,rfl⟩
theorem fa_93_1:FA prog 93 1 1:=⟨_,_,_,runUnderlying93,rfl,sizeOf2,rfl,rfl⟩
theorem bs_96:BS prog 96 [(0,4),(4,1)] [i64 0,i64 0,str [],Value.bool false,zS none 0 0]:=⟨⟨_,zeroValue96,rfl⟩,_,runUnderlying96,fun w=>by simp [sizeOf93,sizeOf94]⟩
theorem aKt:FA prog 96 1 4:=⟨_,_,_,runUnderlying96,rfl,sizeOf94,rfl,rfl⟩
theorem sc_94:SC prog 94:=⟨isAgg94,sizeOf94⟩
theorem sl_94:SLT prog 94 50 1:=⟨runUnderlying94,sizeOf50⟩
theorem ez_50:EZ prog 50 [Value.pointer none]:=⟨⟨_,zeroValue50,rfl⟩,⟨t50,typeInfo50,by show (8:Nat)<=128;decide,rfl,by kernel_rfl,_,rfl,rfl⟩⟩
theorem sc_50:SC prog 50:=⟨isAgg50,sizeOf50⟩
theorem aIZ:FA prog 96 0 0:=⟨_,_,_,runUnderlying96,rfl,sizeOf93,rfl,rfl⟩
theorem st_66:prog.stoodInHeld 66=false:=by kernel_rfl
theorem eq_66 {x y:Edge}:EQT prog 66 [i64 x.F,i64 x.B,i64 x.To] [i64 y.F,i64 y.B,i64 y.To] (decide (x=y)):=by
 refine ⟨by kernel_rfl,fun w=>?_⟩
 have h2:∀ (a b:Int),(Op.equalIn 9999 2 (i64 a) (i64 b)).run prog w=.ok (a == b) w:=fun a b=>run_eqInI 9998 (runUnderlying2 w)
 have:Op.maxDepth=9999+1:=rfl
 unfold Op.equal
 rw [this]
 unfold Op.equalIn
 simp [runUnderlying66,st_66,part,h2,isAgg2]
 cases x;cases y
 simp
 repeat' split<;>simp_all
theorem Tryz_mixed:prog.follows .mixedOrders=true:=by kernel_rfl
abbrev zC (d:cB) (a:Option Addr) (c:Nat) (b:Option Addr) (e:Nat):List Value:=[i64 d.N,i64 d.I,Value.slice a d.L.length c,Value.slice b d.E.length e]
abbrev zCa (d:cB) (a:Option Addr) (c:Nat) (b:Option Addr) (e:Nat):Array Value:=#[i64 d.N,i64 d.I,Value.slice a d.L.length c,Value.slice b d.E.length e]
abbrev zG:List Value:=[i64 0,i64 0,Value.slice none 0 0,Value.slice none 0 0]
abbrev zGa:Array Value:=#[i64 0,i64 0,Value.slice none 0 0,Value.slice none 0 0]
abbrev zK:List Value:=[i64 0,i64 0,Value.slice none 0 0,Value.slice none 0 0,Value.slice none 0 0,Value.slice none 0 0]
abbrev zKa:Array Value:=#[i64 0,i64 0,Value.slice none 0 0,Value.slice none 0 0,Value.slice none 0 0,Value.slice none 0 0]
end Gv
namespace Gv
open Go.Value renaming slice→zS
open Gv.Hp renaming le_refl→zR
open Go Go.Proofs Go.Proofs.Tryz
theorem pR {p:Prop} (h:p:=by first|assumption|(apply st_cK;assumption;exact mT)):p:=h
theorem st_HR {p:Prop} (h:p:=by first|assumption|(apply st_rK;assumption;exact mT)):p:=h
theorem st_S {p:Prop} (h:p:=by with_reducible first|exact dE|exact bV|exact aKJ|exact cK|exact fU|exact eL|exact aFR|exact sl_175|exact aHr|exact sl_94):p:=h
theorem aAo {p:Prop} (h:p:=by with_reducible first|exact aAU|exact cE|exact oF|exact eK|exact aCH|exact vT|exact aJV|exact sc_3|exact aKK|exact sc_5|exact sc_54|exact sc_123|exact sc_74|exact sc_94|exact sc_50):p:=h
theorem aFB {p:Prop} (h:p:=by with_reducible first|exact oX|exact eS|exact aMh|exact aGR):p:=h
theorem st_F {p:Prop} (h:p:=by with_reducible first|exact iY|exact iR|exact gY|exact fF|exact cM|exact cT|exact oC|exact aAV|exact aGE|exact aGF|exact aHW|exact aKq|exact aKr|exact aGG|exact aKs|exact aCo|exact fa_93_1|exact aKt|exact aIZ):p:=h
theorem za_27:ZA prog 27 [i64 0,i64 0,zS none 0 0,zS none 0 0]:=⟨_,zeroValue27,rfl⟩
theorem za_66:ZA prog 66 [i64 0,i64 0,i64 0]:=⟨_,zeroValue66,rfl⟩
theorem za_76:ZA prog 76 [i64 0,i64 0,zS none 0 0,zS none 0 0,i64 0,i64 0,zS none 0 0,zS none 0 0,Value.nilFunc]:=⟨_,zeroValue76,rfl⟩
theorem za_93:ZA prog 93 [i64 0,i64 0,str ([]:aY),Value.bool false]:=⟨_,zeroValue93,rfl⟩
theorem za_123:ZA prog 123 [Value.map none]:=⟨_,zeroValue123,rfl⟩
theorem za_126:ZA prog 126 [i64 0,i64 0]:=⟨_,zeroValue126,rfl⟩
theorem st_r {p:Prop} (h:p:=by with_reducible first|exact runUnderlying123|exact runUnderlying138|exact runUnderlying2|exact runUnderlying3|exact runUnderlying4|exact runUnderlying5|exact runUnderlying54|exact runUnderlying9):p:=h
theorem st_h {p:Prop} (h:p:=by with_reducible first|exact bs_56|exact aIn|exact aCG|exact bs_76|exact bs_93|exact bs_96):p:=h
theorem st_e {p:Prop} (h:p:=by with_reducible first|exact iD|exact oM|exact gP|exact ez_4|exact qL|exact aMg|exact ez_3|exact ez_93|exact ez_50):p:=h
theorem st_u {p:Prop} (h:p:=by with_reducible first|exact underlying24|exact underlying25|exact underlying28|exact underlying32|exact underlying63|exact underlying91|exact underlying94):p:=h
theorem st_z {p:Prop} (h:p:=by with_reducible first|exact sizeOf123|exact sizeOf126|exact sizeOf2|exact sizeOf24|exact sizeOf25|exact sizeOf27|exact sizeOf3|exact sizeOf4|exact sizeOf54|exact sizeOf63|exact sizeOf66|exact sizeOf76|exact sizeOf9|exact sizeOf93|exact sizeOf94):p:=h
theorem st_y {p:Prop} (h:p:=by with_reducible first|exact za_27|exact za_66|exact za_76|exact za_93|exact za_123|exact za_126):p:=h
theorem st_V {p:Prop} (h:p:=by first|exact V_moveC|exact V_assignC|(apply V_B;first|(apply V_add;exact dB;exact dB)|(apply V_sub;exact dB;exact dB)|(apply V_mul;exact dB;exact dB)|(apply V_lss;exact dB;exact dB)|(apply V_leq;exact dB;exact dB)|(apply V_gtr;exact dB;exact dB)|(apply V_geq;exact dB;exact dB)|(apply V_eql;exact dB;exact dB)|(apply V_neq;exact dB;exact dB)|(apply V_eqlS;exact dB;exact dB)|(apply V_neqS;exact dB;exact dB)|(apply V_lssS;exact dB;exact dB)|(apply V_leqS;exact dB;exact dB)|(apply V_gtrS;exact dB;exact dB)|(apply V_geqS;exact dB;exact dB))|exact V_moveF|exact V_assignF|(apply V_move;exact dB)|(apply V_assign;exact dB)|(apply V_fldP;exact dB;exact st_F)|(apply V_fldE;exact dB;exact pR;exact st_F)|(apply V_fldO;exact dB;exact fJ;exact aID;exact fJ;exact st_F)|(apply V_L;first|(apply V_ldB;exact dB;exact fJ;exact aID;exact rfl;exact aAo)|(apply V_ldBG;exact dB;exact fJ;exact aID;exact aFB;exact st_D)|(apply aJR (t:=0);exact dB;exact pR;exact fJ;exact rfl;exact aAo)|(apply aJR (t:=1);exact dB;exact pR;exact fJ;exact rfl;exact aAo)|(apply aJR (t:=2);exact dB;exact pR;exact fJ;exact rfl;exact aAo)|(apply aJR (t:=3);exact dB;exact pR;exact fJ;exact rfl;exact aAo)|(apply aJR (t:=4);exact dB;exact pR;exact fJ;exact rfl;exact aAo)|(apply aJR (t:=5);exact dB;exact pR;exact fJ;exact rfl;exact aAo)|(apply aJR (t:=6);exact dB;exact pR;exact fJ;exact rfl;exact aAo)|(apply aJR (t:=7);exact dB;exact pR;exact fJ;exact rfl;exact aAo)|(apply aHq (t:=0);exact dB;exact pR;exact fJ;exact aFB;exact rfl;exact rfl)|(apply aHq (t:=1);exact dB;exact pR;exact fJ;exact aFB;exact rfl;exact rfl)|(apply aHq (t:=2);exact dB;exact pR;exact fJ;exact aFB;exact rfl;exact rfl)|(apply aHq (t:=3);exact dB;exact pR;exact fJ;exact aFB;exact rfl;exact rfl)|(apply aHq (t:=4);exact dB;exact pR;exact fJ;exact aFB;exact rfl;exact rfl)|(apply aHq (t:=5);exact dB;exact pR;exact fJ;exact aFB;exact rfl;exact rfl)|(apply aHq (t:=6);exact dB;exact pR;exact fJ;exact aFB;exact rfl;exact rfl)|(apply aHq (t:=7);exact dB;exact pR;exact fJ;exact aFB;exact rfl;exact rfl)|(apply V_ldO (t:=0);exact dB;exact fJ;exact aID;exact fJ;exact rfl;exact rfl;exact aAo)|(apply V_ldO (t:=1);exact dB;exact fJ;exact aID;exact fJ;exact rfl;exact rfl;exact aAo)|(apply V_ldO (t:=2);exact dB;exact fJ;exact aID;exact fJ;exact rfl;exact rfl;exact aAo)|(apply V_ldO (t:=3);exact dB;exact fJ;exact aID;exact fJ;exact rfl;exact rfl;exact aAo)|(apply V_ldO (t:=4);exact dB;exact fJ;exact aID;exact fJ;exact rfl;exact rfl;exact aAo)|(apply V_ldOG (t:=0);exact dB;exact fJ;exact aID;exact fJ;exact rfl;exact aFB;exact rfl;exact rfl)|(apply V_ldOG (t:=1);exact dB;exact fJ;exact aID;exact fJ;exact rfl;exact aFB;exact rfl;exact rfl)|(apply V_ldOG (t:=2);exact dB;exact fJ;exact aID;exact fJ;exact rfl;exact aFB;exact rfl;exact rfl)|(apply aJT (t:=0);exact dB;exact fJ;exact fJ;exact mT;exact rfl;exact aAo)|(apply aJT (t:=1);exact dB;exact fJ;exact fJ;exact mT;exact rfl;exact aAo)|(apply aJT (t:=2);exact dB;exact fJ;exact fJ;exact mT;exact rfl;exact aAo)|(apply aJT (t:=3);exact dB;exact fJ;exact fJ;exact mT;exact rfl;exact aAo)|(apply aJT (t:=4);exact dB;exact fJ;exact fJ;exact mT;exact rfl;exact aAo)|(apply aJT (t:=5);exact dB;exact fJ;exact fJ;exact mT;exact rfl;exact aAo)|(apply aJT (t:=6);exact dB;exact fJ;exact fJ;exact mT;exact rfl;exact aAo)|(apply aJT (t:=7);exact dB;exact fJ;exact fJ;exact mT;exact rfl;exact aAo)|(apply aMY (t:=0);exact dB;exact fJ;exact fJ;exact mT;exact aFB;exact rfl;exact rfl)|(apply aMY (t:=1);exact dB;exact fJ;exact fJ;exact mT;exact aFB;exact rfl;exact rfl)|(apply aMY (t:=2);exact dB;exact fJ;exact fJ;exact mT;exact aFB;exact rfl;exact rfl)|(apply aMY (t:=3);exact dB;exact fJ;exact fJ;exact mT;exact aFB;exact rfl;exact rfl)|(apply aJS (t:=0);exact fJ;exact pR;exact dB;exact rfl;exact aAo)|(apply aJS (t:=1);exact fJ;exact pR;exact dB;exact rfl;exact aAo)|(apply aJS (t:=2);exact fJ;exact pR;exact dB;exact rfl;exact aAo)|(apply aJS (t:=3);exact fJ;exact pR;exact dB;exact rfl;exact aAo)|(apply aJS (t:=4);exact fJ;exact pR;exact dB;exact rfl;exact aAo)|(apply aJS (t:=5);exact fJ;exact pR;exact dB;exact rfl;exact aAo)|(apply aJS (t:=6);exact fJ;exact pR;exact dB;exact rfl;exact aAo)|(apply aJS (t:=7);exact fJ;exact pR;exact dB;exact rfl;exact aAo)|(apply aMX (t:=0);exact fJ;exact pR;exact dB;exact aFB;exact rfl;exact rfl)|(apply aMX (t:=1);exact fJ;exact pR;exact dB;exact aFB;exact rfl;exact rfl)|(apply aMX (t:=2);exact fJ;exact pR;exact dB;exact aFB;exact rfl;exact rfl)|(apply aMX (t:=3);exact fJ;exact pR;exact dB;exact aFB;exact rfl;exact rfl))|(apply V_lenS;exact st_S;exact dB)|(apply V_nilE;exact dB;exact pR)|(apply V_nilP;exact dB)|(apply V_nilO;exact dB;exact fJ;exact aID;exact fJ)|(apply V_ixE;exact dB;exact dB;exact st_HR;exact fJ;exact rfl;exact st_S;exact rfl)|(apply V_ixO;exact dB;exact dB;exact fJ;exact aID;exact fJ;exact rfl;exact st_S;exact rfl)|(apply V_extract;exact dB;exact rfl)|(apply V_pickT;exact dB;exact aKh;exact dB)|(apply V_pickF;exact dB;exact aKh;exact dB)|(apply V_not;exact dB)|(apply V_lenStr;exact st_r;exact dB)|(apply V_ixS;exact st_r;exact dB;exact dB;exact fJ)|(apply V_conv64;exact st_r;exact dB;exact ⟨_,st_r⟩)|(apply V_convu64;exact st_r;exact dB;exact ⟨_,st_r⟩)|(apply V_u8sub';exact dB;exact dB)|(apply V_neg;exact dB)|(apply V_rem;exact dB;exact dB;exact fJ)|(apply V_cat;exact dB;exact dB;exact fJ)|(apply V_eqlB;exact st_r;exact dB;exact dB)|(apply V_neqB;exact st_r;exact dB;exact dB)|(apply V_u64add;exact dB;exact dB)|(apply V_u64mul;exact dB;exact dB)|(apply V_shrU;exact dB;exact dB;exact fJ)|(apply V_andU;exact dB;exact dB)|(apply V_slSLH;exact st_r;exact dB;exact dB;exact dB;exact fJ)|(apply V_slSL;exact st_r;exact dB;exact dB;exact fJ)|(apply V_slSH;exact st_r;exact dB;exact dB;exact fJ)|(apply V_isNil;exact st_S;exact dB;exact rfl)|(apply V_build;exact st_h;exact rfl;exact (by kernel_rfl))|(apply aPh;exact rfl)):p:=h
theorem st_call {p:Prop} (h:p:=by with_reducible first|exact call4|exact call5|exact call6|exact call7|exact call8|exact call9|exact call10|exact call11|exact call12|exact call13|exact call14|exact call15|exact call16|exact call17|exact call18|exact call19|exact call20|exact call21|exact call22|exact call23|exact call24|exact call25|exact call26|exact call27|exact call28|exact call29|exact call30|exact call31|exact call32|exact call33|exact call34|exact call35|exact call36|exact call37|exact call38|exact call39|exact call40|exact call41|exact call42|exact call43|exact call44|exact call45|exact call46|exact call47|exact call48|exact call49|exact call50|exact call51|exact call52|exact call53|exact call54|exact call55|exact call56|exact call57|exact call58|exact call59|exact call60|exact call61|exact call62|exact call63|exact call64|exact call65|exact call66|exact call67|exact call68|exact call69|exact call70|exact call71|exact call72|exact call73|exact call74|exact call75|exact call76|exact call77|exact call78|exact call79|exact call80|exact call81|exact call82|exact call83|exact call84|exact call85|exact call86|exact call87|exact call88|exact call89|exact call90|exact call91|exact call92|exact call93|exact call94|exact call95|exact call96|exact call97|exact call98|exact call99|exact call100|exact call101|exact call102|exact call103|exact call104|exact call105|exact call106|exact call107|exact call108|exact call109|exact call110|exact call111|exact call112|exact call113|exact call114|exact call115|exact call116|exact call117|exact call118|exact call119|exact call120|exact call121|exact call122|exact call123|exact call124|exact call125|exact call126|exact call127|exact call128|exact call129|exact call132|exact call133|exact call134|exact call135|exact call136|exact call137|exact call138|exact call139|exact call140|exact call141|exact call142|exact call143|exact call146|exact call147|exact call148|exact call149|exact call150|exact call151|exact call152|exact call153|exact call155|exact call157|exact call158|exact call159|exact call171|exact call172|exact call173|exact call174|exact call178|exact call182|exact call183|exact call184|exact call190):p:=h
theorem st_f {p:Prop} (h:p:=by with_reducible first|exact func3|exact func4|exact func5|exact func6|exact func7|exact func8|exact func9|exact func10|exact func11|exact func12|exact func13|exact func14|exact func15|exact func16|exact func17|exact func18|exact func19|exact func20|exact func21|exact func22|exact func23|exact func24|exact func25|exact func26|exact func27|exact func28|exact func29|exact func30|exact func31|exact func32|exact func33|exact func34|exact func35|exact func36|exact func37|exact func38|exact func39|exact func40|exact func41|exact func42|exact func43|exact func44|exact func45|exact func46|exact func47|exact func48|exact func49|exact func50|exact func51|exact func52|exact func53|exact func54|exact func55|exact func56|exact func57|exact func58|exact func59|exact func60|exact func61|exact func62|exact func63|exact func64|exact func65|exact func66|exact func67|exact func68|exact func69|exact func70|exact func71|exact func72|exact func73|exact func74|exact func75|exact func76|exact func77|exact func78|exact func79|exact func80|exact func81|exact func82|exact func83|exact func84|exact func85|exact func86|exact func87|exact func88|exact func89|exact func90|exact func91|exact func92|exact func93|exact func94|exact func95|exact func96|exact func97|exact func98|exact func99|exact func100|exact func101|exact func102|exact func103|exact func105|exact func106|exact func107|exact func108|exact func109|exact func110|exact func111|exact func112|exact func113|exact func114|exact func115|exact func116|exact func117|exact func118|exact func119|exact func120|exact func121|exact func122|exact func124|exact func125|exact func126|exact func127|exact func128|exact func129|exact func132|exact func133|exact func135|exact func137|exact func138|exact func139|exact func140|exact func141|exact func142|exact func143|exact func146|exact func147|exact func148|exact func149|exact func150|exact func151|exact func152|exact func153|exact func157|exact func158|exact func159|exact func171|exact func172|exact func173|exact func174|exact func182|exact func183|exact func190):p:=h
theorem aMi {p:Prop} (h:p:=by first|((with_reducible apply rv_tmp);exact rfl;exact rfl)|((with_reducible apply V_rvG);exact dB;exact fJ;exact aID;exact aFB;exact rfl;exact rfl)|((with_reducible apply V_rvB);exact dB;exact fJ;exact aID;exact aAo;exact rfl)):p:=h
theorem st_X {p:Prop} (h:p:=by
 (repeat (first
  |exact aM
  |(with_reducible apply Exists.intro)
  |((with_reducible apply And.intro);· first|exact aM|(with_reducible assumption)|exact (Option.some.inj (by with_reducible assumption)).symm|exact rfl|assumption|exact zR _|exact mT|exact aKn _|(apply st_rK;assumption;exact mT)|(apply st_cK;assumption;exact mT)|exact iC (by assumption))
  |(with_reducible assumption)|exact st_c|exact rfl|assumption));first|done|fail):p:=h
theorem aEs {p q:Prop} (k:q) (h:Hd q->p:=by
 intro hk
 (first|apply st_ca|apply st_cb|apply st_cq);exact st_call;(first|(with_reducible intro z z)|skip);(first|((with_reducible first|apply aIG|apply aKM|apply aLH|apply aGU|apply rR|apply aKN|apply aDD|apply aJz|apply aLI|apply aHD|apply nD|apply wW|apply aFb|apply aGf|apply aEG|apply aKO|apply aEH|apply aBz|apply aHE|apply aEI|apply aIq|apply tE|apply uJ|apply aHF|apply aBA|apply aIr|apply aJA|apply aBQ|apply aHM|apply aER|apply aHb|apply aFu|apply aHc|apply vQ|apply aFM|apply aDH|apply aKj|apply aDI|apply aHd|apply aBR|apply aGo|apply aHe|apply wY|apply aHL|apply aEP|apply pN|apply iT|apply oB|apply aBF|apply pO|apply yI|apply aEQ|apply vO|apply pP|apply aBP|apply lD|apply jN|apply aBG|apply yE|apply yF|apply aAu|apply aAh|apply aHG|apply aGV|apply wX|apply aDs|apply aFJ|apply aGg|apply aGh|apply aHH|apply aGW|apply aIs|apply aGi|apply aFK|apply oE|apply aEJ|apply aDt|apply aDu|apply aEK|apply aGj|apply aGX|apply aGk|apply aGl|apply aGY|apply aGZ|apply lB|apply aAi|apply aHI|apply aDG|apply jT|apply aJh|apply aAk|apply yG|apply aCg|apply aGm|apply aBB|apply aDv|apply aBC|apply aFL|apply aHa|apply aAj|apply aEL|apply aEM|apply aHJ|apply aDw|apply aFp|apply aAQ|apply lT|apply aIF|apply aDC|apply oA|apply aDE|apply aGn|apply aCh|apply aEN|apply aHN|apply tW|apply nE|apply rS|apply aGp|apply aDf|apply aDg|apply jD|apply iP|apply aFv|apply aDh|apply aFw|apply aGq|apply aGr|apply aGs|apply aDJ|apply kR|apply aDK|apply iX|apply aDl|apply aAw);with_reducible assumption)|(with_reducible apply wV;with_reducible assumption)|(with_reducible apply uI;with_reducible assumption)|(with_reducible apply vP;with_reducible assumption)|(with_reducible apply aDd;with_reducible assumption)|(with_reducible apply aDe;with_reducible assumption)|(with_reducible apply aES;with_reducible assumption)|(with_reducible apply aFr;with_reducible assumption)|(with_reducible apply lP;with_reducible assumption)|(with_reducible apply kK;with_reducible assumption)|(with_reducible apply aFs;with_reducible assumption)|(with_reducible apply zQ;with_reducible assumption)|(with_reducible apply aDc;with_reducible assumption)|(with_reducible apply lQ;with_reducible assumption)|(with_reducible apply kL;with_reducible assumption)|(with_reducible apply aFt;with_reducible assumption)|(with_reducible apply aDF;with_reducible assumption)|(with_reducible apply aJg;with_reducible assumption)|(with_reducible apply aDa;with_reducible assumption)|(with_reducible apply aBE;with_reducible assumption)|(with_reducible apply aDb;with_reducible assumption)|(with_reducible apply aKP;with_reducible assumption)|(with_reducible apply pQ;with_reducible assumption)|(with_reducible apply aBD;with_reducible assumption)|(with_reducible apply aFq;with_reducible assumption)|(with_reducible apply aAv;with_reducible assumption)|(with_reducible apply bQ;with_reducible assumption)|(with_reducible apply dY;with_reducible assumption)|(with_reducible apply iW;with_reducible assumption)|(with_reducible apply lX;with_reducible assumption)|(with_reducible apply aHg;with_reducible assumption)|(with_reducible apply cZ;with_reducible assumption)|(with_reducible apply aHK;with_reducible assumption)|(with_reducible apply kJ;with_reducible assumption)|(with_reducible apply lC;with_reducible assumption)|(with_reducible apply aEO;with_reducible assumption)|(with_reducible apply lR;with_reducible assumption)|(with_reducible apply kM;with_reducible assumption)|(with_reducible apply aDi;with_reducible assumption)|(with_reducible apply aDj;with_reducible assumption)|(with_reducible apply aET;with_reducible assumption)|(with_reducible apply aBH;with_reducible assumption)|(with_reducible apply aBI;with_reducible assumption)|(with_reducible apply aDk;with_reducible assumption)|(with_reducible apply lib_Cut;all_goals (try with_reducible assumption))|(with_reducible apply lib_Split;all_goals (try with_reducible assumption))|(with_reducible apply lib_Mul;all_goals (try with_reducible assumption))|(with_reducible apply lib_Join;all_goals (try with_reducible assumption))|(with_reducible apply aHC;all_goals (try with_reducible assumption))|(with_reducible apply aJX;all_goals (try with_reducible assumption))|(with_reducible apply aKi;all_goals (try with_reducible assumption)));(case hv=>exact rfl);(repeat (first|assumption|exact st_c|(apply st_rK;assumption;exact mT)|(apply st_cK;assumption;exact mT)|exact aKn _|exact mT|exact zR _|exact rfl|exact iC (by assumption)));exact hk.k;first|done|fail):p:=h ⟨k⟩
set_option maxRecDepth 100000 in
theorem eB {p:Prop} (h:p:=by
 repeat' (first
  |(apply st_i;exact dB;exact dB;exact fJ;exact fJ;exact rfl;exact st_S;exact rfl;intro z z zr;first|(have zr:=st_pd zr;subst zr)|obtain ⟨z,z,rfl,z⟩:=zr|obtain ⟨z,z,z,z,rfl,z,z⟩:=zr|obtain ⟨z,z,z,z,z,z,rfl,z,z,z⟩:=zr|obtain ⟨z,z,z,z,z,z,z,z,rfl,z,z,z,z⟩:=zr)
  |(apply st_iQ;exact dB;exact dB;exact fJ;exact fJ;exact rfl;exact st_S;exact rfl;intro z z zr;first|(have zr:=st_pd zr;subst zr)|obtain ⟨z,z,rfl,z⟩:=zr|obtain ⟨z,z,z,z,rfl,z,z⟩:=zr|obtain ⟨z,z,z,z,z,z,rfl,z,z,z⟩:=zr|obtain ⟨z,z,z,z,z,z,z,z,rfl,z,z,z,z⟩:=zr)
  |(apply st_iE;exact rfl;exact dB;exact dB;exact fJ;exact fJ;exact rfl;exact st_S;exact rfl;intro z z zr;first|(have zr:=st_pd zr;subst zr)|obtain ⟨z,z,rfl,z⟩:=zr|obtain ⟨z,z,z,z,rfl,z,z⟩:=zr|obtain ⟨z,z,z,z,z,z,rfl,z,z,z⟩:=zr|obtain ⟨z,z,z,z,z,z,z,z,rfl,z,z,z,z⟩:=zr)
  |(apply VO;exact st_V)
  |(apply VQ;intro _ _;exact st_V)
  |(apply bF)
  |with_reducible apply aB
  |with_reducible apply bA
  |(apply aO)
  |(apply aQ)
  |(apply aW)
  |(apply cJ)
  |(apply V_condT;exact dB;exact aKh)
  |(apply V_condF;exact dB;exact aKh)
  |with_reducible apply bB
  |with_reducible apply bP
  |(with_reducible apply blockQ_ne;exact rfl)
  |(apply V_onT;exact rfl;exact dB;exact aKh)
  |(apply V_onF;exact rfl;exact dB;exact aKh)
  |(apply V_offF;exact rfl;exact dB;exact aKh)
  |(apply V_offT;exact rfl;exact dB;exact aKh)
  |(apply Q_onT;exact rfl;exact dB;exact aKh)
  |(apply Q_onF;exact rfl;exact dB;exact aKh)
  |(apply Q_offF;exact rfl;exact dB;exact aKh)
  |(apply Q_offT;exact rfl;exact dB;exact aKh)
  |(apply dO;exact rfl;exact dB)
  |(apply cF;exact rfl;exact dB)
  |(apply V_WE;exact rfl;rintro _ ⟨_,_⟩;exact st_V)
  |(apply V_WT;exact rfl;intro _;exact st_V)
  |apply bM
  |with_reducible apply aZ
  |with_reducible apply cD
  |exact st_X
  |(apply bI;exact rfl;exact rfl;refine aJU hm (fun z=>?_);subst z;exact st_X)
  |(apply vR;exact rfl;exact rfl;exact rfl;refine aJU hm (fun z=>?_);subst z;exact st_X)
  |(apply retQ_3;exact rfl;exact rfl;exact rfl;exact rfl;refine aJU hm (fun z=>?_);subst z;exact st_X)
  |(apply vF;exact rfl;exact aMi;refine aJU hm (fun z=>?_);subst z;exact st_X)
  |(apply retQ_m2;exact rfl;exact aMi;exact aMi;refine aJU hm (fun z=>?_);subst z;exact st_X)
  |(apply retQ_m3;exact rfl;exact aMi;exact aMi;exact aMi;refine aJU hm (fun z=>?_);subst z;exact st_X)
  |(apply retQ_0n;exact rfl;refine aJU hm (fun z=>?_);subst z;exact st_X)
  |(apply retQ_0;exact rfl;refine aJU hm (fun z=>?_);subst z;exact st_X)
  |(refine st_I st_f ?_)
  |intro (hm:(_:Option _)=some _)
  |intro (hr:∀ r',_=Sum.inr r'->_)
  |(with_reducible refine aDA fun z=>?_)
  |(with_reducible refine aDB ?_)
  |(intro (zv:(_:Value)=_);subst zv)
  |intro z
  |((with_reducible apply st_we);first|exact ⟨_,by assumption⟩|exact ⟨_,aI.weakK (by assumption) mT⟩)
  |(apply fT;exact rfl)
  |(apply yH;exact rfl)
  |apply gD
  |(have zq:=hr _ (Option.some.inj hm).symm;subst zq;have hm:=ho;clear hr ho;try dsimp only at hm)
  |obtain ⟨z,z,hm⟩:=aC hm
  |exact st_no hm
  |refine st_a (fun z z z=>?_)
  |refine st_s (fun z z=>?_)
  |refine st_x (fun z z z=>?_)
  |refine st_ba (by with_reducible assumption) (fun z z z=>?_)
  |refine st_b (T:=24) ([]:List aY) (fun z z z=>?_)
  |refine st_b (T:=25) ([]:List Edge) (fun z z z=>?_)
  |refine st_b (T:=28) ([]:List (List Int)) (fun z z z=>?_)
  |refine st_b (T:=63) ([]:List Int) (fun z z z=>?_)
  |refine st_b (T:=91) ([]:List (List Bool)) (fun z z z=>?_)
  |refine st_p (fun z z z z=>?_)
  |(apply st_q2;exact dB;exact dB;(first|assumption|(apply st_rK;assumption;exact mT));assumption;exact st_M;assumption;exact st_S;exact st_u;exact st_e;exact rfl;exact rfl;exact rfl;exact rfl;intro z z z z)
  |(apply dU;intro z z)
  |refine st_k ?_
  |(apply dA)
  |(refine aEs ?_;first|(intro z z;repeat (first|(with_reducible refine aDA fun z=>?_)|with_reducible refine aDB ?_|(intro (zv:(_:Value)=_);subst zv)|intro z))|skip)
  |((first|(apply qJ;(with_reducible assumption);exact .head;(first|exact zR _|exact mT);intro zK zh zr zs bk)|(apply qK;(with_reducible assumption);exact .head;intro zK zh zr zs bk));refine aEs ?_;(first|(intro z z;repeat (first|(with_reducible refine aDA fun z=>?_)|with_reducible refine aDB ?_|(intro (zv:(_:Value)=_);subst zv)|intro z))|skip);(have z:=bk _ _ (by with_reducible assumption);clear bk))
  |((first|(apply qJ;(with_reducible assumption);exact zt1;(first|exact zR _|exact mT);intro zK zh zr zs bk)|(apply qK;(with_reducible assumption);exact zt1;intro zK zh zr zs bk));refine aEs ?_;(first|(intro z z;repeat (first|(with_reducible refine aDA fun z=>?_)|with_reducible refine aDB ?_|(intro (zv:(_:Value)=_);subst zv)|intro z))|skip);(have z:=bk _ _ (by with_reducible assumption);clear bk))
  |((first|(apply qJ;(with_reducible assumption);exact zt2;(first|exact zR _|exact mT);intro zK zh zr zs bk)|(apply qK;(with_reducible assumption);exact zt2;intro zK zh zr zs bk));refine aEs ?_;(first|(intro z z;repeat (first|(with_reducible refine aDA fun z=>?_)|with_reducible refine aDB ?_|(intro (zv:(_:Value)=_);subst zv)|intro z))|skip);(have z:=bk _ _ (by with_reducible assumption);clear bk))
  |((first|(apply qJ;(with_reducible assumption);exact zt3;(first|exact zR _|exact mT);intro zK zh zr zs bk)|(apply qK;(with_reducible assumption);exact zt3;intro zK zh zr zs bk));refine aEs ?_;(first|(intro z z;repeat (first|(with_reducible refine aDA fun z=>?_)|with_reducible refine aDB ?_|(intro (zv:(_:Value)=_);subst zv)|intro z))|skip);(have z:=bk _ _ (by with_reducible assumption);clear bk))
  |((first|(apply qJ;(with_reducible assumption);exact zt4;(first|exact zR _|exact mT);intro zK zh zr zs bk)|(apply qK;(with_reducible assumption);exact zt4;intro zK zh zr zs bk));refine aEs ?_;(first|(intro z z;repeat (first|(with_reducible refine aDA fun z=>?_)|with_reducible refine aDB ?_|(intro (zv:(_:Value)=_);subst zv)|intro z))|skip);(have z:=bk _ _ (by with_reducible assumption);clear bk))
  |((first|(apply qJ;(with_reducible assumption);exact .head;(first|exact zR _|exact mT);intro zK zh zr zs bk)|(apply qK;(with_reducible assumption);exact .head;intro zK zh zr zs bk));(first|(apply qJ;(with_reducible assumption);exact .head;(first|exact zR _|exact mT);intro zK zh zr zs bk)|(apply qK;(with_reducible assumption);exact .head;intro zK zh zr zs bk));refine aEs ?_;(first|(intro z z;repeat (first|(with_reducible refine aDA fun z=>?_)|with_reducible refine aDB ?_|(intro (zv:(_:Value)=_);subst zv)|intro z))|skip);(have z:=bk _ _ (by with_reducible assumption);clear bk);(have z:=bk _ _ (by with_reducible assumption);clear bk))
  |((first|(apply qJ;(with_reducible assumption);exact zt1;(first|exact zR _|exact mT);intro zK zh zr zs bk)|(apply qK;(with_reducible assumption);exact zt1;intro zK zh zr zs bk));(first|(apply qJ;(with_reducible assumption);exact zt1;(first|exact zR _|exact mT);intro zK zh zr zs bk)|(apply qK;(with_reducible assumption);exact zt1;intro zK zh zr zs bk));refine aEs ?_;(first|(intro z z;repeat (first|(with_reducible refine aDA fun z=>?_)|with_reducible refine aDB ?_|(intro (zv:(_:Value)=_);subst zv)|intro z))|skip);(have z:=bk _ _ (by with_reducible assumption);clear bk);(have z:=bk _ _ (by with_reducible assumption);clear bk))
  |((first|(apply qJ;(with_reducible assumption);exact zt1;(first|exact zR _|exact mT);intro zK zh zr zs bk)|(apply qK;(with_reducible assumption);exact zt1;intro zK zh zr zs bk));(first|(apply qJ;(with_reducible assumption);exact .head;(first|exact zR _|exact mT);intro zK zh zr zs bk)|(apply qK;(with_reducible assumption);exact .head;intro zK zh zr zs bk));refine aEs ?_;(first|(intro z z;repeat (first|(with_reducible refine aDA fun z=>?_)|with_reducible refine aDB ?_|(intro (zv:(_:Value)=_);subst zv)|intro z))|skip);(have z:=bk _ _ (by with_reducible assumption);clear bk);(have z:=bk _ _ (by with_reducible assumption);clear bk))
  |((first|(apply qJ;(with_reducible assumption);exact zt2;(first|exact zR _|exact mT);intro zK zh zr zs bk)|(apply qK;(with_reducible assumption);exact zt2;intro zK zh zr zs bk));(first|(apply qJ;(with_reducible assumption);exact zt1;(first|exact zR _|exact mT);intro zK zh zr zs bk)|(apply qK;(with_reducible assumption);exact zt1;intro zK zh zr zs bk));refine aEs ?_;(first|(intro z z;repeat (first|(with_reducible refine aDA fun z=>?_)|with_reducible refine aDB ?_|(intro (zv:(_:Value)=_);subst zv)|intro z))|skip);(have z:=bk _ _ (by with_reducible assumption);clear bk);(have z:=bk _ _ (by with_reducible assumption);clear bk))
  |((first|(apply qJ;(with_reducible assumption);exact zt2;(first|exact zR _|exact mT);intro zK zh zr zs bk)|(apply qK;(with_reducible assumption);exact zt2;intro zK zh zr zs bk));(first|(apply qJ;(with_reducible assumption);exact zt1;(first|exact zR _|exact mT);intro zK zh zr zs bk)|(apply qK;(with_reducible assumption);exact zt1;intro zK zh zr zs bk));(first|(apply qJ;(with_reducible assumption);exact zt1;(first|exact zR _|exact mT);intro zK zh zr zs bk)|(apply qK;(with_reducible assumption);exact zt1;intro zK zh zr zs bk));refine aEs ?_;(first|(intro z z;repeat (first|(with_reducible refine aDA fun z=>?_)|with_reducible refine aDB ?_|(intro (zv:(_:Value)=_);subst zv)|intro z))|skip);(have z:=bk _ _ (by with_reducible assumption);clear bk);(have z:=bk _ _ (by with_reducible assumption);clear bk);(have z:=bk _ _ (by with_reducible assumption);clear bk))
  |((first|(apply qJ;(with_reducible assumption);exact .head;(first|exact zR _|exact mT);intro zK zh zr zs bk)|(apply qK;(with_reducible assumption);exact .head;intro zK zh zr zs bk));(first|(apply qJ;(with_reducible assumption);exact .head;(first|exact zR _|exact mT);intro zK zh zr zs bk)|(apply qK;(with_reducible assumption);exact .head;intro zK zh zr zs bk));(first|(apply qJ;(with_reducible assumption);exact .head;(first|exact zR _|exact mT);intro zK zh zr zs bk)|(apply qK;(with_reducible assumption);exact .head;intro zK zh zr zs bk));refine aEs ?_;(first|(intro z z;repeat (first|(with_reducible refine aDA fun z=>?_)|with_reducible refine aDB ?_|(intro (zv:(_:Value)=_);subst zv)|intro z))|skip);(have z:=bk _ _ (by with_reducible assumption);clear bk);(have z:=bk _ _ (by with_reducible assumption);clear bk);(have z:=bk _ _ (by with_reducible assumption);clear bk))
  |((first|(apply qJ;(with_reducible assumption);exact zt1;(first|exact zR _|exact mT);intro zK zh zr zs bk)|(apply qK;(with_reducible assumption);exact zt1;intro zK zh zr zs bk));(first|(apply qJ;(with_reducible assumption);exact zt1;(first|exact zR _|exact mT);intro zK zh zr zs bk)|(apply qK;(with_reducible assumption);exact zt1;intro zK zh zr zs bk));(first|(apply qJ;(with_reducible assumption);exact zt1;(first|exact zR _|exact mT);intro zK zh zr zs bk)|(apply qK;(with_reducible assumption);exact zt1;intro zK zh zr zs bk));refine aEs ?_;(first|(intro z z;repeat (first|(with_reducible refine aDA fun z=>?_)|with_reducible refine aDB ?_|(intro (zv:(_:Value)=_);subst zv)|intro z))|skip);(have z:=bk _ _ (by with_reducible assumption);clear bk);(have z:=bk _ _ (by with_reducible assumption);clear bk);(have z:=bk _ _ (by with_reducible assumption);clear bk))
  |((first|(apply qJ;(with_reducible assumption);exact zt3;(first|exact zR _|exact mT);intro zK zh zr zs bk)|(apply qK;(with_reducible assumption);exact zt3;intro zK zh zr zs bk));(first|(apply qJ;(with_reducible assumption);exact zt2;(first|exact zR _|exact mT);intro zK zh zr zs bk)|(apply qK;(with_reducible assumption);exact zt2;intro zK zh zr zs bk));(first|(apply qJ;(with_reducible assumption);exact zt2;(first|exact zR _|exact mT);intro zK zh zr zs bk)|(apply qK;(with_reducible assumption);exact zt2;intro zK zh zr zs bk));refine aEs ?_;(first|(intro z z;repeat (first|(with_reducible refine aDA fun z=>?_)|with_reducible refine aDB ?_|(intro (zv:(_:Value)=_);subst zv)|intro z))|skip);(have z:=bk _ _ (by with_reducible assumption);clear bk);(have z:=bk _ _ (by with_reducible assumption);clear bk);(have z:=bk _ _ (by with_reducible assumption);clear bk))
  |((first|(apply qJ;(with_reducible assumption);exact .head;(first|exact zR _|exact mT);intro zK zh zr zs bk)|(apply qK;(with_reducible assumption);exact .head;intro zK zh zr zs bk));(first|(apply qJ;(with_reducible assumption);exact .head;(first|exact zR _|exact mT);intro zK zh zr zs bk)|(apply qK;(with_reducible assumption);exact .head;intro zK zh zr zs bk));(first|(apply qJ;(with_reducible assumption);exact .head;(first|exact zR _|exact mT);intro zK zh zr zs bk)|(apply qK;(with_reducible assumption);exact .head;intro zK zh zr zs bk));(first|(apply qJ;(with_reducible assumption);exact .head;(first|exact zR _|exact mT);intro zK zh zr zs bk)|(apply qK;(with_reducible assumption);exact .head;intro zK zh zr zs bk));refine aEs ?_;(first|(intro z z;repeat (first|(with_reducible refine aDA fun z=>?_)|with_reducible refine aDB ?_|(intro (zv:(_:Value)=_);subst zv)|intro z))|skip);(have z:=bk _ _ (by with_reducible assumption);clear bk);(have z:=bk _ _ (by with_reducible assumption);clear bk);(have z:=bk _ _ (by with_reducible assumption);clear bk);(have z:=bk _ _ (by with_reducible assumption);clear bk))
  |((first|(with_reducible apply st_g0)|(with_reducible apply st_g1)|(with_reducible apply st_g2)|(with_reducible apply st_g3)|(apply st_g4;exact rfl));rcases aH hm with ⟨z,hm⟩|⟨z,hm⟩))):p:=h
end Gv
