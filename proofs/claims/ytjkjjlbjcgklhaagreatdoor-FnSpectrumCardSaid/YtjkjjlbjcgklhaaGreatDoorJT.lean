/- Readings of the program's data; what is known of its types. -/
import Derived.Test.YtjkjjlbjcgklhaaGreatDoorJYS
import Derived.Test.YtjkjjlbjcgklhaaGreatDoorProg
set_option linter.all false
namespace Gv
open Go.Value renaming slice→zS
open Go Go.Proofs Go.Proofs.Tryz
instance:eG Edge where
 sz:=3
 enc d:=[i64 d.F,i64 d.B,i64 d.To]
 len _:=rfl
 one _ v h:=by simp at h;rcases h with rfl|rfl|rfl<;>rfl
 pos:=by decide
instance:El aO where
 sz:=4
 rd K cs d:=∃ (a0:Option Addr) (c0:Nat) (a1:Option Addr) (c1:Nat),cs=[i64 d.N,i64 d.I,zS a0 d.L.length c0,zS a1 d.E.length c1]/\aT K a0 c0 d.L/\aT K a1 c1 d.E
 mono:=fun h ⟨a0,c0,a1,c1,e,h0,h1⟩=>⟨a0,c0,a1,c1,e,h0.mono h,h1.mono h⟩
 len:=fun ⟨_,_,_,_,e,_⟩=>by rw [e];rfl
 one:=fun ⟨_,_,_,_,e,_⟩ v hv=>by rw [e] at hv;simp at hv;rcases hv with rfl|rfl|rfl|rfl<;>rfl
 pos:=by decide
instance:eG nX where
 sz:=3
 enc d:=[i64 d.from_,str d.label,i64 d.to_]
 len _:=rfl
 one _ v h:=by simp at h;rcases h with rfl|rfl|rfl<;>rfl
 pos:=by decide
instance:El aP where
 sz:=3
 rd K cs d:=∃ (a0:Option Addr) (c0:Nat),cs=[i64 d.a,i64 d.b,zS a0 d.trace.length c0]/\aT K a0 c0 d.trace
 mono:=fun h ⟨a0,c0,e,h0⟩=>⟨a0,c0,e,h0.mono h⟩
 len:=fun ⟨_,_,e,_⟩=>by rw [e];rfl
 one:=fun ⟨_,_,e,_⟩ v hv=>by rw [e] at hv;simp at hv;rcases hv with rfl|rfl|rfl<;>rfl
 pos:=by decide
theorem dG:SLT prog 24 9 1:=⟨runUnderlying24,sizeOf9⟩
theorem sc_9:SC prog 9:=⟨isAgg9,sizeOf9⟩
theorem gD:SLT prog 66 2 1:=⟨runUnderlying66,sizeOf2⟩
theorem aGc:EZ prog 2 [i64 0]:=⟨⟨_,zeroValue2,rfl⟩,⟨t2,typeInfo2,by show (8:Nat)<=128;decide,rfl,by kernel_rfl,_,rfl,rfl⟩⟩
theorem zF:EZ prog 9 [str []]:=⟨⟨_,zeroValue9,rfl⟩,⟨t9,typeInfo9,by show (16:Nat)<=128;decide,rfl,by kernel_rfl,_,rfl,rfl⟩⟩
theorem jE:SC prog 2:=⟨isAgg2,sizeOf2⟩
theorem aHp:FA prog 27 0 0:=⟨_,_,_,runUnderlying27,rfl,sizeOf2,rfl,rfl⟩
theorem aKT:FA prog 61 0 0:=⟨_,_,_,runUnderlying61,rfl,sizeOf2,rfl,rfl⟩
theorem aJh:FA prog 61 1 1:=⟨_,_,_,runUnderlying61,rfl,sizeOf2,rfl,rfl⟩
theorem aKU:FA prog 61 2 2:=⟨_,_,_,runUnderlying61,rfl,sizeOf2,rfl,rfl⟩
theorem aQs:SLT prog 179 3 1:=⟨runUnderlying179,sizeOf3⟩
theorem ez_3:EZ prog 3 [i64 0]:=⟨⟨_,zeroValue3,rfl⟩,⟨t3,typeInfo3,by show (8:Nat)<=128;decide,rfl,by kernel_rfl,_,rfl,rfl⟩⟩
theorem sc_3:SC prog 3:=⟨isAgg3,sizeOf3⟩
theorem fF:AG prog 27 4:=⟨isAgg27,sizeOf27⟩
theorem aHq:FA prog 27 1 1:=⟨_,_,_,runUnderlying27,rfl,sizeOf2,rfl,rfl⟩
theorem vW:FA prog 27 2 2:=⟨_,_,_,runUnderlying27,rfl,sizeOf24,rfl,rfl⟩
theorem aBv:SC prog 24:=⟨isAgg24,sizeOf24⟩
theorem aQt:FA prog 27 3 3:=⟨_,_,_,runUnderlying27,rfl,sizeOf25,rfl,rfl⟩
theorem sc_25:SC prog 25:=⟨isAgg25,sizeOf25⟩
theorem lH:SLT prog 25 61 3:=⟨runUnderlying25,sizeOf61⟩
theorem ag_61:AG prog 61 3:=⟨isAgg61,sizeOf61⟩
theorem aEE:EZ prog 61 [i64 0,i64 0,i64 0]:=⟨⟨_,zeroValue61,rfl⟩,⟨t61,typeInfo61,by show (24:Nat)<=128;decide,rfl,by kernel_rfl,_,rfl,rfl⟩⟩
theorem sc_93:SC prog 93:=⟨isAgg93,sizeOf93⟩
theorem aEF:ART prog 129 2 2:=⟨runUnderlying129,isAgg2,sizeOf2⟩
theorem aHr:∃ z,(∀ w,(zeroValue 129).run prog w=.ok z w)/\z.cells=[i64 0,i64 0].toArray:=⟨_,zeroValue129,rfl⟩
theorem aGd:aIi prog 129 (Int × Int):=aTm runUnderlying129 runUnderlying2 ⟨isAgg2,sizeOf2⟩
theorem ag_129:AG prog 129 2:=⟨isAgg129,sizeOf129⟩
theorem bs_150:BS prog 150 [(0,4),(4,4),(8,1)] [i64 0,i64 0,zS none 0 0,zS none 0 0,i64 0,i64 0,zS none 0 0,zS none 0 0,Value.nilFunc]:=⟨⟨_,zeroValue150,rfl⟩,_,runUnderlying150,fun w=>by simp [sizeOf27,sizeOf51]⟩
theorem ag_150:AG prog 150 9:=⟨isAgg150,sizeOf150⟩
theorem aRR:FA prog 150 0 0:=⟨_,_,_,runUnderlying150,rfl,sizeOf27,rfl,rfl⟩
theorem aRS:FA prog 150 1 4:=⟨_,_,_,runUnderlying150,rfl,sizeOf27,rfl,rfl⟩
theorem fa_150_2:FA prog 150 2 8:=⟨_,_,_,runUnderlying150,rfl,sizeOf51,rfl,rfl⟩
theorem sc_51:SC prog 51:=⟨isAgg51,sizeOf51⟩
theorem sl_22:SLT prog 22 5 1:=⟨runUnderlying22,sizeOf5⟩
theorem bs_59:BS prog 59 [(0,1),(1,1),(2,1)] [zS none 0 0,i64 0,Value.int .u64 0]:=⟨⟨_,zeroValue59,rfl⟩,_,runUnderlying59,fun w=>by simp [sizeOf22,sizeOf3,sizeOf57]⟩
theorem aPy:BS prog 61 [(0,1),(1,1),(2,1)] [i64 0,i64 0,i64 0]:=⟨⟨_,zeroValue61,rfl⟩,_,runUnderlying61,fun w=>by simp [sizeOf2]⟩
theorem zH:BS prog 27 [(0,1),(1,1),(2,1),(3,1)] [i64 0,i64 0,zS none 0 0,zS none 0 0]:=⟨⟨_,zeroValue27,rfl⟩,_,runUnderlying27,fun w=>by simp [sizeOf2,sizeOf24,sizeOf25]⟩
theorem gP:SLT prog 103 4 1:=⟨runUnderlying103,sizeOf4⟩
theorem ez_4:EZ prog 4 [Value.bool false]:=⟨⟨_,zeroValue4,rfl⟩,⟨t4,typeInfo4,by show (1:Nat)<=128;decide,rfl,by kernel_rfl,_,rfl,rfl⟩⟩
theorem sc_4:SC prog 4:=⟨isAgg4,sizeOf4⟩
theorem jB:SLT prog 43 66 1:=⟨runUnderlying43,sizeOf66⟩
theorem vX:EZ prog 66 [zS none 0 0]:=⟨⟨_,zeroValue66,rfl⟩,⟨t66,typeInfo66,by show (24:Nat)<=128;decide,rfl,by kernel_rfl,_,rfl,rfl⟩⟩
theorem aHK:SC prog 66:=⟨isAgg66,sizeOf66⟩
theorem fa_59_1:FA prog 59 1 1:=⟨_,_,_,runUnderlying59,rfl,sizeOf3,rfl,rfl⟩
theorem fa_59_0:FA prog 59 0 0:=⟨_,_,_,runUnderlying59,rfl,sizeOf22,rfl,rfl⟩
theorem sc_22:SC prog 22:=⟨isAgg22,sizeOf22⟩
theorem sc_5:SC prog 5:=⟨isAgg5,sizeOf5⟩
theorem fa_59_2:FA prog 59 2 2:=⟨_,_,_,runUnderlying59,rfl,sizeOf57,rfl,rfl⟩
theorem sc_57:SC prog 57:=⟨isAgg57,sizeOf57⟩
theorem sl_124:SLT prog 124 139 3:=⟨runUnderlying124,sizeOf139⟩
theorem ag_139:AG prog 139 3:=⟨isAgg139,sizeOf139⟩
theorem fa_139_0:FA prog 139 0 0:=⟨_,_,_,runUnderlying139,rfl,sizeOf2,rfl,rfl⟩
theorem aRT:FA prog 139 1 1:=⟨_,_,_,runUnderlying139,rfl,sizeOf9,rfl,rfl⟩
theorem aRU:FA prog 139 2 2:=⟨_,_,_,runUnderlying139,rfl,sizeOf2,rfl,rfl⟩
theorem aQv:BS prog 139 [(0,1),(1,1),(2,1)] [i64 0,str [],i64 0]:=⟨⟨_,zeroValue139,rfl⟩,_,runUnderlying139,fun w=>by simp [sizeOf2,sizeOf9]⟩
theorem ez_139:EZ prog 139 [i64 0,str [],i64 0]:=⟨⟨_,zeroValue139,rfl⟩,⟨t139,typeInfo139,by show (32:Nat)<=128;decide,rfl,by kernel_rfl,_,rfl,rfl⟩⟩
theorem aND:SLT prog 143 24 1:=⟨runUnderlying143,sizeOf24⟩
theorem ez_24:EZ prog 24 [zS none 0 0]:=⟨⟨_,zeroValue24,rfl⟩,⟨t24,typeInfo24,by show (24:Nat)<=128;decide,rfl,by kernel_rfl,_,rfl,rfl⟩⟩
theorem ko_2:aIi prog 2 Int:=keyOk_int runUnderlying2
theorem sc_103:SC prog 103:=⟨isAgg103,sizeOf103⟩
theorem bs_167:BS prog 167 [(0,1),(1,1),(2,1),(3,1)] [zS none 0 0,Value.map none,zS none 0 0,Value.nilFunc]:=⟨⟨_,zeroValue167,rfl⟩,_,runUnderlying167,fun w=>by simp [sizeOf120,sizeOf124,sizeOf165,sizeOf43]⟩
theorem sc_164:SC prog 164:=⟨isAgg164,sizeOf164⟩
theorem fa_167_3:FA prog 167 3 3:=⟨_,_,_,runUnderlying167,rfl,sizeOf120,rfl,rfl⟩
theorem sc_120:SC prog 120:=⟨isAgg120,sizeOf120⟩
theorem fa_167_1:FA prog 167 1 1:=⟨_,_,_,runUnderlying167,rfl,sizeOf165,rfl,rfl⟩
theorem sc_165:SC prog 165:=⟨isAgg165,sizeOf165⟩
theorem ko_9:aIi prog 9 aL:=keyOk_str runUnderlying9
theorem aRW:FA prog 167 0 0:=⟨_,_,_,runUnderlying167,rfl,sizeOf43,rfl,rfl⟩
theorem sc_43:SC prog 43:=⟨isAgg43,sizeOf43⟩
theorem fa_167_2:FA prog 167 2 2:=⟨_,_,_,runUnderlying167,rfl,sizeOf124,rfl,rfl⟩
theorem sc_124:SC prog 124:=⟨isAgg124,sizeOf124⟩
theorem aNa:FV prog 27 2 2:=⟨_,_,runUnderlying27,rfl,aBv,rfl⟩
theorem aEG:BS prog 127 [(0,1),(1,1),(2,1)] [i64 0,i64 0,zS none 0 0]:=⟨⟨_,zeroValue127,rfl⟩,_,runUnderlying127,fun w=>by simp [sizeOf2,sizeOf24]⟩
theorem oS:SLT prog 128 127 3:=⟨runUnderlying128,sizeOf127⟩
theorem tT:EZ prog 127 [i64 0,i64 0,zS none 0 0]:=⟨⟨_,zeroValue127,rfl⟩,⟨t127,typeInfo127,by show (40:Nat)<=128;decide,rfl,by kernel_rfl,_,rfl,rfl⟩⟩
theorem ag_127:AG prog 127 3:=⟨isAgg127,sizeOf127⟩
theorem aEH:FA prog 127 0 0:=⟨_,_,_,runUnderlying127,rfl,sizeOf2,rfl,rfl⟩
theorem aEI:FA prog 127 1 1:=⟨_,_,_,runUnderlying127,rfl,sizeOf2,rfl,rfl⟩
theorem aNE:FA prog 127 2 2:=⟨_,_,_,runUnderlying127,rfl,sizeOf24,rfl,rfl⟩
theorem st_61:prog.stoodInHeld 61=false:=by kernel_rfl
theorem eq_61 {x y:Edge}:EQT prog 61 [i64 x.F,i64 x.B,i64 x.To] [i64 y.F,i64 y.B,i64 y.To] (decide (x=y)):=by
 refine ⟨by kernel_rfl,fun w=>?_⟩
 have h2:∀ (a b:Int),(Op.equalIn 9999 2 (i64 a) (i64 b)).run prog w=.ok (a == b) w:=fun a b=>run_eqInI 9998 (runUnderlying2 w)
 have:Op.maxDepth=9999+1:=rfl
 unfold Op.equal
 rw [this]
 unfold Op.equalIn
 simp [runUnderlying61,st_61,part,h2,isAgg2]
 cases x;cases y
 simp
 repeat' split<;>simp_all
theorem Tryz_mixed:prog.follows .mixedOrders=true:=by kernel_rfl
abbrev zC (d:aO) (a:Option Addr) (c:Nat) (b:Option Addr) (e:Nat):List Value:=[i64 d.N,i64 d.I,Value.slice a d.L.length c,Value.slice b d.E.length e]
abbrev zCa (d:aO) (a:Option Addr) (c:Nat) (b:Option Addr) (e:Nat):Array Value:=#[i64 d.N,i64 d.I,Value.slice a d.L.length c,Value.slice b d.E.length e]
abbrev zG:List Value:=[i64 0,i64 0,Value.slice none 0 0,Value.slice none 0 0]
abbrev zGa:Array Value:=#[i64 0,i64 0,Value.slice none 0 0,Value.slice none 0 0]
abbrev zK:List Value:=[i64 0,i64 0,Value.slice none 0 0,Value.slice none 0 0,Value.slice none 0 0,Value.slice none 0 0]
abbrev zKa:Array Value:=#[i64 0,i64 0,Value.slice none 0 0,Value.slice none 0 0,Value.slice none 0 0,Value.slice none 0 0]
end Gv
namespace Gv
open Go.Value renaming slice→zS
open Gv.Hp renaming le_refl→zR
open Go Go.Proofs Go.Proofs.Tryz
theorem pW {p:Prop} (h:p:=by first|assumption|(apply st_cK;assumption;exact nD)):p:=h
theorem st_HR {p:Prop} (h:p:=by first|assumption|(apply st_rK;assumption;exact nD)):p:=h
theorem st_S {p:Prop} (h:p:=by with_reducible first|exact dG|exact gD|exact aQs|exact lH|exact sl_22|exact gP|exact jB|exact sl_124|exact aND|exact oS):p:=h
theorem aAF {p:Prop} (h:p:=by with_reducible first|exact sc_9|exact jE|exact sc_3|exact aBv|exact sc_25|exact sc_93|exact sc_51|exact sc_4|exact aHK|exact sc_22|exact sc_5|exact sc_57|exact sc_103|exact sc_164|exact sc_120|exact sc_165|exact sc_43|exact sc_124):p:=h
theorem aGe {p:Prop} (h:p:=by with_reducible first|exact fF|exact ag_61|exact ag_129|exact ag_150|exact ag_139|exact ag_127):p:=h
theorem st_F {p:Prop} (h:p:=by with_reducible first|exact aHp|exact aKT|exact aJh|exact aKU|exact aHq|exact vW|exact aQt|exact aRR|exact aRS|exact fa_150_2|exact fa_59_1|exact fa_59_0|exact fa_59_2|exact fa_139_0|exact aRT|exact aRU|exact fa_167_3|exact fa_167_1|exact aRW|exact fa_167_2|exact aEH|exact aEI|exact aNE):p:=h
theorem za_3:ZA prog 3 [i64 0]:=⟨_,zeroValue3,rfl⟩
theorem za_24:ZA prog 24 [zS none 0 0]:=⟨_,zeroValue24,rfl⟩
theorem za_27:ZA prog 27 [i64 0,i64 0,zS none 0 0,zS none 0 0]:=⟨_,zeroValue27,rfl⟩
theorem za_43:ZA prog 43 [zS none 0 0]:=⟨_,zeroValue43,rfl⟩
theorem za_61:ZA prog 61 [i64 0,i64 0,i64 0]:=⟨_,zeroValue61,rfl⟩
theorem za_66:ZA prog 66 [zS none 0 0]:=⟨_,zeroValue66,rfl⟩
theorem za_93:ZA prog 93 [Value.map none]:=⟨_,zeroValue93,rfl⟩
theorem za_103:ZA prog 103 [zS none 0 0]:=⟨_,zeroValue103,rfl⟩
theorem za_127:ZA prog 127 [i64 0,i64 0,zS none 0 0]:=⟨_,zeroValue127,rfl⟩
theorem za_129:ZA prog 129 [i64 0,i64 0]:=⟨_,zeroValue129,rfl⟩
theorem za_139:ZA prog 139 [i64 0,str ([]:aL),i64 0]:=⟨_,zeroValue139,rfl⟩
theorem za_150:ZA prog 150 [i64 0,i64 0,zS none 0 0,zS none 0 0,i64 0,i64 0,zS none 0 0,zS none 0 0,Value.nilFunc]:=⟨_,zeroValue150,rfl⟩
theorem za_164:ZA prog 164 [Value.pointer none]:=⟨_,zeroValue164,rfl⟩
theorem st_r {p:Prop} (h:p:=by with_reducible first|exact runUnderlying101|exact runUnderlying165|exact runUnderlying2|exact runUnderlying201|exact runUnderlying3|exact runUnderlying4|exact runUnderlying5|exact runUnderlying57|exact runUnderlying9|exact runUnderlying92|exact runUnderlying93):p:=h
theorem st_v {p:Prop} (h:p:=by with_reducible first|exact aNa):p:=h
theorem st_h {p:Prop} (h:p:=by with_reducible first|exact bs_150|exact bs_59|exact aPy|exact zH|exact aQv|exact bs_167|exact aEG):p:=h
theorem st_e {p:Prop} (h:p:=by with_reducible first|exact aGc|exact zF|exact ez_3|exact aEE|exact ez_4|exact vX|exact ez_139|exact ez_24|exact tT):p:=h
theorem st_u {p:Prop} (h:p:=by with_reducible first|exact underlying124|exact underlying128|exact underlying24|exact underlying25|exact underlying43|exact underlying66):p:=h
theorem st_z {p:Prop} (h:p:=by with_reducible first|exact sizeOf103|exact sizeOf124|exact sizeOf127|exact sizeOf129|exact sizeOf139|exact sizeOf150|exact sizeOf164|exact sizeOf2|exact sizeOf24|exact sizeOf25|exact sizeOf27|exact sizeOf3|exact sizeOf4|exact sizeOf43|exact sizeOf57|exact sizeOf61|exact sizeOf66|exact sizeOf9|exact sizeOf93):p:=h
theorem st_y {p:Prop} (h:p:=by with_reducible first|exact za_3|exact za_24|exact za_27|exact za_43|exact za_61|exact za_66|exact za_93|exact za_103|exact za_127|exact za_129|exact za_139|exact za_150|exact za_164):p:=h
theorem aLO {p:Prop} (h:p:=by first|exact V_moveC|exact V_assignC|(apply V_B;first|(apply V_add;exact bH;exact bH)|(apply V_sub;exact bH;exact bH)|(apply V_mul;exact bH;exact bH)|(apply V_lss;exact bH;exact bH)|(apply V_leq;exact bH;exact bH)|(apply V_gtr;exact bH;exact bH)|(apply V_geq;exact bH;exact bH)|(apply V_eql;exact bH;exact bH)|(apply V_neq;exact bH;exact bH)|(apply V_eqlS;exact bH;exact bH)|(apply V_neqS;exact bH;exact bH)|(apply V_lssS;exact bH;exact bH)|(apply V_leqS;exact bH;exact bH)|(apply V_gtrS;exact bH;exact bH)|(apply V_geqS;exact bH;exact bH))|exact V_moveF|exact V_assignF|(apply V_move;exact bH)|(apply V_assign;exact bH)|(apply V_fldP;exact bH;exact st_F)|(apply V_fldE;exact bH;exact pW;exact st_F)|(apply V_fldO;exact bH;exact eY;exact aKm;exact eY;exact st_F)|(apply V_L;first|(apply V_ldB;exact bH;exact eY;exact aKm;exact rfl;exact aAF)|(apply V_ldBG;exact bH;exact eY;exact aKm;exact aGe;exact st_D)|(apply aMs (t:=0);exact bH;exact pW;exact eY;exact rfl;exact aAF)|(apply aMs (t:=1);exact bH;exact pW;exact eY;exact rfl;exact aAF)|(apply aMs (t:=2);exact bH;exact pW;exact eY;exact rfl;exact aAF)|(apply aMs (t:=3);exact bH;exact pW;exact eY;exact rfl;exact aAF)|(apply aMs (t:=4);exact bH;exact pW;exact eY;exact rfl;exact aAF)|(apply aMs (t:=5);exact bH;exact pW;exact eY;exact rfl;exact aAF)|(apply aMs (t:=6);exact bH;exact pW;exact eY;exact rfl;exact aAF)|(apply aMs (t:=7);exact bH;exact pW;exact eY;exact rfl;exact aAF)|(apply aIl (t:=0);exact bH;exact pW;exact eY;exact aGe;exact rfl;exact rfl)|(apply aIl (t:=1);exact bH;exact pW;exact eY;exact aGe;exact rfl;exact rfl)|(apply aIl (t:=2);exact bH;exact pW;exact eY;exact aGe;exact rfl;exact rfl)|(apply aIl (t:=3);exact bH;exact pW;exact eY;exact aGe;exact rfl;exact rfl)|(apply aIl (t:=4);exact bH;exact pW;exact eY;exact aGe;exact rfl;exact rfl)|(apply aIl (t:=5);exact bH;exact pW;exact eY;exact aGe;exact rfl;exact rfl)|(apply aIl (t:=6);exact bH;exact pW;exact eY;exact aGe;exact rfl;exact rfl)|(apply aIl (t:=7);exact bH;exact pW;exact eY;exact aGe;exact rfl;exact rfl)|(apply V_ldO (t:=0);exact bH;exact eY;exact aKm;exact eY;exact rfl;exact rfl;exact aAF)|(apply V_ldO (t:=1);exact bH;exact eY;exact aKm;exact eY;exact rfl;exact rfl;exact aAF)|(apply V_ldO (t:=2);exact bH;exact eY;exact aKm;exact eY;exact rfl;exact rfl;exact aAF)|(apply V_ldO (t:=3);exact bH;exact eY;exact aKm;exact eY;exact rfl;exact rfl;exact aAF)|(apply V_ldO (t:=4);exact bH;exact eY;exact aKm;exact eY;exact rfl;exact rfl;exact aAF)|(apply V_ldOG (t:=0);exact bH;exact eY;exact aKm;exact eY;exact rfl;exact aGe;exact rfl;exact rfl)|(apply V_ldOG (t:=1);exact bH;exact eY;exact aKm;exact eY;exact rfl;exact aGe;exact rfl;exact rfl)|(apply V_ldOG (t:=2);exact bH;exact eY;exact aKm;exact eY;exact rfl;exact aGe;exact rfl;exact rfl)|(apply aMu (t:=0);exact bH;exact eY;exact eY;exact nD;exact rfl;exact aAF)|(apply aMu (t:=1);exact bH;exact eY;exact eY;exact nD;exact rfl;exact aAF)|(apply aMu (t:=2);exact bH;exact eY;exact eY;exact nD;exact rfl;exact aAF)|(apply aMu (t:=3);exact bH;exact eY;exact eY;exact nD;exact rfl;exact aAF)|(apply aMu (t:=4);exact bH;exact eY;exact eY;exact nD;exact rfl;exact aAF)|(apply aMu (t:=5);exact bH;exact eY;exact eY;exact nD;exact rfl;exact aAF)|(apply aMu (t:=6);exact bH;exact eY;exact eY;exact nD;exact rfl;exact aAF)|(apply aMu (t:=7);exact bH;exact eY;exact eY;exact nD;exact rfl;exact aAF)|(apply aQo (t:=0);exact bH;exact eY;exact eY;exact nD;exact aGe;exact rfl;exact rfl)|(apply aQo (t:=1);exact bH;exact eY;exact eY;exact nD;exact aGe;exact rfl;exact rfl)|(apply aQo (t:=2);exact bH;exact eY;exact eY;exact nD;exact aGe;exact rfl;exact rfl)|(apply aQo (t:=3);exact bH;exact eY;exact eY;exact nD;exact aGe;exact rfl;exact rfl)|(apply aMt (t:=0);exact eY;exact pW;exact bH;exact rfl;exact aAF)|(apply aMt (t:=1);exact eY;exact pW;exact bH;exact rfl;exact aAF)|(apply aMt (t:=2);exact eY;exact pW;exact bH;exact rfl;exact aAF)|(apply aMt (t:=3);exact eY;exact pW;exact bH;exact rfl;exact aAF)|(apply aMt (t:=4);exact eY;exact pW;exact bH;exact rfl;exact aAF)|(apply aMt (t:=5);exact eY;exact pW;exact bH;exact rfl;exact aAF)|(apply aMt (t:=6);exact eY;exact pW;exact bH;exact rfl;exact aAF)|(apply aMt (t:=7);exact eY;exact pW;exact bH;exact rfl;exact aAF)|(apply aQn (t:=0);exact eY;exact pW;exact bH;exact aGe;exact rfl;exact rfl)|(apply aQn (t:=1);exact eY;exact pW;exact bH;exact aGe;exact rfl;exact rfl)|(apply aQn (t:=2);exact eY;exact pW;exact bH;exact aGe;exact rfl;exact rfl)|(apply aQn (t:=3);exact eY;exact pW;exact bH;exact aGe;exact rfl;exact rfl))|(apply V_lenS;exact st_S;exact bH)|(apply V_nilE;exact bH;exact pW)|(apply V_nilP;exact bH)|(apply V_nilO;exact bH;exact eY;exact aKm;exact eY)|(apply V_ixE;exact bH;exact bH;exact st_HR;exact eY;exact rfl;exact st_S;exact rfl)|(apply V_ixO;exact bH;exact bH;exact eY;exact aKm;exact eY;exact rfl;exact st_S;exact rfl)|(apply V_extract;exact bH;exact rfl)|(apply V_pickT;exact bH;exact zD;exact bH)|(apply V_pickF;exact bH;exact zD;exact bH)|(apply V_not;exact bH)|(apply V_lenStr;exact st_r;exact bH)|(apply V_ixS;exact st_r;exact bH;exact bH;exact eY)|(apply V_conv64;exact st_r;exact bH;exact ⟨_,st_r⟩)|(apply V_convu64;exact st_r;exact bH;exact ⟨_,st_r⟩)|(apply V_rem;exact bH;exact bH;exact eY)|(apply V_cat;exact bH;exact bH;exact eY)|(apply V_neqB;exact st_r;exact bH;exact bH)|(apply V_u64add;exact bH;exact bH)|(apply V_u64mul;exact bH;exact bH)|(apply V_shrU;exact bH;exact bH;exact eY)|(apply V_andU;exact bH;exact bH)|(apply V_slSL;exact st_r;exact bH;exact bH;exact eY)|(apply V_slSH;exact st_r;exact bH;exact bH;exact eY)|(apply V_isNil;exact st_S;exact bH;exact rfl)|(apply V_field;exact st_v;exact bH;exact rfl)|(apply V_build;exact st_h;exact rfl;exact (by kernel_rfl))|(apply aTt;exact rfl)):p:=h
theorem kP {P:Program} {n:Nat} {f:Nat->Value} {w:World} {ty:TypeId} {pos:String} {af:Array Go.Edge} {C:World->Prop} {R:(Nat->Value)->World->Prop} {os:List Oper} {d:Nat} {op:Op} {v:Value} {bs:List Nat} {m:Nat} {listed:Array Bool} (i:Nat) (h:WA P n os.toArray C bs R m (listed.setIfInBounds i true) (upd f d v) w) (hi:aDf os i=some ⟨some d,op,ty,pos,af,none⟩:=by exact rfl) (hB:lookB os.toArray bs listed i=true:=by kernel_rfl) (hC:C w:=by first|exact ⟨_,by assumption⟩|exact ⟨_,aD.weakK (by assumption) nD⟩) (hr:∀ w,C w->EX P f op v d ty pos af w:=by rintro _ ⟨_,_⟩;exact aLO):WA P n os.toArray C bs R (m+1) listed f w:=V_WA hi hB hC hr h
theorem eU {p q:Prop} (k:q) (h:Hd q->p:=by
 intro hk
 first
  |(apply VO;exact aLO)
  |(apply VQ;intro _ _;exact aLO)
  |(apply aM)
  |with_reducible apply aF
  |with_reducible apply oJ
  |(apply bM)
  |(apply cG)
  |(apply eJ)
  |(apply aEz)
  |(apply aQp;exact bH;exact zD)
  |(apply aQq;exact bH;exact zD)
  |with_reducible apply oP
  |with_reducible apply yW
  |(with_reducible apply aLE;exact rfl)
  |(apply V_onT;exact rfl;exact bH;exact zD)
  |(apply V_onF;exact rfl;exact bH;exact zD)
  |(apply V_offF;exact rfl;exact bH;exact zD)
  |(apply V_offT;exact rfl;exact bH;exact zD)
  |(apply Q_onT;exact rfl;exact bH;exact zD)
  |(apply Q_onF;exact rfl;exact bH;exact zD)
  |(apply Q_offF;exact rfl;exact bH;exact zD)
  |(apply Q_offT;exact rfl;exact bH;exact zD)
  |(apply wF;exact rfl;exact bH)
  |(apply qO;exact rfl;exact bH)
  |(apply V_WE;exact rfl;rintro _ ⟨_,_⟩;exact aLO)
  |(apply V_WT;exact rfl;intro _;exact aLO)
 exact hk.k):p:=h ⟨k⟩
theorem aC {p q:Prop} (k:q) (h:Hd q->p:=by
 intro hk
 repeat (first
  |(apply VO;exact aLO)
  |(apply VQ;intro _ _;exact aLO)
  |(apply aM)
  |with_reducible apply aF
  |with_reducible apply oJ
  |(apply bM)
  |(apply cG)
  |(apply eJ)
  |(apply aEz)
  |(apply aQp;exact bH;exact zD)
  |(apply aQq;exact bH;exact zD)
  |with_reducible apply oP
  |with_reducible apply yW
  |(with_reducible apply aLE;exact rfl)
  |(apply V_onT;exact rfl;exact bH;exact zD)
  |(apply V_onF;exact rfl;exact bH;exact zD)
  |(apply V_offF;exact rfl;exact bH;exact zD)
  |(apply V_offT;exact rfl;exact bH;exact zD)
  |(apply Q_onT;exact rfl;exact bH;exact zD)
  |(apply Q_onF;exact rfl;exact bH;exact zD)
  |(apply Q_offF;exact rfl;exact bH;exact zD)
  |(apply Q_offT;exact rfl;exact bH;exact zD)
  |(apply wF;exact rfl;exact bH)
  |(apply qO;exact rfl;exact bH)
  |(apply V_WE;exact rfl;rintro _ ⟨_,_⟩;exact aLO)
  |(apply V_WT;exact rfl;intro _;exact aLO))
 exact hk.k):p:=h ⟨k⟩
theorem st_call {p:Prop} (h:p:=by with_reducible first|exact call4|exact call5|exact call6|exact call7|exact call8|exact call9|exact call10|exact call11|exact call12|exact call13|exact call14|exact call15|exact call16|exact call17|exact call18|exact call19|exact call20|exact call21|exact call22|exact call23|exact call24|exact call25|exact call26|exact call27|exact call28|exact call29|exact call30|exact call31|exact call32|exact call33|exact call34|exact call35|exact call36|exact call37|exact call38|exact call39|exact call40|exact call41|exact call42|exact call43|exact call44|exact call45|exact call46|exact call47|exact call48|exact call49|exact call50|exact call51|exact call52|exact call53|exact call54|exact call55|exact call56|exact call57|exact call58|exact call59|exact call60|exact call61|exact call62|exact call63|exact call64|exact call65|exact call66|exact call67|exact call68|exact call69|exact call70|exact call71|exact call72|exact call73|exact call74|exact call75|exact call76|exact call77|exact call78|exact call79|exact call80|exact call81|exact call82|exact call83|exact call84|exact call85|exact call86|exact call87|exact call88|exact call89|exact call90|exact call91|exact call92|exact call93|exact call94|exact call95|exact call96|exact call97|exact call98|exact call99|exact call100|exact call101|exact call102|exact call103|exact call104|exact call105|exact call106|exact call107|exact call108|exact call109|exact call111|exact call112|exact call113|exact call114|exact call115|exact call116|exact call117|exact call118|exact call119|exact call120|exact call121|exact call122|exact call123|exact call124|exact call125|exact call126|exact call127|exact call128|exact call131|exact call132|exact call133|exact call134|exact call135|exact call136|exact call137|exact call138|exact call139|exact call140|exact call141|exact call142|exact call143|exact call144|exact call145|exact call146|exact call147|exact call148|exact call149|exact call150|exact call151|exact call152|exact call153|exact call154|exact call155|exact call157|exact call159|exact call160|exact call161|exact call162|exact call163|exact call164|exact call165|exact call166|exact call178|exact call179|exact call180|exact call181|exact call182|exact call183|exact call189|exact call191|exact call192|exact call193|exact call211|exact call212|exact call218|exact call219|exact call229|exact call230|exact call231|exact call232|exact call259):p:=h
theorem st_f {p:Prop} (h:p:=by with_reducible first|exact func3|exact func4|exact func5|exact func6|exact func7|exact func8|exact func9|exact func10|exact func11|exact func12|exact func13|exact func14|exact func15|exact func16|exact func17|exact func18|exact func19|exact func20|exact func21|exact func22|exact func23|exact func24|exact func25|exact func26|exact func27|exact func28|exact func29|exact func30|exact func31|exact func32|exact func33|exact func34|exact func35|exact func36|exact func37|exact func38|exact func39|exact func40|exact func41|exact func42|exact func43|exact func44|exact func45|exact func46|exact func47|exact func48|exact func49|exact func50|exact func51|exact func52|exact func53|exact func54|exact func55|exact func56|exact func57|exact func58|exact func59|exact func60|exact func61|exact func62|exact func63|exact func64|exact func65|exact func66|exact func67|exact func68|exact func69|exact func70|exact func71|exact func72|exact func73|exact func74|exact func75|exact func76|exact func77|exact func78|exact func79|exact func80|exact func81|exact func82|exact func83|exact func84|exact func85|exact func86|exact func87|exact func88|exact func89|exact func91|exact func92|exact func93|exact func94|exact func95|exact func96|exact func97|exact func98|exact func99|exact func100|exact func101|exact func102|exact func103|exact func104|exact func105|exact func106|exact func107|exact func108|exact func110|exact func111|exact func112|exact func114|exact func116|exact func117|exact func118|exact func119|exact func120|exact func121|exact func122|exact func123|exact func124|exact func125|exact func126|exact func127|exact func128|exact func131|exact func132|exact func133|exact func134|exact func135|exact func136|exact func137|exact func138|exact func139|exact func140|exact func141|exact func142|exact func143|exact func147|exact func149|exact func150|exact func151|exact func152|exact func153|exact func154|exact func155|exact func159|exact func160|exact func161|exact func162|exact func163|exact func164|exact func165|exact func166|exact func178|exact func179|exact func180|exact func181|exact func182|exact func183|exact func191|exact func192|exact func193|exact func211|exact func212|exact func219|exact func229|exact func230|exact func231|exact func232|exact func259):p:=h
theorem aPz {p:Prop} (h:p:=by first|((with_reducible apply aKg);exact rfl;exact rfl)|((with_reducible apply V_rvG);exact bH;exact eY;exact aKm;exact aGe;exact rfl;exact rfl)|((with_reducible apply V_rvB);exact bH;exact eY;exact aKm;exact aAF;exact rfl)):p:=h
theorem st_X {p:Prop} (h:p:=by
 (repeat (first
  |exact aU
  |(with_reducible apply Exists.intro)
  |((with_reducible apply And.intro);· first|exact aU|(with_reducible assumption)|exact (Option.some.inj (by with_reducible assumption)).symm|exact rfl|assumption|exact zR _|exact nD|exact tQ _|(apply st_rK;assumption;exact nD)|(apply st_cK;assumption;exact nD)|exact gX (by assumption))
  |(with_reducible assumption)|exact oK|exact rfl|assumption));first|done|fail):p:=h
theorem aEJ {p q:Prop} (k:q) (h:Hd q->p:=by
 intro hk
 (first|apply st_ca|apply st_cb|apply st_cq);exact st_call;(first|(with_reducible intro z z)|skip);(first|((with_reducible first|apply tF|apply oO|apply xD|apply aAC|apply fD|apply aEo|apply aIO|apply aGl|apply aPg|apply jX|apply aDw|apply lE|apply aCf|apply aFS|apply aCg|apply aX|apply aJU|apply aFR|apply aEc|apply aEd|apply aGT|apply aCC|apply aIN|apply aHz|apply aIP|apply aBn|apply xE|apply yU|apply aDT|apply yM|apply gW|apply wC|apply yN|apply aAh|apply lF|apply gL|apply aCr|apply aLW|apply aFi|apply aHO|apply uY|apply aIH|apply aCe|apply aAQ|apply aHP|apply aGR|apply aGS|apply aII|apply aDR|apply aHQ|apply aHR|apply aCb|apply jW|apply sD|apply aFd|apply aCc|apply iZ|apply xC|apply aFP|apply aFQ|apply aFe|apply aFf|apply uX|apply aLg|apply aLU|apply aGP|apply aIC|apply aID|apply aKn|apply aOY|apply aNI|apply aOZ|apply aML|apply aPa|apply aNJ|apply aEb|apply aLS|apply aIB|apply yI|apply xA|apply aFx|apply aLT|apply aNK|apply aKo|apply aQA|apply aHN|apply aPb|apply aCp|apply xB|apply iN|apply gC|apply aAP|apply nR|apply dX|apply aDx|apply aHV|apply aFl|apply aEe|apply aBj|apply aHW|apply aDy|apply pX|apply aBk|apply rT|apply iP|apply aDz|apply aBl|apply aHA|apply aFm|apply aBm|apply aCj|apply aDC|apply aFU|apply aFg|apply aIE|apply aIF|apply aPc|apply aNL|apply aAA|apply aCd|apply aAB|apply aPd|apply aLV|apply aFh|apply tE|apply aPe|apply aIG|apply aGQ|apply aIQ|apply aFo|apply wD|apply aJB|apply xF|apply mU|apply aCh|apply aCi|apply mD|apply lT|apply aIR|apply aGV|apply aJW|apply aCD|apply aDA|apply aIJ|apply aFj|apply aIK|apply aHS|apply aHT|apply aDS|apply aNM|apply aHU|apply aPf|apply aIL|apply aIM|apply aDv|apply tD|apply lX|apply aFc|apply aEa);with_reducible assumption)|(with_reducible apply aJV;with_reducible assumption)|(with_reducible apply aFk;with_reducible assumption)|(with_reducible apply cB;with_reducible assumption)|(with_reducible apply aCq;with_reducible assumption)|(with_reducible apply aIa;with_reducible assumption)|(with_reducible apply aGU;with_reducible assumption)|(with_reducible apply aNO;with_reducible assumption)|(with_reducible apply aFn;with_reducible assumption)|(with_reducible apply uV;with_reducible assumption)|(with_reducible apply kG;with_reducible assumption)|(with_reducible apply aGk;with_reducible assumption)|(with_reducible apply uW;with_reducible assumption)|(with_reducible apply kH;with_reducible assumption)|(with_reducible apply aEn;with_reducible assumption)|(with_reducible apply wZ;with_reducible assumption)|(with_reducible apply uU;with_reducible assumption)|(with_reducible apply aSa;with_reducible assumption)|(with_reducible apply aMM;with_reducible assumption)|(with_reducible apply aNN;with_reducible assumption)|(with_reducible apply aKp;with_reducible assumption)|(with_reducible apply aDB;with_reducible assumption)|(with_reducible apply aFT;with_reducible assumption)|(with_reducible apply lS;with_reducible assumption)|(with_reducible apply uZ;with_reducible assumption)|(with_reducible apply kI;with_reducible assumption)|(with_reducible apply lib_Cut;all_goals (try with_reducible assumption))|(with_reducible apply lib_Split;all_goals (try with_reducible assumption))|(with_reducible apply aMA;all_goals (try with_reducible assumption))|(with_reducible apply lib_Mul;all_goals (try with_reducible assumption))|(with_reducible apply lib_Join;all_goals (try with_reducible assumption))|(with_reducible apply aDu;all_goals (try with_reducible assumption))|(with_reducible apply aMB;all_goals (try with_reducible assumption))|(with_reducible apply aMK;all_goals (try with_reducible assumption))|(with_reducible apply lib_SortStr;all_goals (try with_reducible assumption))|(with_reducible apply lib_SortEdge;all_goals (try with_reducible assumption))|(with_reducible apply lib_GrowStr;all_goals (try with_reducible assumption)));(case hv=>exact rfl);(repeat (first|assumption|exact oK|(apply st_rK;assumption;exact nD)|(apply st_cK;assumption;exact nD)|exact tQ _|exact nD|exact zR _|exact rfl|exact gX (by assumption)));exact hk.k;first|done|fail):p:=h ⟨k⟩
set_option maxRecDepth 100000 in
theorem aI {p:Prop} (h:p:=by
 repeat' (first
  |(apply st_i;exact bH;exact bH;exact eY;exact eY;exact rfl;exact st_S;exact rfl;intro z z zr;first|(have zr:=st_pd zr;subst zr)|obtain ⟨z,z,rfl,z⟩:=zr|obtain ⟨z,z,z,z,rfl,z,z⟩:=zr|obtain ⟨z,z,z,z,z,z,rfl,z,z,z⟩:=zr|obtain ⟨z,z,z,z,z,z,z,z,rfl,z,z,z,z⟩:=zr)
  |(apply st_iQ;exact bH;exact bH;exact eY;exact eY;exact rfl;exact st_S;exact rfl;intro z z zr;first|(have zr:=st_pd zr;subst zr)|obtain ⟨z,z,rfl,z⟩:=zr|obtain ⟨z,z,z,z,rfl,z,z⟩:=zr|obtain ⟨z,z,z,z,z,z,rfl,z,z,z⟩:=zr|obtain ⟨z,z,z,z,z,z,z,z,rfl,z,z,z,z⟩:=zr)
  |(apply st_iE;exact rfl;exact bH;exact bH;exact eY;exact eY;exact rfl;exact st_S;exact rfl;intro z z zr;first|(have zr:=st_pd zr;subst zr)|obtain ⟨z,z,rfl,z⟩:=zr|obtain ⟨z,z,z,z,rfl,z,z⟩:=zr|obtain ⟨z,z,z,z,z,z,rfl,z,z,z⟩:=zr|obtain ⟨z,z,z,z,z,z,z,z,rfl,z,z,z,z⟩:=zr)
  |(apply VO;exact aLO)
  |(apply VQ;intro _ _;exact aLO)
  |(apply aM)
  |with_reducible apply aF
  |with_reducible apply oJ
  |(apply bM)
  |(apply cG)
  |(apply eJ)
  |(apply aEz)
  |(apply aQp;exact bH;exact zD)
  |(apply aQq;exact bH;exact zD)
  |with_reducible apply oP
  |with_reducible apply yW
  |(with_reducible apply aLE;exact rfl)
  |(apply V_onT;exact rfl;exact bH;exact zD)
  |(apply V_onF;exact rfl;exact bH;exact zD)
  |(apply V_offF;exact rfl;exact bH;exact zD)
  |(apply V_offT;exact rfl;exact bH;exact zD)
  |(apply Q_onT;exact rfl;exact bH;exact zD)
  |(apply Q_onF;exact rfl;exact bH;exact zD)
  |(apply Q_offF;exact rfl;exact bH;exact zD)
  |(apply Q_offT;exact rfl;exact bH;exact zD)
  |(apply wF;exact rfl;exact bH)
  |(apply qO;exact rfl;exact bH)
  |(apply V_WE;exact rfl;rintro _ ⟨_,_⟩;exact aLO)
  |(apply V_WT;exact rfl;intro _;exact aLO)
  |apply kQ
  |with_reducible apply bO
  |with_reducible apply gF
  |exact st_X
  |(apply oQ;exact rfl;exact rfl;refine aMv hm (fun z=>?_);subst z;exact st_X)
  |(apply aNu;exact rfl;exact rfl;exact rfl;refine aMv hm (fun z=>?_);subst z;exact st_X)
  |(apply retQ_3;exact rfl;exact rfl;exact rfl;exact rfl;refine aMv hm (fun z=>?_);subst z;exact st_X)
  |(apply retQ_m1;exact rfl;exact aPz;refine aMv hm (fun z=>?_);subst z;exact st_X)
  |(apply retQ_m2;exact rfl;exact aPz;exact aPz;refine aMv hm (fun z=>?_);subst z;exact st_X)
  |(apply aMX;exact rfl;exact aPz;exact aPz;exact aPz;refine aMv hm (fun z=>?_);subst z;exact st_X)
  |(apply retQ_0n;exact rfl;refine aMv hm (fun z=>?_);subst z;exact st_X)
  |(apply retQ_0;exact rfl;refine aMv hm (fun z=>?_);subst z;exact st_X)
  |(refine cA st_f ?_)
  |intro (hm:(_:Option _)=some _)
  |intro (hr:∀ r',_=Sum.inr r'->_)
  |(with_reducible refine aDY fun z=>?_)
  |(with_reducible refine aDZ ?_)
  |(intro (zv:(_:Value)=_);subst zv)
  |intro z
  |((with_reducible apply st_we);first|exact ⟨_,by assumption⟩|exact ⟨_,aD.weakK (by assumption) nD⟩)
  |(apply lV;exact rfl)
  |(apply WE_s;exact rfl)
  |apply tS
  |(have zq:=hr _ (Option.some.inj hm).symm;subst zq;have hm:=ho;clear hr ho;try dsimp only at hm)
  |obtain ⟨z,z,hm⟩:=aB hm
  |exact st_no hm
  |refine jH (fun z z z=>?_)
  |refine kM (fun z z=>?_)
  |refine kN (fun z z z=>?_)
  |refine st_ba (by with_reducible assumption) (fun z z z=>?_)
  |refine nE (T:=24) ([]:List aL) (fun z z z=>?_)
  |refine nE (T:=25) ([]:List Edge) (fun z z z=>?_)
  |refine nE (T:=43) ([]:List (List Int)) (fun z z z=>?_)
  |refine nE (T:=66) ([]:List Int) (fun z z z=>?_)
  |refine aGA (fun z z z z=>?_)
  |(apply st_q2;exact bH;exact bH;(first|assumption|(apply st_rK;assumption;exact nD));assumption;exact st_M;assumption;exact st_S;exact st_u;exact st_e;exact rfl;exact rfl;exact rfl;exact rfl;intro z z z z)
  |(apply yP;intro z z)
  |refine st_k ?_
  |(apply bT)
  |(refine aEJ ?_;first|(intro z z;repeat (first|(with_reducible refine aDY fun z=>?_)|with_reducible refine aDZ ?_|(intro (zv:(_:Value)=_);subst zv)|intro z))|skip)
  |((first|(apply qP;(with_reducible assumption);exact .head;(first|exact zR _|exact nD);intro zK zh zr zs bk)|(apply qQ;(with_reducible assumption);exact .head;intro zK zh zr zs bk));refine aEJ ?_;(first|(intro z z;repeat (first|(with_reducible refine aDY fun z=>?_)|with_reducible refine aDZ ?_|(intro (zv:(_:Value)=_);subst zv)|intro z))|skip);(have z:=bk _ _ (by with_reducible assumption);clear bk))
  |((first|(apply qP;(with_reducible assumption);exact zt1;(first|exact zR _|exact nD);intro zK zh zr zs bk)|(apply qQ;(with_reducible assumption);exact zt1;intro zK zh zr zs bk));refine aEJ ?_;(first|(intro z z;repeat (first|(with_reducible refine aDY fun z=>?_)|with_reducible refine aDZ ?_|(intro (zv:(_:Value)=_);subst zv)|intro z))|skip);(have z:=bk _ _ (by with_reducible assumption);clear bk))
  |((first|(apply qP;(with_reducible assumption);exact zt2;(first|exact zR _|exact nD);intro zK zh zr zs bk)|(apply qQ;(with_reducible assumption);exact zt2;intro zK zh zr zs bk));refine aEJ ?_;(first|(intro z z;repeat (first|(with_reducible refine aDY fun z=>?_)|with_reducible refine aDZ ?_|(intro (zv:(_:Value)=_);subst zv)|intro z))|skip);(have z:=bk _ _ (by with_reducible assumption);clear bk))
  |((first|(apply qP;(with_reducible assumption);exact zt3;(first|exact zR _|exact nD);intro zK zh zr zs bk)|(apply qQ;(with_reducible assumption);exact zt3;intro zK zh zr zs bk));refine aEJ ?_;(first|(intro z z;repeat (first|(with_reducible refine aDY fun z=>?_)|with_reducible refine aDZ ?_|(intro (zv:(_:Value)=_);subst zv)|intro z))|skip);(have z:=bk _ _ (by with_reducible assumption);clear bk))
  |((first|(apply qP;(with_reducible assumption);exact zt4;(first|exact zR _|exact nD);intro zK zh zr zs bk)|(apply qQ;(with_reducible assumption);exact zt4;intro zK zh zr zs bk));refine aEJ ?_;(first|(intro z z;repeat (first|(with_reducible refine aDY fun z=>?_)|with_reducible refine aDZ ?_|(intro (zv:(_:Value)=_);subst zv)|intro z))|skip);(have z:=bk _ _ (by with_reducible assumption);clear bk))
  |((first|(apply qP;(with_reducible assumption);exact .head;(first|exact zR _|exact nD);intro zK zh zr zs bk)|(apply qQ;(with_reducible assumption);exact .head;intro zK zh zr zs bk));(first|(apply qP;(with_reducible assumption);exact .head;(first|exact zR _|exact nD);intro zK zh zr zs bk)|(apply qQ;(with_reducible assumption);exact .head;intro zK zh zr zs bk));refine aEJ ?_;(first|(intro z z;repeat (first|(with_reducible refine aDY fun z=>?_)|with_reducible refine aDZ ?_|(intro (zv:(_:Value)=_);subst zv)|intro z))|skip);(have z:=bk _ _ (by with_reducible assumption);clear bk);(have z:=bk _ _ (by with_reducible assumption);clear bk))
  |((first|(apply qP;(with_reducible assumption);exact zt1;(first|exact zR _|exact nD);intro zK zh zr zs bk)|(apply qQ;(with_reducible assumption);exact zt1;intro zK zh zr zs bk));(first|(apply qP;(with_reducible assumption);exact zt1;(first|exact zR _|exact nD);intro zK zh zr zs bk)|(apply qQ;(with_reducible assumption);exact zt1;intro zK zh zr zs bk));refine aEJ ?_;(first|(intro z z;repeat (first|(with_reducible refine aDY fun z=>?_)|with_reducible refine aDZ ?_|(intro (zv:(_:Value)=_);subst zv)|intro z))|skip);(have z:=bk _ _ (by with_reducible assumption);clear bk);(have z:=bk _ _ (by with_reducible assumption);clear bk))
  |((first|(apply qP;(with_reducible assumption);exact zt1;(first|exact zR _|exact nD);intro zK zh zr zs bk)|(apply qQ;(with_reducible assumption);exact zt1;intro zK zh zr zs bk));(first|(apply qP;(with_reducible assumption);exact .head;(first|exact zR _|exact nD);intro zK zh zr zs bk)|(apply qQ;(with_reducible assumption);exact .head;intro zK zh zr zs bk));refine aEJ ?_;(first|(intro z z;repeat (first|(with_reducible refine aDY fun z=>?_)|with_reducible refine aDZ ?_|(intro (zv:(_:Value)=_);subst zv)|intro z))|skip);(have z:=bk _ _ (by with_reducible assumption);clear bk);(have z:=bk _ _ (by with_reducible assumption);clear bk))
  |((first|(apply qP;(with_reducible assumption);exact zt2;(first|exact zR _|exact nD);intro zK zh zr zs bk)|(apply qQ;(with_reducible assumption);exact zt2;intro zK zh zr zs bk));(first|(apply qP;(with_reducible assumption);exact zt1;(first|exact zR _|exact nD);intro zK zh zr zs bk)|(apply qQ;(with_reducible assumption);exact zt1;intro zK zh zr zs bk));refine aEJ ?_;(first|(intro z z;repeat (first|(with_reducible refine aDY fun z=>?_)|with_reducible refine aDZ ?_|(intro (zv:(_:Value)=_);subst zv)|intro z))|skip);(have z:=bk _ _ (by with_reducible assumption);clear bk);(have z:=bk _ _ (by with_reducible assumption);clear bk))
  |((first|(apply qP;(with_reducible assumption);exact zt2;(first|exact zR _|exact nD);intro zK zh zr zs bk)|(apply qQ;(with_reducible assumption);exact zt2;intro zK zh zr zs bk));(first|(apply qP;(with_reducible assumption);exact zt1;(first|exact zR _|exact nD);intro zK zh zr zs bk)|(apply qQ;(with_reducible assumption);exact zt1;intro zK zh zr zs bk));(first|(apply qP;(with_reducible assumption);exact zt1;(first|exact zR _|exact nD);intro zK zh zr zs bk)|(apply qQ;(with_reducible assumption);exact zt1;intro zK zh zr zs bk));refine aEJ ?_;(first|(intro z z;repeat (first|(with_reducible refine aDY fun z=>?_)|with_reducible refine aDZ ?_|(intro (zv:(_:Value)=_);subst zv)|intro z))|skip);(have z:=bk _ _ (by with_reducible assumption);clear bk);(have z:=bk _ _ (by with_reducible assumption);clear bk);(have z:=bk _ _ (by with_reducible assumption);clear bk))
  |((first|(apply qP;(with_reducible assumption);exact .head;(first|exact zR _|exact nD);intro zK zh zr zs bk)|(apply qQ;(with_reducible assumption);exact .head;intro zK zh zr zs bk));(first|(apply qP;(with_reducible assumption);exact .head;(first|exact zR _|exact nD);intro zK zh zr zs bk)|(apply qQ;(with_reducible assumption);exact .head;intro zK zh zr zs bk));(first|(apply qP;(with_reducible assumption);exact .head;(first|exact zR _|exact nD);intro zK zh zr zs bk)|(apply qQ;(with_reducible assumption);exact .head;intro zK zh zr zs bk));refine aEJ ?_;(first|(intro z z;repeat (first|(with_reducible refine aDY fun z=>?_)|with_reducible refine aDZ ?_|(intro (zv:(_:Value)=_);subst zv)|intro z))|skip);(have z:=bk _ _ (by with_reducible assumption);clear bk);(have z:=bk _ _ (by with_reducible assumption);clear bk);(have z:=bk _ _ (by with_reducible assumption);clear bk))
  |((first|(apply qP;(with_reducible assumption);exact zt1;(first|exact zR _|exact nD);intro zK zh zr zs bk)|(apply qQ;(with_reducible assumption);exact zt1;intro zK zh zr zs bk));(first|(apply qP;(with_reducible assumption);exact zt1;(first|exact zR _|exact nD);intro zK zh zr zs bk)|(apply qQ;(with_reducible assumption);exact zt1;intro zK zh zr zs bk));(first|(apply qP;(with_reducible assumption);exact zt1;(first|exact zR _|exact nD);intro zK zh zr zs bk)|(apply qQ;(with_reducible assumption);exact zt1;intro zK zh zr zs bk));refine aEJ ?_;(first|(intro z z;repeat (first|(with_reducible refine aDY fun z=>?_)|with_reducible refine aDZ ?_|(intro (zv:(_:Value)=_);subst zv)|intro z))|skip);(have z:=bk _ _ (by with_reducible assumption);clear bk);(have z:=bk _ _ (by with_reducible assumption);clear bk);(have z:=bk _ _ (by with_reducible assumption);clear bk))
  |((first|(apply qP;(with_reducible assumption);exact zt3;(first|exact zR _|exact nD);intro zK zh zr zs bk)|(apply qQ;(with_reducible assumption);exact zt3;intro zK zh zr zs bk));(first|(apply qP;(with_reducible assumption);exact zt2;(first|exact zR _|exact nD);intro zK zh zr zs bk)|(apply qQ;(with_reducible assumption);exact zt2;intro zK zh zr zs bk));(first|(apply qP;(with_reducible assumption);exact zt2;(first|exact zR _|exact nD);intro zK zh zr zs bk)|(apply qQ;(with_reducible assumption);exact zt2;intro zK zh zr zs bk));refine aEJ ?_;(first|(intro z z;repeat (first|(with_reducible refine aDY fun z=>?_)|with_reducible refine aDZ ?_|(intro (zv:(_:Value)=_);subst zv)|intro z))|skip);(have z:=bk _ _ (by with_reducible assumption);clear bk);(have z:=bk _ _ (by with_reducible assumption);clear bk);(have z:=bk _ _ (by with_reducible assumption);clear bk))
  |((first|(apply qP;(with_reducible assumption);exact .head;(first|exact zR _|exact nD);intro zK zh zr zs bk)|(apply qQ;(with_reducible assumption);exact .head;intro zK zh zr zs bk));(first|(apply qP;(with_reducible assumption);exact .head;(first|exact zR _|exact nD);intro zK zh zr zs bk)|(apply qQ;(with_reducible assumption);exact .head;intro zK zh zr zs bk));(first|(apply qP;(with_reducible assumption);exact .head;(first|exact zR _|exact nD);intro zK zh zr zs bk)|(apply qQ;(with_reducible assumption);exact .head;intro zK zh zr zs bk));(first|(apply qP;(with_reducible assumption);exact .head;(first|exact zR _|exact nD);intro zK zh zr zs bk)|(apply qQ;(with_reducible assumption);exact .head;intro zK zh zr zs bk));refine aEJ ?_;(first|(intro z z;repeat (first|(with_reducible refine aDY fun z=>?_)|with_reducible refine aDZ ?_|(intro (zv:(_:Value)=_);subst zv)|intro z))|skip);(have z:=bk _ _ (by with_reducible assumption);clear bk);(have z:=bk _ _ (by with_reducible assumption);clear bk);(have z:=bk _ _ (by with_reducible assumption);clear bk);(have z:=bk _ _ (by with_reducible assumption);clear bk))
  |((first|(with_reducible apply st_g0)|(with_reducible apply st_g1)|(with_reducible apply st_g2)|(with_reducible apply st_g3)|(apply st_g4;exact rfl));rcases aG hm with ⟨z,hm⟩|⟨z,hm⟩))):p:=h
end Gv
