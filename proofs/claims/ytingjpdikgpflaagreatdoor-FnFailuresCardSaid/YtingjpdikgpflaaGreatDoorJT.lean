/- Readings of the program's data; what is known of its types. -/
import Derived.Test.YtingjpdikgpflaaGreatDoorJYS
import Derived.Test.YtingjpdikgpflaaGreatDoorProg
set_option linter.all false
namespace Gv
open Go.Value renaming slice→zS
open Go Go.Proofs Go.Proofs.Tryz
instance:fB Edge where
 sz:=3
 enc d:=[i64 d.F,i64 d.B,i64 d.To]
 len _:=rfl
 one _ v h:=by simp at h;rcases h with rfl|rfl|rfl<;>rfl
 pos:=by decide
instance:El cI where
 sz:=4
 rd K cs d:=∃ (a0:Option Addr) (c0:Nat) (a1:Option Addr) (c1:Nat),cs=[i64 d.N,i64 d.I,zS a0 d.L.length c0,zS a1 d.E.length c1]/\cF K a0 c0 d.L/\cF K a1 c1 d.E
 mono:=fun h ⟨a0,c0,a1,c1,e,h0,h1⟩=>⟨a0,c0,a1,c1,e,h0.mono h,h1.mono h⟩
 len:=fun ⟨_,_,_,_,e,_⟩=>by rw [e];rfl
 one:=fun ⟨_,_,_,_,e,_⟩ v hv=>by rw [e] at hv;simp at hv;rcases hv with rfl|rfl|rfl|rfl<;>rfl
 pos:=by decide
instance:fB oT where
 sz:=3
 enc d:=[i64 d.from_,str d.label,i64 d.to_]
 len _:=rfl
 one _ v h:=by simp at h;rcases h with rfl|rfl|rfl<;>rfl
 pos:=by decide
instance:El bR where
 sz:=3
 rd K cs d:=∃ (a0:Option Addr) (c0:Nat),cs=[i64 d.a,i64 d.b,zS a0 d.trace.length c0]/\cF K a0 c0 d.trace
 mono:=fun h ⟨a0,c0,e,h0⟩=>⟨a0,c0,e,h0.mono h⟩
 len:=fun ⟨_,_,e,_⟩=>by rw [e];rfl
 one:=fun ⟨_,_,e,_⟩ v hv=>by rw [e] at hv;simp at hv;rcases hv with rfl|rfl|rfl<;>rfl
 pos:=by decide
theorem bX:SLT prog 24 9 1:=⟨runUnderlying24,sizeOf9⟩
theorem lF:SC prog 9:=⟨isAgg9,sizeOf9⟩
theorem cC:SLT prog 56 2 1:=⟨runUnderlying56,sizeOf2⟩
theorem iV:EZ prog 2 [i64 0]:=⟨⟨_,zeroValue2,rfl⟩,⟨t2,typeInfo2,by show (8:Nat)<=128;decide,rfl,by kernel_rfl,_,rfl,rfl⟩⟩
theorem iA:EZ prog 9 [str []]:=⟨⟨_,zeroValue9,rfl⟩,⟨t9,typeInfo9,by show (16:Nat)<=128;decide,rfl,by kernel_rfl,_,rfl,rfl⟩⟩
theorem cQ:SC prog 2:=⟨isAgg2,sizeOf2⟩
theorem sl_22:SLT prog 22 5 1:=⟨runUnderlying22,sizeOf5⟩
theorem bs_73:BS prog 73 [(0,1),(1,1),(2,1)] [zS none 0 0,i64 0,Value.int .u64 0]:=⟨⟨_,zeroValue73,rfl⟩,_,runUnderlying73,fun w=>by simp [sizeOf22,sizeOf3,sizeOf71]⟩
theorem gP:FA prog 66 0 0:=⟨_,_,_,runUnderlying66,rfl,sizeOf2,rfl,rfl⟩
theorem hQ:FA prog 66 1 1:=⟨_,_,_,runUnderlying66,rfl,sizeOf2,rfl,rfl⟩
theorem gD:FA prog 66 2 2:=⟨_,_,_,runUnderlying66,rfl,sizeOf2,rfl,rfl⟩
theorem cL:SLT prog 25 66 3:=⟨runUnderlying25,sizeOf66⟩
theorem kD:AG prog 66 3:=⟨isAgg66,sizeOf66⟩
theorem aDl:BS prog 66 [(0,1),(1,1),(2,1)] [i64 0,i64 0,i64 0]:=⟨⟨_,zeroValue66,rfl⟩,_,runUnderlying66,fun w=>by simp [sizeOf2]⟩
theorem gC:EZ prog 66 [i64 0,i64 0,i64 0]:=⟨⟨_,zeroValue66,rfl⟩,⟨t66,typeInfo66,by show (24:Nat)<=128;decide,rfl,by kernel_rfl,_,rfl,rfl⟩⟩
theorem mQ:BS prog 27 [(0,1),(1,1),(2,1),(3,1)] [i64 0,i64 0,zS none 0 0,zS none 0 0]:=⟨⟨_,zeroValue27,rfl⟩,_,runUnderlying27,fun w=>by simp [sizeOf2,sizeOf24,sizeOf25]⟩
theorem eU:FA prog 27 2 2:=⟨_,_,_,runUnderlying27,rfl,sizeOf24,rfl,rfl⟩
theorem eR:SC prog 24:=⟨isAgg24,sizeOf24⟩
theorem cU:FA prog 27 3 3:=⟨_,_,_,runUnderlying27,rfl,sizeOf25,rfl,rfl⟩
theorem eS:SC prog 25:=⟨isAgg25,sizeOf25⟩
theorem cV:AG prog 27 4:=⟨isAgg27,sizeOf27⟩
theorem mR:FA prog 27 1 1:=⟨_,_,_,runUnderlying27,rfl,sizeOf2,rfl,rfl⟩
theorem fW:FA prog 27 0 0:=⟨_,_,_,runUnderlying27,rfl,sizeOf2,rfl,rfl⟩
theorem eM:SLT prog 116 4 1:=⟨runUnderlying116,sizeOf4⟩
theorem ez_4:EZ prog 4 [Value.bool false]:=⟨⟨_,zeroValue4,rfl⟩,⟨t4,typeInfo4,by show (1:Nat)<=128;decide,rfl,by kernel_rfl,_,rfl,rfl⟩⟩
theorem aAU:SC prog 4:=⟨isAgg4,sizeOf4⟩
theorem kU:SLT prog 46 56 1:=⟨runUnderlying46,sizeOf56⟩
theorem aBT:EZ prog 56 [zS none 0 0]:=⟨⟨_,zeroValue56,rfl⟩,⟨t56,typeInfo56,by show (24:Nat)<=128;decide,rfl,by kernel_rfl,_,rfl,rfl⟩⟩
theorem aEx:SC prog 56:=⟨isAgg56,sizeOf56⟩
theorem aEy:FA prog 73 1 1:=⟨_,_,_,runUnderlying73,rfl,sizeOf3,rfl,rfl⟩
theorem sc_3:SC prog 3:=⟨isAgg3,sizeOf3⟩
theorem aIc:FA prog 73 0 0:=⟨_,_,_,runUnderlying73,rfl,sizeOf22,rfl,rfl⟩
theorem sc_22:SC prog 22:=⟨isAgg22,sizeOf22⟩
theorem sc_5:SC prog 5:=⟨isAgg5,sizeOf5⟩
theorem aId:FA prog 73 2 2:=⟨_,_,_,runUnderlying73,rfl,sizeOf71,rfl,rfl⟩
theorem sc_71:SC prog 71:=⟨isAgg71,sizeOf71⟩
theorem sl_98:SLT prog 98 3 1:=⟨runUnderlying98,sizeOf3⟩
theorem ez_3:EZ prog 3 [i64 0]:=⟨⟨_,zeroValue3,rfl⟩,⟨t3,typeInfo3,by show (8:Nat)<=128;decide,rfl,by kernel_rfl,_,rfl,rfl⟩⟩
theorem vJ:SLT prog 133 141 3:=⟨runUnderlying133,sizeOf141⟩
theorem ag_141:AG prog 141 3:=⟨isAgg141,sizeOf141⟩
theorem aRn:FA prog 141 0 0:=⟨_,_,_,runUnderlying141,rfl,sizeOf2,rfl,rfl⟩
theorem aIG:FA prog 141 1 1:=⟨_,_,_,runUnderlying141,rfl,sizeOf9,rfl,rfl⟩
theorem aRo:FA prog 141 2 2:=⟨_,_,_,runUnderlying141,rfl,sizeOf2,rfl,rfl⟩
theorem aRa:BS prog 141 [(0,1),(1,1),(2,1)] [i64 0,str [],i64 0]:=⟨⟨_,zeroValue141,rfl⟩,_,runUnderlying141,fun w=>by simp [sizeOf2,sizeOf9]⟩
theorem aBU:EZ prog 141 [i64 0,str [],i64 0]:=⟨⟨_,zeroValue141,rfl⟩,⟨t141,typeInfo141,by show (32:Nat)<=128;decide,rfl,by kernel_rfl,_,rfl,rfl⟩⟩
theorem bs_171:BS prog 171 [(0,1),(1,1),(2,1),(3,1)] [zS none 0 0,Value.map none,zS none 0 0,Value.nilFunc]:=⟨⟨_,zeroValue171,rfl⟩,_,runUnderlying171,fun w=>by simp [sizeOf130,sizeOf133,sizeOf169,sizeOf46]⟩
theorem xR:SC prog 168:=⟨isAgg168,sizeOf168⟩
theorem aRp:FA prog 171 3 3:=⟨_,_,_,runUnderlying171,rfl,sizeOf130,rfl,rfl⟩
theorem sc_130:SC prog 130:=⟨isAgg130,sizeOf130⟩
theorem aIH:FA prog 171 1 1:=⟨_,_,_,runUnderlying171,rfl,sizeOf169,rfl,rfl⟩
theorem sc_169:SC prog 169:=⟨isAgg169,sizeOf169⟩
theorem ko_9:aFS prog 9 aZ:=keyOk_str runUnderlying9
theorem vA:FA prog 171 0 0:=⟨_,_,_,runUnderlying171,rfl,sizeOf46,rfl,rfl⟩
theorem aEz:SC prog 46:=⟨isAgg46,sizeOf46⟩
theorem aAy:FA prog 171 2 2:=⟨_,_,_,runUnderlying171,rfl,sizeOf133,rfl,rfl⟩
theorem aGP:SC prog 133:=⟨isAgg133,sizeOf133⟩
theorem iR:SLT prog 34 24 1:=⟨runUnderlying34,sizeOf24⟩
theorem aEA:EZ prog 24 [zS none 0 0]:=⟨⟨_,zeroValue24,rfl⟩,⟨t24,typeInfo24,by show (24:Nat)<=128;decide,rfl,by kernel_rfl,_,rfl,rfl⟩⟩
theorem aRb:FV prog 27 2 2:=⟨_,_,runUnderlying27,rfl,eR,rfl⟩
theorem aFT:BS prog 62 [(0,1),(1,1),(2,1)] [i64 0,i64 0,zS none 0 0]:=⟨⟨_,zeroValue62,rfl⟩,_,runUnderlying62,fun w=>by simp [sizeOf2,sizeOf24]⟩
theorem nJ:SLT prog 63 62 3:=⟨runUnderlying63,sizeOf62⟩
theorem yU:EZ prog 62 [i64 0,i64 0,zS none 0 0]:=⟨⟨_,zeroValue62,rfl⟩,⟨t62,typeInfo62,by show (40:Nat)<=128;decide,rfl,by kernel_rfl,_,rfl,rfl⟩⟩
theorem ag_62:AG prog 62 3:=⟨isAgg62,sizeOf62⟩
theorem aAV:FA prog 62 0 0:=⟨_,_,_,runUnderlying62,rfl,sizeOf2,rfl,rfl⟩
theorem aCR:FA prog 62 1 1:=⟨_,_,_,runUnderlying62,rfl,sizeOf2,rfl,rfl⟩
theorem ar_136:ART prog 136 2 2:=⟨runUnderlying136,isAgg2,sizeOf2⟩
theorem bz_136:∃ z,(∀ w,(zeroValue 136).run prog w=.ok z w)/\z.cells=[i64 0,i64 0].toArray:=⟨_,zeroValue136,rfl⟩
theorem ko_136:aFS prog 136 (Int × Int):=aJf runUnderlying136 runUnderlying2 ⟨isAgg2,sizeOf2⟩
theorem aEB:FA prog 62 2 2:=⟨_,_,_,runUnderlying62,rfl,sizeOf24,rfl,rfl⟩
theorem st_66:prog.stoodInHeld 66=false:=by kernel_rfl
theorem eq_66 {x y:Edge}:EQT prog 66 [i64 x.F,i64 x.B,i64 x.To] [i64 y.F,i64 y.B,i64 y.To] (decide (x=y)):=by
 refine ⟨by kernel_rfl,fun w=>?_⟩
 have h2:∀ (a b:Int),(Op.equalIn 9999 2 (i64 a) (i64 b)).run prog w=.ok (a == b) w:=fun a b=>run_eqInI 9998 (runUnderlying2 w)
 have:Op.maxDepth=9999+1:=rfl
 unfold Op.equal
 rw [this]
 unfold Op.equalIn
 simp [runUnderlying66,st_66,part,h2,isAgg2]
 cases x;cases y
 simp
 repeat' split<;>simp_all
theorem bY:prog.follows .mixedOrders=true:=by kernel_rfl
abbrev zC (d:cI) (a:Option Addr) (c:Nat) (b:Option Addr) (e:Nat):List Value:=[i64 d.N,i64 d.I,Value.slice a d.L.length c,Value.slice b d.E.length e]
abbrev zCa (d:cI) (a:Option Addr) (c:Nat) (b:Option Addr) (e:Nat):Array Value:=#[i64 d.N,i64 d.I,Value.slice a d.L.length c,Value.slice b d.E.length e]
abbrev zG:List Value:=[i64 0,i64 0,Value.slice none 0 0,Value.slice none 0 0]
abbrev zGa:Array Value:=#[i64 0,i64 0,Value.slice none 0 0,Value.slice none 0 0]
abbrev zK:List Value:=[i64 0,i64 0,Value.slice none 0 0,Value.slice none 0 0,Value.slice none 0 0,Value.slice none 0 0]
abbrev zKa:Array Value:=#[i64 0,i64 0,Value.slice none 0 0,Value.slice none 0 0,Value.slice none 0 0,Value.slice none 0 0]
end Gv
namespace Gv
open Go.Value renaming slice→zS
open Gv.Hp renaming le_refl→zR
open Go Go.Proofs Go.Proofs.Tryz
theorem aKh {p:Prop} (h:p:=by first|assumption|(apply st_cK;assumption;exact aKg)):p:=h
theorem st_HR {p:Prop} (h:p:=by first|assumption|(apply st_rK;assumption;exact aKg)):p:=h
theorem st_S {p:Prop} (h:p:=by with_reducible first|exact bX|exact cC|exact sl_22|exact cL|exact eM|exact kU|exact sl_98|exact vJ|exact iR|exact nJ):p:=h
theorem aKS {p:Prop} (h:p:=by with_reducible first|exact lF|exact cQ|exact eR|exact eS|exact aAU|exact aEx|exact sc_3|exact sc_22|exact sc_5|exact sc_71|exact xR|exact sc_130|exact sc_169|exact aEz|exact aGP):p:=h
theorem aPv {p:Prop} (h:p:=by with_reducible first|exact kD|exact cV|exact ag_141|exact ag_62):p:=h
theorem st_F {p:Prop} (h:p:=by with_reducible first|exact gP|exact hQ|exact gD|exact eU|exact cU|exact mR|exact fW|exact aEy|exact aIc|exact aId|exact aRn|exact aIG|exact aRo|exact aRp|exact aIH|exact vA|exact aAy|exact aAV|exact aCR|exact aEB):p:=h
theorem za_3:ZA prog 3 [i64 0]:=⟨_,zeroValue3,rfl⟩
theorem za_24:ZA prog 24 [zS none 0 0]:=⟨_,zeroValue24,rfl⟩
theorem za_27:ZA prog 27 [i64 0,i64 0,zS none 0 0,zS none 0 0]:=⟨_,zeroValue27,rfl⟩
theorem za_46:ZA prog 46 [zS none 0 0]:=⟨_,zeroValue46,rfl⟩
theorem za_62:ZA prog 62 [i64 0,i64 0,zS none 0 0]:=⟨_,zeroValue62,rfl⟩
theorem za_66:ZA prog 66 [i64 0,i64 0,i64 0]:=⟨_,zeroValue66,rfl⟩
theorem za_141:ZA prog 141 [i64 0,str ([]:aZ),i64 0]:=⟨_,zeroValue141,rfl⟩
theorem za_168:ZA prog 168 [Value.pointer none]:=⟨_,zeroValue168,rfl⟩
theorem st_r {p:Prop} (h:p:=by with_reducible first|exact runUnderlying135|exact runUnderlying169|exact runUnderlying2|exact runUnderlying3|exact runUnderlying4|exact runUnderlying5|exact runUnderlying71|exact runUnderlying9):p:=h
theorem st_v {p:Prop} (h:p:=by with_reducible first|exact aRb):p:=h
theorem st_h {p:Prop} (h:p:=by with_reducible first|exact bs_73|exact aDl|exact mQ|exact aRa|exact bs_171|exact aFT):p:=h
theorem st_e {p:Prop} (h:p:=by with_reducible first|exact iV|exact iA|exact gC|exact ez_4|exact aBT|exact ez_3|exact aBU|exact aEA|exact yU):p:=h
theorem st_u {p:Prop} (h:p:=by with_reducible first|exact underlying133|exact underlying24|exact underlying25|exact underlying34|exact underlying46|exact underlying56|exact underlying63):p:=h
theorem st_z {p:Prop} (h:p:=by with_reducible first|exact sizeOf133|exact sizeOf141|exact sizeOf168|exact sizeOf2|exact sizeOf24|exact sizeOf25|exact sizeOf27|exact sizeOf3|exact sizeOf4|exact sizeOf46|exact sizeOf62|exact sizeOf66|exact sizeOf71|exact sizeOf9):p:=h
theorem st_y {p:Prop} (h:p:=by with_reducible first|exact za_3|exact za_24|exact za_27|exact za_46|exact za_62|exact za_66|exact za_141|exact za_168):p:=h
theorem st_V {p:Prop} (h:p:=by first|exact V_moveC|exact V_assignC|(apply V_B;first|(apply V_add;exact aJu;exact aJu)|(apply V_sub;exact aJu;exact aJu)|(apply V_mul;exact aJu;exact aJu)|(apply V_lss;exact aJu;exact aJu)|(apply V_leq;exact aJu;exact aJu)|(apply V_gtr;exact aJu;exact aJu)|(apply V_geq;exact aJu;exact aJu)|(apply V_eql;exact aJu;exact aJu)|(apply V_neq;exact aJu;exact aJu)|(apply V_eqlS;exact aJu;exact aJu)|(apply V_neqS;exact aJu;exact aJu)|(apply V_lssS;exact aJu;exact aJu)|(apply V_leqS;exact aJu;exact aJu)|(apply V_gtrS;exact aJu;exact aJu)|(apply V_geqS;exact aJu;exact aJu))|exact V_moveF|exact V_assignF|(apply V_move;exact aJu)|(apply V_assign;exact aJu)|(apply V_fldP;exact aJu;exact st_F)|(apply V_fldE;exact aJu;exact aKh;exact st_F)|(apply V_fldO;exact aJu;exact aJO;exact aQq;exact aJO;exact st_F)|(apply V_L;first|(apply V_ldB;exact aJu;exact aJO;exact aQq;exact rfl;exact aKS)|(apply V_ldBG;exact aJu;exact aJO;exact aQq;exact aPv;exact st_D)|(apply aQB (t:=0);exact aJu;exact aKh;exact aJO;exact rfl;exact aKS)|(apply aQB (t:=1);exact aJu;exact aKh;exact aJO;exact rfl;exact aKS)|(apply aQB (t:=2);exact aJu;exact aKh;exact aJO;exact rfl;exact aKS)|(apply aQB (t:=3);exact aJu;exact aKh;exact aJO;exact rfl;exact aKS)|(apply aQB (t:=4);exact aJu;exact aKh;exact aJO;exact rfl;exact aKS)|(apply aQB (t:=5);exact aJu;exact aKh;exact aJO;exact rfl;exact aKS)|(apply aQB (t:=6);exact aJu;exact aKh;exact aJO;exact rfl;exact aKS)|(apply aQB (t:=7);exact aJu;exact aKh;exact aJO;exact rfl;exact aKS)|(apply aPM (t:=0);exact aJu;exact aKh;exact aJO;exact aPv;exact rfl;exact rfl)|(apply aPM (t:=1);exact aJu;exact aKh;exact aJO;exact aPv;exact rfl;exact rfl)|(apply aPM (t:=2);exact aJu;exact aKh;exact aJO;exact aPv;exact rfl;exact rfl)|(apply aPM (t:=3);exact aJu;exact aKh;exact aJO;exact aPv;exact rfl;exact rfl)|(apply aPM (t:=4);exact aJu;exact aKh;exact aJO;exact aPv;exact rfl;exact rfl)|(apply aPM (t:=5);exact aJu;exact aKh;exact aJO;exact aPv;exact rfl;exact rfl)|(apply aPM (t:=6);exact aJu;exact aKh;exact aJO;exact aPv;exact rfl;exact rfl)|(apply aPM (t:=7);exact aJu;exact aKh;exact aJO;exact aPv;exact rfl;exact rfl)|(apply V_ldO (t:=0);exact aJu;exact aJO;exact aQq;exact aJO;exact rfl;exact rfl;exact aKS)|(apply V_ldO (t:=1);exact aJu;exact aJO;exact aQq;exact aJO;exact rfl;exact rfl;exact aKS)|(apply V_ldO (t:=2);exact aJu;exact aJO;exact aQq;exact aJO;exact rfl;exact rfl;exact aKS)|(apply V_ldO (t:=3);exact aJu;exact aJO;exact aQq;exact aJO;exact rfl;exact rfl;exact aKS)|(apply V_ldO (t:=4);exact aJu;exact aJO;exact aQq;exact aJO;exact rfl;exact rfl;exact aKS)|(apply V_ldOG (t:=0);exact aJu;exact aJO;exact aQq;exact aJO;exact rfl;exact aPv;exact rfl;exact rfl)|(apply V_ldOG (t:=1);exact aJu;exact aJO;exact aQq;exact aJO;exact rfl;exact aPv;exact rfl;exact rfl)|(apply V_ldOG (t:=2);exact aJu;exact aJO;exact aQq;exact aJO;exact rfl;exact aPv;exact rfl;exact rfl)|(apply aQD (t:=0);exact aJu;exact aJO;exact aJO;exact aKg;exact rfl;exact aKS)|(apply aQD (t:=1);exact aJu;exact aJO;exact aJO;exact aKg;exact rfl;exact aKS)|(apply aQD (t:=2);exact aJu;exact aJO;exact aJO;exact aKg;exact rfl;exact aKS)|(apply aQD (t:=3);exact aJu;exact aJO;exact aJO;exact aKg;exact rfl;exact aKS)|(apply aQD (t:=4);exact aJu;exact aJO;exact aJO;exact aKg;exact rfl;exact aKS)|(apply aQD (t:=5);exact aJu;exact aJO;exact aJO;exact aKg;exact rfl;exact aKS)|(apply aQD (t:=6);exact aJu;exact aJO;exact aJO;exact aKg;exact rfl;exact aKS)|(apply aQD (t:=7);exact aJu;exact aJO;exact aJO;exact aKg;exact rfl;exact aKS)|(apply aQZ (t:=0);exact aJu;exact aJO;exact aJO;exact aKg;exact aPv;exact rfl;exact rfl)|(apply aQZ (t:=1);exact aJu;exact aJO;exact aJO;exact aKg;exact aPv;exact rfl;exact rfl)|(apply aQZ (t:=2);exact aJu;exact aJO;exact aJO;exact aKg;exact aPv;exact rfl;exact rfl)|(apply aQZ (t:=3);exact aJu;exact aJO;exact aJO;exact aKg;exact aPv;exact rfl;exact rfl)|(apply aQC (t:=0);exact aJO;exact aKh;exact aJu;exact rfl;exact aKS)|(apply aQC (t:=1);exact aJO;exact aKh;exact aJu;exact rfl;exact aKS)|(apply aQC (t:=2);exact aJO;exact aKh;exact aJu;exact rfl;exact aKS)|(apply aQC (t:=3);exact aJO;exact aKh;exact aJu;exact rfl;exact aKS)|(apply aQC (t:=4);exact aJO;exact aKh;exact aJu;exact rfl;exact aKS)|(apply aQC (t:=5);exact aJO;exact aKh;exact aJu;exact rfl;exact aKS)|(apply aQC (t:=6);exact aJO;exact aKh;exact aJu;exact rfl;exact aKS)|(apply aQC (t:=7);exact aJO;exact aKh;exact aJu;exact rfl;exact aKS)|(apply aQY (t:=0);exact aJO;exact aKh;exact aJu;exact aPv;exact rfl;exact rfl)|(apply aQY (t:=1);exact aJO;exact aKh;exact aJu;exact aPv;exact rfl;exact rfl)|(apply aQY (t:=2);exact aJO;exact aKh;exact aJu;exact aPv;exact rfl;exact rfl)|(apply aQY (t:=3);exact aJO;exact aKh;exact aJu;exact aPv;exact rfl;exact rfl))|(apply V_lenS;exact st_S;exact aJu)|(apply V_nilE;exact aJu;exact aKh)|(apply V_nilP;exact aJu)|(apply V_nilO;exact aJu;exact aJO;exact aQq;exact aJO)|(apply V_ixE;exact aJu;exact aJu;exact st_HR;exact aJO;exact rfl;exact st_S;exact rfl)|(apply V_ixO;exact aJu;exact aJu;exact aJO;exact aQq;exact aJO;exact rfl;exact st_S;exact rfl)|(apply V_extract;exact aJu;exact rfl)|(apply V_pickT;exact aJu;exact aQH;exact aJu)|(apply V_pickF;exact aJu;exact aQH;exact aJu)|(apply V_not;exact aJu)|(apply V_lenStr;exact st_r;exact aJu)|(apply V_ixS;exact st_r;exact aJu;exact aJu;exact aJO)|(apply V_conv64;exact st_r;exact aJu;exact ⟨_,st_r⟩)|(apply V_convu64;exact st_r;exact aJu;exact ⟨_,st_r⟩)|(apply V_u8sub';exact aJu;exact aJu)|(apply V_neg;exact aJu)|(apply V_rem;exact aJu;exact aJu;exact aJO)|(apply V_cat;exact aJu;exact aJu;exact aJO)|(apply V_neqB;exact st_r;exact aJu;exact aJu)|(apply V_u64add;exact aJu;exact aJu)|(apply V_u64mul;exact aJu;exact aJu)|(apply V_shrU;exact aJu;exact aJu;exact aJO)|(apply V_andU;exact aJu;exact aJu)|(apply V_slSLH;exact st_r;exact aJu;exact aJu;exact aJu;exact aJO)|(apply V_slSL;exact st_r;exact aJu;exact aJu;exact aJO)|(apply V_slSH;exact st_r;exact aJu;exact aJu;exact aJO)|(apply V_isNil;exact st_S;exact aJu;exact rfl)|(apply V_field;exact st_v;exact aJu;exact rfl)|(apply V_build;exact st_h;exact rfl;exact (by kernel_rfl))|(apply aRx;exact rfl)):p:=h
theorem st_call {p:Prop} (h:p:=by with_reducible first|exact call4|exact call5|exact call6|exact call7|exact call8|exact call9|exact call10|exact call11|exact call12|exact call13|exact call14|exact call15|exact call16|exact call17|exact call18|exact call19|exact call20|exact call21|exact call22|exact call23|exact call24|exact call25|exact call26|exact call27|exact call28|exact call29|exact call30|exact call31|exact call32|exact call33|exact call34|exact call35|exact call36|exact call37|exact call38|exact call39|exact call40|exact call41|exact call42|exact call43|exact call44|exact call45|exact call46|exact call47|exact call48|exact call49|exact call50|exact call51|exact call52|exact call53|exact call54|exact call55|exact call56|exact call57|exact call58|exact call59|exact call60|exact call61|exact call62|exact call63|exact call68|exact call69|exact call70|exact call71|exact call72|exact call73|exact call74|exact call75|exact call77|exact call78|exact call79|exact call80|exact call81|exact call82|exact call83|exact call84|exact call85|exact call86|exact call87|exact call88|exact call89|exact call90|exact call91|exact call92|exact call93|exact call94|exact call95|exact call96|exact call97|exact call98|exact call99|exact call100|exact call101|exact call102|exact call103|exact call104|exact call105|exact call106|exact call107|exact call109|exact call110|exact call111|exact call112|exact call113|exact call114|exact call115|exact call116|exact call117|exact call118|exact call119|exact call120|exact call121|exact call122|exact call123|exact call124|exact call125|exact call126|exact call127|exact call128|exact call129|exact call132|exact call133|exact call134|exact call135|exact call136|exact call137|exact call138|exact call139|exact call140|exact call141|exact call142|exact call143|exact call144|exact call145|exact call146|exact call147|exact call148|exact call149|exact call151|exact call153|exact call154|exact call155|exact call156|exact call168|exact call169|exact call170|exact call171|exact call172|exact call174|exact call176|exact call177|exact call178|exact call200|exact call201|exact call202|exact call203|exact call204|exact call225|exact call226|exact call227|exact call228|exact call239|exact call240|exact call255):p:=h
theorem st_f {p:Prop} (h:p:=by with_reducible first|exact func3|exact func4|exact func5|exact func6|exact func7|exact func8|exact func9|exact func10|exact func11|exact func12|exact func13|exact func14|exact func15|exact func16|exact func17|exact func18|exact func19|exact func20|exact func21|exact func22|exact func23|exact func24|exact func25|exact func26|exact func27|exact func28|exact func29|exact func30|exact func31|exact func32|exact func33|exact func34|exact func35|exact func36|exact func37|exact func38|exact func39|exact func40|exact func41|exact func42|exact func43|exact func44|exact func45|exact func46|exact func47|exact func48|exact func49|exact func50|exact func51|exact func52|exact func53|exact func54|exact func55|exact func56|exact func57|exact func58|exact func59|exact func60|exact func61|exact func62|exact func63|exact func64|exact func65|exact func66|exact func67|exact func68|exact func69|exact func70|exact func71|exact func72|exact func73|exact func74|exact func76|exact func77|exact func78|exact func79|exact func80|exact func81|exact func82|exact func83|exact func84|exact func85|exact func86|exact func87|exact func88|exact func89|exact func90|exact func91|exact func92|exact func93|exact func94|exact func95|exact func96|exact func97|exact func98|exact func99|exact func100|exact func101|exact func102|exact func103|exact func104|exact func105|exact func106|exact func108|exact func109|exact func110|exact func112|exact func114|exact func115|exact func116|exact func117|exact func118|exact func119|exact func120|exact func121|exact func122|exact func123|exact func124|exact func126|exact func127|exact func128|exact func129|exact func132|exact func133|exact func134|exact func135|exact func136|exact func137|exact func138|exact func140|exact func142|exact func143|exact func144|exact func145|exact func146|exact func147|exact func153|exact func154|exact func155|exact func156|exact func168|exact func169|exact func170|exact func171|exact func172|exact func176|exact func177|exact func178|exact func200|exact func201|exact func202|exact func203|exact func204|exact func225|exact func226|exact func227|exact func228|exact func239|exact func240|exact func255):p:=h
theorem aQT {p:Prop} (h:p:=by first|((with_reducible apply mO);exact rfl;exact rfl)|((with_reducible apply V_rvG);exact aJu;exact aJO;exact aQq;exact aPv;exact rfl;exact rfl)|((with_reducible apply V_rvB);exact aJu;exact aJO;exact aQq;exact aKS;exact rfl)):p:=h
theorem st_X {p:Prop} (h:p:=by
 (repeat (first
  |exact aM
  |(with_reducible apply Exists.intro)
  |((with_reducible apply And.intro);· first|exact aM|(with_reducible assumption)|exact (Option.some.inj (by with_reducible assumption)).symm|exact rfl|assumption|exact zR _|exact aKg|exact jW _|(apply st_rK;assumption;exact aKg)|(apply st_cK;assumption;exact aKg)|exact iM (by assumption))
  |(with_reducible assumption)|exact st_c|exact rfl|assumption));first|done|fail):p:=h
theorem aNT {p q:Prop} (k:q) (h:Hd q->p:=by
 intro hk
 (first|apply st_ca|apply st_cb|apply st_cq);exact st_call;(first|(with_reducible intro z z)|skip);(first|((with_reducible first|apply aHh|apply aGo|apply aGp|apply aBF|apply aCH|apply aGq|apply aHC|apply aHi|apply yH|apply aHD|apply sU|apply aDe|apply aDf|apply aFI|apply aFe|apply jV|apply lH|apply yO|apply lQ|apply lD|apply aBn|apply qM|apply aFP|apply aFf|apply gG|apply aDg|apply vH|apply nC|apply nA|apply dA|apply aAd|apply mH|apply sW|apply aFJ|apply aDK|apply jK|apply aCJ|apply aFb|apply aGl|apply aFG|apply aFH|apply aHf|apply aBE|apply aGm|apply aGn|apply aHg|apply aEk|apply aAL|apply aHj|apply qG|apply aIg|apply jM|apply qH|apply jJ|apply oR|apply sV|apply kN|apply oS|apply aCC|apply qL|apply aJk|apply aEh|apply vS|apply pC|apply yE|apply jC|apply aEi|apply aDI|apply aGX|apply aHz|apply aGj|apply mN|apply aGY|apply aDc|apply aFB|apply aGZ|apply oM|apply nT|apply yL|apply aFC|apply aCD|apply aDd|apply lR|apply aFD|apply jU|apply fV|apply sS|apply aHa|apply aHb|apply aCE|apply aHc|apply aCF|apply aHA|apply sT|apply vQ|apply yF|apply aFc|apply sX|apply oN|apply aHk|apply aBH|apply aBI|apply aCK|apply aFK|apply aGs|apply aFL|apply aFM|apply aGt|apply aGu|apply aFd|apply vR|apply aHB|apply aAK|apply aEj|apply nU|apply aDJ|apply aHd|apply aFE|apply aFF|apply aCG|apply aGk|apply qC|apply aHe|apply aAc|apply yG|apply aPz|apply aPF|apply aQy|apply aQz|apply aQx|apply aQN|apply aRd|apply aFN|apply aBm|apply aIh|apply aCL|apply aAe|apply aAs|apply aFO|apply aGv|apply yJ|apply lM|apply lN|apply jD|apply tE|apply aBG|apply yM|apply aGr|apply iI|apply xI|apply yN|apply aAr|apply mA|apply mF|apply aCI);with_reducible assumption)|(with_reducible apply yI;with_reducible assumption)|(with_reducible apply cW;with_reducible assumption)|(with_reducible apply mG;with_reducible assumption)|(with_reducible apply lS;with_reducible assumption)|(with_reducible apply mI;with_reducible assumption)|(with_reducible apply lO;with_reducible assumption)|(with_reducible apply aMg;with_reducible assumption)|(with_reducible apply aPG;with_reducible assumption)|(with_reducible apply nS;with_reducible assumption)|(with_reducible apply mE;with_reducible assumption)|(with_reducible apply mP;with_reducible assumption)|(with_reducible apply mJ;with_reducible assumption)|(with_reducible apply lP;with_reducible assumption)|(with_reducible apply lib_GrowStr;all_goals (try with_reducible assumption))|(with_reducible apply lib_Cut;all_goals (try with_reducible assumption))|(with_reducible apply lib_Split;all_goals (try with_reducible assumption))|(with_reducible apply aIJ;all_goals (try with_reducible assumption))|(with_reducible apply lib_Join;all_goals (try with_reducible assumption))|(with_reducible apply aGc;all_goals (try with_reducible assumption))|(with_reducible apply aIM;all_goals (try with_reducible assumption))|(with_reducible apply aGi;all_goals (try with_reducible assumption))|(with_reducible apply lib_SortStr;all_goals (try with_reducible assumption))|(with_reducible apply lib_SortEdge;all_goals (try with_reducible assumption))|(with_reducible apply lib_SortRowsS;all_goals (try with_reducible assumption)));(case hv=>exact rfl);(repeat (first|assumption|exact st_c|(apply st_rK;assumption;exact aKg)|(apply st_cK;assumption;exact aKg)|exact jW _|exact aKg|exact zR _|exact rfl|exact iM (by assumption)));exact hk.k;first|done|fail):p:=h ⟨k⟩
set_option maxRecDepth 100000 in
theorem aHU {p:Prop} (h:p:=by
 repeat' (first
  |(apply st_i;exact aJu;exact aJu;exact aJO;exact aJO;exact rfl;exact st_S;exact rfl;intro z z zr;first|(have zr:=st_pd zr;subst zr)|obtain ⟨z,z,rfl,z⟩:=zr|obtain ⟨z,z,z,z,rfl,z,z⟩:=zr|obtain ⟨z,z,z,z,z,z,rfl,z,z,z⟩:=zr|obtain ⟨z,z,z,z,z,z,z,z,rfl,z,z,z,z⟩:=zr)
  |(apply st_iQ;exact aJu;exact aJu;exact aJO;exact aJO;exact rfl;exact st_S;exact rfl;intro z z zr;first|(have zr:=st_pd zr;subst zr)|obtain ⟨z,z,rfl,z⟩:=zr|obtain ⟨z,z,z,z,rfl,z,z⟩:=zr|obtain ⟨z,z,z,z,z,z,rfl,z,z,z⟩:=zr|obtain ⟨z,z,z,z,z,z,z,z,rfl,z,z,z,z⟩:=zr)
  |(apply st_iE;exact rfl;exact aJu;exact aJu;exact aJO;exact aJO;exact rfl;exact st_S;exact rfl;intro z z zr;first|(have zr:=st_pd zr;subst zr)|obtain ⟨z,z,rfl,z⟩:=zr|obtain ⟨z,z,z,z,rfl,z,z⟩:=zr|obtain ⟨z,z,z,z,z,z,rfl,z,z,z⟩:=zr|obtain ⟨z,z,z,z,z,z,z,z,rfl,z,z,z,z⟩:=zr)
  |(apply VO;exact st_V)
  |(apply VQ;intro _ _;exact st_V)
  |(apply bB)
  |with_reducible apply aA
  |with_reducible apply aX
  |(apply aO)
  |(apply aP)
  |(apply aU)
  |(apply bV)
  |(apply V_condT;exact aJu;exact aQH)
  |(apply V_condF;exact aJu;exact aQH)
  |with_reducible apply aT
  |with_reducible apply bJ
  |(with_reducible apply blockQ_ne;exact rfl)
  |(apply V_onT;exact rfl;exact aJu;exact aQH)
  |(apply V_onF;exact rfl;exact aJu;exact aQH)
  |(apply V_offF;exact rfl;exact aJu;exact aQH)
  |(apply V_offT;exact rfl;exact aJu;exact aQH)
  |(apply Q_onT;exact rfl;exact aJu;exact aQH)
  |(apply Q_onF;exact rfl;exact aJu;exact aQH)
  |(apply Q_offF;exact rfl;exact aJu;exact aQH)
  |(apply Q_offT;exact rfl;exact aJu;exact aQH)
  |(apply dN;exact rfl;exact aJu)
  |(apply cO;exact rfl;exact aJu)
  |(apply V_WE;exact rfl;rintro _ ⟨_,_⟩;exact st_V)
  |(apply V_WT;exact rfl;intro _;exact st_V)
  |apply bH
  |with_reducible apply aQ
  |with_reducible apply bM
  |exact st_X
  |(apply bI;exact rfl;exact rfl;refine aQE hm (fun z=>?_);subst z;exact st_X)
  |(apply aIO;exact rfl;exact rfl;exact rfl;refine aQE hm (fun z=>?_);subst z;exact st_X)
  |(apply retQ_3;exact rfl;exact rfl;exact rfl;exact rfl;refine aQE hm (fun z=>?_);subst z;exact st_X)
  |(apply pD;exact rfl;exact aQT;refine aQE hm (fun z=>?_);subst z;exact st_X)
  |(apply aEr;exact rfl;exact aQT;exact aQT;refine aQE hm (fun z=>?_);subst z;exact st_X)
  |(apply aAR;exact rfl;exact aQT;exact aQT;exact aQT;refine aQE hm (fun z=>?_);subst z;exact st_X)
  |(apply aHV;exact rfl;refine aQE hm (fun z=>?_);subst z;exact st_X)
  |(apply retQ_0;exact rfl;refine aQE hm (fun z=>?_);subst z;exact st_X)
  |(refine st_I st_f ?_)
  |intro (hm:(_:Option _)=some _)
  |intro (hr:∀ r',_=Sum.inr r'->_)
  |(with_reducible refine aMt fun z=>?_)
  |(with_reducible refine aNd ?_)
  |(intro (zv:(_:Value)=_);subst zv)
  |intro z
  |((with_reducible apply st_we);first|exact ⟨_,by assumption⟩|exact ⟨_,aJ.weakK (by assumption) aKg⟩)
  |(apply jE;exact rfl)
  |(apply aGh;exact rfl)
  |apply iO
  |(have zq:=hr _ (Option.some.inj hm).symm;subst zq;have hm:=ho;clear hr ho;try dsimp only at hm)
  |obtain ⟨z,z,hm⟩:=aB hm
  |exact st_no hm
  |refine st_a (fun z z z=>?_)
  |refine st_s (fun z z=>?_)
  |refine st_x (fun z z z=>?_)
  |refine st_ba (by with_reducible assumption) (fun z z z=>?_)
  |refine st_b (T:=24) ([]:List aZ) (fun z z z=>?_)
  |refine st_b (T:=25) ([]:List Edge) (fun z z z=>?_)
  |refine st_b (T:=34) ([]:List (List aZ)) (fun z z z=>?_)
  |refine st_b (T:=46) ([]:List (List Int)) (fun z z z=>?_)
  |refine st_b (T:=56) ([]:List Int) (fun z z z=>?_)
  |refine st_p (fun z z z z=>?_)
  |(apply st_q2;exact aJu;exact aJu;(first|assumption|(apply st_rK;assumption;exact aKg));assumption;exact st_M;assumption;exact st_S;exact st_u;exact st_e;exact rfl;exact rfl;exact rfl;exact rfl;intro z z z z)
  |(apply dS;intro z z)
  |refine st_k ?_
  |(apply cN)
  |(refine aNT ?_;first|(intro z z;repeat (first|(with_reducible refine aMt fun z=>?_)|with_reducible refine aNd ?_|(intro (zv:(_:Value)=_);subst zv)|intro z))|skip)
  |((first|(apply aKo;(with_reducible assumption);exact .head;(first|exact zR _|exact aKg);intro zK zh zr zs bk)|(apply aKp;(with_reducible assumption);exact .head;intro zK zh zr zs bk));refine aNT ?_;(first|(intro z z;repeat (first|(with_reducible refine aMt fun z=>?_)|with_reducible refine aNd ?_|(intro (zv:(_:Value)=_);subst zv)|intro z))|skip);(have z:=bk _ _ (by with_reducible assumption);clear bk))
  |((first|(apply aKo;(with_reducible assumption);exact zt1;(first|exact zR _|exact aKg);intro zK zh zr zs bk)|(apply aKp;(with_reducible assumption);exact zt1;intro zK zh zr zs bk));refine aNT ?_;(first|(intro z z;repeat (first|(with_reducible refine aMt fun z=>?_)|with_reducible refine aNd ?_|(intro (zv:(_:Value)=_);subst zv)|intro z))|skip);(have z:=bk _ _ (by with_reducible assumption);clear bk))
  |((first|(apply aKo;(with_reducible assumption);exact zt2;(first|exact zR _|exact aKg);intro zK zh zr zs bk)|(apply aKp;(with_reducible assumption);exact zt2;intro zK zh zr zs bk));refine aNT ?_;(first|(intro z z;repeat (first|(with_reducible refine aMt fun z=>?_)|with_reducible refine aNd ?_|(intro (zv:(_:Value)=_);subst zv)|intro z))|skip);(have z:=bk _ _ (by with_reducible assumption);clear bk))
  |((first|(apply aKo;(with_reducible assumption);exact zt3;(first|exact zR _|exact aKg);intro zK zh zr zs bk)|(apply aKp;(with_reducible assumption);exact zt3;intro zK zh zr zs bk));refine aNT ?_;(first|(intro z z;repeat (first|(with_reducible refine aMt fun z=>?_)|with_reducible refine aNd ?_|(intro (zv:(_:Value)=_);subst zv)|intro z))|skip);(have z:=bk _ _ (by with_reducible assumption);clear bk))
  |((first|(apply aKo;(with_reducible assumption);exact zt4;(first|exact zR _|exact aKg);intro zK zh zr zs bk)|(apply aKp;(with_reducible assumption);exact zt4;intro zK zh zr zs bk));refine aNT ?_;(first|(intro z z;repeat (first|(with_reducible refine aMt fun z=>?_)|with_reducible refine aNd ?_|(intro (zv:(_:Value)=_);subst zv)|intro z))|skip);(have z:=bk _ _ (by with_reducible assumption);clear bk))
  |((first|(apply aKo;(with_reducible assumption);exact .head;(first|exact zR _|exact aKg);intro zK zh zr zs bk)|(apply aKp;(with_reducible assumption);exact .head;intro zK zh zr zs bk));(first|(apply aKo;(with_reducible assumption);exact .head;(first|exact zR _|exact aKg);intro zK zh zr zs bk)|(apply aKp;(with_reducible assumption);exact .head;intro zK zh zr zs bk));refine aNT ?_;(first|(intro z z;repeat (first|(with_reducible refine aMt fun z=>?_)|with_reducible refine aNd ?_|(intro (zv:(_:Value)=_);subst zv)|intro z))|skip);(have z:=bk _ _ (by with_reducible assumption);clear bk);(have z:=bk _ _ (by with_reducible assumption);clear bk))
  |((first|(apply aKo;(with_reducible assumption);exact zt1;(first|exact zR _|exact aKg);intro zK zh zr zs bk)|(apply aKp;(with_reducible assumption);exact zt1;intro zK zh zr zs bk));(first|(apply aKo;(with_reducible assumption);exact zt1;(first|exact zR _|exact aKg);intro zK zh zr zs bk)|(apply aKp;(with_reducible assumption);exact zt1;intro zK zh zr zs bk));refine aNT ?_;(first|(intro z z;repeat (first|(with_reducible refine aMt fun z=>?_)|with_reducible refine aNd ?_|(intro (zv:(_:Value)=_);subst zv)|intro z))|skip);(have z:=bk _ _ (by with_reducible assumption);clear bk);(have z:=bk _ _ (by with_reducible assumption);clear bk))
  |((first|(apply aKo;(with_reducible assumption);exact zt1;(first|exact zR _|exact aKg);intro zK zh zr zs bk)|(apply aKp;(with_reducible assumption);exact zt1;intro zK zh zr zs bk));(first|(apply aKo;(with_reducible assumption);exact .head;(first|exact zR _|exact aKg);intro zK zh zr zs bk)|(apply aKp;(with_reducible assumption);exact .head;intro zK zh zr zs bk));refine aNT ?_;(first|(intro z z;repeat (first|(with_reducible refine aMt fun z=>?_)|with_reducible refine aNd ?_|(intro (zv:(_:Value)=_);subst zv)|intro z))|skip);(have z:=bk _ _ (by with_reducible assumption);clear bk);(have z:=bk _ _ (by with_reducible assumption);clear bk))
  |((first|(apply aKo;(with_reducible assumption);exact zt2;(first|exact zR _|exact aKg);intro zK zh zr zs bk)|(apply aKp;(with_reducible assumption);exact zt2;intro zK zh zr zs bk));(first|(apply aKo;(with_reducible assumption);exact zt1;(first|exact zR _|exact aKg);intro zK zh zr zs bk)|(apply aKp;(with_reducible assumption);exact zt1;intro zK zh zr zs bk));refine aNT ?_;(first|(intro z z;repeat (first|(with_reducible refine aMt fun z=>?_)|with_reducible refine aNd ?_|(intro (zv:(_:Value)=_);subst zv)|intro z))|skip);(have z:=bk _ _ (by with_reducible assumption);clear bk);(have z:=bk _ _ (by with_reducible assumption);clear bk))
  |((first|(apply aKo;(with_reducible assumption);exact zt2;(first|exact zR _|exact aKg);intro zK zh zr zs bk)|(apply aKp;(with_reducible assumption);exact zt2;intro zK zh zr zs bk));(first|(apply aKo;(with_reducible assumption);exact zt1;(first|exact zR _|exact aKg);intro zK zh zr zs bk)|(apply aKp;(with_reducible assumption);exact zt1;intro zK zh zr zs bk));(first|(apply aKo;(with_reducible assumption);exact zt1;(first|exact zR _|exact aKg);intro zK zh zr zs bk)|(apply aKp;(with_reducible assumption);exact zt1;intro zK zh zr zs bk));refine aNT ?_;(first|(intro z z;repeat (first|(with_reducible refine aMt fun z=>?_)|with_reducible refine aNd ?_|(intro (zv:(_:Value)=_);subst zv)|intro z))|skip);(have z:=bk _ _ (by with_reducible assumption);clear bk);(have z:=bk _ _ (by with_reducible assumption);clear bk);(have z:=bk _ _ (by with_reducible assumption);clear bk))
  |((first|(apply aKo;(with_reducible assumption);exact .head;(first|exact zR _|exact aKg);intro zK zh zr zs bk)|(apply aKp;(with_reducible assumption);exact .head;intro zK zh zr zs bk));(first|(apply aKo;(with_reducible assumption);exact .head;(first|exact zR _|exact aKg);intro zK zh zr zs bk)|(apply aKp;(with_reducible assumption);exact .head;intro zK zh zr zs bk));(first|(apply aKo;(with_reducible assumption);exact .head;(first|exact zR _|exact aKg);intro zK zh zr zs bk)|(apply aKp;(with_reducible assumption);exact .head;intro zK zh zr zs bk));refine aNT ?_;(first|(intro z z;repeat (first|(with_reducible refine aMt fun z=>?_)|with_reducible refine aNd ?_|(intro (zv:(_:Value)=_);subst zv)|intro z))|skip);(have z:=bk _ _ (by with_reducible assumption);clear bk);(have z:=bk _ _ (by with_reducible assumption);clear bk);(have z:=bk _ _ (by with_reducible assumption);clear bk))
  |((first|(apply aKo;(with_reducible assumption);exact zt1;(first|exact zR _|exact aKg);intro zK zh zr zs bk)|(apply aKp;(with_reducible assumption);exact zt1;intro zK zh zr zs bk));(first|(apply aKo;(with_reducible assumption);exact zt1;(first|exact zR _|exact aKg);intro zK zh zr zs bk)|(apply aKp;(with_reducible assumption);exact zt1;intro zK zh zr zs bk));(first|(apply aKo;(with_reducible assumption);exact zt1;(first|exact zR _|exact aKg);intro zK zh zr zs bk)|(apply aKp;(with_reducible assumption);exact zt1;intro zK zh zr zs bk));refine aNT ?_;(first|(intro z z;repeat (first|(with_reducible refine aMt fun z=>?_)|with_reducible refine aNd ?_|(intro (zv:(_:Value)=_);subst zv)|intro z))|skip);(have z:=bk _ _ (by with_reducible assumption);clear bk);(have z:=bk _ _ (by with_reducible assumption);clear bk);(have z:=bk _ _ (by with_reducible assumption);clear bk))
  |((first|(apply aKo;(with_reducible assumption);exact zt3;(first|exact zR _|exact aKg);intro zK zh zr zs bk)|(apply aKp;(with_reducible assumption);exact zt3;intro zK zh zr zs bk));(first|(apply aKo;(with_reducible assumption);exact zt2;(first|exact zR _|exact aKg);intro zK zh zr zs bk)|(apply aKp;(with_reducible assumption);exact zt2;intro zK zh zr zs bk));(first|(apply aKo;(with_reducible assumption);exact zt2;(first|exact zR _|exact aKg);intro zK zh zr zs bk)|(apply aKp;(with_reducible assumption);exact zt2;intro zK zh zr zs bk));refine aNT ?_;(first|(intro z z;repeat (first|(with_reducible refine aMt fun z=>?_)|with_reducible refine aNd ?_|(intro (zv:(_:Value)=_);subst zv)|intro z))|skip);(have z:=bk _ _ (by with_reducible assumption);clear bk);(have z:=bk _ _ (by with_reducible assumption);clear bk);(have z:=bk _ _ (by with_reducible assumption);clear bk))
  |((first|(apply aKo;(with_reducible assumption);exact .head;(first|exact zR _|exact aKg);intro zK zh zr zs bk)|(apply aKp;(with_reducible assumption);exact .head;intro zK zh zr zs bk));(first|(apply aKo;(with_reducible assumption);exact .head;(first|exact zR _|exact aKg);intro zK zh zr zs bk)|(apply aKp;(with_reducible assumption);exact .head;intro zK zh zr zs bk));(first|(apply aKo;(with_reducible assumption);exact .head;(first|exact zR _|exact aKg);intro zK zh zr zs bk)|(apply aKp;(with_reducible assumption);exact .head;intro zK zh zr zs bk));(first|(apply aKo;(with_reducible assumption);exact .head;(first|exact zR _|exact aKg);intro zK zh zr zs bk)|(apply aKp;(with_reducible assumption);exact .head;intro zK zh zr zs bk));refine aNT ?_;(first|(intro z z;repeat (first|(with_reducible refine aMt fun z=>?_)|with_reducible refine aNd ?_|(intro (zv:(_:Value)=_);subst zv)|intro z))|skip);(have z:=bk _ _ (by with_reducible assumption);clear bk);(have z:=bk _ _ (by with_reducible assumption);clear bk);(have z:=bk _ _ (by with_reducible assumption);clear bk);(have z:=bk _ _ (by with_reducible assumption);clear bk))
  |((first|(with_reducible apply st_g0)|(with_reducible apply st_g1)|(with_reducible apply st_g2)|(with_reducible apply st_g3)|(apply st_g4;exact rfl));rcases aH hm with ⟨z,hm⟩|⟨z,hm⟩))):p:=h
end Gv
