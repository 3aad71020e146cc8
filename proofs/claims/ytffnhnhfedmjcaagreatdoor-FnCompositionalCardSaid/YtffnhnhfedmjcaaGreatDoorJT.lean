/- Readings of the program's data; what is known of its types. -/
import Derived.Test.YtffnhnhfedmjcaaGreatDoorJYS
import Derived.Test.YtffnhnhfedmjcaaGreatDoorProg
set_option linter.all false
namespace Gv
open Go.Value renaming slice→zS
open Go Go.Proofs Go.Proofs.Tryz
instance:fF Edge where
 sz:=3
 enc d:=[i64 d.F,i64 d.B,i64 d.To]
 len _:=rfl
 one _ v h:=by simp at h;rcases h with rfl|rfl|rfl<;>rfl
 pos:=by decide
instance:El bA where
 sz:=4
 rd K cs d:=∃ (a0:Option Addr) (c0:Nat) (a1:Option Addr) (c1:Nat),cs=[i64 d.N,i64 d.I,zS a0 d.L.length c0,zS a1 d.E.length c1]/\bE K a0 c0 d.L/\bE K a1 c1 d.E
 mono:=fun h ⟨a0,c0,a1,c1,e,h0,h1⟩=>⟨a0,c0,a1,c1,e,h0.mono h,h1.mono h⟩
 len:=fun ⟨_,_,_,_,e,_⟩=>by rw [e];rfl
 one:=fun ⟨_,_,_,_,e,_⟩ v hv=>by rw [e] at hv;simp at hv;rcases hv with rfl|rfl|rfl|rfl<;>rfl
 pos:=by decide
instance:fF bK where
 sz:=3
 enc d:=[str d.Left,str d.Right,str d.Result]
 len _:=rfl
 one _ v h:=by simp at h;rcases h with rfl|rfl|rfl<;>rfl
 pos:=by decide
instance:El aO where
 sz:=4
 rd K cs d:=∃ (a0:Option Addr) (c0:Nat) (a1:Option Addr) (c1:Nat) (a2:Option Addr) (c2:Nat) (a3:Option Addr) (c3:Nat),cs=[zS a0 d.Parts.length c0,zS a1 d.Meetings.length c1,zS a2 d.Allowed.length c2,zS a3 d.Hidden.length c3]/\bE K a0 c0 d.Parts/\bE K a1 c1 d.Meetings/\bE K a2 c2 d.Allowed/\bE K a3 c3 d.Hidden
 mono:=fun h ⟨a0,c0,a1,c1,a2,c2,a3,c3,e,h0,h1,h2,h3⟩=>⟨a0,c0,a1,c1,a2,c2,a3,c3,e,h0.mono h,h1.mono h,h2.mono h,h3.mono h⟩
 len:=fun ⟨_,_,_,_,_,_,_,_,e,_⟩=>by rw [e];rfl
 one:=fun ⟨_,_,_,_,_,_,_,_,e,_⟩ v hv=>by rw [e] at hv;simp at hv;rcases hv with rfl|rfl|rfl|rfl<;>rfl
 pos:=by decide
instance:fF cO where
 sz:=3
 enc d:=[i64 d.from_,str d.label,i64 d.to_]
 len _:=rfl
 one _ v h:=by simp at h;rcases h with rfl|rfl|rfl<;>rfl
 pos:=by decide
instance:fF GTerm where
 sz:=2
 enc d:=[i64 d.Kind,i64 d.Value]
 len _:=rfl
 one _ v h:=by simp at h;rcases h with rfl|rfl<;>rfl
 pos:=by decide
instance:El Part where
 sz:=4
 rd K cs d:=∃ (a0:Option Addr) (c0:Nat),cs=[i64 d.Kind,i64 d.Number,str d.Name,zS a0 d.Arguments.length c0]/\bE K a0 c0 d.Arguments
 mono:=fun h ⟨a0,c0,e,h0⟩=>⟨a0,c0,e,h0.mono h⟩
 len:=fun ⟨_,_,e,_⟩=>by rw [e];rfl
 one:=fun ⟨_,_,e,_⟩ v hv=>by rw [e] at hv;simp at hv;rcases hv with rfl|rfl|rfl|rfl<;>rfl
 pos:=by decide
instance:El Definition where
 sz:=3
 rd K cs d:=∃ (a0:Option Addr) (c0:Nat),cs=[str d.Name,i64 d.Parameters,zS a0 d.Body.length c0]/\bE K a0 c0 d.Body
 mono:=fun h ⟨a0,c0,e,h0⟩=>⟨a0,c0,e,h0.mono h⟩
 len:=fun ⟨_,_,e,_⟩=>by rw [e];rfl
 one:=fun ⟨_,_,e,_⟩ v hv=>by rw [e] at hv;simp at hv;rcases hv with rfl|rfl|rfl<;>rfl
 pos:=by decide
instance:El aJH where
 sz:=2
 rd K cs d:=∃ (a0:Option Addr) (c0:Nat),cs=[i64 d.Definition,zS a0 d.Values.length c0]/\bE K a0 c0 d.Values
 mono:=fun h ⟨a0,c0,e,h0⟩=>⟨a0,c0,e,h0.mono h⟩
 len:=fun ⟨_,_,e,_⟩=>by rw [e];rfl
 one:=fun ⟨_,_,e,_⟩ v hv=>by rw [e] at hv;simp at hv;rcases hv with rfl|rfl<;>rfl
 pos:=by decide
instance:El aNY where
 sz:=5
 rd K cs d:=∃ (a0:Option Addr) (c0:Nat) (a1:Option Addr) (c1:Nat) (a2:Option Addr) (c2:Nat) (a3:Option Addr) (c3:Nat) (a4:Option Addr) (c4:Nat),cs=[zS a0 d.Definitions.length c0,zS a1 d.Components.length c1,zS a2 d.Meetings.length c2,zS a3 d.Allowed.length c3,zS a4 d.Hidden.length c4]/\bE K a0 c0 d.Definitions/\bE K a1 c1 d.Components/\bE K a2 c2 d.Meetings/\bE K a3 c3 d.Allowed/\bE K a4 c4 d.Hidden
 mono:=fun h ⟨a0,c0,a1,c1,a2,c2,a3,c3,a4,c4,e,h0,h1,h2,h3,h4⟩=>⟨a0,c0,a1,c1,a2,c2,a3,c3,a4,c4,e,h0.mono h,h1.mono h,h2.mono h,h3.mono h,h4.mono h⟩
 len:=fun ⟨_,_,_,_,_,_,_,_,_,_,e,_⟩=>by rw [e];rfl
 one:=fun ⟨_,_,_,_,_,_,_,_,_,_,e,_⟩ v hv=>by rw [e] at hv;simp at hv;rcases hv with rfl|rfl|rfl|rfl|rfl<;>rfl
 pos:=by decide
instance:Dp bA where
 Hd:=(Option Addr × Nat) × (Option Addr × Nat)
 sz1:=3
 enc hd x:=[i64 x.N,i64 x.I,.slice hd.1.1 x.L.length hd.1.2,.slice hd.2.1 x.E.length hd.2.2]
 pcs tys hd x:=[aG (tys.headD 0) Hp.nil hd.1.1 hd.1.2 x.L,aG (tys.tail.headD 0) Hp.nil hd.2.1 hd.2.2 x.E]
 len _ _:=rfl
 one _ _ v h:=by simp at h;rcases h with rfl|rfl|rfl|rfl<;>rfl
instance:DpEl bA where
 sz:=rfl
 rd:=fun {tys hd x h K} a hK=>by
  obtain ⟨p0,r0,b0,_,l0,m0,a⟩:=a
  obtain ⟨p1,r1,b1,_,l1,m1,a⟩:=a
  exact ⟨hd.1.1,hd.1.2,hd.2.1,hd.2.2,rfl,aG.rd b0 (Hp.le_trans l0 (hK)) (Hp.nil_le _),aG.rd b1 (Hp.le_trans l1 (Hp.le_trans m0 (hK))) (Hp.nil_le _)⟩
theorem bR:SLT prog 29 2 1:=⟨runUnderlying29,sizeOf2⟩
theorem fJ:SLT prog 26 9 1:=⟨runUnderlying26,sizeOf9⟩
theorem aFs:EZ prog 9 [str []]:=⟨⟨_,zeroValue9,rfl⟩,⟨t9,typeInfo9,by show (16:Nat)<=128;decide,rfl,by kernel_rfl,_,rfl,rfl⟩⟩
theorem eG:SC prog 2:=⟨isAgg2,sizeOf2⟩
theorem yX:SC prog 9:=⟨isAgg9,sizeOf9⟩
theorem yY:EZ prog 2 [i64 0]:=⟨⟨_,zeroValue2,rfl⟩,⟨t2,typeInfo2,by show (8:Nat)<=128;decide,rfl,by kernel_rfl,_,rfl,rfl⟩⟩
theorem sl_22:SLT prog 22 5 1:=⟨runUnderlying22,sizeOf5⟩
theorem bs_67:BS prog 67 [(0,1),(1,1),(2,1)] [zS none 0 0,i64 0,Value.int .u64 0]:=⟨⟨_,zeroValue67,rfl⟩,_,runUnderlying67,fun w=>by simp [sizeOf22,sizeOf3,sizeOf65]⟩
theorem aBz:FA prog 72 0 0:=⟨_,_,_,runUnderlying72,rfl,sizeOf2,rfl,rfl⟩
theorem rA:FA prog 72 1 1:=⟨_,_,_,runUnderlying72,rfl,sizeOf2,rfl,rfl⟩
theorem tJ:FA prog 72 2 2:=⟨_,_,_,runUnderlying72,rfl,sizeOf2,rfl,rfl⟩
theorem eI:SLT prog 33 72 3:=⟨runUnderlying33,sizeOf72⟩
theorem rP:AG prog 72 3:=⟨isAgg72,sizeOf72⟩
theorem aLz:BS prog 72 [(0,1),(1,1),(2,1)] [i64 0,i64 0,i64 0]:=⟨⟨_,zeroValue72,rfl⟩,_,runUnderlying72,fun w=>by simp [sizeOf2]⟩
theorem aBd:EZ prog 72 [i64 0,i64 0,i64 0]:=⟨⟨_,zeroValue72,rfl⟩,⟨t72,typeInfo72,by show (24:Nat)<=128;decide,rfl,by kernel_rfl,_,rfl,rfl⟩⟩
theorem aEJ:BS prog 35 [(0,1),(1,1),(2,1),(3,1)] [i64 0,i64 0,zS none 0 0,zS none 0 0]:=⟨⟨_,zeroValue35,rfl⟩,_,runUnderlying35,fun w=>by simp [sizeOf2,sizeOf26,sizeOf33]⟩
theorem mL:FA prog 35 2 2:=⟨_,_,_,runUnderlying35,rfl,sizeOf26,rfl,rfl⟩
theorem uQ:SC prog 26:=⟨isAgg26,sizeOf26⟩
theorem mG:FA prog 35 3 3:=⟨_,_,_,runUnderlying35,rfl,sizeOf33,rfl,rfl⟩
theorem aAq:SC prog 33:=⟨isAgg33,sizeOf33⟩
theorem eW:AG prog 35 4:=⟨isAgg35,sizeOf35⟩
theorem kQ:FA prog 35 0 0:=⟨_,_,_,runUnderlying35,rfl,sizeOf2,rfl,rfl⟩
theorem aEK:FA prog 35 1 1:=⟨_,_,_,runUnderlying35,rfl,sizeOf2,rfl,rfl⟩
theorem lU:SLT prog 24 35 4:=⟨runUnderlying24,sizeOf35⟩
theorem aEL:EZ prog 35 [i64 0,i64 0,zS none 0 0,zS none 0 0]:=⟨⟨_,zeroValue35,rfl⟩,⟨t35,typeInfo35,by show (64:Nat)<=128;decide,rfl,by kernel_rfl,_,rfl,rfl⟩⟩
theorem bs_28:BS prog 28 [(0,1),(1,1),(2,1),(3,1)] [zS none 0 0,zS none 0 0,zS none 0 0,zS none 0 0]:=⟨⟨_,zeroValue28,rfl⟩,_,runUnderlying28,fun w=>by simp [sizeOf24,sizeOf25,sizeOf26]⟩
theorem fa_67_1:FA prog 67 1 1:=⟨_,_,_,runUnderlying67,rfl,sizeOf3,rfl,rfl⟩
theorem sc_3:SC prog 3:=⟨isAgg3,sizeOf3⟩
theorem fa_67_0:FA prog 67 0 0:=⟨_,_,_,runUnderlying67,rfl,sizeOf22,rfl,rfl⟩
theorem sc_22:SC prog 22:=⟨isAgg22,sizeOf22⟩
theorem sc_5:SC prog 5:=⟨isAgg5,sizeOf5⟩
theorem fa_67_2:FA prog 67 2 2:=⟨_,_,_,runUnderlying67,rfl,sizeOf65,rfl,rfl⟩
theorem sc_65:SC prog 65:=⟨isAgg65,sizeOf65⟩
theorem kR:FA prog 28 0 0:=⟨_,_,_,runUnderlying28,rfl,sizeOf24,rfl,rfl⟩
theorem xJ:SC prog 24:=⟨isAgg24,sizeOf24⟩
theorem aHC:FA prog 28 1 1:=⟨_,_,_,runUnderlying28,rfl,sizeOf25,rfl,rfl⟩
theorem aLA:SC prog 25:=⟨isAgg25,sizeOf25⟩
theorem bs_69:BS prog 69 [(0,1),(1,1),(2,1)] [str [],str [],str []]:=⟨⟨_,zeroValue69,rfl⟩,_,runUnderlying69,fun w=>by simp [sizeOf9]⟩
theorem aFt:SLT prog 25 69 3:=⟨runUnderlying25,sizeOf69⟩
theorem ez_69:EZ prog 69 [str [],str [],str []]:=⟨⟨_,zeroValue69,rfl⟩,⟨t69,typeInfo69,by show (48:Nat)<=128;decide,rfl,by kernel_rfl,_,rfl,rfl⟩⟩
theorem aNZ:FA prog 28 2 2:=⟨_,_,_,runUnderlying28,rfl,sizeOf26,rfl,rfl⟩
theorem aOa:FA prog 28 3 3:=⟨_,_,_,runUnderlying28,rfl,sizeOf26,rfl,rfl⟩
theorem uR:AG prog 28 4:=⟨isAgg28,sizeOf28⟩
theorem sl_207:SLT prog 207 3 1:=⟨runUnderlying207,sizeOf3⟩
theorem ez_3:EZ prog 3 [i64 0]:=⟨⟨_,zeroValue3,rfl⟩,⟨t3,typeInfo3,by show (8:Nat)<=128;decide,rfl,by kernel_rfl,_,rfl,rfl⟩⟩
theorem aKN:FA prog 69 0 0:=⟨_,_,_,runUnderlying69,rfl,sizeOf9,rfl,rfl⟩
theorem aKO:FA prog 69 1 1:=⟨_,_,_,runUnderlying69,rfl,sizeOf9,rfl,rfl⟩
theorem ag_69:AG prog 69 3:=⟨isAgg69,sizeOf69⟩
theorem fa_69_2:FA prog 69 2 2:=⟨_,_,_,runUnderlying69,rfl,sizeOf9,rfl,rfl⟩
theorem aAg:SLT prog 125 129 3:=⟨runUnderlying125,sizeOf129⟩
theorem ag_129:AG prog 129 3:=⟨isAgg129,sizeOf129⟩
theorem aPF:FA prog 129 0 0:=⟨_,_,_,runUnderlying129,rfl,sizeOf2,rfl,rfl⟩
theorem aJb:FA prog 129 1 1:=⟨_,_,_,runUnderlying129,rfl,sizeOf9,rfl,rfl⟩
theorem aPG:FA prog 129 2 2:=⟨_,_,_,runUnderlying129,rfl,sizeOf2,rfl,rfl⟩
theorem aPH:FA prog 177 2 2:=⟨_,_,_,runUnderlying177,rfl,sizeOf25,rfl,rfl⟩
theorem bs_177:BS prog 177 [(0,1),(1,1),(2,1),(3,1),(4,1)] [zS none 0 0,zS none 0 0,zS none 0 0,zS none 0 0,zS none 0 0]:=⟨⟨_,zeroValue177,rfl⟩,_,runUnderlying177,fun w=>by simp [sizeOf174,sizeOf175,sizeOf25,sizeOf26]⟩
theorem tV:SC prog 29:=⟨isAgg29,sizeOf29⟩
theorem bs_127:BS prog 127 [(0,1),(1,1),(2,1),(3,1)] [zS none 0 0,Value.map none,zS none 0 0,Value.nilFunc]:=⟨⟨_,zeroValue127,rfl⟩,_,runUnderlying127,fun w=>by simp [sizeOf124,sizeOf125,sizeOf36,sizeOf84]⟩
theorem wX:SC prog 123:=⟨isAgg123,sizeOf123⟩
theorem aPI:FA prog 127 3 3:=⟨_,_,_,runUnderlying127,rfl,sizeOf84,rfl,rfl⟩
theorem sc_84:SC prog 84:=⟨isAgg84,sizeOf84⟩
theorem aLB:FA prog 127 1 1:=⟨_,_,_,runUnderlying127,rfl,sizeOf124,rfl,rfl⟩
theorem sc_124:SC prog 124:=⟨isAgg124,sizeOf124⟩
theorem ko_9:aLs prog 9 aH:=keyOk_str runUnderlying9
theorem vZ:FA prog 127 0 0:=⟨_,_,_,runUnderlying127,rfl,sizeOf36,rfl,rfl⟩
theorem aFu:SC prog 36:=⟨isAgg36,sizeOf36⟩
theorem iG:SLT prog 36 29 1:=⟨runUnderlying36,sizeOf29⟩
theorem aAb:EZ prog 29 [zS none 0 0]:=⟨⟨_,zeroValue29,rfl⟩,⟨t29,typeInfo29,by show (24:Nat)<=128;decide,rfl,by kernel_rfl,_,rfl,rfl⟩⟩
theorem sc_55:SC prog 55:=⟨isAgg55,sizeOf55⟩
theorem sc_85:SC prog 85:=⟨isAgg85,sizeOf85⟩
theorem aBA:FA prog 127 2 2:=⟨_,_,_,runUnderlying127,rfl,sizeOf125,rfl,rfl⟩
theorem aGR:SC prog 125:=⟨isAgg125,sizeOf125⟩
theorem aOb:BS prog 129 [(0,1),(1,1),(2,1)] [i64 0,str [],i64 0]:=⟨⟨_,zeroValue129,rfl⟩,_,runUnderlying129,fun w=>by simp [sizeOf2,sizeOf9]⟩
theorem aGa:EZ prog 129 [i64 0,str [],i64 0]:=⟨⟨_,zeroValue129,rfl⟩,⟨t129,typeInfo129,by show (32:Nat)<=128;decide,rfl,by kernel_rfl,_,rfl,rfl⟩⟩
theorem ko_2:aLs prog 2 Int:=keyOk_int runUnderlying2
theorem aBB:SLT prog 202 4 1:=⟨runUnderlying202,sizeOf4⟩
theorem ez_4:EZ prog 4 [Value.bool false]:=⟨⟨_,zeroValue4,rfl⟩,⟨t4,typeInfo4,by show (1:Nat)<=128;decide,rfl,by kernel_rfl,_,rfl,rfl⟩⟩
theorem sc_202:SC prog 202:=⟨isAgg202,sizeOf202⟩
theorem sc_4:SC prog 4:=⟨isAgg4,sizeOf4⟩
theorem aOc:SLT prog 232 26 1:=⟨runUnderlying232,sizeOf26⟩
theorem ez_26:EZ prog 26 [zS none 0 0]:=⟨⟨_,zeroValue26,rfl⟩,⟨t26,typeInfo26,by show (24:Nat)<=128;decide,rfl,by kernel_rfl,_,rfl,rfl⟩⟩
theorem st_72:prog.stoodInHeld 72=false:=by kernel_rfl
theorem eq_72 {x y:Edge}:EQT prog 72 [i64 x.F,i64 x.B,i64 x.To] [i64 y.F,i64 y.B,i64 y.To] (decide (x=y)):=by
 refine ⟨by kernel_rfl,fun w=>?_⟩
 have h2:∀ (a b:Int),(Op.equalIn 9999 2 (i64 a) (i64 b)).run prog w=.ok (a == b) w:=fun a b=>run_eqInI 9998 (runUnderlying2 w)
 have:Op.maxDepth=9999+1:=rfl
 unfold Op.equal
 rw [this]
 unfold Op.equalIn
 simp [runUnderlying72,st_72,part,h2,isAgg2]
 cases x;cases y
 simp
 repeat' split<;>simp_all
theorem Tryz_mixed:prog.follows .mixedOrders=true:=by kernel_rfl
abbrev zC (d:bA) (a:Option Addr) (c:Nat) (b:Option Addr) (e:Nat):List Value:=[i64 d.N,i64 d.I,Value.slice a d.L.length c,Value.slice b d.E.length e]
abbrev zCa (d:bA) (a:Option Addr) (c:Nat) (b:Option Addr) (e:Nat):Array Value:=#[i64 d.N,i64 d.I,Value.slice a d.L.length c,Value.slice b d.E.length e]
abbrev zG:List Value:=[i64 0,i64 0,Value.slice none 0 0,Value.slice none 0 0]
abbrev zGa:Array Value:=#[i64 0,i64 0,Value.slice none 0 0,Value.slice none 0 0]
abbrev zK:List Value:=[i64 0,i64 0,Value.slice none 0 0,Value.slice none 0 0,Value.slice none 0 0,Value.slice none 0 0]
abbrev zKa:Array Value:=#[i64 0,i64 0,Value.slice none 0 0,Value.slice none 0 0,Value.slice none 0 0,Value.slice none 0 0]
end Gv
namespace Gv
open Go.Value renaming slice→zS
open Gv.Hp renaming le_refl→zR
open Go Go.Proofs Go.Proofs.Tryz
theorem rQ {p:Prop} (h:p:=by first|assumption|(apply st_cK;assumption;exact oQ)):p:=h
theorem st_HR {p:Prop} (h:p:=by first|assumption|(apply st_rK;assumption;exact oQ)):p:=h
theorem st_S {p:Prop} (h:p:=by with_reducible first|exact bR|exact fJ|exact sl_22|exact eI|exact lU|exact aFt|exact sl_207|exact aAg|exact iG|exact aBB|exact aOc):p:=h
theorem aAS {p:Prop} (h:p:=by with_reducible first|exact eG|exact yX|exact uQ|exact aAq|exact sc_3|exact sc_22|exact sc_5|exact sc_65|exact xJ|exact aLA|exact tV|exact wX|exact sc_84|exact sc_124|exact aFu|exact sc_55|exact sc_85|exact aGR|exact sc_202|exact sc_4):p:=h
theorem aFi {p:Prop} (h:p:=by with_reducible first|exact rP|exact eW|exact uR|exact ag_69|exact ag_129):p:=h
theorem st_F {p:Prop} (h:p:=by with_reducible first|exact aBz|exact rA|exact tJ|exact mL|exact mG|exact kQ|exact aEK|exact fa_67_1|exact fa_67_0|exact fa_67_2|exact kR|exact aHC|exact aNZ|exact aOa|exact aKN|exact aKO|exact fa_69_2|exact aPF|exact aJb|exact aPG|exact aPH|exact aPI|exact aLB|exact vZ|exact aBA):p:=h
theorem za_3:ZA prog 3 [i64 0]:=⟨_,zeroValue3,rfl⟩
theorem za_28:ZA prog 28 [zS none 0 0,zS none 0 0,zS none 0 0,zS none 0 0]:=⟨_,zeroValue28,rfl⟩
theorem za_29:ZA prog 29 [zS none 0 0]:=⟨_,zeroValue29,rfl⟩
theorem za_35:ZA prog 35 [i64 0,i64 0,zS none 0 0,zS none 0 0]:=⟨_,zeroValue35,rfl⟩
theorem za_36:ZA prog 36 [zS none 0 0]:=⟨_,zeroValue36,rfl⟩
theorem za_69:ZA prog 69 [str ([]:aH),str ([]:aH),str ([]:aH)]:=⟨_,zeroValue69,rfl⟩
theorem za_72:ZA prog 72 [i64 0,i64 0,i64 0]:=⟨_,zeroValue72,rfl⟩
theorem za_123:ZA prog 123 [Value.pointer none]:=⟨_,zeroValue123,rfl⟩
theorem za_129:ZA prog 129 [i64 0,str ([]:aH),i64 0]:=⟨_,zeroValue129,rfl⟩
theorem za_202:ZA prog 202 [zS none 0 0]:=⟨_,zeroValue202,rfl⟩
theorem st_r {p:Prop} (h:p:=by with_reducible first|exact runUnderlying115|exact runUnderlying124|exact runUnderlying2|exact runUnderlying236|exact runUnderlying3|exact runUnderlying4|exact runUnderlying5|exact runUnderlying65|exact runUnderlying9):p:=h
theorem st_h {p:Prop} (h:p:=by with_reducible first|exact bs_67|exact aLz|exact aEJ|exact bs_28|exact bs_69|exact bs_177|exact bs_127|exact aOb):p:=h
theorem st_e {p:Prop} (h:p:=by with_reducible first|exact aFs|exact yY|exact aBd|exact aEL|exact ez_69|exact ez_3|exact aAb|exact aGa|exact ez_4|exact ez_26):p:=h
theorem st_u {p:Prop} (h:p:=by with_reducible first|exact underlying125|exact underlying24|exact underlying25|exact underlying26|exact underlying29|exact underlying33|exact underlying36):p:=h
theorem st_z {p:Prop} (h:p:=by with_reducible first|exact sizeOf123|exact sizeOf125|exact sizeOf129|exact sizeOf2|exact sizeOf202|exact sizeOf24|exact sizeOf25|exact sizeOf26|exact sizeOf28|exact sizeOf29|exact sizeOf3|exact sizeOf33|exact sizeOf35|exact sizeOf36|exact sizeOf4|exact sizeOf65|exact sizeOf69|exact sizeOf72|exact sizeOf9):p:=h
theorem st_y {p:Prop} (h:p:=by with_reducible first|exact za_3|exact za_28|exact za_29|exact za_35|exact za_36|exact za_69|exact za_72|exact za_123|exact za_129|exact za_202):p:=h
theorem aMI {p:Prop} (h:p:=by first|exact V_moveC|exact V_assignC|(apply V_B;first|(apply V_add;exact cK;exact cK)|(apply V_sub;exact cK;exact cK)|(apply V_mul;exact cK;exact cK)|(apply V_lss;exact cK;exact cK)|(apply V_leq;exact cK;exact cK)|(apply V_gtr;exact cK;exact cK)|(apply V_geq;exact cK;exact cK)|(apply V_eql;exact cK;exact cK)|(apply V_neq;exact cK;exact cK)|(apply V_eqlS;exact cK;exact cK)|(apply V_neqS;exact cK;exact cK)|(apply V_lssS;exact cK;exact cK)|(apply V_leqS;exact cK;exact cK)|(apply V_gtrS;exact cK;exact cK)|(apply V_geqS;exact cK;exact cK))|exact V_moveF|exact V_assignF|(apply V_move;exact cK)|(apply V_assign;exact cK)|(apply V_fldP;exact cK;exact st_F)|(apply V_fldE;exact cK;exact rQ;exact st_F)|(apply V_fldO;exact cK;exact gE;exact aIs;exact gE;exact st_F)|(apply V_L;first|(apply V_ldB;exact cK;exact gE;exact aIs;exact rfl;exact aAS)|(apply V_ldBG;exact cK;exact gE;exact aIs;exact aFi;exact st_D)|(apply aKl (t:=0);exact cK;exact rQ;exact gE;exact rfl;exact aAS)|(apply aKl (t:=1);exact cK;exact rQ;exact gE;exact rfl;exact aAS)|(apply aKl (t:=2);exact cK;exact rQ;exact gE;exact rfl;exact aAS)|(apply aKl (t:=3);exact cK;exact rQ;exact gE;exact rfl;exact aAS)|(apply aKl (t:=4);exact cK;exact rQ;exact gE;exact rfl;exact aAS)|(apply aKl (t:=5);exact cK;exact rQ;exact gE;exact rfl;exact aAS)|(apply aKl (t:=6);exact cK;exact rQ;exact gE;exact rfl;exact aAS)|(apply aKl (t:=7);exact cK;exact rQ;exact gE;exact rfl;exact aAS)|(apply aGQ (t:=0);exact cK;exact rQ;exact gE;exact aFi;exact rfl;exact rfl)|(apply aGQ (t:=1);exact cK;exact rQ;exact gE;exact aFi;exact rfl;exact rfl)|(apply aGQ (t:=2);exact cK;exact rQ;exact gE;exact aFi;exact rfl;exact rfl)|(apply aGQ (t:=3);exact cK;exact rQ;exact gE;exact aFi;exact rfl;exact rfl)|(apply aGQ (t:=4);exact cK;exact rQ;exact gE;exact aFi;exact rfl;exact rfl)|(apply aGQ (t:=5);exact cK;exact rQ;exact gE;exact aFi;exact rfl;exact rfl)|(apply aGQ (t:=6);exact cK;exact rQ;exact gE;exact aFi;exact rfl;exact rfl)|(apply aGQ (t:=7);exact cK;exact rQ;exact gE;exact aFi;exact rfl;exact rfl)|(apply V_ldO (t:=0);exact cK;exact gE;exact aIs;exact gE;exact rfl;exact rfl;exact aAS)|(apply V_ldO (t:=1);exact cK;exact gE;exact aIs;exact gE;exact rfl;exact rfl;exact aAS)|(apply V_ldO (t:=2);exact cK;exact gE;exact aIs;exact gE;exact rfl;exact rfl;exact aAS)|(apply V_ldO (t:=3);exact cK;exact gE;exact aIs;exact gE;exact rfl;exact rfl;exact aAS)|(apply V_ldO (t:=4);exact cK;exact gE;exact aIs;exact gE;exact rfl;exact rfl;exact aAS)|(apply V_ldOG (t:=0);exact cK;exact gE;exact aIs;exact gE;exact rfl;exact aFi;exact rfl;exact rfl)|(apply V_ldOG (t:=1);exact cK;exact gE;exact aIs;exact gE;exact rfl;exact aFi;exact rfl;exact rfl)|(apply V_ldOG (t:=2);exact cK;exact gE;exact aIs;exact gE;exact rfl;exact aFi;exact rfl;exact rfl)|(apply aKn (t:=0);exact cK;exact gE;exact gE;exact oQ;exact rfl;exact aAS)|(apply aKn (t:=1);exact cK;exact gE;exact gE;exact oQ;exact rfl;exact aAS)|(apply aKn (t:=2);exact cK;exact gE;exact gE;exact oQ;exact rfl;exact aAS)|(apply aKn (t:=3);exact cK;exact gE;exact gE;exact oQ;exact rfl;exact aAS)|(apply aKn (t:=4);exact cK;exact gE;exact gE;exact oQ;exact rfl;exact aAS)|(apply aKn (t:=5);exact cK;exact gE;exact gE;exact oQ;exact rfl;exact aAS)|(apply aKn (t:=6);exact cK;exact gE;exact gE;exact oQ;exact rfl;exact aAS)|(apply aKn (t:=7);exact cK;exact gE;exact gE;exact oQ;exact rfl;exact aAS)|(apply aNX (t:=0);exact cK;exact gE;exact gE;exact oQ;exact aFi;exact rfl;exact rfl)|(apply aNX (t:=1);exact cK;exact gE;exact gE;exact oQ;exact aFi;exact rfl;exact rfl)|(apply aNX (t:=2);exact cK;exact gE;exact gE;exact oQ;exact aFi;exact rfl;exact rfl)|(apply aNX (t:=3);exact cK;exact gE;exact gE;exact oQ;exact aFi;exact rfl;exact rfl)|(apply aKm (t:=0);exact gE;exact rQ;exact cK;exact rfl;exact aAS)|(apply aKm (t:=1);exact gE;exact rQ;exact cK;exact rfl;exact aAS)|(apply aKm (t:=2);exact gE;exact rQ;exact cK;exact rfl;exact aAS)|(apply aKm (t:=3);exact gE;exact rQ;exact cK;exact rfl;exact aAS)|(apply aKm (t:=4);exact gE;exact rQ;exact cK;exact rfl;exact aAS)|(apply aKm (t:=5);exact gE;exact rQ;exact cK;exact rfl;exact aAS)|(apply aKm (t:=6);exact gE;exact rQ;exact cK;exact rfl;exact aAS)|(apply aKm (t:=7);exact gE;exact rQ;exact cK;exact rfl;exact aAS)|(apply aNW (t:=0);exact gE;exact rQ;exact cK;exact aFi;exact rfl;exact rfl)|(apply aNW (t:=1);exact gE;exact rQ;exact cK;exact aFi;exact rfl;exact rfl)|(apply aNW (t:=2);exact gE;exact rQ;exact cK;exact aFi;exact rfl;exact rfl)|(apply aNW (t:=3);exact gE;exact rQ;exact cK;exact aFi;exact rfl;exact rfl))|(apply V_lenS;exact st_S;exact cK)|(apply V_nilE;exact cK;exact rQ)|(apply V_nilP;exact cK)|(apply V_nilO;exact cK;exact gE;exact aIs;exact gE)|(apply V_ixE;exact cK;exact cK;exact st_HR;exact gE;exact rfl;exact st_S;exact rfl)|(apply V_ixO;exact cK;exact cK;exact gE;exact aIs;exact gE;exact rfl;exact st_S;exact rfl)|(apply V_extract;exact cK;exact rfl)|(apply V_pickT;exact cK;exact aKA;exact cK)|(apply V_pickF;exact cK;exact aKA;exact cK)|(apply V_not;exact cK)|(apply V_lenStr;exact st_r;exact cK)|(apply V_ixS;exact st_r;exact cK;exact cK;exact gE)|(apply V_conv64;exact st_r;exact cK;exact ⟨_,st_r⟩)|(apply V_convu64;exact st_r;exact cK;exact ⟨_,st_r⟩)|(apply V_rem;exact cK;exact cK;exact gE)|(apply V_cat;exact cK;exact cK;exact gE)|(apply V_neqB;exact st_r;exact cK;exact cK)|(apply V_u64add;exact cK;exact cK)|(apply V_u64mul;exact cK;exact cK)|(apply V_shrU;exact cK;exact cK;exact gE)|(apply V_andU;exact cK;exact cK)|(apply V_min;exact cK;exact cK)|(apply V_max;exact cK;exact cK)|(apply V_slSL;exact st_r;exact cK;exact cK;exact gE)|(apply V_slSH;exact st_r;exact cK;exact cK;exact gE)|(apply V_isNil;exact st_S;exact cK;exact rfl)|(apply V_build;exact st_h;exact rfl;exact (by kernel_rfl))|(apply aQF;exact rfl)):p:=h
theorem aGy {P:Program} {n:Nat} {f:Nat->Value} {w:World} {ty:TypeId} {pos:String} {af:Array Go.Edge} {C:World->Prop} {R:(Nat->Value)->World->Prop} {os:List Oper} {d:Nat} {op:Op} {v:Value} {bs:List Nat} {m:Nat} {listed:Array Bool} (i:Nat) (h:WA P n os.toArray C bs R m (listed.setIfInBounds i true) (upd f d v) w) (hi:aFf os i=some ⟨some d,op,ty,pos,af,none⟩:=by exact rfl) (hB:lookB os.toArray bs listed i=true:=by kernel_rfl) (hC:C w:=by first|exact ⟨_,by assumption⟩|exact ⟨_,aD.weakK (by assumption) oQ⟩) (hr:∀ w,C w->EX P f op v d ty pos af w:=by rintro _ ⟨_,_⟩;exact aMI):WA P n os.toArray C bs R (m+1) listed f w:=V_WA hi hB hC hr h
theorem aFl {p q:Prop} (k:q) (h:Hd q->p:=by
 intro hk
 first
  |(apply VO;exact aMI)
  |(apply VQ;intro _ _;exact aMI)
  |(apply aR)
  |with_reducible apply aC
  |with_reducible apply dI
  |(apply aL)
  |(apply aW)
  |(apply bD)
  |(apply aBx)
  |(apply aQu;exact cK;exact aKA)
  |(apply aQv;exact cK;exact aKA)
  |with_reducible apply kP
  |with_reducible apply vV
  |(with_reducible apply aMG;exact rfl)
  |(apply V_onT;exact rfl;exact cK;exact aKA)
  |(apply V_onF;exact rfl;exact cK;exact aKA)
  |(apply V_offF;exact rfl;exact cK;exact aKA)
  |(apply V_offT;exact rfl;exact cK;exact aKA)
  |(apply Q_onT;exact rfl;exact cK;exact aKA)
  |(apply Q_onF;exact rfl;exact cK;exact aKA)
  |(apply Q_offF;exact rfl;exact cK;exact aKA)
  |(apply Q_offT;exact rfl;exact cK;exact aKA)
  |(apply aOB;exact rfl;exact cK)
  |(apply vY;exact rfl;exact cK)
  |(apply V_WE;exact rfl;rintro _ ⟨_,_⟩;exact aMI)
  |(apply V_WT;exact rfl;intro _;exact aMI)
 exact hk.k):p:=h ⟨k⟩
theorem aCk {p q:Prop} (k:q) (h:Hd q->p:=by
 intro hk
 repeat (first
  |(apply VO;exact aMI)
  |(apply VQ;intro _ _;exact aMI)
  |(apply aR)
  |with_reducible apply aC
  |with_reducible apply dI
  |(apply aL)
  |(apply aW)
  |(apply bD)
  |(apply aBx)
  |(apply aQu;exact cK;exact aKA)
  |(apply aQv;exact cK;exact aKA)
  |with_reducible apply kP
  |with_reducible apply vV
  |(with_reducible apply aMG;exact rfl)
  |(apply V_onT;exact rfl;exact cK;exact aKA)
  |(apply V_onF;exact rfl;exact cK;exact aKA)
  |(apply V_offF;exact rfl;exact cK;exact aKA)
  |(apply V_offT;exact rfl;exact cK;exact aKA)
  |(apply Q_onT;exact rfl;exact cK;exact aKA)
  |(apply Q_onF;exact rfl;exact cK;exact aKA)
  |(apply Q_offF;exact rfl;exact cK;exact aKA)
  |(apply Q_offT;exact rfl;exact cK;exact aKA)
  |(apply aOB;exact rfl;exact cK)
  |(apply vY;exact rfl;exact cK)
  |(apply V_WE;exact rfl;rintro _ ⟨_,_⟩;exact aMI)
  |(apply V_WT;exact rfl;intro _;exact aMI))
 exact hk.k):p:=h ⟨k⟩
theorem st_call {p:Prop} (h:p:=by with_reducible first|exact call4|exact call5|exact call6|exact call7|exact call8|exact call9|exact call10|exact call11|exact call12|exact call13|exact call14|exact call15|exact call16|exact call17|exact call18|exact call19|exact call20|exact call21|exact call22|exact call23|exact call24|exact call25|exact call26|exact call27|exact call28|exact call29|exact call30|exact call31|exact call32|exact call33|exact call34|exact call35|exact call36|exact call37|exact call38|exact call39|exact call40|exact call41|exact call42|exact call43|exact call44|exact call45|exact call46|exact call47|exact call49|exact call50|exact call51|exact call52|exact call53|exact call54|exact call55|exact call56|exact call57|exact call58|exact call59|exact call60|exact call61|exact call62|exact call63|exact call64|exact call65|exact call66|exact call67|exact call68|exact call69|exact call70|exact call71|exact call72|exact call73|exact call74|exact call75|exact call76|exact call77|exact call78|exact call79|exact call80|exact call81|exact call82|exact call83|exact call84|exact call85|exact call86|exact call87|exact call88|exact call89|exact call90|exact call91|exact call94|exact call95|exact call96|exact call97|exact call98|exact call99|exact call100|exact call101|exact call102|exact call103|exact call104|exact call105|exact call106|exact call107|exact call108|exact call109|exact call110|exact call111|exact call112|exact call113|exact call114|exact call115|exact call116|exact call117|exact call118|exact call119|exact call120|exact call121|exact call122|exact call123|exact call124|exact call125|exact call126|exact call128|exact call129|exact call134|exact call135|exact call146|exact call148|exact call149|exact call150|exact call151|exact call153|exact call154|exact call155|exact call156|exact call157|exact call158|exact call159|exact call160|exact call161|exact call162|exact call163|exact call164|exact call165|exact call166|exact call167|exact call168|exact call170|exact call174|exact call175|exact call190|exact call192|exact call202|exact call203|exact call204|exact call205|exact call206|exact call207|exact call208|exact call209|exact call210|exact call211|exact call212|exact call213|exact call214|exact call230|exact call231|exact call232|exact call243|exact call247|exact call248|exact call249|exact call250|exact call251|exact call252):p:=h
theorem st_f {p:Prop} (h:p:=by with_reducible first|exact func3|exact func4|exact func5|exact func6|exact func7|exact func8|exact func9|exact func10|exact func11|exact func12|exact func13|exact func14|exact func15|exact func16|exact func17|exact func18|exact func19|exact func20|exact func21|exact func22|exact func23|exact func24|exact func25|exact func26|exact func27|exact func28|exact func29|exact func30|exact func31|exact func32|exact func33|exact func34|exact func35|exact func36|exact func37|exact func38|exact func39|exact func40|exact func41|exact func42|exact func43|exact func44|exact func45|exact func46|exact func48|exact func49|exact func50|exact func51|exact func52|exact func53|exact func54|exact func55|exact func56|exact func57|exact func58|exact func60|exact func61|exact func62|exact func63|exact func64|exact func65|exact func66|exact func67|exact func68|exact func69|exact func70|exact func71|exact func72|exact func73|exact func74|exact func75|exact func76|exact func77|exact func78|exact func79|exact func80|exact func81|exact func82|exact func83|exact func84|exact func85|exact func86|exact func89|exact func90|exact func91|exact func94|exact func95|exact func96|exact func98|exact func99|exact func101|exact func102|exact func103|exact func104|exact func105|exact func106|exact func107|exact func108|exact func109|exact func110|exact func111|exact func112|exact func113|exact func115|exact func116|exact func117|exact func118|exact func119|exact func120|exact func121|exact func122|exact func123|exact func124|exact func125|exact func127|exact func128|exact func129|exact func134|exact func135|exact func146|exact func149|exact func151|exact func153|exact func154|exact func155|exact func156|exact func157|exact func158|exact func159|exact func160|exact func161|exact func162|exact func163|exact func164|exact func165|exact func166|exact func167|exact func168|exact func174|exact func175|exact func192|exact func202|exact func203|exact func204|exact func205|exact func206|exact func207|exact func209|exact func210|exact func211|exact func212|exact func213|exact func214|exact func230|exact func231|exact func232|exact func243|exact func247|exact func248|exact func249|exact func251|exact func252):p:=h
theorem aNi {p:Prop} (h:p:=by first|((with_reducible apply aFg);exact rfl;exact rfl)|((with_reducible apply V_rvG);exact cK;exact gE;exact aIs;exact aFi;exact rfl;exact rfl)|((with_reducible apply V_rvB);exact cK;exact gE;exact aIs;exact aAS;exact rfl)):p:=h
theorem st_X {p:Prop} (h:p:=by
 (repeat (first
  |exact cE
  |(with_reducible apply Exists.intro)
  |((with_reducible apply And.intro);· first|exact cE|(with_reducible assumption)|exact (Option.some.inj (by with_reducible assumption)).symm|exact rfl|assumption|exact zR _|exact oQ|exact aDB _|(apply st_rK;assumption;exact oQ)|(apply st_cK;assumption;exact oQ)|exact iS (by assumption))
  |(with_reducible assumption)|exact aKa|exact rfl|assumption));first|done|fail):p:=h
theorem aEi {p q:Prop} (k:q) (h:Hd q->p:=by
 intro hk
 (first|apply st_ca|apply st_cb|apply st_cq);exact st_call;(first|(with_reducible intro z z)|skip);(first|((with_reducible first|apply aMM|apply aLE|apply aMN|apply aKC|apply aMO|apply aLF|apply aDt|apply wG|apply aJK|apply aHd|apply aIv|apply zY|apply yI|apply aEC|apply aCu|apply aLG|apply aIe|apply aHe|apply aEr|apply aHf|apply aHg|apply aMP|apply qY|apply aEs|apply aHh|apply aDu|apply aBT|apply aDv|apply aFF|apply oM|apply pN|apply aAX|apply wH|apply yJ|apply uJ|apply aAD|apply aCh|apply lR|apply rT|apply aCW|apply lS|apply qZ|apply cD|apply rW|apply aCv|apply xR|apply aCX|apply gO|apply eK|apply mE|apply pS|apply aLI|apply aEu|apply gF|apply aBm|apply aHi|apply wI|apply aGC|apply tF|apply nD|apply aIy|apply wJ|apply aAd|apply vR|apply aFH|apply aHj|apply aFj|apply aMQ|apply aCZ|apply mT|apply aBV|apply aBo|apply yL|apply aEY|apply aEZ|apply aDz|apply aIg|apply aFJ|apply aBX|apply aFG|apply aKt|apply aIx|apply aOi|apply aDn|apply aBU|apply aGh|apply aCV|apply aJh|apply aLH|apply uH|apply sQ|apply tQ|apply uI|apply yR|apply aHk|apply uX|apply aCj|apply aGj|apply zZ|apply aGk|apply aBt|apply yS|apply aDy|apply aCi|apply eC|apply aJL|apply aBk|apply nH|apply aAk|apply yF|apply aCU|apply aIu|apply aDs|apply aAC|apply aEq|apply yG|apply oA|apply yN|apply sS|apply aBW|apply tG|apply aDx|apply wK|apply aDO|apply aIz|apply tH|apply wL|apply uV|apply rR|apply aBp|apply tD|apply kO|apply yM|apply kU|apply aEX|apply aDw|apply aBq|apply aGi|apply aEw|apply aBr|apply aDa|apply pX|apply aDb|apply uK);with_reducible assumption)|(with_reducible apply yH;with_reducible assumption)|(with_reducible apply aEt;with_reducible assumption)|(with_reducible apply aBs;with_reducible assumption)|(with_reducible apply uW;with_reducible assumption)|(with_reducible apply xP;with_reducible assumption)|(with_reducible apply yP;with_reducible assumption)|(with_reducible apply yQ;with_reducible assumption)|(with_reducible apply gT;with_reducible assumption)|(with_reducible apply xE;with_reducible assumption)|(with_reducible apply iA;with_reducible assumption)|(with_reducible apply aGB;with_reducible assumption)|(with_reducible apply aIw;with_reducible assumption)|(with_reducible apply xF;with_reducible assumption)|(with_reducible apply jB;with_reducible assumption)|(with_reducible apply oN;with_reducible assumption)|(with_reducible apply aHS;with_reducible assumption)|(with_reducible apply oR;with_reducible assumption)|(with_reducible apply iN;with_reducible assumption)|(with_reducible apply aEv;with_reducible assumption)|(with_reducible apply aBn;with_reducible assumption)|(with_reducible apply aGw;with_reducible assumption)|(with_reducible apply aIf;with_reducible assumption)|(with_reducible apply aLJ;with_reducible assumption)|(with_reducible apply aIA;with_reducible assumption)|(with_reducible apply pR;with_reducible assumption)|(with_reducible apply jA;with_reducible assumption)|(with_reducible apply aPN;with_reducible assumption)|(with_reducible apply aGx;with_reducible assumption)|(with_reducible apply aCY;with_reducible assumption)|(with_reducible apply yK;with_reducible assumption)|(with_reducible apply aAE;with_reducible assumption)|(with_reducible apply aBl;with_reducible assumption)|(with_reducible apply aKD;with_reducible assumption)|(with_reducible apply aEx;with_reducible assumption)|(with_reducible apply yO;with_reducible assumption)|(with_reducible apply pT;with_reducible assumption)|(with_reducible apply mU;with_reducible assumption)|(with_reducible apply aFI;with_reducible assumption)|(with_reducible apply nC;with_reducible assumption)|(with_reducible apply lib_DelInt;all_goals (try with_reducible assumption))|(with_reducible apply lib_DelLts;all_goals (try with_reducible assumption))|(with_reducible apply lib_SortIdx;all_goals (try with_reducible assumption))|(with_reducible apply lib_GrowStr;all_goals (try with_reducible assumption))|(with_reducible apply lib_SortStr;all_goals (try with_reducible assumption))|(with_reducible apply lib_SortEdge;all_goals (try with_reducible assumption))|(with_reducible apply lib_Cut;all_goals (try with_reducible assumption))|(with_reducible apply lib_Split;all_goals (try with_reducible assumption))|(with_reducible apply aPJ;all_goals (try with_reducible assumption))|(with_reducible apply aOh;all_goals (try with_reducible assumption))|(with_reducible apply lib_Join;all_goals (try with_reducible assumption))|(with_reducible apply aBj;all_goals (try with_reducible assumption))|(with_reducible apply aKs;all_goals (try with_reducible assumption))|(with_reducible apply aKB;all_goals (try with_reducible assumption)));(case hv=>exact rfl);(repeat (first|assumption|exact aKa|(apply st_rK;assumption;exact oQ)|(apply st_cK;assumption;exact oQ)|exact aDB _|exact oQ|exact zR _|exact rfl|exact iS (by assumption)));exact hk.k;first|done|fail):p:=h ⟨k⟩
set_option maxRecDepth 100000 in
theorem aP {p:Prop} (h:p:=by
 repeat' (first
  |(apply st_i;exact cK;exact cK;exact gE;exact gE;exact rfl;exact st_S;exact rfl;intro z z zr;first|(have zr:=st_pd zr;subst zr)|obtain ⟨z,z,rfl,z⟩:=zr|obtain ⟨z,z,z,z,rfl,z,z⟩:=zr|obtain ⟨z,z,z,z,z,z,rfl,z,z,z⟩:=zr|obtain ⟨z,z,z,z,z,z,z,z,rfl,z,z,z,z⟩:=zr)
  |(apply st_iQ;exact cK;exact cK;exact gE;exact gE;exact rfl;exact st_S;exact rfl;intro z z zr;first|(have zr:=st_pd zr;subst zr)|obtain ⟨z,z,rfl,z⟩:=zr|obtain ⟨z,z,z,z,rfl,z,z⟩:=zr|obtain ⟨z,z,z,z,z,z,rfl,z,z,z⟩:=zr|obtain ⟨z,z,z,z,z,z,z,z,rfl,z,z,z,z⟩:=zr)
  |(apply st_iE;exact rfl;exact cK;exact cK;exact gE;exact gE;exact rfl;exact st_S;exact rfl;intro z z zr;first|(have zr:=st_pd zr;subst zr)|obtain ⟨z,z,rfl,z⟩:=zr|obtain ⟨z,z,z,z,rfl,z,z⟩:=zr|obtain ⟨z,z,z,z,z,z,rfl,z,z,z⟩:=zr|obtain ⟨z,z,z,z,z,z,z,z,rfl,z,z,z,z⟩:=zr)
  |(apply VO;exact aMI)
  |(apply VQ;intro _ _;exact aMI)
  |(apply aR)
  |with_reducible apply aC
  |with_reducible apply dI
  |(apply aL)
  |(apply aW)
  |(apply bD)
  |(apply aBx)
  |(apply aQu;exact cK;exact aKA)
  |(apply aQv;exact cK;exact aKA)
  |with_reducible apply kP
  |with_reducible apply vV
  |(with_reducible apply aMG;exact rfl)
  |(apply V_onT;exact rfl;exact cK;exact aKA)
  |(apply V_onF;exact rfl;exact cK;exact aKA)
  |(apply V_offF;exact rfl;exact cK;exact aKA)
  |(apply V_offT;exact rfl;exact cK;exact aKA)
  |(apply Q_onT;exact rfl;exact cK;exact aKA)
  |(apply Q_onF;exact rfl;exact cK;exact aKA)
  |(apply Q_offF;exact rfl;exact cK;exact aKA)
  |(apply Q_offT;exact rfl;exact cK;exact aKA)
  |(apply aOB;exact rfl;exact cK)
  |(apply vY;exact rfl;exact cK)
  |(apply V_WE;exact rfl;rintro _ ⟨_,_⟩;exact aMI)
  |(apply V_WT;exact rfl;intro _;exact aMI)
  |apply nY
  |with_reducible apply nE
  |with_reducible apply aAm
  |exact st_X
  |(apply oH;exact rfl;exact rfl;refine aKo hm (fun z=>?_);subst z;exact st_X)
  |(apply retQ_2;exact rfl;exact rfl;exact rfl;refine aKo hm (fun z=>?_);subst z;exact st_X)
  |(apply retQ_3;exact rfl;exact rfl;exact rfl;exact rfl;refine aKo hm (fun z=>?_);subst z;exact st_X)
  |(apply retQ_m1;exact rfl;exact aNi;refine aKo hm (fun z=>?_);subst z;exact st_X)
  |(apply aKJ;exact rfl;exact aNi;exact aNi;refine aKo hm (fun z=>?_);subst z;exact st_X)
  |(apply aKK;exact rfl;exact aNi;exact aNi;exact aNi;refine aKo hm (fun z=>?_);subst z;exact st_X)
  |(apply retQ_0n;exact rfl;refine aKo hm (fun z=>?_);subst z;exact st_X)
  |(apply retQ_0;exact rfl;refine aKo hm (fun z=>?_);subst z;exact st_X)
  |(refine aFe st_f ?_)
  |intro (hm:(_:Option _)=some _)
  |intro (hr:∀ r',_=Sum.inr r'->_)
  |(with_reducible refine aDq fun z=>?_)
  |(with_reducible refine aDr ?_)
  |(intro (zv:(_:Value)=_);subst zv)
  |intro z
  |((with_reducible apply st_we);first|exact ⟨_,by assumption⟩|exact ⟨_,aD.weakK (by assumption) oQ⟩)
  |(apply jZ;exact rfl)
  |(apply WE_s;exact rfl)
  |apply qE
  |(have zq:=hr _ (Option.some.inj hm).symm;subst zq;have hm:=ho;clear hr ho;try dsimp only at hm)
  |obtain ⟨z,z,hm⟩:=aB hm
  |exact st_no hm
  |refine aFm (fun z z z=>?_)
  |refine aJz (fun z z=>?_)
  |refine aKb (fun z z z=>?_)
  |refine st_ba (by with_reducible assumption) (fun z z z=>?_)
  |refine aKc (T:=24) ([]:List bA) (fun z z z=>?_)
  |refine aKc (T:=25) ([]:List bK) (fun z z z=>?_)
  |refine aKc (T:=26) ([]:List aH) (fun z z z=>?_)
  |refine aKc (T:=29) ([]:List Int) (fun z z z=>?_)
  |refine aKc (T:=33) ([]:List Edge) (fun z z z=>?_)
  |refine aMq (fun z z z z=>?_)
  |(apply st_q2;exact cK;exact cK;(first|assumption|(apply st_rK;assumption;exact oQ));assumption;exact st_M;assumption;exact st_S;exact st_u;exact st_e;exact rfl;exact rfl;exact rfl;exact rfl;intro z z z z)
  |(apply aAf;intro z z)
  |refine aME ?_
  |(apply dE)
  |(refine aEi ?_;first|(intro z z;repeat (first|(with_reducible refine aDq fun z=>?_)|with_reducible refine aDr ?_|(intro (zv:(_:Value)=_);subst zv)|intro z))|skip)
  |((first|(apply sA;(with_reducible assumption);exact .head;(first|exact zR _|exact oQ);intro zK zh zr zs bk)|(apply sB;(with_reducible assumption);exact .head;intro zK zh zr zs bk));refine aEi ?_;(first|(intro z z;repeat (first|(with_reducible refine aDq fun z=>?_)|with_reducible refine aDr ?_|(intro (zv:(_:Value)=_);subst zv)|intro z))|skip);(have z:=bk _ _ (by with_reducible assumption);clear bk))
  |((first|(apply sA;(with_reducible assumption);exact zt1;(first|exact zR _|exact oQ);intro zK zh zr zs bk)|(apply sB;(with_reducible assumption);exact zt1;intro zK zh zr zs bk));refine aEi ?_;(first|(intro z z;repeat (first|(with_reducible refine aDq fun z=>?_)|with_reducible refine aDr ?_|(intro (zv:(_:Value)=_);subst zv)|intro z))|skip);(have z:=bk _ _ (by with_reducible assumption);clear bk))
  |((first|(apply sA;(with_reducible assumption);exact zt2;(first|exact zR _|exact oQ);intro zK zh zr zs bk)|(apply sB;(with_reducible assumption);exact zt2;intro zK zh zr zs bk));refine aEi ?_;(first|(intro z z;repeat (first|(with_reducible refine aDq fun z=>?_)|with_reducible refine aDr ?_|(intro (zv:(_:Value)=_);subst zv)|intro z))|skip);(have z:=bk _ _ (by with_reducible assumption);clear bk))
  |((first|(apply sA;(with_reducible assumption);exact zt3;(first|exact zR _|exact oQ);intro zK zh zr zs bk)|(apply sB;(with_reducible assumption);exact zt3;intro zK zh zr zs bk));refine aEi ?_;(first|(intro z z;repeat (first|(with_reducible refine aDq fun z=>?_)|with_reducible refine aDr ?_|(intro (zv:(_:Value)=_);subst zv)|intro z))|skip);(have z:=bk _ _ (by with_reducible assumption);clear bk))
  |((first|(apply sA;(with_reducible assumption);exact zt4;(first|exact zR _|exact oQ);intro zK zh zr zs bk)|(apply sB;(with_reducible assumption);exact zt4;intro zK zh zr zs bk));refine aEi ?_;(first|(intro z z;repeat (first|(with_reducible refine aDq fun z=>?_)|with_reducible refine aDr ?_|(intro (zv:(_:Value)=_);subst zv)|intro z))|skip);(have z:=bk _ _ (by with_reducible assumption);clear bk))
  |((first|(apply sA;(with_reducible assumption);exact .head;(first|exact zR _|exact oQ);intro zK zh zr zs bk)|(apply sB;(with_reducible assumption);exact .head;intro zK zh zr zs bk));(first|(apply sA;(with_reducible assumption);exact .head;(first|exact zR _|exact oQ);intro zK zh zr zs bk)|(apply sB;(with_reducible assumption);exact .head;intro zK zh zr zs bk));refine aEi ?_;(first|(intro z z;repeat (first|(with_reducible refine aDq fun z=>?_)|with_reducible refine aDr ?_|(intro (zv:(_:Value)=_);subst zv)|intro z))|skip);(have z:=bk _ _ (by with_reducible assumption);clear bk);(have z:=bk _ _ (by with_reducible assumption);clear bk))
  |((first|(apply sA;(with_reducible assumption);exact zt1;(first|exact zR _|exact oQ);intro zK zh zr zs bk)|(apply sB;(with_reducible assumption);exact zt1;intro zK zh zr zs bk));(first|(apply sA;(with_reducible assumption);exact zt1;(first|exact zR _|exact oQ);intro zK zh zr zs bk)|(apply sB;(with_reducible assumption);exact zt1;intro zK zh zr zs bk));refine aEi ?_;(first|(intro z z;repeat (first|(with_reducible refine aDq fun z=>?_)|with_reducible refine aDr ?_|(intro (zv:(_:Value)=_);subst zv)|intro z))|skip);(have z:=bk _ _ (by with_reducible assumption);clear bk);(have z:=bk _ _ (by with_reducible assumption);clear bk))
  |((first|(apply sA;(with_reducible assumption);exact zt1;(first|exact zR _|exact oQ);intro zK zh zr zs bk)|(apply sB;(with_reducible assumption);exact zt1;intro zK zh zr zs bk));(first|(apply sA;(with_reducible assumption);exact .head;(first|exact zR _|exact oQ);intro zK zh zr zs bk)|(apply sB;(with_reducible assumption);exact .head;intro zK zh zr zs bk));refine aEi ?_;(first|(intro z z;repeat (first|(with_reducible refine aDq fun z=>?_)|with_reducible refine aDr ?_|(intro (zv:(_:Value)=_);subst zv)|intro z))|skip);(have z:=bk _ _ (by with_reducible assumption);clear bk);(have z:=bk _ _ (by with_reducible assumption);clear bk))
  |((first|(apply sA;(with_reducible assumption);exact zt2;(first|exact zR _|exact oQ);intro zK zh zr zs bk)|(apply sB;(with_reducible assumption);exact zt2;intro zK zh zr zs bk));(first|(apply sA;(with_reducible assumption);exact zt1;(first|exact zR _|exact oQ);intro zK zh zr zs bk)|(apply sB;(with_reducible assumption);exact zt1;intro zK zh zr zs bk));refine aEi ?_;(first|(intro z z;repeat (first|(with_reducible refine aDq fun z=>?_)|with_reducible refine aDr ?_|(intro (zv:(_:Value)=_);subst zv)|intro z))|skip);(have z:=bk _ _ (by with_reducible assumption);clear bk);(have z:=bk _ _ (by with_reducible assumption);clear bk))
  |((first|(apply sA;(with_reducible assumption);exact zt2;(first|exact zR _|exact oQ);intro zK zh zr zs bk)|(apply sB;(with_reducible assumption);exact zt2;intro zK zh zr zs bk));(first|(apply sA;(with_reducible assumption);exact zt1;(first|exact zR _|exact oQ);intro zK zh zr zs bk)|(apply sB;(with_reducible assumption);exact zt1;intro zK zh zr zs bk));(first|(apply sA;(with_reducible assumption);exact zt1;(first|exact zR _|exact oQ);intro zK zh zr zs bk)|(apply sB;(with_reducible assumption);exact zt1;intro zK zh zr zs bk));refine aEi ?_;(first|(intro z z;repeat (first|(with_reducible refine aDq fun z=>?_)|with_reducible refine aDr ?_|(intro (zv:(_:Value)=_);subst zv)|intro z))|skip);(have z:=bk _ _ (by with_reducible assumption);clear bk);(have z:=bk _ _ (by with_reducible assumption);clear bk);(have z:=bk _ _ (by with_reducible assumption);clear bk))
  |((first|(apply sA;(with_reducible assumption);exact .head;(first|exact zR _|exact oQ);intro zK zh zr zs bk)|(apply sB;(with_reducible assumption);exact .head;intro zK zh zr zs bk));(first|(apply sA;(with_reducible assumption);exact .head;(first|exact zR _|exact oQ);intro zK zh zr zs bk)|(apply sB;(with_reducible assumption);exact .head;intro zK zh zr zs bk));(first|(apply sA;(with_reducible assumption);exact .head;(first|exact zR _|exact oQ);intro zK zh zr zs bk)|(apply sB;(with_reducible assumption);exact .head;intro zK zh zr zs bk));refine aEi ?_;(first|(intro z z;repeat (first|(with_reducible refine aDq fun z=>?_)|with_reducible refine aDr ?_|(intro (zv:(_:Value)=_);subst zv)|intro z))|skip);(have z:=bk _ _ (by with_reducible assumption);clear bk);(have z:=bk _ _ (by with_reducible assumption);clear bk);(have z:=bk _ _ (by with_reducible assumption);clear bk))
  |((first|(apply sA;(with_reducible assumption);exact zt1;(first|exact zR _|exact oQ);intro zK zh zr zs bk)|(apply sB;(with_reducible assumption);exact zt1;intro zK zh zr zs bk));(first|(apply sA;(with_reducible assumption);exact zt1;(first|exact zR _|exact oQ);intro zK zh zr zs bk)|(apply sB;(with_reducible assumption);exact zt1;intro zK zh zr zs bk));(first|(apply sA;(with_reducible assumption);exact zt1;(first|exact zR _|exact oQ);intro zK zh zr zs bk)|(apply sB;(with_reducible assumption);exact zt1;intro zK zh zr zs bk));refine aEi ?_;(first|(intro z z;repeat (first|(with_reducible refine aDq fun z=>?_)|with_reducible refine aDr ?_|(intro (zv:(_:Value)=_);subst zv)|intro z))|skip);(have z:=bk _ _ (by with_reducible assumption);clear bk);(have z:=bk _ _ (by with_reducible assumption);clear bk);(have z:=bk _ _ (by with_reducible assumption);clear bk))
  |((first|(apply sA;(with_reducible assumption);exact zt3;(first|exact zR _|exact oQ);intro zK zh zr zs bk)|(apply sB;(with_reducible assumption);exact zt3;intro zK zh zr zs bk));(first|(apply sA;(with_reducible assumption);exact zt2;(first|exact zR _|exact oQ);intro zK zh zr zs bk)|(apply sB;(with_reducible assumption);exact zt2;intro zK zh zr zs bk));(first|(apply sA;(with_reducible assumption);exact zt2;(first|exact zR _|exact oQ);intro zK zh zr zs bk)|(apply sB;(with_reducible assumption);exact zt2;intro zK zh zr zs bk));refine aEi ?_;(first|(intro z z;repeat (first|(with_reducible refine aDq fun z=>?_)|with_reducible refine aDr ?_|(intro (zv:(_:Value)=_);subst zv)|intro z))|skip);(have z:=bk _ _ (by with_reducible assumption);clear bk);(have z:=bk _ _ (by with_reducible assumption);clear bk);(have z:=bk _ _ (by with_reducible assumption);clear bk))
  |((first|(apply sA;(with_reducible assumption);exact .head;(first|exact zR _|exact oQ);intro zK zh zr zs bk)|(apply sB;(with_reducible assumption);exact .head;intro zK zh zr zs bk));(first|(apply sA;(with_reducible assumption);exact .head;(first|exact zR _|exact oQ);intro zK zh zr zs bk)|(apply sB;(with_reducible assumption);exact .head;intro zK zh zr zs bk));(first|(apply sA;(with_reducible assumption);exact .head;(first|exact zR _|exact oQ);intro zK zh zr zs bk)|(apply sB;(with_reducible assumption);exact .head;intro zK zh zr zs bk));(first|(apply sA;(with_reducible assumption);exact .head;(first|exact zR _|exact oQ);intro zK zh zr zs bk)|(apply sB;(with_reducible assumption);exact .head;intro zK zh zr zs bk));refine aEi ?_;(first|(intro z z;repeat (first|(with_reducible refine aDq fun z=>?_)|with_reducible refine aDr ?_|(intro (zv:(_:Value)=_);subst zv)|intro z))|skip);(have z:=bk _ _ (by with_reducible assumption);clear bk);(have z:=bk _ _ (by with_reducible assumption);clear bk);(have z:=bk _ _ (by with_reducible assumption);clear bk);(have z:=bk _ _ (by with_reducible assumption);clear bk))
  |((first|(with_reducible apply st_g0)|(with_reducible apply st_g1)|(with_reducible apply st_g2)|(with_reducible apply st_g3)|(apply st_g4;exact rfl));rcases aS hm with ⟨z,hm⟩|⟨z,hm⟩))):p:=h
end Gv
