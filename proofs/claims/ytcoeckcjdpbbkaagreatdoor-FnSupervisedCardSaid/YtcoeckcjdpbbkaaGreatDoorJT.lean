/- Readings of the program's data; what is known of its types. -/
import Derived.Test.YtcoeckcjdpbbkaaGreatDoorJYS
import Derived.Test.YtcoeckcjdpbbkaaGreatDoorProg
set_option linter.all false
namespace Gv
open Go.Value renaming slice→zS
open Go Go.Proofs Go.Proofs.Tryz
instance:dT Edge where
 sz:=3
 enc d:=[i64 d.F,i64 d.B,i64 d.To]
 len _:=rfl
 one _ v h:=by simp at h;rcases h with rfl|rfl|rfl<;>rfl
 pos:=by decide
instance:El aP where
 sz:=4
 rd K cs d:=∃ (a0:Option Addr) (c0:Nat) (a1:Option Addr) (c1:Nat),cs=[i64 d.N,i64 d.I,zS a0 d.L.length c0,zS a1 d.E.length c1]/\aN K a0 c0 d.L/\aN K a1 c1 d.E
 mono:=fun h ⟨a0,c0,a1,c1,e,h0,h1⟩=>⟨a0,c0,a1,c1,e,h0.mono h,h1.mono h⟩
 len:=fun ⟨_,_,_,_,e,_⟩=>by rw [e];rfl
 one:=fun ⟨_,_,_,_,e,_⟩ v hv=>by rw [e] at hv;simp at hv;rcases hv with rfl|rfl|rfl|rfl<;>rfl
 pos:=by decide
instance:El aO where
 sz:=6
 rd K cs d:=∃ (a0:Option Addr) (c0:Nat) (a1:Option Addr) (c1:Nat) (a2:Option Addr) (c2:Nat) (a3:Option Addr) (c3:Nat),cs=[i64 d.S.N,i64 d.S.I,zS a0 d.S.L.length c0,zS a1 d.S.E.length c1,zS a2 d.M.length c2,zS a3 d.C.length c3]/\aN K a0 c0 d.S.L/\aN K a1 c1 d.S.E/\aN K a2 c2 d.M/\aN K a3 c3 d.C
 mono:=fun h ⟨a0,c0,a1,c1,a2,c2,a3,c3,e,h0,h1,h2,h3⟩=>⟨a0,c0,a1,c1,a2,c2,a3,c3,e,h0.mono h,h1.mono h,h2.mono h,h3.mono h⟩
 len:=fun ⟨_,_,_,_,_,_,_,_,e,_⟩=>by rw [e];rfl
 one:=fun ⟨_,_,_,_,_,_,_,_,e,_⟩ v hv=>by rw [e] at hv;simp at hv;rcases hv with rfl|rfl|rfl|rfl|rfl|rfl<;>rfl
 pos:=by decide
instance:dT Arc where
 sz:=3
 enc d:=[i64 d.from_,str d.label,i64 d.to_]
 len _:=rfl
 one _ v h:=by simp at h;rcases h with rfl|rfl|rfl<;>rfl
 pos:=by decide
theorem qX:SLT prog 24 9 1:=⟨runUnderlying24,sizeOf9⟩
theorem sc_9:SC prog 9:=⟨isAgg9,sizeOf9⟩
theorem eN:SLT prog 28 2 1:=⟨runUnderlying28,sizeOf2⟩
theorem aHr:EZ prog 2 [i64 0]:=⟨⟨_,zeroValue2,rfl⟩,⟨t2,typeInfo2,by show (8:Nat)<=128;decide,rfl,by kernel_rfl,_,rfl,rfl⟩⟩
theorem oG:SC prog 2:=⟨isAgg2,sizeOf2⟩
theorem ez_9:EZ prog 9 [str []]:=⟨⟨_,zeroValue9,rfl⟩,⟨t9,typeInfo9,by show (16:Nat)<=128;decide,rfl,by kernel_rfl,_,rfl,rfl⟩⟩
theorem sl_22:SLT prog 22 5 1:=⟨runUnderlying22,sizeOf5⟩
theorem bs_88:BS prog 88 [(0,1),(1,1),(2,1)] [zS none 0 0,i64 0,Value.int .u64 0]:=⟨⟨_,zeroValue88,rfl⟩,_,runUnderlying88,fun w=>by simp [sizeOf22,sizeOf3,sizeOf86]⟩
theorem aLL:FA prog 90 0 0:=⟨_,_,_,runUnderlying90,rfl,sizeOf2,rfl,rfl⟩
theorem aGE:FA prog 90 1 1:=⟨_,_,_,runUnderlying90,rfl,sizeOf2,rfl,rfl⟩
theorem aGF:FA prog 90 2 2:=⟨_,_,_,runUnderlying90,rfl,sizeOf2,rfl,rfl⟩
theorem eU:SLT prog 25 90 3:=⟨runUnderlying25,sizeOf90⟩
theorem ag_90:AG prog 90 3:=⟨isAgg90,sizeOf90⟩
theorem aMu:BS prog 90 [(0,1),(1,1),(2,1)] [i64 0,i64 0,i64 0]:=⟨⟨_,zeroValue90,rfl⟩,_,runUnderlying90,fun w=>by simp [sizeOf2]⟩
theorem aFc:EZ prog 90 [i64 0,i64 0,i64 0]:=⟨⟨_,zeroValue90,rfl⟩,⟨t90,typeInfo90,by show (24:Nat)<=128;decide,rfl,by kernel_rfl,_,rfl,rfl⟩⟩
theorem aJH:BS prog 27 [(0,1),(1,1),(2,1),(3,1)] [i64 0,i64 0,zS none 0 0,zS none 0 0]:=⟨⟨_,zeroValue27,rfl⟩,_,runUnderlying27,fun w=>by simp [sizeOf2,sizeOf24,sizeOf25]⟩
theorem aGG:FA prog 27 2 2:=⟨_,_,_,runUnderlying27,rfl,sizeOf24,rfl,rfl⟩
theorem aHg:SC prog 24:=⟨isAgg24,sizeOf24⟩
theorem aIl:FA prog 27 3 3:=⟨_,_,_,runUnderlying27,rfl,sizeOf25,rfl,rfl⟩
theorem aOD:SC prog 25:=⟨isAgg25,sizeOf25⟩
theorem sM:AG prog 27 4:=⟨isAgg27,sizeOf27⟩
theorem aJI:FA prog 27 0 0:=⟨_,_,_,runUnderlying27,rfl,sizeOf2,rfl,rfl⟩
theorem aFd:FA prog 27 1 1:=⟨_,_,_,runUnderlying27,rfl,sizeOf2,rfl,rfl⟩
theorem aCA:FA prog 30 0 0:=⟨_,_,_,runUnderlying30,rfl,sizeOf27,rfl,rfl⟩
theorem aLM:FA prog 30 1 4:=⟨_,_,_,runUnderlying30,rfl,sizeOf28,rfl,rfl⟩
theorem aCe:SC prog 28:=⟨isAgg28,sizeOf28⟩
theorem fa_30_2:FA prog 30 2 5:=⟨_,_,_,runUnderlying30,rfl,sizeOf24,rfl,rfl⟩
theorem jO:SLT prog 36 28 1:=⟨runUnderlying36,sizeOf28⟩
theorem aDu:EZ prog 28 [zS none 0 0]:=⟨⟨_,zeroValue28,rfl⟩,⟨t28,typeInfo28,by show (24:Nat)<=128;decide,rfl,by kernel_rfl,_,rfl,rfl⟩⟩
theorem bs_99:BS prog 99 [(0,1),(1,1),(2,1),(3,1),(4,1)] [Value.pointer none,Value.pointer none,zS none 0 0,zS none 0 0,Value.bool false]:=⟨⟨_,zeroValue99,rfl⟩,_,runUnderlying99,fun w=>by simp [sizeOf25,sizeOf36,sizeOf4,sizeOf50,sizeOf53]⟩
theorem aCB:FA prog 99 2 2:=⟨_,_,_,runUnderlying99,rfl,sizeOf36,rfl,rfl⟩
theorem aFX:SC prog 36:=⟨isAgg36,sizeOf36⟩
theorem aPH:FA prog 99 3 3:=⟨_,_,_,runUnderlying99,rfl,sizeOf25,rfl,rfl⟩
theorem fa_99_4:FA prog 99 4 4:=⟨_,_,_,runUnderlying99,rfl,sizeOf4,rfl,rfl⟩
theorem nG:SLT prog 57 4 1:=⟨runUnderlying57,sizeOf4⟩
theorem ez_4:EZ prog 4 [Value.bool false]:=⟨⟨_,zeroValue4,rfl⟩,⟨t4,typeInfo4,by show (1:Nat)<=128;decide,rfl,by kernel_rfl,_,rfl,rfl⟩⟩
theorem sc_4:SC prog 4:=⟨isAgg4,sizeOf4⟩
theorem fa_88_1:FA prog 88 1 1:=⟨_,_,_,runUnderlying88,rfl,sizeOf3,rfl,rfl⟩
theorem sc_3:SC prog 3:=⟨isAgg3,sizeOf3⟩
theorem fa_88_0:FA prog 88 0 0:=⟨_,_,_,runUnderlying88,rfl,sizeOf22,rfl,rfl⟩
theorem sc_22:SC prog 22:=⟨isAgg22,sizeOf22⟩
theorem sc_5:SC prog 5:=⟨isAgg5,sizeOf5⟩
theorem fa_88_2:FA prog 88 2 2:=⟨_,_,_,runUnderlying88,rfl,sizeOf86,rfl,rfl⟩
theorem sc_86:SC prog 86:=⟨isAgg86,sizeOf86⟩
theorem aOE:BS prog 30 [(0,4),(4,1),(5,1)] [i64 0,i64 0,zS none 0 0,zS none 0 0,zS none 0 0,zS none 0 0]:=⟨⟨_,zeroValue30,rfl⟩,_,runUnderlying30,fun w=>by simp [sizeOf24,sizeOf27,sizeOf28]⟩
theorem aCP:AG prog 30 6:=⟨isAgg30,sizeOf30⟩
theorem fa_99_0:FA prog 99 0 0:=⟨_,_,_,runUnderlying99,rfl,sizeOf53,rfl,rfl⟩
theorem sc_53:SC prog 53:=⟨isAgg53,sizeOf53⟩
theorem fa_99_1:FA prog 99 1 1:=⟨_,_,_,runUnderlying99,rfl,sizeOf50,rfl,rfl⟩
theorem sc_50:SC prog 50:=⟨isAgg50,sizeOf50⟩
theorem aHG:SLT prog 70 3 1:=⟨runUnderlying70,sizeOf3⟩
theorem ez_3:EZ prog 3 [i64 0]:=⟨⟨_,zeroValue3,rfl⟩,⟨t3,typeInfo3,by show (8:Nat)<=128;decide,rfl,by kernel_rfl,_,rfl,rfl⟩⟩
theorem bs_77:BS prog 77 [(0,6),(6,4),(10,1),(11,1),(12,1)] [i64 0,i64 0,zS none 0 0,zS none 0 0,zS none 0 0,zS none 0 0,i64 0,i64 0,zS none 0 0,zS none 0 0,zS none 0 0,Value.map none,zS none 0 0]:=⟨⟨_,zeroValue77,rfl⟩,_,runUnderlying77,fun w=>by simp [sizeOf27,sizeOf30,sizeOf36,sizeOf74,sizeOf75]⟩
theorem sc_104:SC prog 104:=⟨isAgg104,sizeOf104⟩
theorem aBo:ART prog 102 2 2:=⟨runUnderlying102,isAgg2,sizeOf2⟩
theorem aFz:∃ z,(∀ w,(zeroValue 102).run prog w=.ok z w)/\z.cells=[i64 0,i64 0].toArray:=⟨_,zeroValue102,rfl⟩
theorem aJJ:SC prog 55:=⟨isAgg55,sizeOf55⟩
theorem aPI:FA prog 77 3 11:=⟨_,_,_,runUnderlying77,rfl,sizeOf74,rfl,rfl⟩
theorem sc_74:SC prog 74:=⟨isAgg74,sizeOf74⟩
theorem aKp:AG prog 102 2:=⟨isAgg102,sizeOf102⟩
theorem aEj:aIG prog 102 (Int × Int):=aSy runUnderlying102 runUnderlying2 ⟨isAgg2,sizeOf2⟩
theorem aJK:FA prog 77 2 10:=⟨_,_,_,runUnderlying77,rfl,sizeOf36,rfl,rfl⟩
theorem fa_77_4:FA prog 77 4 12:=⟨_,_,_,runUnderlying77,rfl,sizeOf75,rfl,rfl⟩
theorem sc_75:SC prog 75:=⟨isAgg75,sizeOf75⟩
theorem aOF:SLT prog 75 24 1:=⟨runUnderlying75,sizeOf24⟩
theorem ez_24:EZ prog 24 [zS none 0 0]:=⟨⟨_,zeroValue24,rfl⟩,⟨t24,typeInfo24,by show (24:Nat)<=128;decide,rfl,by kernel_rfl,_,rfl,rfl⟩⟩
theorem fa_77_0:FA prog 77 0 0:=⟨_,_,_,runUnderlying77,rfl,sizeOf30,rfl,rfl⟩
theorem fa_77_1:FA prog 77 1 6:=⟨_,_,_,runUnderlying77,rfl,sizeOf27,rfl,rfl⟩
theorem sl_116:SLT prog 116 118 3:=⟨runUnderlying116,sizeOf118⟩
theorem ag_118:AG prog 118 3:=⟨isAgg118,sizeOf118⟩
theorem fa_118_0:FA prog 118 0 0:=⟨_,_,_,runUnderlying118,rfl,sizeOf2,rfl,rfl⟩
theorem aQY:FA prog 118 1 1:=⟨_,_,_,runUnderlying118,rfl,sizeOf9,rfl,rfl⟩
theorem aQZ:FA prog 118 2 2:=⟨_,_,_,runUnderlying118,rfl,sizeOf2,rfl,rfl⟩
theorem sl_124:SLT prog 124 27 4:=⟨runUnderlying124,sizeOf27⟩
theorem ez_27:EZ prog 27 [i64 0,i64 0,zS none 0 0,zS none 0 0]:=⟨⟨_,zeroValue27,rfl⟩,⟨t27,typeInfo27,by show (64:Nat)<=128;decide,rfl,by kernel_rfl,_,rfl,rfl⟩⟩
theorem sc_116:SC prog 116:=⟨isAgg116,sizeOf116⟩
theorem bs_118:BS prog 118 [(0,1),(1,1),(2,1)] [i64 0,str [],i64 0]:=⟨⟨_,zeroValue118,rfl⟩,_,runUnderlying118,fun w=>by simp [sizeOf2,sizeOf9]⟩
theorem ez_118:EZ prog 118 [i64 0,str [],i64 0]:=⟨⟨_,zeroValue118,rfl⟩,⟨t118,typeInfo118,by show (32:Nat)<=128;decide,rfl,by kernel_rfl,_,rfl,rfl⟩⟩
theorem sc_57:SC prog 57:=⟨isAgg57,sizeOf57⟩
theorem sc_109:SC prog 109:=⟨isAgg109,sizeOf109⟩
theorem bs_68:BS prog 68 [(0,1),(1,1),(2,1)] [zS none 0 0,Value.map none,zS none 0 0]:=⟨⟨_,zeroValue68,rfl⟩,_,runUnderlying68,fun w=>by simp [sizeOf64,sizeOf65,sizeOf66]⟩
theorem aOG:ART prog 71 2 3:=⟨runUnderlying71,isAgg2,sizeOf2⟩
theorem bz_71:∃ z,(∀ w,(zeroValue 71).run prog w=.ok z w)/\z.cells=[i64 0,i64 0,i64 0].toArray:=⟨_,zeroValue71,rfl⟩
theorem fa_68_1:FA prog 68 1 1:=⟨_,_,_,runUnderlying68,rfl,sizeOf64,rfl,rfl⟩
theorem sc_64:SC prog 64:=⟨isAgg64,sizeOf64⟩
theorem ag_71:AG prog 71 3:=⟨isAgg71,sizeOf71⟩
theorem ko_71:aIG prog 71 (Int × Int × Int):=aSz runUnderlying71 runUnderlying2 ⟨isAgg2,sizeOf2⟩
theorem aPJ:FA prog 68 0 0:=⟨_,_,_,runUnderlying68,rfl,sizeOf65,rfl,rfl⟩
theorem sc_65:SC prog 65:=⟨isAgg65,sizeOf65⟩
theorem sl_65:SLT prog 65 71 3:=⟨runUnderlying65,sizeOf71⟩
theorem ez_71:EZ prog 71 [i64 0,i64 0,i64 0]:=⟨⟨_,zeroValue71,rfl⟩,⟨t71,typeInfo71,by show (24:Nat)<=128;decide,rfl,by kernel_rfl,_,rfl,rfl⟩⟩
theorem aPK:FA prog 68 2 2:=⟨_,_,_,runUnderlying68,rfl,sizeOf66,rfl,rfl⟩
theorem sc_66:SC prog 66:=⟨isAgg66,sizeOf66⟩
theorem aMw:SLT prog 66 70 1:=⟨runUnderlying66,sizeOf70⟩
theorem ez_70:EZ prog 70 [zS none 0 0]:=⟨⟨_,zeroValue70,rfl⟩,⟨t70,typeInfo70,by show (24:Nat)<=128;decide,rfl,by kernel_rfl,_,rfl,rfl⟩⟩
theorem sc_70:SC prog 70:=⟨isAgg70,sizeOf70⟩
theorem aMx:SC prog 137:=⟨isAgg137,sizeOf137⟩
theorem bs_179:BS prog 179 [(0,4),(4,4),(8,1)] [i64 0,i64 0,zS none 0 0,zS none 0 0,i64 0,i64 0,zS none 0 0,zS none 0 0,Value.nilFunc]:=⟨⟨_,zeroValue179,rfl⟩,_,runUnderlying179,fun w=>by simp [sizeOf177,sizeOf27]⟩
theorem ag_179:AG prog 179 9:=⟨isAgg179,sizeOf179⟩
theorem aRb:FA prog 179 0 0:=⟨_,_,_,runUnderlying179,rfl,sizeOf27,rfl,rfl⟩
theorem aRc:FA prog 179 1 4:=⟨_,_,_,runUnderlying179,rfl,sizeOf27,rfl,rfl⟩
theorem fa_179_2:FA prog 179 2 8:=⟨_,_,_,runUnderlying179,rfl,sizeOf177,rfl,rfl⟩
theorem sc_177:SC prog 177:=⟨isAgg177,sizeOf177⟩
theorem st_90:prog.stoodInHeld 90=false:=by kernel_rfl
theorem eq_90 {x y:Edge}:EQT prog 90 [i64 x.F,i64 x.B,i64 x.To] [i64 y.F,i64 y.B,i64 y.To] (decide (x=y)):=by
 refine ⟨by kernel_rfl,fun w=>?_⟩
 have h2:∀ (a b:Int),(Op.equalIn 9999 2 (i64 a) (i64 b)).run prog w=.ok (a == b) w:=fun a b=>run_eqInI 9998 (runUnderlying2 w)
 have:Op.maxDepth=9999+1:=rfl
 unfold Op.equal
 rw [this]
 unfold Op.equalIn
 simp [runUnderlying90,st_90,part,h2,isAgg2]
 cases x;cases y
 simp
 repeat' split<;>simp_all
theorem Tryz_mixed:prog.follows .mixedOrders=true:=by kernel_rfl
abbrev zC (d:aP) (a:Option Addr) (c:Nat) (b:Option Addr) (e:Nat):List Value:=[i64 d.N,i64 d.I,Value.slice a d.L.length c,Value.slice b d.E.length e]
abbrev zCa (d:aP) (a:Option Addr) (c:Nat) (b:Option Addr) (e:Nat):Array Value:=#[i64 d.N,i64 d.I,Value.slice a d.L.length c,Value.slice b d.E.length e]
abbrev zE (d:aO) (a:Option Addr) (c:Nat) (b:Option Addr) (e:Nat) (a2:Option Addr) (c2:Nat) (a3:Option Addr) (c3:Nat):List Value:=[i64 d.S.N,i64 d.S.I,Value.slice a d.S.L.length c,Value.slice b d.S.E.length e,Value.slice a2 d.M.length c2,Value.slice a3 d.C.length c3]
abbrev zEa (d:aO) (a:Option Addr) (c:Nat) (b:Option Addr) (e:Nat) (a2:Option Addr) (c2:Nat) (a3:Option Addr) (c3:Nat):Array Value:=#[i64 d.S.N,i64 d.S.I,Value.slice a d.S.L.length c,Value.slice b d.S.E.length e,Value.slice a2 d.M.length c2,Value.slice a3 d.C.length c3]
abbrev zG:List Value:=[i64 0,i64 0,Value.slice none 0 0,Value.slice none 0 0]
abbrev zGa:Array Value:=#[i64 0,i64 0,Value.slice none 0 0,Value.slice none 0 0]
abbrev zK:List Value:=[i64 0,i64 0,Value.slice none 0 0,Value.slice none 0 0,Value.slice none 0 0,Value.slice none 0 0]
abbrev zKa:Array Value:=#[i64 0,i64 0,Value.slice none 0 0,Value.slice none 0 0,Value.slice none 0 0,Value.slice none 0 0]
end Gv
namespace Gv
open Go.Value renaming slice→zS
open Gv.Hp renaming le_refl→zR
open Go Go.Proofs Go.Proofs.Tryz
theorem qC {p:Prop} (h:p:=by first|assumption|(apply st_cK;assumption;exact mX)):p:=h
theorem st_HR {p:Prop} (h:p:=by first|assumption|(apply st_rK;assumption;exact mX)):p:=h
theorem st_S {p:Prop} (h:p:=by with_reducible first|exact qX|exact eN|exact sl_22|exact eU|exact jO|exact nG|exact aHG|exact aOF|exact sl_116|exact sl_124|exact sl_65|exact aMw):p:=h
theorem aAG {p:Prop} (h:p:=by with_reducible first|exact sc_9|exact oG|exact aHg|exact aOD|exact aCe|exact aFX|exact sc_4|exact sc_3|exact sc_22|exact sc_5|exact sc_86|exact sc_53|exact sc_50|exact sc_104|exact aJJ|exact sc_74|exact sc_75|exact sc_116|exact sc_57|exact sc_109|exact sc_64|exact sc_65|exact sc_66|exact sc_70|exact aMx|exact sc_177):p:=h
theorem aFA {p:Prop} (h:p:=by with_reducible first|exact ag_90|exact sM|exact aCP|exact aKp|exact ag_118|exact ag_71|exact ag_179):p:=h
theorem st_F {p:Prop} (h:p:=by with_reducible first|exact aLL|exact aGE|exact aGF|exact aGG|exact aIl|exact aJI|exact aFd|exact aCA|exact aLM|exact fa_30_2|exact aCB|exact aPH|exact fa_99_4|exact fa_88_1|exact fa_88_0|exact fa_88_2|exact fa_99_0|exact fa_99_1|exact aPI|exact aJK|exact fa_77_4|exact fa_77_0|exact fa_77_1|exact fa_118_0|exact aQY|exact aQZ|exact fa_68_1|exact aPJ|exact aPK|exact aRb|exact aRc|exact fa_179_2):p:=h
theorem za_3:ZA prog 3 [i64 0]:=⟨_,zeroValue3,rfl⟩
theorem za_4:ZA prog 4 [Value.bool false]:=⟨_,zeroValue4,rfl⟩
theorem za_27:ZA prog 27 [i64 0,i64 0,zS none 0 0,zS none 0 0]:=⟨_,zeroValue27,rfl⟩
theorem za_28:ZA prog 28 [zS none 0 0]:=⟨_,zeroValue28,rfl⟩
theorem za_30:ZA prog 30 [i64 0,i64 0,zS none 0 0,zS none 0 0,zS none 0 0,zS none 0 0]:=⟨_,zeroValue30,rfl⟩
theorem za_55:ZA prog 55 [Value.pointer none]:=⟨_,zeroValue55,rfl⟩
theorem za_57:ZA prog 57 [zS none 0 0]:=⟨_,zeroValue57,rfl⟩
theorem za_71:ZA prog 71 [i64 0,i64 0,i64 0]:=⟨_,zeroValue71,rfl⟩
theorem za_74:ZA prog 74 [Value.map none]:=⟨_,zeroValue74,rfl⟩
theorem za_90:ZA prog 90 [i64 0,i64 0,i64 0]:=⟨_,zeroValue90,rfl⟩
theorem za_102:ZA prog 102 [i64 0,i64 0]:=⟨_,zeroValue102,rfl⟩
theorem za_104:ZA prog 104 [Value.nilFunc]:=⟨_,zeroValue104,rfl⟩
theorem za_116:ZA prog 116 [zS none 0 0]:=⟨_,zeroValue116,rfl⟩
theorem za_118:ZA prog 118 [i64 0,str ([]:aH),i64 0]:=⟨_,zeroValue118,rfl⟩
theorem za_137:ZA prog 137 [Value.map none]:=⟨_,zeroValue137,rfl⟩
theorem za_179:ZA prog 179 [i64 0,i64 0,zS none 0 0,zS none 0 0,i64 0,i64 0,zS none 0 0,zS none 0 0,Value.nilFunc]:=⟨_,zeroValue179,rfl⟩
theorem st_r {p:Prop} (h:p:=by with_reducible first|exact runUnderlying131|exact runUnderlying137|exact runUnderlying2|exact runUnderlying3|exact runUnderlying4|exact runUnderlying5|exact runUnderlying64|exact runUnderlying74|exact runUnderlying86|exact runUnderlying9):p:=h
theorem st_h {p:Prop} (h:p:=by with_reducible first|exact bs_88|exact aMu|exact aJH|exact bs_99|exact aOE|exact bs_77|exact bs_118|exact bs_68|exact bs_179):p:=h
theorem st_e {p:Prop} (h:p:=by with_reducible first|exact aHr|exact ez_9|exact aFc|exact aDu|exact ez_4|exact ez_3|exact ez_24|exact ez_27|exact ez_118|exact ez_71|exact ez_70):p:=h
theorem st_u {p:Prop} (h:p:=by with_reducible first|exact underlying116|exact underlying24|exact underlying25|exact underlying28|exact underlying36|exact underlying57|exact underlying65|exact underlying66|exact underlying70|exact underlying75):p:=h
theorem st_z {p:Prop} (h:p:=by with_reducible first|exact sizeOf102|exact sizeOf104|exact sizeOf116|exact sizeOf118|exact sizeOf137|exact sizeOf179|exact sizeOf2|exact sizeOf24|exact sizeOf25|exact sizeOf27|exact sizeOf28|exact sizeOf3|exact sizeOf30|exact sizeOf36|exact sizeOf4|exact sizeOf55|exact sizeOf57|exact sizeOf65|exact sizeOf66|exact sizeOf70|exact sizeOf71|exact sizeOf74|exact sizeOf75|exact sizeOf86|exact sizeOf9|exact sizeOf90):p:=h
theorem st_y {p:Prop} (h:p:=by with_reducible first|exact za_3|exact za_4|exact za_27|exact za_28|exact za_30|exact za_55|exact za_57|exact za_71|exact za_74|exact za_90|exact za_102|exact za_104|exact za_116|exact za_118|exact za_137|exact za_179):p:=h
theorem aKq {p:Prop} (h:p:=by first|exact V_moveC|exact V_assignC|(apply V_B;first|(apply V_add;exact bD;exact bD)|(apply V_sub;exact bD;exact bD)|(apply V_mul;exact bD;exact bD)|(apply V_lss;exact bD;exact bD)|(apply V_leq;exact bD;exact bD)|(apply V_gtr;exact bD;exact bD)|(apply V_geq;exact bD;exact bD)|(apply V_eql;exact bD;exact bD)|(apply V_neq;exact bD;exact bD)|(apply V_eqlS;exact bD;exact bD)|(apply V_neqS;exact bD;exact bD)|(apply V_lssS;exact bD;exact bD)|(apply V_leqS;exact bD;exact bD)|(apply V_gtrS;exact bD;exact bD)|(apply V_geqS;exact bD;exact bD))|exact V_moveF|exact V_assignF|(apply V_move;exact bD)|(apply V_assign;exact bD)|(apply V_fldP;exact bD;exact st_F)|(apply V_fldE;exact bD;exact qC;exact st_F)|(apply V_fldO;exact bD;exact eD;exact aJc;exact eD;exact st_F)|(apply V_L;first|(apply V_ldB;exact bD;exact eD;exact aJc;exact rfl;exact aAG)|(apply V_ldBG;exact bD;exact eD;exact aJc;exact aFA;exact st_D)|(apply aKY (t:=0);exact bD;exact qC;exact eD;exact rfl;exact aAG)|(apply aKY (t:=1);exact bD;exact qC;exact eD;exact rfl;exact aAG)|(apply aKY (t:=2);exact bD;exact qC;exact eD;exact rfl;exact aAG)|(apply aKY (t:=3);exact bD;exact qC;exact eD;exact rfl;exact aAG)|(apply aKY (t:=4);exact bD;exact qC;exact eD;exact rfl;exact aAG)|(apply aKY (t:=5);exact bD;exact qC;exact eD;exact rfl;exact aAG)|(apply aKY (t:=6);exact bD;exact qC;exact eD;exact rfl;exact aAG)|(apply aKY (t:=7);exact bD;exact qC;exact eD;exact rfl;exact aAG)|(apply aHF (t:=0);exact bD;exact qC;exact eD;exact aFA;exact rfl;exact rfl)|(apply aHF (t:=1);exact bD;exact qC;exact eD;exact aFA;exact rfl;exact rfl)|(apply aHF (t:=2);exact bD;exact qC;exact eD;exact aFA;exact rfl;exact rfl)|(apply aHF (t:=3);exact bD;exact qC;exact eD;exact aFA;exact rfl;exact rfl)|(apply aHF (t:=4);exact bD;exact qC;exact eD;exact aFA;exact rfl;exact rfl)|(apply aHF (t:=5);exact bD;exact qC;exact eD;exact aFA;exact rfl;exact rfl)|(apply aHF (t:=6);exact bD;exact qC;exact eD;exact aFA;exact rfl;exact rfl)|(apply aHF (t:=7);exact bD;exact qC;exact eD;exact aFA;exact rfl;exact rfl)|(apply V_ldO (t:=0);exact bD;exact eD;exact aJc;exact eD;exact rfl;exact rfl;exact aAG)|(apply V_ldO (t:=1);exact bD;exact eD;exact aJc;exact eD;exact rfl;exact rfl;exact aAG)|(apply V_ldO (t:=2);exact bD;exact eD;exact aJc;exact eD;exact rfl;exact rfl;exact aAG)|(apply V_ldO (t:=3);exact bD;exact eD;exact aJc;exact eD;exact rfl;exact rfl;exact aAG)|(apply V_ldO (t:=4);exact bD;exact eD;exact aJc;exact eD;exact rfl;exact rfl;exact aAG)|(apply V_ldOG (t:=0);exact bD;exact eD;exact aJc;exact eD;exact rfl;exact aFA;exact rfl;exact rfl)|(apply V_ldOG (t:=1);exact bD;exact eD;exact aJc;exact eD;exact rfl;exact aFA;exact rfl;exact rfl)|(apply V_ldOG (t:=2);exact bD;exact eD;exact aJc;exact eD;exact rfl;exact aFA;exact rfl;exact rfl)|(apply aLa (t:=0);exact bD;exact eD;exact eD;exact mX;exact rfl;exact aAG)|(apply aLa (t:=1);exact bD;exact eD;exact eD;exact mX;exact rfl;exact aAG)|(apply aLa (t:=2);exact bD;exact eD;exact eD;exact mX;exact rfl;exact aAG)|(apply aLa (t:=3);exact bD;exact eD;exact eD;exact mX;exact rfl;exact aAG)|(apply aLa (t:=4);exact bD;exact eD;exact eD;exact mX;exact rfl;exact aAG)|(apply aLa (t:=5);exact bD;exact eD;exact eD;exact mX;exact rfl;exact aAG)|(apply aLa (t:=6);exact bD;exact eD;exact eD;exact mX;exact rfl;exact aAG)|(apply aLa (t:=7);exact bD;exact eD;exact eD;exact mX;exact rfl;exact aAG)|(apply aPD (t:=0);exact bD;exact eD;exact eD;exact mX;exact aFA;exact rfl;exact rfl)|(apply aPD (t:=1);exact bD;exact eD;exact eD;exact mX;exact aFA;exact rfl;exact rfl)|(apply aPD (t:=2);exact bD;exact eD;exact eD;exact mX;exact aFA;exact rfl;exact rfl)|(apply aPD (t:=3);exact bD;exact eD;exact eD;exact mX;exact aFA;exact rfl;exact rfl)|(apply aKZ (t:=0);exact eD;exact qC;exact bD;exact rfl;exact aAG)|(apply aKZ (t:=1);exact eD;exact qC;exact bD;exact rfl;exact aAG)|(apply aKZ (t:=2);exact eD;exact qC;exact bD;exact rfl;exact aAG)|(apply aKZ (t:=3);exact eD;exact qC;exact bD;exact rfl;exact aAG)|(apply aKZ (t:=4);exact eD;exact qC;exact bD;exact rfl;exact aAG)|(apply aKZ (t:=5);exact eD;exact qC;exact bD;exact rfl;exact aAG)|(apply aKZ (t:=6);exact eD;exact qC;exact bD;exact rfl;exact aAG)|(apply aKZ (t:=7);exact eD;exact qC;exact bD;exact rfl;exact aAG)|(apply aPC (t:=0);exact eD;exact qC;exact bD;exact aFA;exact rfl;exact rfl)|(apply aPC (t:=1);exact eD;exact qC;exact bD;exact aFA;exact rfl;exact rfl)|(apply aPC (t:=2);exact eD;exact qC;exact bD;exact aFA;exact rfl;exact rfl)|(apply aPC (t:=3);exact eD;exact qC;exact bD;exact aFA;exact rfl;exact rfl))|(apply V_lenS;exact st_S;exact bD)|(apply V_nilE;exact bD;exact qC)|(apply V_nilP;exact bD)|(apply V_nilO;exact bD;exact eD;exact aJc;exact eD)|(apply V_ixE;exact bD;exact bD;exact st_HR;exact eD;exact rfl;exact st_S;exact rfl)|(apply V_ixO;exact bD;exact bD;exact eD;exact aJc;exact eD;exact rfl;exact st_S;exact rfl)|(apply V_extract;exact bD;exact rfl)|(apply V_pickT;exact bD;exact zH;exact bD)|(apply V_pickF;exact bD;exact zH;exact bD)|(apply V_not;exact bD)|(apply V_lenStr;exact st_r;exact bD)|(apply V_ixS;exact st_r;exact bD;exact bD;exact eD)|(apply V_conv64;exact st_r;exact bD;exact ⟨_,st_r⟩)|(apply V_convu64;exact st_r;exact bD;exact ⟨_,st_r⟩)|(apply V_u8sub';exact bD;exact bD)|(apply V_neg;exact bD)|(apply V_rem;exact bD;exact bD;exact eD)|(apply V_cat;exact bD;exact bD;exact eD)|(apply V_eqlB;exact st_r;exact bD;exact bD)|(apply V_neqB;exact st_r;exact bD;exact bD)|(apply V_u64add;exact bD;exact bD)|(apply V_u64mul;exact bD;exact bD)|(apply V_shrU;exact bD;exact bD;exact eD)|(apply V_andU;exact bD;exact bD)|(apply V_slSLH;exact st_r;exact bD;exact bD;exact bD;exact eD)|(apply V_slSL;exact st_r;exact bD;exact bD;exact eD)|(apply V_slSH;exact st_r;exact bD;exact bD;exact eD)|(apply V_isNil;exact st_S;exact bD;exact rfl)|(apply V_build;exact st_h;exact rfl;exact (by kernel_rfl))|(apply aSD;exact rfl)):p:=h
theorem aEW {P:Program} {n:Nat} {f:Nat->Value} {w:World} {ty:TypeId} {pos:String} {af:Array Go.Edge} {C:World->Prop} {R:(Nat->Value)->World->Prop} {os:List Oper} {d:Nat} {op:Op} {v:Value} {bs:List Nat} {m:Nat} {listed:Array Bool} (i:Nat) (h:WA P n os.toArray C bs R m (listed.setIfInBounds i true) (upd f d v) w) (hi:aDg os i=some ⟨some d,op,ty,pos,af,none⟩:=by exact rfl) (hB:aMn os.toArray bs listed i=true:=by kernel_rfl) (hC:C w:=by first|exact ⟨_,by assumption⟩|exact ⟨_,aD.weakK (by assumption) mX⟩) (hr:∀ w,C w->EX P f op v d ty pos af w:=by rintro _ ⟨_,_⟩;exact aKq):WA P n os.toArray C bs R (m+1) listed f w:=V_WA hi hB hC hr h
theorem cO {p q:Prop} (k:q) (h:Hd q->p:=by
 intro hk
 first
  |(apply VO;exact aKq)
  |(apply VQ;intro _ _;exact aKq)
  |(apply aM)
  |with_reducible apply aG
  |with_reducible apply iP
  |(apply bI)
  |(apply cK)
  |(apply dD)
  |(apply wD)
  |(apply aPE;exact bD;exact zH)
  |(apply aPF;exact bD;exact zH)
  |with_reducible apply fH
  |with_reducible apply qU
  |(with_reducible apply aKi;exact rfl)
  |(apply V_onT;exact rfl;exact bD;exact zH)
  |(apply V_onF;exact rfl;exact bD;exact zH)
  |(apply V_offF;exact rfl;exact bD;exact zH)
  |(apply V_offT;exact rfl;exact bD;exact zH)
  |(apply Q_onT;exact rfl;exact bD;exact zH)
  |(apply Q_onF;exact rfl;exact bD;exact zH)
  |(apply Q_offF;exact rfl;exact bD;exact zH)
  |(apply Q_offT;exact rfl;exact bD;exact zH)
  |(apply aMh;exact rfl;exact bD)
  |(apply aMk;exact rfl;exact bD)
  |(apply V_WE;exact rfl;rintro _ ⟨_,_⟩;exact aKq)
  |(apply V_WT;exact rfl;intro _;exact aKq)
 exact hk.k):p:=h ⟨k⟩
theorem aC {p q:Prop} (k:q) (h:Hd q->p:=by
 intro hk
 repeat (first
  |(apply VO;exact aKq)
  |(apply VQ;intro _ _;exact aKq)
  |(apply aM)
  |with_reducible apply aG
  |with_reducible apply iP
  |(apply bI)
  |(apply cK)
  |(apply dD)
  |(apply wD)
  |(apply aPE;exact bD;exact zH)
  |(apply aPF;exact bD;exact zH)
  |with_reducible apply fH
  |with_reducible apply qU
  |(with_reducible apply aKi;exact rfl)
  |(apply V_onT;exact rfl;exact bD;exact zH)
  |(apply V_onF;exact rfl;exact bD;exact zH)
  |(apply V_offF;exact rfl;exact bD;exact zH)
  |(apply V_offT;exact rfl;exact bD;exact zH)
  |(apply Q_onT;exact rfl;exact bD;exact zH)
  |(apply Q_onF;exact rfl;exact bD;exact zH)
  |(apply Q_offF;exact rfl;exact bD;exact zH)
  |(apply Q_offT;exact rfl;exact bD;exact zH)
  |(apply aMh;exact rfl;exact bD)
  |(apply aMk;exact rfl;exact bD)
  |(apply V_WE;exact rfl;rintro _ ⟨_,_⟩;exact aKq)
  |(apply V_WT;exact rfl;intro _;exact aKq))
 exact hk.k):p:=h ⟨k⟩
theorem st_call {p:Prop} (h:p:=by with_reducible first|exact call4|exact call5|exact call6|exact call7|exact call8|exact call9|exact call10|exact call11|exact call12|exact call13|exact call14|exact call15|exact call16|exact call17|exact call18|exact call19|exact call20|exact call21|exact call22|exact call23|exact call24|exact call25|exact call26|exact call27|exact call28|exact call29|exact call30|exact call31|exact call32|exact call33|exact call34|exact call35|exact call36|exact call37|exact call38|exact call39|exact call40|exact call41|exact call42|exact call43|exact call44|exact call45|exact call46|exact call47|exact call48|exact call49|exact call50|exact call51|exact call52|exact call53|exact call54|exact call55|exact call56|exact call57|exact call58|exact call59|exact call60|exact call61|exact call62|exact call64|exact call65|exact call66|exact call67|exact call68|exact call69|exact call70|exact call71|exact call72|exact call73|exact call74|exact call75|exact call76|exact call77|exact call78|exact call79|exact call80|exact call81|exact call82|exact call83|exact call84|exact call85|exact call86|exact call87|exact call88|exact call89|exact call90|exact call91|exact call92|exact call93|exact call94|exact call95|exact call96|exact call97|exact call98|exact call99|exact call100|exact call101|exact call102|exact call103|exact call104|exact call105|exact call106|exact call107|exact call108|exact call109|exact call110|exact call113|exact call114|exact call116|exact call117|exact call118|exact call120|exact call121|exact call122|exact call125|exact call126|exact call127|exact call128|exact call129|exact call130|exact call131|exact call132|exact call133|exact call134|exact call135|exact call136|exact call137|exact call138|exact call139|exact call140|exact call141|exact call142|exact call153|exact call155|exact call164|exact call165|exact call166|exact call167|exact call168|exact call169|exact call170|exact call171|exact call172|exact call173|exact call174|exact call175|exact call176|exact call194|exact call195|exact call196|exact call197|exact call198|exact call199|exact call200|exact call201|exact call202|exact call204|exact call206|exact call207|exact call208|exact call216|exact call217|exact call218|exact call219|exact call223|exact call227|exact call228|exact call229|exact call230):p:=h
theorem st_f {p:Prop} (h:p:=by with_reducible first|exact func3|exact func4|exact func5|exact func6|exact func7|exact func8|exact func9|exact func10|exact func11|exact func12|exact func13|exact func14|exact func15|exact func16|exact func17|exact func18|exact func19|exact func20|exact func21|exact func22|exact func23|exact func24|exact func25|exact func26|exact func27|exact func28|exact func29|exact func30|exact func31|exact func32|exact func33|exact func34|exact func35|exact func36|exact func37|exact func38|exact func39|exact func40|exact func41|exact func42|exact func43|exact func44|exact func45|exact func46|exact func47|exact func48|exact func49|exact func50|exact func51|exact func52|exact func53|exact func54|exact func55|exact func56|exact func57|exact func58|exact func59|exact func60|exact func61|exact func63|exact func64|exact func65|exact func66|exact func67|exact func69|exact func70|exact func71|exact func72|exact func73|exact func74|exact func75|exact func76|exact func77|exact func78|exact func80|exact func81|exact func82|exact func83|exact func84|exact func85|exact func86|exact func87|exact func88|exact func89|exact func90|exact func91|exact func92|exact func93|exact func94|exact func95|exact func96|exact func97|exact func98|exact func99|exact func100|exact func101|exact func102|exact func103|exact func104|exact func105|exact func106|exact func107|exact func108|exact func109|exact func110|exact func113|exact func115|exact func116|exact func117|exact func118|exact func120|exact func121|exact func122|exact func125|exact func126|exact func127|exact func128|exact func129|exact func130|exact func131|exact func132|exact func133|exact func134|exact func135|exact func136|exact func137|exact func138|exact func139|exact func140|exact func141|exact func142|exact func153|exact func164|exact func165|exact func166|exact func167|exact func168|exact func169|exact func170|exact func171|exact func173|exact func175|exact func176|exact func195|exact func196|exact func197|exact func198|exact func199|exact func200|exact func201|exact func202|exact func206|exact func207|exact func208|exact func216|exact func217|exact func218|exact func219|exact func227|exact func228|exact func229):p:=h
theorem aOH {p:Prop} (h:p:=by first|((with_reducible apply aGB);exact rfl;exact rfl)|((with_reducible apply V_rvG);exact bD;exact eD;exact aJc;exact aFA;exact rfl;exact rfl)|((with_reducible apply V_rvB);exact bD;exact eD;exact aJc;exact aAG;exact rfl)):p:=h
theorem st_X {p:Prop} (h:p:=by
 (repeat (first
  |exact aR
  |(with_reducible apply Exists.intro)
  |((with_reducible apply And.intro);· first|exact aR|(with_reducible assumption)|exact (Option.some.inj (by with_reducible assumption)).symm|exact rfl|assumption|exact zR _|exact mX|exact aIh _|(apply st_rK;assumption;exact mX)|(apply st_cK;assumption;exact mX)|exact lD (by assumption))
  |(with_reducible assumption)|exact lI|exact rfl|assumption));first|done|fail):p:=h
theorem aEk {p q:Prop} (k:q) (h:Hd q->p:=by
 intro hk
 (first|apply st_ca|apply st_cb|apply st_cq);exact st_call;(first|(with_reducible intro z z)|skip);(first|((with_reducible first|apply xZ|apply aFs|apply aFt|apply aEN|apply aEO|apply vN|apply aJV|apply aKA|apply aGo|apply aHY|apply aHk|apply aGk|apply aKw|apply aLw|apply aLx|apply aPO|apply aKx|apply aEK|apply aLy|apply aJU|apply aLz|apply aPP|apply aFI|apply aMG|apply aGP|apply aDB|apply aJf|apply aMC|apply aOb|apply aLu|apply aOc|apply aMD|apply aDw|apply aKt|apply aOd|apply aHU|apply yS|apply xV|apply aEX|apply aKu|apply aME|apply aIR|apply aHV|apply aEH|apply aHW|apply aEI|apply aOe|apply aEJ|apply aHX|apply aFH|apply aPN|apply aLv|apply aHj|apply aMF|apply aKv|apply xW|apply aDb|apply aAl|apply aFq|apply aAm|apply aEM|apply iE|apply aMJ|apply aDz|apply tX|apply rS|apply aCt|apply sT|apply kE|apply fQ|apply yW|apply qF|apply sU|apply aGn|apply aCb|apply aAq|apply yX|apply sJ|apply aCk|apply aOf|apply aHs|apply kX|apply aIz|apply aJi|apply aFr|apply iV|apply aLB|apply oP|apply wX|apply mE|apply iD|apply aZ|apply aDc|apply aCa|apply tW|apply aMH|apply aAk|apply aHl|apply aHm|apply aIx|apply aIS|apply aLA|apply aFp|apply aGl|apply aAA|apply aHZ|apply aHn|apply aEL|apply bJ|apply wS|apply vK|apply aAo|apply aBe|apply rU|apply aBg|apply aDA|apply uR|apply aAM|apply aGm|apply aDx|apply aDy|apply aKy|apply aJg|apply aIa|apply aJh|apply aPQ|apply aHo|apply aEY|apply aIy|apply aMI|apply wT|apply jH|apply aAN|apply yT|apply oO|apply aBZ|apply aKz|apply aBc|apply pV|apply aHp|apply oY|apply xX|apply aLg|apply tY|apply xY|apply tZ|apply uA|apply rT|apply aDa|apply aBa|apply lG|apply aJe|apply aDv|apply iU);with_reducible assumption)|(with_reducible apply vL;with_reducible assumption)|(with_reducible apply jW;with_reducible assumption)|(with_reducible apply aFJ;with_reducible assumption)|(with_reducible apply vM;with_reducible assumption)|(with_reducible apply jX;with_reducible assumption)|(with_reducible apply aDQ;with_reducible assumption)|(with_reducible apply xU;with_reducible assumption)|(with_reducible apply vJ;with_reducible assumption)|(with_reducible apply aBb;with_reducible assumption)|(with_reducible apply lC;with_reducible assumption)|(with_reducible apply kW;with_reducible assumption)|(with_reducible apply nF;with_reducible assumption)|(with_reducible apply wU;with_reducible assumption)|(with_reducible apply aBf;with_reducible assumption)|(with_reducible apply aAp;with_reducible assumption)|(with_reducible apply lB;with_reducible assumption)|(with_reducible apply mM;with_reducible assumption)|(with_reducible apply aAn;with_reducible assumption)|(with_reducible apply aBd;with_reducible assumption)|(with_reducible apply aCj;with_reducible assumption)|(with_reducible apply lib_SortRows;all_goals (try with_reducible assumption))|(with_reducible apply lib_SortStr;all_goals (try with_reducible assumption))|(with_reducible apply lib_SortEdge;all_goals (try with_reducible assumption))|(with_reducible apply lib_Cut;all_goals (try with_reducible assumption))|(with_reducible apply lib_Split;all_goals (try with_reducible assumption))|(with_reducible apply aRe;all_goals (try with_reducible assumption))|(with_reducible apply aPM;all_goals (try with_reducible assumption))|(with_reducible apply lib_Join;all_goals (try with_reducible assumption))|(with_reducible apply aHT;all_goals (try with_reducible assumption))|(with_reducible apply aLf;all_goals (try with_reducible assumption))|(with_reducible apply aLt;all_goals (try with_reducible assumption)));(case hv=>exact rfl);(repeat (first|assumption|exact lI|(apply st_rK;assumption;exact mX)|(apply st_cK;assumption;exact mX)|exact aIh _|exact mX|exact zR _|exact rfl|exact lD (by assumption)));exact hk.k;first|done|fail):p:=h ⟨k⟩
set_option maxRecDepth 100000 in
theorem aJ {p:Prop} (h:p:=by
 repeat' (first
  |(apply st_i;exact bD;exact bD;exact eD;exact eD;exact rfl;exact st_S;exact rfl;intro z z zr;first|(have zr:=st_pd zr;subst zr)|obtain ⟨z,z,rfl,z⟩:=zr|obtain ⟨z,z,z,z,rfl,z,z⟩:=zr|obtain ⟨z,z,z,z,z,z,rfl,z,z,z⟩:=zr|obtain ⟨z,z,z,z,z,z,z,z,rfl,z,z,z,z⟩:=zr)
  |(apply st_iQ;exact bD;exact bD;exact eD;exact eD;exact rfl;exact st_S;exact rfl;intro z z zr;first|(have zr:=st_pd zr;subst zr)|obtain ⟨z,z,rfl,z⟩:=zr|obtain ⟨z,z,z,z,rfl,z,z⟩:=zr|obtain ⟨z,z,z,z,z,z,rfl,z,z,z⟩:=zr|obtain ⟨z,z,z,z,z,z,z,z,rfl,z,z,z,z⟩:=zr)
  |(apply st_iE;exact rfl;exact bD;exact bD;exact eD;exact eD;exact rfl;exact st_S;exact rfl;intro z z zr;first|(have zr:=st_pd zr;subst zr)|obtain ⟨z,z,rfl,z⟩:=zr|obtain ⟨z,z,z,z,rfl,z,z⟩:=zr|obtain ⟨z,z,z,z,z,z,rfl,z,z,z⟩:=zr|obtain ⟨z,z,z,z,z,z,z,z,rfl,z,z,z,z⟩:=zr)
  |(apply VO;exact aKq)
  |(apply VQ;intro _ _;exact aKq)
  |(apply aM)
  |with_reducible apply aG
  |with_reducible apply iP
  |(apply bI)
  |(apply cK)
  |(apply dD)
  |(apply wD)
  |(apply aPE;exact bD;exact zH)
  |(apply aPF;exact bD;exact zH)
  |with_reducible apply fH
  |with_reducible apply qU
  |(with_reducible apply aKi;exact rfl)
  |(apply V_onT;exact rfl;exact bD;exact zH)
  |(apply V_onF;exact rfl;exact bD;exact zH)
  |(apply V_offF;exact rfl;exact bD;exact zH)
  |(apply V_offT;exact rfl;exact bD;exact zH)
  |(apply Q_onT;exact rfl;exact bD;exact zH)
  |(apply Q_onF;exact rfl;exact bD;exact zH)
  |(apply Q_offF;exact rfl;exact bD;exact zH)
  |(apply Q_offT;exact rfl;exact bD;exact zH)
  |(apply aMh;exact rfl;exact bD)
  |(apply aMk;exact rfl;exact bD)
  |(apply V_WE;exact rfl;rintro _ ⟨_,_⟩;exact aKq)
  |(apply V_WT;exact rfl;intro _;exact aKq)
  |apply aFP
  |with_reducible apply sO
  |with_reducible apply aHv
  |exact st_X
  |(apply retQ_1;exact rfl;exact rfl;refine aLb hm (fun z=>?_);subst z;exact st_X)
  |(apply retQ_2;exact rfl;exact rfl;exact rfl;refine aLb hm (fun z=>?_);subst z;exact st_X)
  |(apply retQ_3;exact rfl;exact rfl;exact rfl;exact rfl;refine aLb hm (fun z=>?_);subst z;exact st_X)
  |(apply retQ_m1;exact rfl;exact aOH;refine aLb hm (fun z=>?_);subst z;exact st_X)
  |(apply aPu;exact rfl;exact aOH;exact aOH;refine aLb hm (fun z=>?_);subst z;exact st_X)
  |(apply aJz;exact rfl;exact aOH;exact aOH;exact aOH;refine aLb hm (fun z=>?_);subst z;exact st_X)
  |(apply retQ_0n;exact rfl;refine aLb hm (fun z=>?_);subst z;exact st_X)
  |(apply retQ_0;exact rfl;refine aLb hm (fun z=>?_);subst z;exact st_X)
  |(refine cH st_f ?_)
  |intro (hm:(_:Option _)=some _)
  |intro (hr:∀ r',_=Sum.inr r'->_)
  |(with_reducible refine aDs fun z=>?_)
  |(with_reducible refine aDt ?_)
  |(intro (zv:(_:Value)=_);subst zv)
  |intro z
  |((with_reducible apply st_we);first|exact ⟨_,by assumption⟩|exact ⟨_,aD.weakK (by assumption) mX⟩)
  |(apply fF;exact rfl)
  |(apply aFR;exact rfl)
  |apply jE
  |(have zq:=hr _ (Option.some.inj hm).symm;subst zq;have hm:=ho;clear hr ho;try dsimp only at hm)
  |obtain ⟨z,z,hm⟩:=aB hm
  |exact st_no hm
  |refine kK (fun z z z=>?_)
  |refine kZ (fun z z=>?_)
  |refine oZ (fun z z z=>?_)
  |refine st_ba (by with_reducible assumption) (fun z z z=>?_)
  |refine nW (T:=24) ([]:List aH) (fun z z z=>?_)
  |refine nW (T:=25) ([]:List Edge) (fun z z z=>?_)
  |refine nW (T:=28) ([]:List Int) (fun z z z=>?_)
  |refine nW (T:=36) ([]:List (List Int)) (fun z z z=>?_)
  |refine nW (T:=57) ([]:List Bool) (fun z z z=>?_)
  |refine aIw (fun z z z z=>?_)
  |(apply st_q2;exact bD;exact bD;(first|assumption|(apply st_rK;assumption;exact mX));assumption;exact st_M;assumption;exact st_S;exact st_u;exact st_e;exact rfl;exact rfl;exact rfl;exact rfl;intro z z z z)
  |(apply oS;intro z z)
  |refine aEi ?_
  |(apply cR)
  |(refine aEk ?_;first|(intro z z;repeat (first|(with_reducible refine aDs fun z=>?_)|with_reducible refine aDt ?_|(intro (zv:(_:Value)=_);subst zv)|intro z))|skip)
  |((first|(apply qV;(with_reducible assumption);exact .head;(first|exact zR _|exact mX);intro zK zh zr zs bk)|(apply qW;(with_reducible assumption);exact .head;intro zK zh zr zs bk));refine aEk ?_;(first|(intro z z;repeat (first|(with_reducible refine aDs fun z=>?_)|with_reducible refine aDt ?_|(intro (zv:(_:Value)=_);subst zv)|intro z))|skip);(have z:=bk _ _ (by with_reducible assumption);clear bk))
  |((first|(apply qV;(with_reducible assumption);exact zt1;(first|exact zR _|exact mX);intro zK zh zr zs bk)|(apply qW;(with_reducible assumption);exact zt1;intro zK zh zr zs bk));refine aEk ?_;(first|(intro z z;repeat (first|(with_reducible refine aDs fun z=>?_)|with_reducible refine aDt ?_|(intro (zv:(_:Value)=_);subst zv)|intro z))|skip);(have z:=bk _ _ (by with_reducible assumption);clear bk))
  |((first|(apply qV;(with_reducible assumption);exact zt2;(first|exact zR _|exact mX);intro zK zh zr zs bk)|(apply qW;(with_reducible assumption);exact zt2;intro zK zh zr zs bk));refine aEk ?_;(first|(intro z z;repeat (first|(with_reducible refine aDs fun z=>?_)|with_reducible refine aDt ?_|(intro (zv:(_:Value)=_);subst zv)|intro z))|skip);(have z:=bk _ _ (by with_reducible assumption);clear bk))
  |((first|(apply qV;(with_reducible assumption);exact zt3;(first|exact zR _|exact mX);intro zK zh zr zs bk)|(apply qW;(with_reducible assumption);exact zt3;intro zK zh zr zs bk));refine aEk ?_;(first|(intro z z;repeat (first|(with_reducible refine aDs fun z=>?_)|with_reducible refine aDt ?_|(intro (zv:(_:Value)=_);subst zv)|intro z))|skip);(have z:=bk _ _ (by with_reducible assumption);clear bk))
  |((first|(apply qV;(with_reducible assumption);exact zt4;(first|exact zR _|exact mX);intro zK zh zr zs bk)|(apply qW;(with_reducible assumption);exact zt4;intro zK zh zr zs bk));refine aEk ?_;(first|(intro z z;repeat (first|(with_reducible refine aDs fun z=>?_)|with_reducible refine aDt ?_|(intro (zv:(_:Value)=_);subst zv)|intro z))|skip);(have z:=bk _ _ (by with_reducible assumption);clear bk))
  |((first|(apply qV;(with_reducible assumption);exact .head;(first|exact zR _|exact mX);intro zK zh zr zs bk)|(apply qW;(with_reducible assumption);exact .head;intro zK zh zr zs bk));(first|(apply qV;(with_reducible assumption);exact .head;(first|exact zR _|exact mX);intro zK zh zr zs bk)|(apply qW;(with_reducible assumption);exact .head;intro zK zh zr zs bk));refine aEk ?_;(first|(intro z z;repeat (first|(with_reducible refine aDs fun z=>?_)|with_reducible refine aDt ?_|(intro (zv:(_:Value)=_);subst zv)|intro z))|skip);(have z:=bk _ _ (by with_reducible assumption);clear bk);(have z:=bk _ _ (by with_reducible assumption);clear bk))
  |((first|(apply qV;(with_reducible assumption);exact zt1;(first|exact zR _|exact mX);intro zK zh zr zs bk)|(apply qW;(with_reducible assumption);exact zt1;intro zK zh zr zs bk));(first|(apply qV;(with_reducible assumption);exact zt1;(first|exact zR _|exact mX);intro zK zh zr zs bk)|(apply qW;(with_reducible assumption);exact zt1;intro zK zh zr zs bk));refine aEk ?_;(first|(intro z z;repeat (first|(with_reducible refine aDs fun z=>?_)|with_reducible refine aDt ?_|(intro (zv:(_:Value)=_);subst zv)|intro z))|skip);(have z:=bk _ _ (by with_reducible assumption);clear bk);(have z:=bk _ _ (by with_reducible assumption);clear bk))
  |((first|(apply qV;(with_reducible assumption);exact zt1;(first|exact zR _|exact mX);intro zK zh zr zs bk)|(apply qW;(with_reducible assumption);exact zt1;intro zK zh zr zs bk));(first|(apply qV;(with_reducible assumption);exact .head;(first|exact zR _|exact mX);intro zK zh zr zs bk)|(apply qW;(with_reducible assumption);exact .head;intro zK zh zr zs bk));refine aEk ?_;(first|(intro z z;repeat (first|(with_reducible refine aDs fun z=>?_)|with_reducible refine aDt ?_|(intro (zv:(_:Value)=_);subst zv)|intro z))|skip);(have z:=bk _ _ (by with_reducible assumption);clear bk);(have z:=bk _ _ (by with_reducible assumption);clear bk))
  |((first|(apply qV;(with_reducible assumption);exact zt2;(first|exact zR _|exact mX);intro zK zh zr zs bk)|(apply qW;(with_reducible assumption);exact zt2;intro zK zh zr zs bk));(first|(apply qV;(with_reducible assumption);exact zt1;(first|exact zR _|exact mX);intro zK zh zr zs bk)|(apply qW;(with_reducible assumption);exact zt1;intro zK zh zr zs bk));refine aEk ?_;(first|(intro z z;repeat (first|(with_reducible refine aDs fun z=>?_)|with_reducible refine aDt ?_|(intro (zv:(_:Value)=_);subst zv)|intro z))|skip);(have z:=bk _ _ (by with_reducible assumption);clear bk);(have z:=bk _ _ (by with_reducible assumption);clear bk))
  |((first|(apply qV;(with_reducible assumption);exact zt2;(first|exact zR _|exact mX);intro zK zh zr zs bk)|(apply qW;(with_reducible assumption);exact zt2;intro zK zh zr zs bk));(first|(apply qV;(with_reducible assumption);exact zt1;(first|exact zR _|exact mX);intro zK zh zr zs bk)|(apply qW;(with_reducible assumption);exact zt1;intro zK zh zr zs bk));(first|(apply qV;(with_reducible assumption);exact zt1;(first|exact zR _|exact mX);intro zK zh zr zs bk)|(apply qW;(with_reducible assumption);exact zt1;intro zK zh zr zs bk));refine aEk ?_;(first|(intro z z;repeat (first|(with_reducible refine aDs fun z=>?_)|with_reducible refine aDt ?_|(intro (zv:(_:Value)=_);subst zv)|intro z))|skip);(have z:=bk _ _ (by with_reducible assumption);clear bk);(have z:=bk _ _ (by with_reducible assumption);clear bk);(have z:=bk _ _ (by with_reducible assumption);clear bk))
  |((first|(apply qV;(with_reducible assumption);exact .head;(first|exact zR _|exact mX);intro zK zh zr zs bk)|(apply qW;(with_reducible assumption);exact .head;intro zK zh zr zs bk));(first|(apply qV;(with_reducible assumption);exact .head;(first|exact zR _|exact mX);intro zK zh zr zs bk)|(apply qW;(with_reducible assumption);exact .head;intro zK zh zr zs bk));(first|(apply qV;(with_reducible assumption);exact .head;(first|exact zR _|exact mX);intro zK zh zr zs bk)|(apply qW;(with_reducible assumption);exact .head;intro zK zh zr zs bk));refine aEk ?_;(first|(intro z z;repeat (first|(with_reducible refine aDs fun z=>?_)|with_reducible refine aDt ?_|(intro (zv:(_:Value)=_);subst zv)|intro z))|skip);(have z:=bk _ _ (by with_reducible assumption);clear bk);(have z:=bk _ _ (by with_reducible assumption);clear bk);(have z:=bk _ _ (by with_reducible assumption);clear bk))
  |((first|(apply qV;(with_reducible assumption);exact zt1;(first|exact zR _|exact mX);intro zK zh zr zs bk)|(apply qW;(with_reducible assumption);exact zt1;intro zK zh zr zs bk));(first|(apply qV;(with_reducible assumption);exact zt1;(first|exact zR _|exact mX);intro zK zh zr zs bk)|(apply qW;(with_reducible assumption);exact zt1;intro zK zh zr zs bk));(first|(apply qV;(with_reducible assumption);exact zt1;(first|exact zR _|exact mX);intro zK zh zr zs bk)|(apply qW;(with_reducible assumption);exact zt1;intro zK zh zr zs bk));refine aEk ?_;(first|(intro z z;repeat (first|(with_reducible refine aDs fun z=>?_)|with_reducible refine aDt ?_|(intro (zv:(_:Value)=_);subst zv)|intro z))|skip);(have z:=bk _ _ (by with_reducible assumption);clear bk);(have z:=bk _ _ (by with_reducible assumption);clear bk);(have z:=bk _ _ (by with_reducible assumption);clear bk))
  |((first|(apply qV;(with_reducible assumption);exact zt3;(first|exact zR _|exact mX);intro zK zh zr zs bk)|(apply qW;(with_reducible assumption);exact zt3;intro zK zh zr zs bk));(first|(apply qV;(with_reducible assumption);exact zt2;(first|exact zR _|exact mX);intro zK zh zr zs bk)|(apply qW;(with_reducible assumption);exact zt2;intro zK zh zr zs bk));(first|(apply qV;(with_reducible assumption);exact zt2;(first|exact zR _|exact mX);intro zK zh zr zs bk)|(apply qW;(with_reducible assumption);exact zt2;intro zK zh zr zs bk));refine aEk ?_;(first|(intro z z;repeat (first|(with_reducible refine aDs fun z=>?_)|with_reducible refine aDt ?_|(intro (zv:(_:Value)=_);subst zv)|intro z))|skip);(have z:=bk _ _ (by with_reducible assumption);clear bk);(have z:=bk _ _ (by with_reducible assumption);clear bk);(have z:=bk _ _ (by with_reducible assumption);clear bk))
  |((first|(apply qV;(with_reducible assumption);exact .head;(first|exact zR _|exact mX);intro zK zh zr zs bk)|(apply qW;(with_reducible assumption);exact .head;intro zK zh zr zs bk));(first|(apply qV;(with_reducible assumption);exact .head;(first|exact zR _|exact mX);intro zK zh zr zs bk)|(apply qW;(with_reducible assumption);exact .head;intro zK zh zr zs bk));(first|(apply qV;(with_reducible assumption);exact .head;(first|exact zR _|exact mX);intro zK zh zr zs bk)|(apply qW;(with_reducible assumption);exact .head;intro zK zh zr zs bk));(first|(apply qV;(with_reducible assumption);exact .head;(first|exact zR _|exact mX);intro zK zh zr zs bk)|(apply qW;(with_reducible assumption);exact .head;intro zK zh zr zs bk));refine aEk ?_;(first|(intro z z;repeat (first|(with_reducible refine aDs fun z=>?_)|with_reducible refine aDt ?_|(intro (zv:(_:Value)=_);subst zv)|intro z))|skip);(have z:=bk _ _ (by with_reducible assumption);clear bk);(have z:=bk _ _ (by with_reducible assumption);clear bk);(have z:=bk _ _ (by with_reducible assumption);clear bk);(have z:=bk _ _ (by with_reducible assumption);clear bk))
  |((first|(with_reducible apply st_g0)|(with_reducible apply st_g1)|(with_reducible apply st_g2)|(with_reducible apply st_g3)|(apply st_g4;exact rfl));rcases aI hm with ⟨z,hm⟩|⟨z,hm⟩))):p:=h
end Gv
