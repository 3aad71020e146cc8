/- Readings of the program's data; what is known of its types. -/
import Derived.Test.YtoddhhghiolggaaGreatDoorJYS
import Derived.Test.YtoddhhghiolggaaGreatDoorProg
set_option linter.all false
namespace Gv
open Go.Value renaming slice→zS,bool→zB
open Gv.Hp renaming le_trans→zL
open Go Go.Proofs Go.Proofs.Tryz
instance:iL Edge where
 sz:=3
 enc d:=[i64 d.F,i64 d.B,i64 d.To]
 len _:=rfl
 one _ v h:=by simp at h;rcases h with rfl|rfl|rfl<;>rfl
 pos:=by decide
instance:El hJ where
 sz:=4
 rd K cs d:=∃ (a0:Option Addr) (c0:Nat) (a1:Option Addr) (c1:Nat),cs=[i64 d.N,i64 d.I,zS a0 d.L.length c0,zS a1 d.E.length c1]/\aY K a0 c0 d.L/\aY K a1 c1 d.E
 mono:=fun h ⟨a0,c0,a1,c1,e,h0,h1⟩=>⟨a0,c0,a1,c1,e,h0.mono h,h1.mono h⟩
 len:=fun ⟨_,_,_,_,e,_⟩=>by rw [e];rfl
 one:=fun ⟨_,_,_,_,e,_⟩ v hv=>by rw [e] at hv;simp at hv;rcases hv with rfl|rfl|rfl|rfl<;>rfl
 pos:=by decide
instance:iL bH where
 sz:=4
 enc d:=[i64 d.Kind,i64 d.Variable,str d.B,zB d.Not]
 len _:=rfl
 one _ v h:=by simp at h;rcases h with rfl|rfl|rfl|rfl<;>rfl
 pos:=by decide
instance:iL aR where
 sz:=2
 enc d:=[i64 d.Kind,i64 d.Value]
 len _:=rfl
 one _ v h:=by simp at h;rcases h with rfl|rfl<;>rfl
 pos:=by decide
instance:El bG where
 sz:=4
 rd K cs d:=∃ (a0:Option Addr) (c0:Nat),cs=[i64 d.Kind,i64 d.Number,str d.Name,zS a0 d.Arguments.length c0]/\aY K a0 c0 d.Arguments
 mono:=fun h ⟨a0,c0,e,h0⟩=>⟨a0,c0,e,h0.mono h⟩
 len:=fun ⟨_,_,e,_⟩=>by rw [e];rfl
 one:=fun ⟨_,_,e,_⟩ v hv=>by rw [e] at hv;simp at hv;rcases hv with rfl|rfl|rfl|rfl<;>rfl
 pos:=by decide
instance:El Definition where
 sz:=3
 rd K cs d:=∃ (a0:Option Addr) (c0:Nat),cs=[str d.Name,i64 d.Parameters,zS a0 d.Body.length c0]/\aY K a0 c0 d.Body
 mono:=fun h ⟨a0,c0,e,h0⟩=>⟨a0,c0,e,h0.mono h⟩
 len:=fun ⟨_,_,e,_⟩=>by rw [e];rfl
 one:=fun ⟨_,_,e,_⟩ v hv=>by rw [e] at hv;simp at hv;rcases hv with rfl|rfl|rfl<;>rfl
 pos:=by decide
instance:El aX where
 sz:=2
 rd K cs d:=∃ (a0:Option Addr) (c0:Nat),cs=[i64 d.Definition,zS a0 d.Values.length c0]/\aY K a0 c0 d.Values
 mono:=fun h ⟨a0,c0,e,h0⟩=>⟨a0,c0,e,h0.mono h⟩
 len:=fun ⟨_,_,e,_⟩=>by rw [e];rfl
 one:=fun ⟨_,_,e,_⟩ v hv=>by rw [e] at hv;simp at hv;rcases hv with rfl|rfl<;>rfl
 pos:=by decide
instance:iL bB where
 sz:=3
 enc d:=[str d.Left,str d.Right,str d.Result]
 len _:=rfl
 one _ v h:=by simp at h;rcases h with rfl|rfl|rfl<;>rfl
 pos:=by decide
instance:El bL where
 sz:=5
 rd K cs d:=∃ (a0:Option Addr) (c0:Nat) (a1:Option Addr) (c1:Nat) (a2:Option Addr) (c2:Nat) (a3:Option Addr) (c3:Nat) (a4:Option Addr) (c4:Nat),cs=[zS a0 d.Definitions.length c0,zS a1 d.Components.length c1,zS a2 d.Meetings.length c2,zS a3 d.Allowed.length c3,zS a4 d.Hidden.length c4]/\aY K a0 c0 d.Definitions/\aY K a1 c1 d.Components/\aY K a2 c2 d.Meetings/\aY K a3 c3 d.Allowed/\aY K a4 c4 d.Hidden
 mono:=fun h ⟨a0,c0,a1,c1,a2,c2,a3,c3,a4,c4,e,h0,h1,h2,h3,h4⟩=>⟨a0,c0,a1,c1,a2,c2,a3,c3,a4,c4,e,h0.mono h,h1.mono h,h2.mono h,h3.mono h,h4.mono h⟩
 len:=fun ⟨_,_,_,_,_,_,_,_,_,_,e,_⟩=>by rw [e];rfl
 one:=fun ⟨_,_,_,_,_,_,_,_,_,_,e,_⟩ v hv=>by rw [e] at hv;simp at hv;rcases hv with rfl|rfl|rfl|rfl|rfl<;>rfl
 pos:=by decide
instance:El Kept where
 sz:=12
 rd K cs d:=∃ (a0:Option Addr) (c0:Nat) (a1:Option Addr) (c1:Nat) (a2:Option Addr) (c2:Nat) (a3:Option Addr) (c3:Nat) (a4:Option Addr) (c4:Nat) (a5:Option Addr) (c5:Nat) (a6:Option Addr) (c6:Nat) (a7:Option Addr) (c7:Nat),cs=[str d.Name,i64 d.Kind,i64 d.S.N,i64 d.S.I,zS a0 d.S.L.length c0,zS a1 d.S.E.length c1,zS a2 d.Formula.length c2,zS a3 d.Source.Definitions.length c3,zS a4 d.Source.Components.length c4,zS a5 d.Source.Meetings.length c5,zS a6 d.Source.Allowed.length c6,zS a7 d.Source.Hidden.length c7]/\aY K a0 c0 d.S.L/\aY K a1 c1 d.S.E/\aY K a2 c2 d.Formula/\aY K a3 c3 d.Source.Definitions/\aY K a4 c4 d.Source.Components/\aY K a5 c5 d.Source.Meetings/\aY K a6 c6 d.Source.Allowed/\aY K a7 c7 d.Source.Hidden
 mono:=fun h ⟨a0,c0,a1,c1,a2,c2,a3,c3,a4,c4,a5,c5,a6,c6,a7,c7,e,h0,h1,h2,h3,h4,h5,h6,h7⟩=>⟨a0,c0,a1,c1,a2,c2,a3,c3,a4,c4,a5,c5,a6,c6,a7,c7,e,h0.mono h,h1.mono h,h2.mono h,h3.mono h,h4.mono h,h5.mono h,h6.mono h,h7.mono h⟩
 len:=fun ⟨_,_,_,_,_,_,_,_,_,_,_,_,_,_,_,_,e,_⟩=>by rw [e];rfl
 one:=fun ⟨_,_,_,_,_,_,_,_,_,_,_,_,_,_,_,_,e,_⟩ v hv=>by rw [e] at hv;simp at hv;rcases hv with rfl|rfl|rfl|rfl|rfl|rfl|rfl|rfl|rfl|rfl|rfl|rfl<;>rfl
 pos:=by decide
instance:El vI where
 sz:=1
 rd K cs d:=∃ (a0:Option Addr) (c0:Nat),cs=[zS a0 d.Kept.length c0]/\aY K a0 c0 d.Kept
 mono:=fun h ⟨a0,c0,e,h0⟩=>⟨a0,c0,e,h0.mono h⟩
 len:=fun ⟨_,_,e,_⟩=>by rw [e];rfl
 one:=fun ⟨_,_,e,_⟩ v hv=>by rw [e] at hv;simp at hv;rcases hv with rfl<;>rfl
 pos:=by decide
instance:iL dF where
 sz:=2
 enc d:=[i64 d.scope,zB d.behind]
 len _:=rfl
 one _ v h:=by simp at h;rcases h with rfl|rfl<;>rfl
 pos:=by decide
instance:Dp bG where
 Hd:=((Option Addr × Nat) × List (Dp.Hd (List aR)))
 sz1:=3
 enc hd x:=[i64 x.Kind,i64 x.Number,str x.Name,.slice hd.1.1 x.Arguments.length hd.1.2]
 pcs tys hd x:=[aT (tys.headD 0) Hp.nil hd.1.1 hd.1.2 (cD hd.2 x.Arguments),aLV [(tys.tail.headD 0)] hd.2 x.Arguments]
 len _ _:=rfl
 one _ _ v h:=by simp at h;rcases h with rfl|rfl|rfl|rfl<;>rfl
instance:DpEl bG where
 sz:=rfl
 rd:=fun {tys hd x h K} a hK=>by
  obtain ⟨p0,r0,b0,_,l0,m0,a⟩:=a
  obtain ⟨p1,r1,b1,_,l1,m1,a⟩:=a
  exact ⟨hd.1.1,hd.1.2,rfl,nest_rd b0 b1 (zL l0 (hK)) (zL l1 (zL m0 (hK)))⟩
theorem aOQ (tys:List TypeId):fP (Dp.pcs tys (((none,0),[]):Dp.Hd bG) (⟨0,0,[],[]⟩:bG)) Hp.nil:=
 aPQ _ _ (trivial)
instance:Dp Definition where
 Hd:=((Option Addr × Nat) × List (Dp.Hd bG))
 sz1:=2
 enc hd x:=[str x.Name,i64 x.Parameters,.slice hd.1.1 x.Body.length hd.1.2]
 pcs tys hd x:=[aT (tys.headD 0) Hp.nil hd.1.1 hd.1.2 (cD hd.2 x.Body),aLV [(tys.tail.headD 0),(tys.tail.tail.headD 0)] hd.2 x.Body]
 len _ _:=rfl
 one _ _ v h:=by simp at h;rcases h with rfl|rfl|rfl<;>rfl
instance:DpEl Definition where
 sz:=rfl
 rd:=fun {tys hd x h K} a hK=>by
  obtain ⟨p0,r0,b0,_,l0,m0,a⟩:=a
  obtain ⟨p1,r1,b1,_,l1,m1,a⟩:=a
  exact ⟨hd.1.1,hd.1.2,rfl,nest_rd b0 b1 (zL l0 (hK)) (zL l1 (zL m0 (hK)))⟩
theorem aHQ (tys:List TypeId):fP (Dp.pcs tys (((none,0),[]):Dp.Hd Definition) (⟨[],0,[]⟩:Definition)) Hp.nil:=
 aPQ _ _ (trivial)
instance:Dp aX where
 Hd:=(Option Addr × Nat)
 sz1:=1
 enc hd x:=[i64 x.Definition,.slice hd.1 x.Values.length hd.2]
 pcs tys hd x:=[aT (tys.headD 0) Hp.nil hd.1 hd.2 x.Values]
 len _ _:=rfl
 one _ _ v h:=by simp at h;rcases h with rfl|rfl<;>rfl
instance:DpEl aX where
 sz:=rfl
 rd:=fun {tys hd x h K} a hK=>by
  obtain ⟨p0,r0,b0,_,l0,m0,a⟩:=a
  exact ⟨hd.1,hd.2,rfl,aT.rd b0 (zL l0 (hK)) (Hp.nil_le _)⟩
theorem aII (tys:List TypeId):fP (Dp.pcs tys ((none,0):Dp.Hd aX) (⟨0,[]⟩:aX)) Hp.nil:=
 ⟨Hp.nil,Hp.nil,aT.nil _ _ _,Hp.nil_dj _,Hp.nil_le _,Hp.nil_le _,trivial⟩
theorem cX:zX prog 37 9 1:=⟨runUnderlying37,sizeOf9⟩
theorem nK:SC prog 9:=⟨isAgg9,sizeOf9⟩
theorem fI:zX prog 97 2 1:=⟨runUnderlying97,sizeOf2⟩
theorem aAa:EZ prog 2 [i64 0]:=⟨⟨_,zeroValue2,rfl⟩,⟨t2,typeInfo2,by show (8:Nat)<=128;decide,rfl,by kernel_rfl,_,rfl,rfl⟩⟩
theorem qA:EZ prog 9 [str []]:=⟨⟨_,zeroValue9,rfl⟩,⟨t9,typeInfo9,by show (16:Nat)<=128;decide,rfl,by kernel_rfl,_,rfl,rfl⟩⟩
theorem iK:SC prog 2:=⟨isAgg2,sizeOf2⟩
theorem sl_52:zX prog 52 194 3:=⟨runUnderlying52,sizeOf194⟩
theorem fa_54_2:FA prog 54 2 2:=⟨_,_,_,runUnderlying54,rfl,sizeOf37,rfl,rfl⟩
theorem sc_37:SC prog 37:=⟨isAgg37,sizeOf37⟩
theorem fa_54_3:FA prog 54 3 3:=⟨_,_,_,runUnderlying54,rfl,sizeOf52,rfl,rfl⟩
theorem sc_52:SC prog 52:=⟨isAgg52,sizeOf52⟩
theorem fa_122_2:FA prog 122 2 2:=⟨_,_,_,runUnderlying122,rfl,sizeOf9,rfl,rfl⟩
theorem sl_55:zX prog 55 122 4:=⟨runUnderlying55,sizeOf122⟩
theorem ag_122:AG prog 122 4:=⟨isAgg122,sizeOf122⟩
theorem aOR:zX prog 317 333 2:=⟨runUnderlying317,sizeOf333⟩
theorem aLW:zX prog 260 317 1:=⟨runUnderlying260,sizeOf317⟩
theorem sc_317:SC prog 317:=⟨isAgg317,sizeOf317⟩
theorem fa_262_2:FA prog 262 2 2:=⟨_,_,_,runUnderlying262,rfl,sizeOf9,rfl,rfl⟩
theorem fa_262_3:FA prog 262 3 3:=⟨_,_,_,runUnderlying262,rfl,sizeOf260,rfl,rfl⟩
theorem sc_260:SC prog 260:=⟨isAgg260,sizeOf260⟩
theorem aLX:zX prog 182 262 4:=⟨runUnderlying182,sizeOf262⟩
theorem ag_262:AG prog 262 4:=⟨isAgg262,sizeOf262⟩
theorem fa_184_0:FA prog 184 0 0:=⟨_,_,_,runUnderlying184,rfl,sizeOf9,rfl,rfl⟩
theorem fa_184_2:FA prog 184 2 2:=⟨_,_,_,runUnderlying184,rfl,sizeOf182,rfl,rfl⟩
theorem sc_182:SC prog 182:=⟨isAgg182,sizeOf182⟩
theorem sl_56:zX prog 56 184 3:=⟨runUnderlying56,sizeOf184⟩
theorem ag_184:AG prog 184 3:=⟨isAgg184,sizeOf184⟩
theorem fa_186_1:FA prog 186 1 1:=⟨_,_,_,runUnderlying186,rfl,sizeOf97,rfl,rfl⟩
theorem sc_97:SC prog 97:=⟨isAgg97,sizeOf97⟩
theorem sl_57:zX prog 57 186 2:=⟨runUnderlying57,sizeOf186⟩
theorem ag_186:AG prog 186 2:=⟨isAgg186,sizeOf186⟩
theorem fa_188_0:FA prog 188 0 0:=⟨_,_,_,runUnderlying188,rfl,sizeOf9,rfl,rfl⟩
theorem fa_188_1:FA prog 188 1 1:=⟨_,_,_,runUnderlying188,rfl,sizeOf9,rfl,rfl⟩
theorem fa_188_2:FA prog 188 2 2:=⟨_,_,_,runUnderlying188,rfl,sizeOf9,rfl,rfl⟩
theorem sl_58:zX prog 58 188 3:=⟨runUnderlying58,sizeOf188⟩
theorem ag_188:AG prog 188 3:=⟨isAgg188,sizeOf188⟩
theorem fa_60_0:FA prog 60 0 0:=⟨_,_,_,runUnderlying60,rfl,sizeOf56,rfl,rfl⟩
theorem sc_56:SC prog 56:=⟨isAgg56,sizeOf56⟩
theorem fa_60_1:FA prog 60 1 1:=⟨_,_,_,runUnderlying60,rfl,sizeOf57,rfl,rfl⟩
theorem sc_57:SC prog 57:=⟨isAgg57,sizeOf57⟩
theorem fa_60_2:FA prog 60 2 2:=⟨_,_,_,runUnderlying60,rfl,sizeOf58,rfl,rfl⟩
theorem sc_58:SC prog 58:=⟨isAgg58,sizeOf58⟩
theorem fa_60_3:FA prog 60 3 3:=⟨_,_,_,runUnderlying60,rfl,sizeOf37,rfl,rfl⟩
theorem fa_60_4:FA prog 60 4 4:=⟨_,_,_,runUnderlying60,rfl,sizeOf37,rfl,rfl⟩
theorem fa_62_0:FA prog 62 0 0:=⟨_,_,_,runUnderlying62,rfl,sizeOf9,rfl,rfl⟩
theorem fa_62_2:FA prog 62 2 2:=⟨_,_,_,runUnderlying62,rfl,sizeOf54,rfl,rfl⟩
theorem ag_54:AG prog 54 4:=⟨isAgg54,sizeOf54⟩
theorem fa_62_3:FA prog 62 3 6:=⟨_,_,_,runUnderlying62,rfl,sizeOf55,rfl,rfl⟩
theorem sc_55:SC prog 55:=⟨isAgg55,sizeOf55⟩
theorem fa_62_4:FA prog 62 4 7:=⟨_,_,_,runUnderlying62,rfl,sizeOf60,rfl,rfl⟩
theorem ag_60:AG prog 60 5:=⟨isAgg60,sizeOf60⟩
theorem aLY:zX prog 22 62 12:=⟨runUnderlying22,sizeOf62⟩
theorem ag_62:AG prog 62 12:=⟨isAgg62,sizeOf62⟩
theorem fa_24_0:FA prog 24 0 0:=⟨_,_,_,runUnderlying24,rfl,sizeOf22,rfl,rfl⟩
theorem sc_22:SC prog 22:=⟨isAgg22,sizeOf22⟩
theorem aOS:FA prog 90 0 0:=⟨_,_,_,runUnderlying90,rfl,sizeOf2,rfl,rfl⟩
theorem aOT:FA prog 90 1 1:=⟨_,_,_,runUnderlying90,rfl,sizeOf2,rfl,rfl⟩
theorem aOU:FA prog 90 2 2:=⟨_,_,_,runUnderlying90,rfl,sizeOf2,rfl,rfl⟩
theorem fa_40_0:FA prog 40 0 0:=⟨_,_,_,runUnderlying40,rfl,sizeOf2,rfl,rfl⟩
theorem fa_40_1:FA prog 40 1 1:=⟨_,_,_,runUnderlying40,rfl,sizeOf2,rfl,rfl⟩
theorem fa_40_2:FA prog 40 2 2:=⟨_,_,_,runUnderlying40,rfl,sizeOf37,rfl,rfl⟩
theorem aIJ:FA prog 40 3 3:=⟨_,_,_,runUnderlying40,rfl,sizeOf38,rfl,rfl⟩
theorem sc_38:SC prog 38:=⟨isAgg38,sizeOf38⟩
theorem aBC:zX prog 38 90 3:=⟨runUnderlying38,sizeOf90⟩
theorem ag_90:AG prog 90 3:=⟨isAgg90,sizeOf90⟩
theorem aGs:FA prog 46 0 0:=⟨_,_,_,runUnderlying46,rfl,sizeOf42,rfl,rfl⟩
theorem aOj:SC prog 42:=⟨isAgg42,sizeOf42⟩
theorem qD:zX prog 42 94 3:=⟨runUnderlying42,sizeOf94⟩
theorem aCI:FA prog 46 1 1:=⟨_,_,_,runUnderlying46,rfl,sizeOf43,rfl,rfl⟩
theorem aLZ:SC prog 43:=⟨isAgg43,sizeOf43⟩
theorem xH:zX prog 43 99 2:=⟨runUnderlying43,sizeOf99⟩
theorem aOV:FA prog 46 2 2:=⟨_,_,_,runUnderlying46,rfl,sizeOf44,rfl,rfl⟩
theorem sc_44:SC prog 44:=⟨isAgg44,sizeOf44⟩
theorem vJ:zX prog 44 103 3:=⟨runUnderlying44,sizeOf103⟩
theorem aOW:FA prog 46 3 3:=⟨_,_,_,runUnderlying46,rfl,sizeOf37,rfl,rfl⟩
theorem fa_46_4:FA prog 46 4 4:=⟨_,_,_,runUnderlying46,rfl,sizeOf37,rfl,rfl⟩
theorem rX:zX prog 41 109 4:=⟨runUnderlying41,sizeOf109⟩
theorem aAb:FA prog 109 0 0:=⟨_,_,_,runUnderlying109,rfl,sizeOf2,rfl,rfl⟩
theorem aFD:FA prog 109 2 2:=⟨_,_,_,runUnderlying109,rfl,sizeOf9,rfl,rfl⟩
theorem aIK:FA prog 109 3 3:=⟨_,_,_,runUnderlying109,rfl,sizeOf4,rfl,rfl⟩
theorem sc_4:SC prog 4:=⟨isAgg4,sizeOf4⟩
theorem aMa:FA prog 109 1 1:=⟨_,_,_,runUnderlying109,rfl,sizeOf2,rfl,rfl⟩
theorem aOX:zX prog 168 5 1:=⟨runUnderlying168,sizeOf5⟩
theorem ez_5:EZ prog 5 [Value.int .u8 0]:=⟨⟨_,zeroValue5,rfl⟩,⟨t5,typeInfo5,by show (1:Nat)<=128;decide,rfl,by kernel_rfl,_,rfl,rfl⟩⟩
theorem sc_5:SC prog 5:=⟨isAgg5,sizeOf5⟩
theorem aHR:AG prog 109 4:=⟨isAgg109,sizeOf109⟩
theorem oH:FA prog 147 0 0:=⟨_,_,_,runUnderlying147,rfl,sizeOf2,rfl,rfl⟩
theorem rY:zX prog 92 147 4:=⟨runUnderlying92,sizeOf147⟩
theorem aIL:FA prog 147 1 1:=⟨_,_,_,runUnderlying147,rfl,sizeOf2,rfl,rfl⟩
theorem aIM:FA prog 147 2 2:=⟨_,_,_,runUnderlying147,rfl,sizeOf9,rfl,rfl⟩
theorem oI:FA prog 147 3 3:=⟨_,_,_,runUnderlying147,rfl,sizeOf145,rfl,rfl⟩
theorem aAB:SC prog 145:=⟨isAgg145,sizeOf145⟩
theorem mK:zX prog 145 199 1:=⟨runUnderlying145,sizeOf199⟩
theorem aOY:FA prog 94 1 1:=⟨_,_,_,runUnderlying94,rfl,sizeOf2,rfl,rfl⟩
theorem aEq:FA prog 94 2 2:=⟨_,_,_,runUnderlying94,rfl,sizeOf92,rfl,rfl⟩
theorem aDD:SC prog 92:=⟨isAgg92,sizeOf92⟩
theorem aFE:FA prog 202 0 0:=⟨_,_,_,runUnderlying202,rfl,sizeOf2,rfl,rfl⟩
theorem aBD:FA prog 202 1 1:=⟨_,_,_,runUnderlying202,rfl,sizeOf2,rfl,rfl⟩
theorem nL:zX prog 199 202 2:=⟨runUnderlying199,sizeOf202⟩
theorem xR:AG prog 147 4:=⟨isAgg147,sizeOf147⟩
theorem aHS:SC prog 199:=⟨isAgg199,sizeOf199⟩
theorem aGt:FA prog 94 0 0:=⟨_,_,_,runUnderlying94,rfl,sizeOf9,rfl,rfl⟩
theorem aKP:AG prog 99 2:=⟨isAgg99,sizeOf99⟩
theorem aOZ:FA prog 99 0 0:=⟨_,_,_,runUnderlying99,rfl,sizeOf2,rfl,rfl⟩
theorem fa_99_1:FA prog 99 1 1:=⟨_,_,_,runUnderlying99,rfl,sizeOf97,rfl,rfl⟩
theorem aKf:AG prog 103 3:=⟨isAgg103,sizeOf103⟩
theorem aMb:FA prog 103 0 0:=⟨_,_,_,runUnderlying103,rfl,sizeOf9,rfl,rfl⟩
theorem aMc:FA prog 103 1 1:=⟨_,_,_,runUnderlying103,rfl,sizeOf9,rfl,rfl⟩
theorem fa_103_2:FA prog 103 2 2:=⟨_,_,_,runUnderlying103,rfl,sizeOf9,rfl,rfl⟩
theorem aHT:AG prog 202 2:=⟨isAgg202,sizeOf202⟩
theorem mL:zX prog 267 4 1:=⟨runUnderlying267,sizeOf4⟩
theorem aLg:EZ prog 4 [zB false]:=⟨⟨_,zeroValue4,rfl⟩,⟨t4,typeInfo4,by show (1:Nat)<=128;decide,rfl,by kernel_rfl,_,rfl,rfl⟩⟩
theorem aIN:FA prog 48 0 0:=⟨_,_,_,runUnderlying48,rfl,sizeOf9,rfl,rfl⟩
theorem aLH:FA prog 48 1 1:=⟨_,_,_,runUnderlying48,rfl,sizeOf2,rfl,rfl⟩
theorem aGu:FA prog 48 2 2:=⟨_,_,_,runUnderlying48,rfl,sizeOf40,rfl,rfl⟩
theorem aEr:FA prog 48 3 6:=⟨_,_,_,runUnderlying48,rfl,sizeOf41,rfl,rfl⟩
theorem aOk:SC prog 41:=⟨isAgg41,sizeOf41⟩
theorem aEs:FA prog 48 4 7:=⟨_,_,_,runUnderlying48,rfl,sizeOf46,rfl,rfl⟩
theorem aEt:FA prog 29 0 0:=⟨_,_,_,runUnderlying29,rfl,sizeOf27,rfl,rfl⟩
theorem aMd:SC prog 27:=⟨isAgg27,sizeOf27⟩
theorem aBE:zX prog 27 48 12:=⟨runUnderlying27,sizeOf48⟩
theorem fa_194_0:FA prog 194 0 0:=⟨_,_,_,runUnderlying194,rfl,sizeOf2,rfl,rfl⟩
theorem fa_194_1:FA prog 194 1 1:=⟨_,_,_,runUnderlying194,rfl,sizeOf2,rfl,rfl⟩
theorem fa_194_2:FA prog 194 2 2:=⟨_,_,_,runUnderlying194,rfl,sizeOf2,rfl,rfl⟩
theorem ez_90:EZ prog 90 [i64 0,i64 0,i64 0]:=⟨⟨_,zeroValue90,rfl⟩,⟨t90,typeInfo90,by show (24:Nat)<=128;decide,rfl,by kernel_rfl,_,rfl,rfl⟩⟩
theorem ag_194:AG prog 194 3:=⟨isAgg194,sizeOf194⟩
theorem fa_54_0:FA prog 54 0 0:=⟨_,_,_,runUnderlying54,rfl,sizeOf2,rfl,rfl⟩
theorem fa_54_1:FA prog 54 1 1:=⟨_,_,_,runUnderlying54,rfl,sizeOf2,rfl,rfl⟩
theorem ag_40:AG prog 40 4:=⟨isAgg40,sizeOf40⟩
theorem fa_122_0:FA prog 122 0 0:=⟨_,_,_,runUnderlying122,rfl,sizeOf2,rfl,rfl⟩
theorem fa_122_1:FA prog 122 1 1:=⟨_,_,_,runUnderlying122,rfl,sizeOf2,rfl,rfl⟩
theorem fa_122_3:FA prog 122 3 3:=⟨_,_,_,runUnderlying122,rfl,sizeOf4,rfl,rfl⟩
theorem ez_109:EZ prog 109 [i64 0,i64 0,str [],zB false]:=⟨⟨_,zeroValue109,rfl⟩,⟨t109,typeInfo109,by show (40:Nat)<=128;decide,rfl,by kernel_rfl,_,rfl,rfl⟩⟩
theorem fa_333_0:FA prog 333 0 0:=⟨_,_,_,runUnderlying333,rfl,sizeOf2,rfl,rfl⟩
theorem fa_333_1:FA prog 333 1 1:=⟨_,_,_,runUnderlying333,rfl,sizeOf2,rfl,rfl⟩
theorem ez_202:EZ prog 202 [i64 0,i64 0]:=⟨⟨_,zeroValue202,rfl⟩,⟨t202,typeInfo202,by show (16:Nat)<=128;decide,rfl,by kernel_rfl,_,rfl,rfl⟩⟩
theorem ag_333:AG prog 333 2:=⟨isAgg333,sizeOf333⟩
theorem ez_199:EZ prog 199 [zS none 0 0]:=⟨⟨_,zeroValue199,rfl⟩,⟨t199,typeInfo199,by show (24:Nat)<=128;decide,rfl,by kernel_rfl,_,rfl,rfl⟩⟩
theorem fa_262_0:FA prog 262 0 0:=⟨_,_,_,runUnderlying262,rfl,sizeOf2,rfl,rfl⟩
theorem fa_262_1:FA prog 262 1 1:=⟨_,_,_,runUnderlying262,rfl,sizeOf2,rfl,rfl⟩
theorem ez_147:EZ prog 147 [i64 0,i64 0,str [],zS none 0 0]:=⟨⟨_,zeroValue147,rfl⟩,⟨t147,typeInfo147,by show (56:Nat)<=128;decide,rfl,by kernel_rfl,_,rfl,rfl⟩⟩
theorem fa_184_1:FA prog 184 1 1:=⟨_,_,_,runUnderlying184,rfl,sizeOf2,rfl,rfl⟩
theorem aIO:AG prog 94 3:=⟨isAgg94,sizeOf94⟩
theorem ez_94:EZ prog 94 [str [],i64 0,zS none 0 0]:=⟨⟨_,zeroValue94,rfl⟩,⟨t94,typeInfo94,by show (48:Nat)<=128;decide,rfl,by kernel_rfl,_,rfl,rfl⟩⟩
theorem fa_186_0:FA prog 186 0 0:=⟨_,_,_,runUnderlying186,rfl,sizeOf2,rfl,rfl⟩
theorem ez_99:EZ prog 99 [i64 0,zS none 0 0]:=⟨⟨_,zeroValue99,rfl⟩,⟨t99,typeInfo99,by show (32:Nat)<=128;decide,rfl,by kernel_rfl,_,rfl,rfl⟩⟩
theorem ez_103:EZ prog 103 [str [],str [],str []]:=⟨⟨_,zeroValue103,rfl⟩,⟨t103,typeInfo103,by show (48:Nat)<=128;decide,rfl,by kernel_rfl,_,rfl,rfl⟩⟩
theorem ag_46:AG prog 46 5:=⟨isAgg46,sizeOf46⟩
theorem fa_62_1:FA prog 62 1 1:=⟨_,_,_,runUnderlying62,rfl,sizeOf2,rfl,rfl⟩
theorem aOl:AG prog 48 12:=⟨isAgg48,sizeOf48⟩
theorem ez_48:EZB true prog 48 [str [],i64 0,i64 0,i64 0,zS none 0 0,zS none 0 0,zS none 0 0,zS none 0 0,zS none 0 0,zS none 0 0,zS none 0 0,zS none 0 0]:=⟨⟨_,zeroValue48,rfl⟩,⟨t48,typeInfo48,by show (232:Nat)<=256;decide,rfl,by kernel_rfl,_,rfl,rfl⟩⟩
theorem ag_29:AG prog 29 1:=⟨isAgg29,sizeOf29⟩
theorem sl_211:zX prog 211 3 1:=⟨runUnderlying211,sizeOf3⟩
theorem ez_3:EZ prog 3 [i64 0]:=⟨⟨_,zeroValue3,rfl⟩,⟨t3,typeInfo3,by show (8:Nat)<=128;decide,rfl,by kernel_rfl,_,rfl,rfl⟩⟩
theorem sc_3:SC prog 3:=⟨isAgg3,sizeOf3⟩
theorem bs_160:BS prog 160 [(0,4),(4,1)] [i64 0,i64 0,str [],zB false,zS none 0 0]:=⟨⟨_,zeroValue160,rfl⟩,_,runUnderlying160,fun w=>by simp [sizeOf109,sizeOf158]⟩
theorem qE:FA prog 160 1 4:=⟨_,_,_,runUnderlying160,rfl,sizeOf158,rfl,rfl⟩
theorem aDl:SC prog 158:=⟨isAgg158,sizeOf158⟩
theorem aBF:zX prog 158 112 1:=⟨runUnderlying158,sizeOf112⟩
theorem ez_112:EZ prog 112 [Value.pointer none]:=⟨⟨_,zeroValue112,rfl⟩,⟨t112,typeInfo112,by show (8:Nat)<=128;decide,rfl,by kernel_rfl,_,rfl,rfl⟩⟩
theorem aMe:FA prog 160 0 0:=⟨_,_,_,runUnderlying160,rfl,sizeOf109,rfl,rfl⟩
theorem aEu:SC prog 112:=⟨isAgg112,sizeOf112⟩
theorem sl_244:zX prog 244 248 2:=⟨runUnderlying244,sizeOf248⟩
theorem ez_248:EZ prog 248 [i64 0,zB false]:=⟨⟨_,zeroValue248,rfl⟩,⟨t248,typeInfo248,by show (16:Nat)<=128;decide,rfl,by kernel_rfl,_,rfl,rfl⟩⟩
theorem sc_282:SC prog 282:=⟨isAgg282,sizeOf282⟩
theorem bs_248:BS prog 248 [(0,1),(1,1)] [i64 0,zB false]:=⟨⟨_,zeroValue248,rfl⟩,_,runUnderlying248,fun w=>by simp [sizeOf2,sizeOf4]⟩
theorem sc_244:SC prog 244:=⟨isAgg244,sizeOf244⟩
theorem ag_248:AG prog 248 2:=⟨isAgg248,sizeOf248⟩
theorem aQb:FA prog 248 0 0:=⟨_,_,_,runUnderlying248,rfl,sizeOf2,rfl,rfl⟩
theorem fa_248_1:FA prog 248 1 1:=⟨_,_,_,runUnderlying248,rfl,sizeOf4,rfl,rfl⟩
theorem bs_292:BS prog 292 [(0,2),(2,1)] [i64 0,i64 0,zS none 0 0]:=⟨⟨_,zeroValue292,rfl⟩,_,runUnderlying292,fun w=>by simp [sizeOf202,sizeOf290]⟩
theorem aBG:FA prog 292 1 2:=⟨_,_,_,runUnderlying292,rfl,sizeOf290,rfl,rfl⟩
theorem aKg:SC prog 290:=⟨isAgg290,sizeOf290⟩
theorem aHU:zX prog 290 256 1:=⟨runUnderlying290,sizeOf256⟩
theorem ez_256:EZ prog 256 [Value.pointer none]:=⟨⟨_,zeroValue256,rfl⟩,⟨t256,typeInfo256,by show (8:Nat)<=128;decide,rfl,by kernel_rfl,_,rfl,rfl⟩⟩
theorem aDE:FA prog 292 0 0:=⟨_,_,_,runUnderlying292,rfl,sizeOf202,rfl,rfl⟩
theorem ar_314:ART prog 314 2 9:=⟨runUnderlying314,isAgg2,sizeOf2⟩
theorem aMf:SC prog 256:=⟨isAgg256,sizeOf256⟩
theorem ar_294:ART prog 294 9 9:=⟨runUnderlying294,isAgg9,sizeOf9⟩
theorem vK:FA prog 226 1 1:=⟨_,_,_,runUnderlying226,rfl,sizeOf92,rfl,rfl⟩
theorem bs_226:BS prog 226 [(0,1),(1,1)] [zS none 0 0,zS none 0 0]:=⟨⟨_,zeroValue226,rfl⟩,_,runUnderlying226,fun w=>by simp [sizeOf42,sizeOf92]⟩
theorem aQc:FA prog 226 0 0:=⟨_,_,_,runUnderlying226,rfl,sizeOf42,rfl,rfl⟩
theorem bs_40:BS prog 40 [(0,1),(1,1),(2,1),(3,1)] [i64 0,i64 0,zS none 0 0,zS none 0 0]:=⟨⟨_,zeroValue40,rfl⟩,_,runUnderlying40,fun w=>by simp [sizeOf2,sizeOf37,sizeOf38]⟩
theorem bs_46:BS prog 46 [(0,1),(1,1),(2,1),(3,1),(4,1)] [zS none 0 0,zS none 0 0,zS none 0 0,zS none 0 0,zS none 0 0]:=⟨⟨_,zeroValue46,rfl⟩,_,runUnderlying46,fun w=>by simp [sizeOf37,sizeOf42,sizeOf43,sizeOf44]⟩
theorem ag_24:AG prog 24 1:=⟨isAgg24,sizeOf24⟩
theorem st_90:prog.stoodInHeld 90=false:=by kernel_rfl
theorem st_103:prog.stoodInHeld 103=false:=by kernel_rfl
theorem st_202:prog.stoodInHeld 202=false:=by kernel_rfl
theorem tab_1 {G:kE} {K:Hp} {L:List eT} {w:World} (hs:aG G K L w):∃ E fr,w.heap[1]?=some (.cells ((aHP).map (fun s=>str s)).toArray E fr):=(G.laid w hs.globs).2.2.2.2.1
theorem tab_3 {G:kE} {K:Hp} {L:List eT} {w:World} (hs:aG G K L w):∃ E fr,w.heap[3]?=some (.cells ((aKe).map (fun n=>i64 n)).toArray E fr):=(G.laid w hs.globs).2.2.2.2.2
theorem eq_90 {x y:Edge}:EQT prog 90 [i64 x.F,i64 x.B,i64 x.To] [i64 y.F,i64 y.B,i64 y.To] (decide (x=y)):=by
 refine ⟨by kernel_rfl,fun w=>?_⟩
 have h2:∀ (a b:Int),(Op.equalIn 9999 2 (i64 a) (i64 b)).run prog w=.ok (a == b) w:=fun a b=>aOc 9998 (runUnderlying2 w)
 have:Op.maxDepth=9999+1:=rfl
 unfold Op.equal
 rw [this]
 unfold Op.equalIn
 simp [runUnderlying90,st_90,part,h2,isAgg2]
 cases x;cases y
 simp
 repeat' split<;>simp_all
theorem eq_103 {x y:bB}:EQT prog 103 [str x.Left,str x.Right,str x.Result] [str y.Left,str y.Right,str y.Result] (decide (x=y)):=by
 refine ⟨by kernel_rfl,fun w=>?_⟩
 have h9:∀ (a b:aN),(Op.equalIn 9999 9 (str a) (str b)).run prog w=.ok (a == b) w:=fun a b=>run_eqInS 9998 (runUnderlying9 w)
 have:Op.maxDepth=9999+1:=rfl
 unfold Op.equal
 rw [this]
 unfold Op.equalIn
 simp [runUnderlying103,st_103,part,h9,isAgg9]
 cases x;cases y
 simp
 repeat' split<;>simp_all
theorem eq_202 {x y:aR}:EQT prog 202 [i64 x.Kind,i64 x.Value] [i64 y.Kind,i64 y.Value] (decide (x=y)):=by
 refine ⟨by kernel_rfl,fun w=>?_⟩
 have h2:∀ (a b:Int),(Op.equalIn 9999 2 (i64 a) (i64 b)).run prog w=.ok (a == b) w:=fun a b=>aOc 9998 (runUnderlying2 w)
 have:Op.maxDepth=9999+1:=rfl
 unfold Op.equal
 rw [this]
 unfold Op.equalIn
 simp [runUnderlying202,st_202,part,h2,isAgg2]
 cases x;cases y
 simp
 repeat' split<;>simp_all
theorem Tryz_mixed:prog.follows .mixedOrders=true:=by kernel_rfl
abbrev zC (d:hJ) (a:Option Addr) (c:Nat) (b:Option Addr) (e:Nat):List Value:=[i64 d.N,i64 d.I,Value.slice a d.L.length c,Value.slice b d.E.length e]
abbrev zCa (d:hJ) (a:Option Addr) (c:Nat) (b:Option Addr) (e:Nat):Array Value:=#[i64 d.N,i64 d.I,Value.slice a d.L.length c,Value.slice b d.E.length e]
abbrev zG:List Value:=[i64 0,i64 0,Value.slice none 0 0,Value.slice none 0 0]
abbrev zGa:Array Value:=#[i64 0,i64 0,Value.slice none 0 0,Value.slice none 0 0]
abbrev zK:List Value:=[i64 0,i64 0,Value.slice none 0 0,Value.slice none 0 0,Value.slice none 0 0,Value.slice none 0 0]
abbrev zKa:Array Value:=#[i64 0,i64 0,Value.slice none 0 0,Value.slice none 0 0,Value.slice none 0 0,Value.slice none 0 0]
end Gv
namespace Gv
open Go.Value renaming slice→zS
open Gv.Hp renaming le_refl→zR
open Go Go.Proofs Go.Proofs.Tryz
theorem lF {p:Prop} (h:p:=by first|assumption|(apply st_cK;assumption;exact jN)):p:=h
theorem st_HR {p:Prop} (h:p:=by first|assumption|(apply st_rK;assumption;exact jN)):p:=h
theorem st_S {p:Prop} (h:p:=by with_reducible first|exact cX|exact fI|exact sl_52|exact sl_55|exact aOR|exact aLW|exact aLX|exact sl_56|exact sl_57|exact sl_58|exact aLY|exact aBC|exact qD|exact xH|exact vJ|exact rX|exact aOX|exact rY|exact mK|exact nL|exact mL|exact aBE|exact sl_211|exact aBF|exact sl_244|exact aHU):p:=h
theorem uE {p:Prop} (h:p:=by with_reducible first|exact nK|exact iK|exact sc_37|exact sc_52|exact sc_317|exact sc_260|exact sc_182|exact sc_97|exact sc_56|exact sc_57|exact sc_58|exact sc_55|exact sc_22|exact sc_38|exact aOj|exact aLZ|exact sc_44|exact sc_4|exact sc_5|exact aAB|exact aDD|exact aHS|exact aOk|exact aMd|exact sc_3|exact aDl|exact aEu|exact sc_282|exact sc_244|exact aKg|exact aMf):p:=h
theorem aDm {p:Prop} (h:p:=by with_reducible first|exact ag_122|exact ag_262|exact ag_184|exact ag_186|exact ag_188|exact ag_54|exact ag_60|exact ag_62|exact ag_90|exact aHR|exact xR|exact aKP|exact aKf|exact aHT|exact ag_194|exact ag_40|exact ag_333|exact aIO|exact ag_46|exact aOl|exact ag_29|exact ag_248|exact ag_24):p:=h
theorem st_F {p:Prop} (h:p:=by with_reducible first|exact fa_54_2|exact fa_54_3|exact fa_122_2|exact fa_262_2|exact fa_262_3|exact fa_184_0|exact fa_184_2|exact fa_186_1|exact fa_188_0|exact fa_188_1|exact fa_188_2|exact fa_60_0|exact fa_60_1|exact fa_60_2|exact fa_60_3|exact fa_60_4|exact fa_62_0|exact fa_62_2|exact fa_62_3|exact fa_62_4|exact fa_24_0|exact aOS|exact aOT|exact aOU|exact fa_40_0|exact fa_40_1|exact fa_40_2|exact aIJ|exact aGs|exact aCI|exact aOV|exact aOW|exact fa_46_4|exact aAb|exact aFD|exact aIK|exact aMa|exact oH|exact aIL|exact aIM|exact oI|exact aOY|exact aEq|exact aFE|exact aBD|exact aGt|exact aOZ|exact fa_99_1|exact aMb|exact aMc|exact fa_103_2|exact aIN|exact aLH|exact aGu|exact aEr|exact aEs|exact aEt|exact fa_194_0|exact fa_194_1|exact fa_194_2|exact fa_54_0|exact fa_54_1|exact fa_122_0|exact fa_122_1|exact fa_122_3|exact fa_333_0|exact fa_333_1|exact fa_262_0|exact fa_262_1|exact fa_184_1|exact fa_186_0|exact fa_62_1|exact qE|exact aMe|exact aQb|exact fa_248_1|exact aBG|exact aDE|exact vK|exact aQc):p:=h
theorem za_29:ZA prog 29 [zS none 0 0]:=⟨_,zeroValue29,rfl⟩
theorem za_40:ZA prog 40 [i64 0,i64 0,zS none 0 0,zS none 0 0]:=⟨_,zeroValue40,rfl⟩
theorem za_46:ZA prog 46 [zS none 0 0,zS none 0 0,zS none 0 0,zS none 0 0,zS none 0 0]:=⟨_,zeroValue46,rfl⟩
theorem za_48:ZA prog 48 [str ([]:aN),i64 0,i64 0,i64 0,zS none 0 0,zS none 0 0,zS none 0 0,zS none 0 0,zS none 0 0,zS none 0 0,zS none 0 0,zS none 0 0]:=⟨_,zeroValue48,rfl⟩
theorem za_90:ZA prog 90 [i64 0,i64 0,i64 0]:=⟨_,zeroValue90,rfl⟩
theorem za_94:ZA prog 94 [str ([]:aN),i64 0,zS none 0 0]:=⟨_,zeroValue94,rfl⟩
theorem za_99:ZA prog 99 [i64 0,zS none 0 0]:=⟨_,zeroValue99,rfl⟩
theorem za_103:ZA prog 103 [str ([]:aN),str ([]:aN),str ([]:aN)]:=⟨_,zeroValue103,rfl⟩
theorem za_109:ZA prog 109 [i64 0,i64 0,str ([]:aN),Value.bool false]:=⟨_,zeroValue109,rfl⟩
theorem za_147:ZA prog 147 [i64 0,i64 0,str ([]:aN),zS none 0 0]:=⟨_,zeroValue147,rfl⟩
theorem za_202:ZA prog 202 [i64 0,i64 0]:=⟨_,zeroValue202,rfl⟩
theorem za_244:ZA prog 244 [zS none 0 0]:=⟨_,zeroValue244,rfl⟩
theorem za_248:ZA prog 248 [i64 0,Value.bool false]:=⟨_,zeroValue248,rfl⟩
theorem za_282:ZA prog 282 [Value.nilFunc]:=⟨_,zeroValue282,rfl⟩
theorem st_r {p:Prop} (h:p:=by with_reducible first|exact runUnderlying2|exact runUnderlying4|exact runUnderlying5|exact runUnderlying9):p:=h
theorem st_h {p:Prop} (h:p:=by with_reducible first|exact bs_160|exact bs_248|exact bs_292|exact bs_226|exact bs_40|exact bs_46):p:=h
theorem st_e {p:Prop} (h:p:=by with_reducible first|exact aAa|exact qA|exact ez_5|exact aLg|exact ez_90|exact ez_109|exact ez_202|exact ez_199|exact ez_147|exact ez_94|exact ez_99|exact ez_103|exact ez_48|exact ez_3|exact ez_112|exact ez_248|exact ez_256):p:=h
theorem st_u {p:Prop} (h:p:=by with_reducible first|exact underlying158|exact underlying168|exact underlying267|exact underlying290|exact underlying37|exact underlying5|exact underlying9|exact underlying97):p:=h
theorem st_z {p:Prop} (h:p:=by with_reducible first|exact sizeOf103|exact sizeOf109|exact sizeOf145|exact sizeOf147|exact sizeOf158|exact sizeOf199|exact sizeOf2|exact sizeOf202|exact sizeOf244|exact sizeOf248|exact sizeOf27|exact sizeOf282|exact sizeOf29|exact sizeOf290|exact sizeOf37|exact sizeOf38|exact sizeOf4|exact sizeOf40|exact sizeOf41|exact sizeOf42|exact sizeOf43|exact sizeOf44|exact sizeOf46|exact sizeOf48|exact sizeOf9|exact sizeOf90|exact sizeOf92|exact sizeOf94|exact sizeOf97|exact sizeOf99):p:=h
theorem st_y {p:Prop} (h:p:=by with_reducible first|exact za_29|exact za_40|exact za_46|exact za_48|exact za_90|exact za_94|exact za_99|exact za_103|exact za_109|exact za_147|exact za_202|exact za_244|exact za_248|exact za_282):p:=h
theorem st_V {p:Prop} (h:p:=by first|exact V_moveC|exact V_assignC|(apply V_B;first|(apply V_add;exact cA;exact cA)|(apply V_sub;exact cA;exact cA)|(apply V_mul;exact cA;exact cA)|(apply V_lss;exact cA;exact cA)|(apply V_leq;exact cA;exact cA)|(apply V_gtr;exact cA;exact cA)|(apply V_geq;exact cA;exact cA)|(apply V_eql;exact cA;exact cA)|(apply V_neq;exact cA;exact cA)|(apply V_eqlS;exact cA;exact cA)|(apply V_neqS;exact cA;exact cA)|(apply V_lssS;exact cA;exact cA)|(apply V_leqS;exact cA;exact cA)|(apply V_gtrS;exact cA;exact cA)|(apply V_geqS;exact cA;exact cA))|exact V_moveF|exact V_assignF|(apply V_move;exact cA)|(apply V_assign;exact cA)|(apply V_fldP;exact cA;exact st_F)|(apply V_fldE;exact cA;exact lF;exact st_F)|(apply V_fldO;exact cA;exact eP;exact aHO;exact eP;exact st_F)|(apply V_L;first|(apply V_ldB;exact cA;exact eP;exact aHO;exact rfl;exact uE)|(apply V_ldBG;exact cA;exact eP;exact aHO;exact aDm;exact st_D)|(apply aKL (t:=0);exact cA;exact lF;exact eP;exact rfl;exact uE)|(apply aKL (t:=1);exact cA;exact lF;exact eP;exact rfl;exact uE)|(apply aKL (t:=2);exact cA;exact lF;exact eP;exact rfl;exact uE)|(apply aKL (t:=3);exact cA;exact lF;exact eP;exact rfl;exact uE)|(apply aKL (t:=4);exact cA;exact lF;exact eP;exact rfl;exact uE)|(apply aKL (t:=5);exact cA;exact lF;exact eP;exact rfl;exact uE)|(apply aKL (t:=6);exact cA;exact lF;exact eP;exact rfl;exact uE)|(apply aKL (t:=7);exact cA;exact lF;exact eP;exact rfl;exact uE)|(apply aFC (t:=0);exact cA;exact lF;exact eP;exact aDm;exact rfl;exact rfl)|(apply aFC (t:=1);exact cA;exact lF;exact eP;exact aDm;exact rfl;exact rfl)|(apply aFC (t:=2);exact cA;exact lF;exact eP;exact aDm;exact rfl;exact rfl)|(apply aFC (t:=3);exact cA;exact lF;exact eP;exact aDm;exact rfl;exact rfl)|(apply aFC (t:=4);exact cA;exact lF;exact eP;exact aDm;exact rfl;exact rfl)|(apply aFC (t:=5);exact cA;exact lF;exact eP;exact aDm;exact rfl;exact rfl)|(apply aFC (t:=6);exact cA;exact lF;exact eP;exact aDm;exact rfl;exact rfl)|(apply aFC (t:=7);exact cA;exact lF;exact eP;exact aDm;exact rfl;exact rfl)|(apply V_ldO (t:=0);exact cA;exact eP;exact aHO;exact eP;exact rfl;exact rfl;exact uE)|(apply V_ldO (t:=1);exact cA;exact eP;exact aHO;exact eP;exact rfl;exact rfl;exact uE)|(apply V_ldO (t:=2);exact cA;exact eP;exact aHO;exact eP;exact rfl;exact rfl;exact uE)|(apply V_ldO (t:=3);exact cA;exact eP;exact aHO;exact eP;exact rfl;exact rfl;exact uE)|(apply V_ldO (t:=4);exact cA;exact eP;exact aHO;exact eP;exact rfl;exact rfl;exact uE)|(apply V_ldOG (t:=0);exact cA;exact eP;exact aHO;exact eP;exact rfl;exact aDm;exact rfl;exact rfl)|(apply V_ldOG (t:=1);exact cA;exact eP;exact aHO;exact eP;exact rfl;exact aDm;exact rfl;exact rfl)|(apply V_ldOG (t:=2);exact cA;exact eP;exact aHO;exact eP;exact rfl;exact aDm;exact rfl;exact rfl)|(apply aKN (t:=0);exact cA;exact eP;exact eP;exact jN;exact rfl;exact uE)|(apply aKN (t:=1);exact cA;exact eP;exact eP;exact jN;exact rfl;exact uE)|(apply aKN (t:=2);exact cA;exact eP;exact eP;exact jN;exact rfl;exact uE)|(apply aKN (t:=3);exact cA;exact eP;exact eP;exact jN;exact rfl;exact uE)|(apply aKN (t:=4);exact cA;exact eP;exact eP;exact jN;exact rfl;exact uE)|(apply aKN (t:=5);exact cA;exact eP;exact eP;exact jN;exact rfl;exact uE)|(apply aKN (t:=6);exact cA;exact eP;exact eP;exact jN;exact rfl;exact uE)|(apply aKN (t:=7);exact cA;exact eP;exact eP;exact jN;exact rfl;exact uE)|(apply aOP (t:=0);exact cA;exact eP;exact eP;exact jN;exact aDm;exact rfl;exact rfl)|(apply aOP (t:=1);exact cA;exact eP;exact eP;exact jN;exact aDm;exact rfl;exact rfl)|(apply aOP (t:=2);exact cA;exact eP;exact eP;exact jN;exact aDm;exact rfl;exact rfl)|(apply aOP (t:=3);exact cA;exact eP;exact eP;exact jN;exact aDm;exact rfl;exact rfl)|(apply aKM (t:=0);exact eP;exact lF;exact cA;exact rfl;exact uE)|(apply aKM (t:=1);exact eP;exact lF;exact cA;exact rfl;exact uE)|(apply aKM (t:=2);exact eP;exact lF;exact cA;exact rfl;exact uE)|(apply aKM (t:=3);exact eP;exact lF;exact cA;exact rfl;exact uE)|(apply aKM (t:=4);exact eP;exact lF;exact cA;exact rfl;exact uE)|(apply aKM (t:=5);exact eP;exact lF;exact cA;exact rfl;exact uE)|(apply aKM (t:=6);exact eP;exact lF;exact cA;exact rfl;exact uE)|(apply aKM (t:=7);exact eP;exact lF;exact cA;exact rfl;exact uE)|(apply aOO (t:=0);exact eP;exact lF;exact cA;exact aDm;exact rfl;exact rfl)|(apply aOO (t:=1);exact eP;exact lF;exact cA;exact aDm;exact rfl;exact rfl)|(apply aOO (t:=2);exact eP;exact lF;exact cA;exact aDm;exact rfl;exact rfl)|(apply aOO (t:=3);exact eP;exact lF;exact cA;exact aDm;exact rfl;exact rfl))|(apply V_lenS;exact st_S;exact cA)|(apply V_nilE;exact cA;exact lF)|(apply V_nilP;exact cA)|(apply V_nilO;exact cA;exact eP;exact aHO;exact eP)|(apply V_ixE;exact cA;exact cA;exact st_HR;exact eP;exact rfl;exact st_S;exact rfl)|(apply V_ixO;exact cA;exact cA;exact eP;exact aHO;exact eP;exact rfl;exact st_S;exact rfl)|(apply V_extract;exact cA;exact rfl)|(apply V_pickT;exact cA;exact aLf;exact cA)|(apply V_pickF;exact cA;exact aLf;exact cA)|(apply V_not;exact cA)|(apply V_lenStr;exact st_r;exact cA)|(apply V_ixS;exact st_r;exact cA;exact cA;exact eP)|(apply V_conv64;exact st_r;exact cA;exact ⟨_,st_r⟩)|(apply V_convu8';exact st_r;exact cA;exact ⟨_,st_r⟩)|(apply V_u8sub';exact cA;exact cA)|(apply V_neg;exact cA)|(apply V_quo;exact cA;exact cA;exact eP)|(apply V_rem;exact cA;exact cA;exact eP)|(apply V_cat;exact cA;exact cA;exact eP)|(apply V_neqB;exact st_r;exact cA;exact cA)|(apply V_slSLH;exact st_r;exact cA;exact cA;exact cA;exact eP)|(apply V_slSL;exact st_r;exact cA;exact cA;exact eP)|(apply V_slSH;exact st_r;exact cA;exact cA;exact eP)|(apply V_build;exact st_h;exact rfl;exact (by kernel_rfl))|(apply aQZ;exact rfl)):p:=h
theorem st_call {p:Prop} (h:p:=by with_reducible first|exact call4|exact call5|exact call6|exact call7|exact call8|exact call9|exact call10|exact call11|exact call12|exact call13|exact call14|exact call15|exact call16|exact call17|exact call18|exact call19|exact call20|exact call21|exact call22|exact call23|exact call24|exact call25|exact call26|exact call27|exact call28|exact call29|exact call30|exact call31|exact call32|exact call33|exact call34|exact call35|exact call36|exact call37|exact call38|exact call39|exact call40|exact call41|exact call42|exact call43|exact call44|exact call45|exact call46|exact call47|exact call48|exact call49|exact call50|exact call51|exact call52|exact call53|exact call54|exact call55|exact call56|exact call57|exact call58|exact call59|exact call60|exact call61|exact call62|exact call63|exact call64|exact call65|exact call66|exact call67|exact call68|exact call69|exact call70|exact call71|exact call72|exact call73|exact call74|exact call75|exact call76|exact call77|exact call78|exact call79|exact call80|exact call81|exact call82|exact call83|exact call84|exact call85|exact call86|exact call87|exact call88|exact call89|exact call90|exact call91|exact call92|exact call93|exact call94|exact call95|exact call96|exact call97|exact call98|exact call99|exact call100|exact call101|exact call102|exact call103|exact call104|exact call105|exact call106|exact call107|exact call108|exact call109|exact call110|exact call111|exact call112|exact call116|exact call117|exact call118|exact call119|exact call120|exact call121|exact call122|exact call123|exact call124|exact call125|exact call126|exact call127|exact call128|exact call129|exact call130|exact call131|exact call132|exact call133|exact call134|exact call135|exact call136|exact call137|exact call138|exact call139|exact call140|exact call141|exact call142|exact call143|exact call144|exact call145|exact call146|exact call147|exact call148|exact call149|exact call150|exact call151|exact call153|exact call154|exact call155|exact call156|exact call157|exact call158|exact call159|exact call160|exact call163|exact call164|exact call165|exact call166|exact call167|exact call168|exact call169|exact call170|exact call171|exact call172|exact call173|exact call174|exact call175|exact call176|exact call177|exact call179|exact call181|exact call182|exact call184|exact call185|exact call186|exact call187|exact call188|exact call189|exact call190|exact call191|exact call192|exact call193|exact call194|exact call195|exact call198|exact call199|exact call200|exact call201|exact call202|exact call203|exact call204|exact call205|exact call206|exact call207|exact call208|exact call209|exact call210|exact call211|exact call212|exact call219|exact call224|exact call225|exact call226|exact call227|exact call228|exact call229|exact call230|exact call231|exact call232|exact call233|exact call234|exact call235|exact call236|exact call237|exact call238|exact call239|exact call240|exact call241|exact call242|exact call243|exact call244|exact call245|exact call261|exact call262|exact call263|exact call264|exact call265|exact call266|exact call267|exact call268|exact call269|exact call270|exact call282|exact call283|exact call289):p:=h
theorem st_f {p:Prop} (h:p:=by with_reducible first|exact func3|exact func4|exact func5|exact func6|exact func7|exact func8|exact func9|exact func10|exact func11|exact func12|exact func13|exact func14|exact func15|exact func16|exact func17|exact func18|exact func19|exact func20|exact func21|exact func22|exact func23|exact func24|exact func25|exact func26|exact func27|exact func28|exact func29|exact func30|exact func31|exact func32|exact func33|exact func34|exact func35|exact func36|exact func37|exact func38|exact func39|exact func40|exact func41|exact func42|exact func43|exact func44|exact func45|exact func46|exact func47|exact func48|exact func49|exact func50|exact func51|exact func52|exact func53|exact func54|exact func55|exact func56|exact func57|exact func58|exact func59|exact func61|exact func62|exact func63|exact func64|exact func65|exact func66|exact func67|exact func68|exact func69|exact func70|exact func71|exact func72|exact func73|exact func74|exact func75|exact func76|exact func77|exact func78|exact func79|exact func80|exact func81|exact func82|exact func83|exact func84|exact func85|exact func86|exact func87|exact func88|exact func89|exact func90|exact func91|exact func92|exact func93|exact func94|exact func95|exact func96|exact func97|exact func98|exact func99|exact func100|exact func101|exact func102|exact func103|exact func104|exact func105|exact func107|exact func108|exact func109|exact func110|exact func111|exact func112|exact func116|exact func117|exact func118|exact func119|exact func120|exact func121|exact func122|exact func123|exact func124|exact func125|exact func126|exact func127|exact func128|exact func129|exact func130|exact func131|exact func132|exact func133|exact func134|exact func135|exact func136|exact func137|exact func138|exact func139|exact func140|exact func141|exact func142|exact func144|exact func146|exact func147|exact func148|exact func149|exact func150|exact func151|exact func153|exact func154|exact func155|exact func156|exact func157|exact func158|exact func159|exact func160|exact func163|exact func164|exact func165|exact func166|exact func167|exact func168|exact func169|exact func170|exact func171|exact func172|exact func173|exact func174|exact func175|exact func176|exact func177|exact func181|exact func182|exact func184|exact func185|exact func186|exact func187|exact func188|exact func189|exact func190|exact func191|exact func192|exact func193|exact func194|exact func195|exact func198|exact func199|exact func200|exact func201|exact func202|exact func203|exact func204|exact func205|exact func206|exact func207|exact func208|exact func209|exact func210|exact func211|exact func212|exact func219|exact func224|exact func225|exact func226|exact func227|exact func228|exact func229|exact func230|exact func231|exact func232|exact func233|exact func234|exact func235|exact func236|exact func237|exact func238|exact func239|exact func240|exact func241|exact func242|exact func243|exact func244|exact func245|exact func261|exact func262|exact func263|exact func264|exact func265|exact func266|exact func267|exact func268|exact func269|exact func270|exact func282|exact func283|exact func289):p:=h
theorem aOm {p:Prop} (h:p:=by first|((with_reducible apply rv_tmp);exact rfl;exact rfl)|((with_reducible apply V_rvG);exact cA;exact eP;exact aHO;exact aDm;exact rfl;exact rfl)|((with_reducible apply V_rvB);exact cA;exact eP;exact aHO;exact uE;exact rfl)):p:=h
theorem st_X {p:Prop} (h:p:=by
 (repeat (first
  |exact gH
  |(with_reducible apply Exists.intro)
  |((with_reducible apply And.intro);· first|exact gH|(with_reducible assumption)|exact (Option.some.inj (by with_reducible assumption)).symm|exact rfl|assumption|exact zR _|exact jN|exact kF _|(apply st_rK;assumption;exact jN)|(apply st_cK;assumption;exact jN)|exact uC (by assumption))
  |(with_reducible assumption)|exact st_c|exact rfl|assumption));first|done|fail):p:=h
theorem aBH {p q:Prop} (k:q) (h:Hd q->p:=by
 intro hk
 (first|apply st_ca|apply st_cb|apply st_cq);exact st_call;(first|(with_reducible intro z z)|skip);(first|((with_reducible first|apply tK|apply aCs|apply aAM|apply aJI|apply aAv|apply aJJ|apply xM|apply lD|apply fO|apply aIj|apply aKs|apply uX|apply aIk|apply aEO|apply aAw|apply kM|apply fJ|apply aJK|apply aId|apply aNB|apply aMn|apply aDv|apply aLi|apply aHw|apply aMo|apply aAJ|apply rC|apply oO|apply aKh|apply aFZ|apply rR|apply rD|apply aCD|apply aKi|apply aMp|apply aKj|apply aMq|apply aPb|apply aNC|apply aMr|apply aMs|apply aLj|apply aND|apply aMt|apply aGY|apply aGa|apply aLk|apply aIe|apply aGZ|apply aKk|apply aJy|apply aLl|apply aNE|apply aMu|apply aHx|apply aLm|apply aFl|apply sB|apply aGk|apply iD|apply fQ|apply aFt|apply gM|apply xJ|apply uJ|apply aAr|apply lI|apply eW|apply fB|apply aDd|apply aIg|apply aPd|apply aLw|apply aAs|apply aMG|apply wZ|apply rS|apply mC|apply aKq|apply aHE|apply uY|apply aGb|apply aJz|apply aKl|apply aGc|apply aFm|apply aDX|apply aKm|apply aLn|apply aLo|apply aGd|apply aJA|apply aCo|apply aAF|apply aDa|apply aFn|apply aLp|apply aNF|apply aKn|apply aGl|apply aHa|apply aHb|apply aJH|apply aNI|apply aHc|apply aKr|apply oP|apply uK|apply jQ|apply aIi|apply xA|apply iH|apply aHe|apply rZ|apply xB|apply aCr|apply aFu|apply aJF|apply aDY|apply aDZ|apply aHz|apply aMD|apply aJG|apply aHA|apply aGi|apply aHB|apply aGj|apply aLu|apply aHC|apply aME|apply aAK|apply aAq|apply aLv|apply aCq|apply aAL|apply aEa|apply aDc|apply aFs|apply aHD|apply aMF|apply zQ|apply oB|apply aKp|apply aMx|apply aMy|apply aMz|apply aGf|apply aIf|apply aJC|apply aLr|apply aLs|apply aJD|apply aFq|apply aHy|apply aJB|apply gL|apply zO|apply aMv|apply aDb|apply aAG|apply aKo|apply aFo|apply aGe|apply aNG|apply aFp|apply aMw|apply aLq|apply aPc|apply aEb|apply aEc|apply aKt|apply aNJ|apply aMI|apply aPe|apply aNK|apply aMJ|apply aNL|apply aMK|apply aLy|apply aNM|apply aML|apply aHg|apply aGn|apply aLz|apply aIn|apply aHh|apply aKu|apply aJM|apply aLA|apply aNN|apply aMM|apply aGg|apply aNH|apply aCp|apply aMA|apply aMB|apply aMC|apply aLt|apply aFr|apply aGh|apply aJE|apply uW|apply iO|apply aIc|apply aGX|apply tJ|apply aCn|apply rB|apply aMH|apply xN|apply jL|apply fE|apply aIl|apply aIm|apply aGm|apply pY|apply zU|apply aFv|apply aHf|apply aJL);with_reducible assumption)|(with_reducible apply pX;with_reducible assumption)|(with_reducible apply aAt;with_reducible assumption)|(with_reducible apply aAu;with_reducible assumption)|(with_reducible apply aIh;with_reducible assumption)|(with_reducible apply bM;with_reducible assumption)|(with_reducible apply xK;with_reducible assumption)|(with_reducible apply xL;with_reducible assumption)|(with_reducible apply aHd;with_reducible assumption)|(with_reducible apply jA;with_reducible assumption)|(with_reducible apply eX;with_reducible assumption)|(with_reducible apply nG;with_reducible assumption)|(with_reducible apply nH;with_reducible assumption)|(with_reducible apply aDe;with_reducible assumption)|(with_reducible apply aDf;with_reducible assumption)|(with_reducible apply aLx;with_reducible assumption)|(with_reducible apply mH;with_reducible assumption)|(with_reducible apply aCt;with_reducible assumption)|(with_reducible apply aCu;with_reducible assumption)|(with_reducible apply yK;with_reducible assumption)|(with_reducible apply jR;with_reducible assumption)|(with_reducible apply tL;with_reducible assumption)|(with_reducible apply tM;with_reducible assumption)|(with_reducible apply aEP;with_reducible assumption)|(with_reducible apply jS;with_reducible assumption)|(with_reducible apply tN;with_reducible assumption)|(with_reducible apply tO;with_reducible assumption)|(with_reducible apply aEQ;with_reducible assumption)|(with_reducible apply lib_Cut;all_goals (try with_reducible assumption))|(with_reducible apply lib_Split;all_goals (try with_reducible assumption))|(with_reducible apply aMm;all_goals (try with_reducible assumption))|(with_reducible apply uV;all_goals (try with_reducible assumption))|(with_reducible apply aLh;all_goals (try with_reducible assumption)));(case hv=>exact rfl);(repeat (first|assumption|exact st_c|(apply st_rK;assumption;exact jN)|(apply st_cK;assumption;exact jN)|exact kF _|exact jN|exact zR _|exact rfl|exact uC (by assumption)));exact hk.k;first|done|fail):p:=h ⟨k⟩
set_option maxRecDepth 100000 in
theorem aE {p:Prop} (h:p:=by
 repeat' (first
  |(apply st_i;exact cA;exact cA;exact eP;exact eP;exact rfl;exact st_S;exact rfl;intro z z zr;first|(have zr:=st_pd zr;subst zr)|obtain ⟨z,z,rfl,z⟩:=zr|obtain ⟨z,z,z,z,rfl,z,z⟩:=zr|obtain ⟨z,z,z,z,z,z,rfl,z,z,z⟩:=zr|obtain ⟨z,z,z,z,z,z,z,z,rfl,z,z,z,z⟩:=zr)
  |(apply st_iQ;exact cA;exact cA;exact eP;exact eP;exact rfl;exact st_S;exact rfl;intro z z zr;first|(have zr:=st_pd zr;subst zr)|obtain ⟨z,z,rfl,z⟩:=zr|obtain ⟨z,z,z,z,rfl,z,z⟩:=zr|obtain ⟨z,z,z,z,z,z,rfl,z,z,z⟩:=zr|obtain ⟨z,z,z,z,z,z,z,z,rfl,z,z,z,z⟩:=zr)
  |(apply st_iE;exact rfl;exact cA;exact cA;exact eP;exact eP;exact rfl;exact st_S;exact rfl;intro z z zr;first|(have zr:=st_pd zr;subst zr)|obtain ⟨z,z,rfl,z⟩:=zr|obtain ⟨z,z,z,z,rfl,z,z⟩:=zr|obtain ⟨z,z,z,z,z,z,rfl,z,z,z⟩:=zr|obtain ⟨z,z,z,z,z,z,z,z,rfl,z,z,z,z⟩:=zr)
  |(apply VO;exact st_V)
  |(apply VQ;intro _ _;exact st_V)
  |(apply bY)
  |with_reducible apply aF
  |with_reducible apply eV
  |(apply aI)
  |(apply bQ)
  |(apply aU)
  |(apply W_exit)
  |(apply V_condT;exact cA;exact aLf)
  |(apply V_condF;exact cA;exact aLf)
  |with_reducible apply aIB
  |with_reducible apply aLO
  |(with_reducible apply blockQ_ne;exact rfl)
  |(apply V_onT;exact rfl;exact cA;exact aLf)
  |(apply V_onF;exact rfl;exact cA;exact aLf)
  |(apply V_offF;exact rfl;exact cA;exact aLf)
  |(apply V_offT;exact rfl;exact cA;exact aLf)
  |(apply Q_onT;exact rfl;exact cA;exact aLf)
  |(apply Q_onF;exact rfl;exact cA;exact aLf)
  |(apply Q_offF;exact rfl;exact cA;exact aLf)
  |(apply Q_offT;exact rfl;exact cA;exact aLf)
  |(apply aDA;exact rfl;exact cA)
  |(apply WQ_off_u;exact rfl;exact cA)
  |(apply V_WE;exact rfl;rintro _ ⟨_,_⟩;exact st_V)
  |(apply V_WT;exact rfl;intro _;exact st_V)
  |apply aIA
  |with_reducible apply aOC
  |with_reducible apply blockQ_r
  |exact st_X
  |(apply aKc;exact rfl;exact rfl;refine aKO hm (fun z=>?_);subst z;exact st_X)
  |(apply retQ_2;exact rfl;exact rfl;exact rfl;refine aKO hm (fun z=>?_);subst z;exact st_X)
  |(apply retQ_3;exact rfl;exact rfl;exact rfl;exact rfl;refine aKO hm (fun z=>?_);subst z;exact st_X)
  |(apply retQ_m1;exact rfl;exact aOm;refine aKO hm (fun z=>?_);subst z;exact st_X)
  |(apply retQ_m2;exact rfl;exact aOm;exact aOm;refine aKO hm (fun z=>?_);subst z;exact st_X)
  |(apply retQ_m3;exact rfl;exact aOm;exact aOm;exact aOm;refine aKO hm (fun z=>?_);subst z;exact st_X)
  |(apply retQ_0n;exact rfl;refine aKO hm (fun z=>?_);subst z;exact st_X)
  |(apply retQ_0;exact rfl;refine aKO hm (fun z=>?_);subst z;exact st_X)
  |(refine st_I st_f ?_)
  |intro (hm:(_:Option _)=some _)
  |intro (hr:∀ r',_=Sum.inr r'->_)
  |(with_reducible refine aAH fun z=>?_)
  |(with_reducible refine aAI ?_)
  |(intro (zv:(_:Value)=_);subst zv)
  |intro z
  |((with_reducible apply st_we);first|exact ⟨_,by assumption⟩|exact ⟨_,aG.weakK (by assumption) jN⟩)
  |(apply vG;exact rfl)
  |(apply WE_s;exact rfl)
  |apply WE_nil
  |(have zq:=hr _ (Option.some.inj hm).symm;subst zq;have hm:=ho;clear hr ho;try dsimp only at hm)
  |obtain ⟨z,z,hm⟩:=aB hm
  |exact st_no hm
  |refine st_a (fun z z z=>?_)
  |refine st_s (fun z z=>?_)
  |refine st_x (fun z z z=>?_)
  |refine st_ba (by with_reducible assumption) (fun z z z=>?_)
  |refine st_b (T:=168) ([]:List UInt8) (fun z z z=>?_)
  |refine st_b (T:=267) ([]:List Bool) (fun z z z=>?_)
  |refine st_b (T:=37) ([]:List aN) (fun z z z=>?_)
  |refine st_b (T:=97) ([]:List Int) (fun z z z=>?_)
  |refine st_p (fun z z z z=>?_)
  |(apply st_q2;exact cA;exact cA;(first|assumption|(apply st_rK;assumption;exact jN));assumption;exact st_M;assumption;exact st_S;exact st_u;exact st_e;exact rfl;exact rfl;exact rfl;exact rfl;intro z z z z)
  |(apply vE;intro z z)
  |refine st_k ?_
  |(apply bK)
  |(refine aBH ?_;first|(intro z z;repeat (first|(with_reducible refine aAH fun z=>?_)|with_reducible refine aAI ?_|(intro (zv:(_:Value)=_);subst zv)|intro z))|skip)
  |((first|(apply lL;(with_reducible assumption);exact .head;(first|exact zR _|exact jN);intro zK zh zr zs bk)|(apply lM;(with_reducible assumption);exact .head;intro zK zh zr zs bk));refine aBH ?_;(first|(intro z z;repeat (first|(with_reducible refine aAH fun z=>?_)|with_reducible refine aAI ?_|(intro (zv:(_:Value)=_);subst zv)|intro z))|skip);(have z:=bk _ _ (by with_reducible assumption);clear bk))
  |((first|(apply lL;(with_reducible assumption);exact zt1;(first|exact zR _|exact jN);intro zK zh zr zs bk)|(apply lM;(with_reducible assumption);exact zt1;intro zK zh zr zs bk));refine aBH ?_;(first|(intro z z;repeat (first|(with_reducible refine aAH fun z=>?_)|with_reducible refine aAI ?_|(intro (zv:(_:Value)=_);subst zv)|intro z))|skip);(have z:=bk _ _ (by with_reducible assumption);clear bk))
  |((first|(apply lL;(with_reducible assumption);exact zt2;(first|exact zR _|exact jN);intro zK zh zr zs bk)|(apply lM;(with_reducible assumption);exact zt2;intro zK zh zr zs bk));refine aBH ?_;(first|(intro z z;repeat (first|(with_reducible refine aAH fun z=>?_)|with_reducible refine aAI ?_|(intro (zv:(_:Value)=_);subst zv)|intro z))|skip);(have z:=bk _ _ (by with_reducible assumption);clear bk))
  |((first|(apply lL;(with_reducible assumption);exact zt3;(first|exact zR _|exact jN);intro zK zh zr zs bk)|(apply lM;(with_reducible assumption);exact zt3;intro zK zh zr zs bk));refine aBH ?_;(first|(intro z z;repeat (first|(with_reducible refine aAH fun z=>?_)|with_reducible refine aAI ?_|(intro (zv:(_:Value)=_);subst zv)|intro z))|skip);(have z:=bk _ _ (by with_reducible assumption);clear bk))
  |((first|(apply lL;(with_reducible assumption);exact zt4;(first|exact zR _|exact jN);intro zK zh zr zs bk)|(apply lM;(with_reducible assumption);exact zt4;intro zK zh zr zs bk));refine aBH ?_;(first|(intro z z;repeat (first|(with_reducible refine aAH fun z=>?_)|with_reducible refine aAI ?_|(intro (zv:(_:Value)=_);subst zv)|intro z))|skip);(have z:=bk _ _ (by with_reducible assumption);clear bk))
  |((first|(apply lL;(with_reducible assumption);exact .head;(first|exact zR _|exact jN);intro zK zh zr zs bk)|(apply lM;(with_reducible assumption);exact .head;intro zK zh zr zs bk));(first|(apply lL;(with_reducible assumption);exact .head;(first|exact zR _|exact jN);intro zK zh zr zs bk)|(apply lM;(with_reducible assumption);exact .head;intro zK zh zr zs bk));refine aBH ?_;(first|(intro z z;repeat (first|(with_reducible refine aAH fun z=>?_)|with_reducible refine aAI ?_|(intro (zv:(_:Value)=_);subst zv)|intro z))|skip);(have z:=bk _ _ (by with_reducible assumption);clear bk);(have z:=bk _ _ (by with_reducible assumption);clear bk))
  |((first|(apply lL;(with_reducible assumption);exact zt1;(first|exact zR _|exact jN);intro zK zh zr zs bk)|(apply lM;(with_reducible assumption);exact zt1;intro zK zh zr zs bk));(first|(apply lL;(with_reducible assumption);exact zt1;(first|exact zR _|exact jN);intro zK zh zr zs bk)|(apply lM;(with_reducible assumption);exact zt1;intro zK zh zr zs bk));refine aBH ?_;(first|(intro z z;repeat (first|(with_reducible refine aAH fun z=>?_)|with_reducible refine aAI ?_|(intro (zv:(_:Value)=_);subst zv)|intro z))|skip);(have z:=bk _ _ (by with_reducible assumption);clear bk);(have z:=bk _ _ (by with_reducible assumption);clear bk))
  |((first|(apply lL;(with_reducible assumption);exact zt1;(first|exact zR _|exact jN);intro zK zh zr zs bk)|(apply lM;(with_reducible assumption);exact zt1;intro zK zh zr zs bk));(first|(apply lL;(with_reducible assumption);exact .head;(first|exact zR _|exact jN);intro zK zh zr zs bk)|(apply lM;(with_reducible assumption);exact .head;intro zK zh zr zs bk));refine aBH ?_;(first|(intro z z;repeat (first|(with_reducible refine aAH fun z=>?_)|with_reducible refine aAI ?_|(intro (zv:(_:Value)=_);subst zv)|intro z))|skip);(have z:=bk _ _ (by with_reducible assumption);clear bk);(have z:=bk _ _ (by with_reducible assumption);clear bk))
  |((first|(apply lL;(with_reducible assumption);exact zt2;(first|exact zR _|exact jN);intro zK zh zr zs bk)|(apply lM;(with_reducible assumption);exact zt2;intro zK zh zr zs bk));(first|(apply lL;(with_reducible assumption);exact zt1;(first|exact zR _|exact jN);intro zK zh zr zs bk)|(apply lM;(with_reducible assumption);exact zt1;intro zK zh zr zs bk));refine aBH ?_;(first|(intro z z;repeat (first|(with_reducible refine aAH fun z=>?_)|with_reducible refine aAI ?_|(intro (zv:(_:Value)=_);subst zv)|intro z))|skip);(have z:=bk _ _ (by with_reducible assumption);clear bk);(have z:=bk _ _ (by with_reducible assumption);clear bk))
  |((first|(apply lL;(with_reducible assumption);exact zt2;(first|exact zR _|exact jN);intro zK zh zr zs bk)|(apply lM;(with_reducible assumption);exact zt2;intro zK zh zr zs bk));(first|(apply lL;(with_reducible assumption);exact zt1;(first|exact zR _|exact jN);intro zK zh zr zs bk)|(apply lM;(with_reducible assumption);exact zt1;intro zK zh zr zs bk));(first|(apply lL;(with_reducible assumption);exact zt1;(first|exact zR _|exact jN);intro zK zh zr zs bk)|(apply lM;(with_reducible assumption);exact zt1;intro zK zh zr zs bk));refine aBH ?_;(first|(intro z z;repeat (first|(with_reducible refine aAH fun z=>?_)|with_reducible refine aAI ?_|(intro (zv:(_:Value)=_);subst zv)|intro z))|skip);(have z:=bk _ _ (by with_reducible assumption);clear bk);(have z:=bk _ _ (by with_reducible assumption);clear bk);(have z:=bk _ _ (by with_reducible assumption);clear bk))
  |((first|(apply lL;(with_reducible assumption);exact .head;(first|exact zR _|exact jN);intro zK zh zr zs bk)|(apply lM;(with_reducible assumption);exact .head;intro zK zh zr zs bk));(first|(apply lL;(with_reducible assumption);exact .head;(first|exact zR _|exact jN);intro zK zh zr zs bk)|(apply lM;(with_reducible assumption);exact .head;intro zK zh zr zs bk));(first|(apply lL;(with_reducible assumption);exact .head;(first|exact zR _|exact jN);intro zK zh zr zs bk)|(apply lM;(with_reducible assumption);exact .head;intro zK zh zr zs bk));refine aBH ?_;(first|(intro z z;repeat (first|(with_reducible refine aAH fun z=>?_)|with_reducible refine aAI ?_|(intro (zv:(_:Value)=_);subst zv)|intro z))|skip);(have z:=bk _ _ (by with_reducible assumption);clear bk);(have z:=bk _ _ (by with_reducible assumption);clear bk);(have z:=bk _ _ (by with_reducible assumption);clear bk))
  |((first|(apply lL;(with_reducible assumption);exact zt1;(first|exact zR _|exact jN);intro zK zh zr zs bk)|(apply lM;(with_reducible assumption);exact zt1;intro zK zh zr zs bk));(first|(apply lL;(with_reducible assumption);exact zt1;(first|exact zR _|exact jN);intro zK zh zr zs bk)|(apply lM;(with_reducible assumption);exact zt1;intro zK zh zr zs bk));(first|(apply lL;(with_reducible assumption);exact zt1;(first|exact zR _|exact jN);intro zK zh zr zs bk)|(apply lM;(with_reducible assumption);exact zt1;intro zK zh zr zs bk));refine aBH ?_;(first|(intro z z;repeat (first|(with_reducible refine aAH fun z=>?_)|with_reducible refine aAI ?_|(intro (zv:(_:Value)=_);subst zv)|intro z))|skip);(have z:=bk _ _ (by with_reducible assumption);clear bk);(have z:=bk _ _ (by with_reducible assumption);clear bk);(have z:=bk _ _ (by with_reducible assumption);clear bk))
  |((first|(apply lL;(with_reducible assumption);exact zt3;(first|exact zR _|exact jN);intro zK zh zr zs bk)|(apply lM;(with_reducible assumption);exact zt3;intro zK zh zr zs bk));(first|(apply lL;(with_reducible assumption);exact zt2;(first|exact zR _|exact jN);intro zK zh zr zs bk)|(apply lM;(with_reducible assumption);exact zt2;intro zK zh zr zs bk));(first|(apply lL;(with_reducible assumption);exact zt2;(first|exact zR _|exact jN);intro zK zh zr zs bk)|(apply lM;(with_reducible assumption);exact zt2;intro zK zh zr zs bk));refine aBH ?_;(first|(intro z z;repeat (first|(with_reducible refine aAH fun z=>?_)|with_reducible refine aAI ?_|(intro (zv:(_:Value)=_);subst zv)|intro z))|skip);(have z:=bk _ _ (by with_reducible assumption);clear bk);(have z:=bk _ _ (by with_reducible assumption);clear bk);(have z:=bk _ _ (by with_reducible assumption);clear bk))
  |((first|(apply lL;(with_reducible assumption);exact .head;(first|exact zR _|exact jN);intro zK zh zr zs bk)|(apply lM;(with_reducible assumption);exact .head;intro zK zh zr zs bk));(first|(apply lL;(with_reducible assumption);exact .head;(first|exact zR _|exact jN);intro zK zh zr zs bk)|(apply lM;(with_reducible assumption);exact .head;intro zK zh zr zs bk));(first|(apply lL;(with_reducible assumption);exact .head;(first|exact zR _|exact jN);intro zK zh zr zs bk)|(apply lM;(with_reducible assumption);exact .head;intro zK zh zr zs bk));(first|(apply lL;(with_reducible assumption);exact .head;(first|exact zR _|exact jN);intro zK zh zr zs bk)|(apply lM;(with_reducible assumption);exact .head;intro zK zh zr zs bk));refine aBH ?_;(first|(intro z z;repeat (first|(with_reducible refine aAH fun z=>?_)|with_reducible refine aAI ?_|(intro (zv:(_:Value)=_);subst zv)|intro z))|skip);(have z:=bk _ _ (by with_reducible assumption);clear bk);(have z:=bk _ _ (by with_reducible assumption);clear bk);(have z:=bk _ _ (by with_reducible assumption);clear bk);(have z:=bk _ _ (by with_reducible assumption);clear bk))
  |((first|(with_reducible apply st_g0)|(with_reducible apply st_g1)|(with_reducible apply st_g2)|(with_reducible apply st_g3)|(apply st_g4;exact rfl));rcases aJ hm with ⟨z,hm⟩|⟨z,hm⟩))):p:=h
end Gv
