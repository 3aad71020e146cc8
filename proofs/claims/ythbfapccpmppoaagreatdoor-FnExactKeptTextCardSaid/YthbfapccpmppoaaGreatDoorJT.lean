/- Readings of the program's data; what is known of its types. -/
import Derived.Test.YthbfapccpmppoaaGreatDoorJYS
import Derived.Test.YthbfapccpmppoaaGreatDoorProg
set_option linter.all false
namespace Gv
open Go.Value renaming slice→zS,bool→zB
open Gv.Hp renaming le_trans→zL
open Go Go.Proofs Go.Proofs.Tryz
instance:iQ Edge where
 sz:=3
 enc d:=[i64 d.F,i64 d.B,i64 d.To]
 len _:=rfl
 one _ v h:=by simp at h;rcases h with rfl|rfl|rfl<;>rfl
 pos:=by decide
instance:El gM where
 sz:=4
 rd K cs d:=∃ (a0:Option Addr) (c0:Nat) (a1:Option Addr) (c1:Nat),cs=[i64 d.N,i64 d.I,zS a0 d.L.length c0,zS a1 d.E.length c1]/\aW K a0 c0 d.L/\aW K a1 c1 d.E
 mono:=fun h ⟨a0,c0,a1,c1,e,h0,h1⟩=>⟨a0,c0,a1,c1,e,h0.mono h,h1.mono h⟩
 len:=fun ⟨_,_,_,_,e,_⟩=>by rw [e];rfl
 one:=fun ⟨_,_,_,_,e,_⟩ v hv=>by rw [e] at hv;simp at hv;rcases hv with rfl|rfl|rfl|rfl<;>rfl
 pos:=by decide
instance:iQ bI where
 sz:=4
 enc d:=[i64 d.Kind,i64 d.Variable,str d.B,zB d.Not]
 len _:=rfl
 one _ v h:=by simp at h;rcases h with rfl|rfl|rfl|rfl<;>rfl
 pos:=by decide
instance:iQ aR where
 sz:=2
 enc d:=[i64 d.Kind,i64 d.Value]
 len _:=rfl
 one _ v h:=by simp at h;rcases h with rfl|rfl<;>rfl
 pos:=by decide
instance:El bG where
 sz:=4
 rd K cs d:=∃ (a0:Option Addr) (c0:Nat),cs=[i64 d.Kind,i64 d.Number,str d.Name,zS a0 d.Arguments.length c0]/\aW K a0 c0 d.Arguments
 mono:=fun h ⟨a0,c0,e,h0⟩=>⟨a0,c0,e,h0.mono h⟩
 len:=fun ⟨_,_,e,_⟩=>by rw [e];rfl
 one:=fun ⟨_,_,e,_⟩ v hv=>by rw [e] at hv;simp at hv;rcases hv with rfl|rfl|rfl|rfl<;>rfl
 pos:=by decide
instance:El Definition where
 sz:=3
 rd K cs d:=∃ (a0:Option Addr) (c0:Nat),cs=[str d.Name,i64 d.Parameters,zS a0 d.Body.length c0]/\aW K a0 c0 d.Body
 mono:=fun h ⟨a0,c0,e,h0⟩=>⟨a0,c0,e,h0.mono h⟩
 len:=fun ⟨_,_,e,_⟩=>by rw [e];rfl
 one:=fun ⟨_,_,e,_⟩ v hv=>by rw [e] at hv;simp at hv;rcases hv with rfl|rfl|rfl<;>rfl
 pos:=by decide
instance:El aY where
 sz:=2
 rd K cs d:=∃ (a0:Option Addr) (c0:Nat),cs=[i64 d.Definition,zS a0 d.Values.length c0]/\aW K a0 c0 d.Values
 mono:=fun h ⟨a0,c0,e,h0⟩=>⟨a0,c0,e,h0.mono h⟩
 len:=fun ⟨_,_,e,_⟩=>by rw [e];rfl
 one:=fun ⟨_,_,e,_⟩ v hv=>by rw [e] at hv;simp at hv;rcases hv with rfl|rfl<;>rfl
 pos:=by decide
instance:iQ bB where
 sz:=3
 enc d:=[str d.Left,str d.Right,str d.Result]
 len _:=rfl
 one _ v h:=by simp at h;rcases h with rfl|rfl|rfl<;>rfl
 pos:=by decide
instance:El bM where
 sz:=5
 rd K cs d:=∃ (a0:Option Addr) (c0:Nat) (a1:Option Addr) (c1:Nat) (a2:Option Addr) (c2:Nat) (a3:Option Addr) (c3:Nat) (a4:Option Addr) (c4:Nat),cs=[zS a0 d.Definitions.length c0,zS a1 d.Components.length c1,zS a2 d.Meetings.length c2,zS a3 d.Allowed.length c3,zS a4 d.Hidden.length c4]/\aW K a0 c0 d.Definitions/\aW K a1 c1 d.Components/\aW K a2 c2 d.Meetings/\aW K a3 c3 d.Allowed/\aW K a4 c4 d.Hidden
 mono:=fun h ⟨a0,c0,a1,c1,a2,c2,a3,c3,a4,c4,e,h0,h1,h2,h3,h4⟩=>⟨a0,c0,a1,c1,a2,c2,a3,c3,a4,c4,e,h0.mono h,h1.mono h,h2.mono h,h3.mono h,h4.mono h⟩
 len:=fun ⟨_,_,_,_,_,_,_,_,_,_,e,_⟩=>by rw [e];rfl
 one:=fun ⟨_,_,_,_,_,_,_,_,_,_,e,_⟩ v hv=>by rw [e] at hv;simp at hv;rcases hv with rfl|rfl|rfl|rfl|rfl<;>rfl
 pos:=by decide
instance:El pL where
 sz:=12
 rd K cs d:=∃ (a0:Option Addr) (c0:Nat) (a1:Option Addr) (c1:Nat) (a2:Option Addr) (c2:Nat) (a3:Option Addr) (c3:Nat) (a4:Option Addr) (c4:Nat) (a5:Option Addr) (c5:Nat) (a6:Option Addr) (c6:Nat) (a7:Option Addr) (c7:Nat),cs=[str d.Name,i64 d.Kind,i64 d.S.N,i64 d.S.I,zS a0 d.S.L.length c0,zS a1 d.S.E.length c1,zS a2 d.Formula.length c2,zS a3 d.Source.Definitions.length c3,zS a4 d.Source.Components.length c4,zS a5 d.Source.Meetings.length c5,zS a6 d.Source.Allowed.length c6,zS a7 d.Source.Hidden.length c7]/\aW K a0 c0 d.S.L/\aW K a1 c1 d.S.E/\aW K a2 c2 d.Formula/\aW K a3 c3 d.Source.Definitions/\aW K a4 c4 d.Source.Components/\aW K a5 c5 d.Source.Meetings/\aW K a6 c6 d.Source.Allowed/\aW K a7 c7 d.Source.Hidden
 mono:=fun h ⟨a0,c0,a1,c1,a2,c2,a3,c3,a4,c4,a5,c5,a6,c6,a7,c7,e,h0,h1,h2,h3,h4,h5,h6,h7⟩=>⟨a0,c0,a1,c1,a2,c2,a3,c3,a4,c4,a5,c5,a6,c6,a7,c7,e,h0.mono h,h1.mono h,h2.mono h,h3.mono h,h4.mono h,h5.mono h,h6.mono h,h7.mono h⟩
 len:=fun ⟨_,_,_,_,_,_,_,_,_,_,_,_,_,_,_,_,e,_⟩=>by rw [e];rfl
 one:=fun ⟨_,_,_,_,_,_,_,_,_,_,_,_,_,_,_,_,e,_⟩ v hv=>by rw [e] at hv;simp at hv;rcases hv with rfl|rfl|rfl|rfl|rfl|rfl|rfl|rfl|rfl|rfl|rfl|rfl<;>rfl
 pos:=by decide
instance:iQ dH where
 sz:=2
 enc d:=[i64 d.scope,zB d.behind]
 len _:=rfl
 one _ v h:=by simp at h;rcases h with rfl|rfl<;>rfl
 pos:=by decide
instance:Dp bG where
 Hd:=((Option Addr × Nat) × List (Dp.Hd (List aR)))
 sz1:=3
 enc hd x:=[i64 x.Kind,i64 x.Number,str x.Name,.slice hd.1.1 x.Arguments.length hd.1.2]
 pcs tys hd x:=[aV (tys.headD 0) Hp.nil hd.1.1 hd.1.2 (cI hd.2 x.Arguments),aMh [(tys.tail.headD 0)] hd.2 x.Arguments]
 len _ _:=rfl
 one _ _ v h:=by simp at h;rcases h with rfl|rfl|rfl|rfl<;>rfl
instance:DpEl bG where
 sz:=rfl
 rd:=fun {tys hd x h K} a hK=>by
  obtain ⟨p0,r0,b0,_,l0,m0,a⟩:=a
  obtain ⟨p1,r1,b1,_,l1,m1,a⟩:=a
  exact ⟨hd.1.1,hd.1.2,rfl,nest_rd b0 b1 (zL l0 (hK)) (zL l1 (zL m0 (hK)))⟩
theorem aPb (tys:List TypeId):fQ (Dp.pcs tys (((none,0),[]):Dp.Hd bG) (⟨0,0,[],[]⟩:bG)) Hp.nil:=
 aPZ _ _ (trivial)
instance:Dp Definition where
 Hd:=((Option Addr × Nat) × List (Dp.Hd bG))
 sz1:=2
 enc hd x:=[str x.Name,i64 x.Parameters,.slice hd.1.1 x.Body.length hd.1.2]
 pcs tys hd x:=[aV (tys.headD 0) Hp.nil hd.1.1 hd.1.2 (cI hd.2 x.Body),aMh [(tys.tail.headD 0),(tys.tail.tail.headD 0)] hd.2 x.Body]
 len _ _:=rfl
 one _ _ v h:=by simp at h;rcases h with rfl|rfl|rfl<;>rfl
instance:DpEl Definition where
 sz:=rfl
 rd:=fun {tys hd x h K} a hK=>by
  obtain ⟨p0,r0,b0,_,l0,m0,a⟩:=a
  obtain ⟨p1,r1,b1,_,l1,m1,a⟩:=a
  exact ⟨hd.1.1,hd.1.2,rfl,nest_rd b0 b1 (zL l0 (hK)) (zL l1 (zL m0 (hK)))⟩
theorem aIj (tys:List TypeId):fQ (Dp.pcs tys (((none,0),[]):Dp.Hd Definition) (⟨[],0,[]⟩:Definition)) Hp.nil:=
 aPZ _ _ (trivial)
instance:Dp aY where
 Hd:=(Option Addr × Nat)
 sz1:=1
 enc hd x:=[i64 x.Definition,.slice hd.1 x.Values.length hd.2]
 pcs tys hd x:=[aV (tys.headD 0) Hp.nil hd.1 hd.2 x.Values]
 len _ _:=rfl
 one _ _ v h:=by simp at h;rcases h with rfl|rfl<;>rfl
instance:DpEl aY where
 sz:=rfl
 rd:=fun {tys hd x h K} a hK=>by
  obtain ⟨p0,r0,b0,_,l0,m0,a⟩:=a
  exact ⟨hd.1,hd.2,rfl,aV.rd b0 (zL l0 (hK)) (Hp.nil_le _)⟩
theorem aIZ (tys:List TypeId):fQ (Dp.pcs tys ((none,0):Dp.Hd aY) (⟨0,[]⟩:aY)) Hp.nil:=
 ⟨Hp.nil,Hp.nil,aV.nil _ _ _,Hp.nil_dj _,Hp.nil_le _,Hp.nil_le _,trivial⟩
theorem cT:SLT prog 22 9 1:=⟨runUnderlying22,sizeOf9⟩
theorem oK:SC prog 9:=⟨isAgg9,sizeOf9⟩
theorem dR:SLT prog 104 2 1:=⟨runUnderlying104,sizeOf2⟩
theorem xY:EZ prog 2 [i64 0]:=⟨⟨_,zeroValue2,rfl⟩,⟨t2,typeInfo2,by show (8:Nat)<=128;decide,rfl,by kernel_rfl,_,rfl,rfl⟩⟩
theorem qF:EZ prog 9 [str []]:=⟨⟨_,zeroValue9,rfl⟩,⟨t9,typeInfo9,by show (16:Nat)<=128;decide,rfl,by kernel_rfl,_,rfl,rfl⟩⟩
theorem gJ:SC prog 2:=⟨isAgg2,sizeOf2⟩
theorem sl_23:SLT prog 23 128 3:=⟨runUnderlying23,sizeOf128⟩
theorem fa_25_2:FA prog 25 2 2:=⟨_,_,_,runUnderlying25,rfl,sizeOf22,rfl,rfl⟩
theorem aMi:SC prog 22:=⟨isAgg22,sizeOf22⟩
theorem fa_25_3:FA prog 25 3 3:=⟨_,_,_,runUnderlying25,rfl,sizeOf23,rfl,rfl⟩
theorem sc_23:SC prog 23:=⟨isAgg23,sizeOf23⟩
theorem fa_67_2:FA prog 67 2 2:=⟨_,_,_,runUnderlying67,rfl,sizeOf9,rfl,rfl⟩
theorem sl_26:SLT prog 26 67 4:=⟨runUnderlying26,sizeOf67⟩
theorem ag_67:AG prog 67 4:=⟨isAgg67,sizeOf67⟩
theorem aPc:SLT prog 283 320 2:=⟨runUnderlying283,sizeOf320⟩
theorem aMj:SLT prog 203 283 1:=⟨runUnderlying203,sizeOf283⟩
theorem sc_283:SC prog 283:=⟨isAgg283,sizeOf283⟩
theorem fa_205_2:FA prog 205 2 2:=⟨_,_,_,runUnderlying205,rfl,sizeOf9,rfl,rfl⟩
theorem fa_205_3:FA prog 205 3 3:=⟨_,_,_,runUnderlying205,rfl,sizeOf203,rfl,rfl⟩
theorem sc_203:SC prog 203:=⟨isAgg203,sizeOf203⟩
theorem aMk:SLT prog 100 205 4:=⟨runUnderlying100,sizeOf205⟩
theorem ag_205:AG prog 205 4:=⟨isAgg205,sizeOf205⟩
theorem fa_102_0:FA prog 102 0 0:=⟨_,_,_,runUnderlying102,rfl,sizeOf9,rfl,rfl⟩
theorem fa_102_2:FA prog 102 2 2:=⟨_,_,_,runUnderlying102,rfl,sizeOf100,rfl,rfl⟩
theorem sc_100:SC prog 100:=⟨isAgg100,sizeOf100⟩
theorem sl_27:SLT prog 27 102 3:=⟨runUnderlying27,sizeOf102⟩
theorem ag_102:AG prog 102 3:=⟨isAgg102,sizeOf102⟩
theorem fa_106_1:FA prog 106 1 1:=⟨_,_,_,runUnderlying106,rfl,sizeOf104,rfl,rfl⟩
theorem sc_104:SC prog 104:=⟨isAgg104,sizeOf104⟩
theorem sl_28:SLT prog 28 106 2:=⟨runUnderlying28,sizeOf106⟩
theorem ag_106:AG prog 106 2:=⟨isAgg106,sizeOf106⟩
theorem fa_109_0:FA prog 109 0 0:=⟨_,_,_,runUnderlying109,rfl,sizeOf9,rfl,rfl⟩
theorem fa_109_1:FA prog 109 1 1:=⟨_,_,_,runUnderlying109,rfl,sizeOf9,rfl,rfl⟩
theorem fa_109_2:FA prog 109 2 2:=⟨_,_,_,runUnderlying109,rfl,sizeOf9,rfl,rfl⟩
theorem sl_29:SLT prog 29 109 3:=⟨runUnderlying29,sizeOf109⟩
theorem ag_109:AG prog 109 3:=⟨isAgg109,sizeOf109⟩
theorem fa_31_0:FA prog 31 0 0:=⟨_,_,_,runUnderlying31,rfl,sizeOf27,rfl,rfl⟩
theorem sc_27:SC prog 27:=⟨isAgg27,sizeOf27⟩
theorem fa_31_1:FA prog 31 1 1:=⟨_,_,_,runUnderlying31,rfl,sizeOf28,rfl,rfl⟩
theorem sc_28:SC prog 28:=⟨isAgg28,sizeOf28⟩
theorem fa_31_2:FA prog 31 2 2:=⟨_,_,_,runUnderlying31,rfl,sizeOf29,rfl,rfl⟩
theorem sc_29:SC prog 29:=⟨isAgg29,sizeOf29⟩
theorem fa_31_3:FA prog 31 3 3:=⟨_,_,_,runUnderlying31,rfl,sizeOf22,rfl,rfl⟩
theorem fa_31_4:FA prog 31 4 4:=⟨_,_,_,runUnderlying31,rfl,sizeOf22,rfl,rfl⟩
theorem fa_33_0:FA prog 33 0 0:=⟨_,_,_,runUnderlying33,rfl,sizeOf9,rfl,rfl⟩
theorem fa_33_2:FA prog 33 2 2:=⟨_,_,_,runUnderlying33,rfl,sizeOf25,rfl,rfl⟩
theorem ag_25:AG prog 25 4:=⟨isAgg25,sizeOf25⟩
theorem fa_33_3:FA prog 33 3 6:=⟨_,_,_,runUnderlying33,rfl,sizeOf26,rfl,rfl⟩
theorem sc_26:SC prog 26:=⟨isAgg26,sizeOf26⟩
theorem fa_33_4:FA prog 33 4 7:=⟨_,_,_,runUnderlying33,rfl,sizeOf31,rfl,rfl⟩
theorem ag_31:AG prog 31 5:=⟨isAgg31,sizeOf31⟩
theorem aGa:FA prog 114 0 0:=⟨_,_,_,runUnderlying114,rfl,sizeOf2,rfl,rfl⟩
theorem aGb:FA prog 114 1 1:=⟨_,_,_,runUnderlying114,rfl,sizeOf2,rfl,rfl⟩
theorem aJa:FA prog 114 2 2:=⟨_,_,_,runUnderlying114,rfl,sizeOf2,rfl,rfl⟩
theorem aPd:FA prog 38 0 0:=⟨_,_,_,runUnderlying38,rfl,sizeOf2,rfl,rfl⟩
theorem aPe:FA prog 38 1 1:=⟨_,_,_,runUnderlying38,rfl,sizeOf2,rfl,rfl⟩
theorem aLS:FA prog 38 2 2:=⟨_,_,_,runUnderlying38,rfl,sizeOf22,rfl,rfl⟩
theorem aAZ:FA prog 38 3 3:=⟨_,_,_,runUnderlying38,rfl,sizeOf36,rfl,rfl⟩
theorem aJb:SC prog 36:=⟨isAgg36,sizeOf36⟩
theorem uU:SLT prog 36 114 3:=⟨runUnderlying36,sizeOf114⟩
theorem aKr:AG prog 114 3:=⟨isAgg114,sizeOf114⟩
theorem aGS:FA prog 44 0 0:=⟨_,_,_,runUnderlying44,rfl,sizeOf40,rfl,rfl⟩
theorem aOw:SC prog 40:=⟨isAgg40,sizeOf40⟩
theorem qI:SLT prog 40 131 3:=⟨runUnderlying40,sizeOf131⟩
theorem aCT:FA prog 44 1 1:=⟨_,_,_,runUnderlying44,rfl,sizeOf41,rfl,rfl⟩
theorem aMl:SC prog 41:=⟨isAgg41,sizeOf41⟩
theorem xN:SLT prog 41 133 2:=⟨runUnderlying41,sizeOf133⟩
theorem aPf:FA prog 44 2 2:=⟨_,_,_,runUnderlying44,rfl,sizeOf42,rfl,rfl⟩
theorem sc_42:SC prog 42:=⟨isAgg42,sizeOf42⟩
theorem vO:SLT prog 42 135 3:=⟨runUnderlying42,sizeOf135⟩
theorem aPg:FA prog 44 3 3:=⟨_,_,_,runUnderlying44,rfl,sizeOf22,rfl,rfl⟩
theorem fa_44_4:FA prog 44 4 4:=⟨_,_,_,runUnderlying44,rfl,sizeOf22,rfl,rfl⟩
theorem sB:SLT prog 39 83 4:=⟨runUnderlying39,sizeOf83⟩
theorem aCU:FA prog 83 0 0:=⟨_,_,_,runUnderlying83,rfl,sizeOf2,rfl,rfl⟩
theorem aJc:FA prog 83 2 2:=⟨_,_,_,runUnderlying83,rfl,sizeOf9,rfl,rfl⟩
theorem aLT:FA prog 83 3 3:=⟨_,_,_,runUnderlying83,rfl,sizeOf4,rfl,rfl⟩
theorem sc_4:SC prog 4:=⟨isAgg4,sizeOf4⟩
theorem aPh:FA prog 83 1 1:=⟨_,_,_,runUnderlying83,rfl,sizeOf2,rfl,rfl⟩
theorem aIk:SLT prog 126 5 1:=⟨runUnderlying126,sizeOf5⟩
theorem ez_5:EZ prog 5 [Value.int .u8 0]:=⟨⟨_,zeroValue5,rfl⟩,⟨t5,typeInfo5,by show (1:Nat)<=128;decide,rfl,by kernel_rfl,_,rfl,rfl⟩⟩
theorem sc_5:SC prog 5:=⟨isAgg5,sizeOf5⟩
theorem aMm:AG prog 83 4:=⟨isAgg83,sizeOf83⟩
theorem oL:FA prog 170 0 0:=⟨_,_,_,runUnderlying170,rfl,sizeOf2,rfl,rfl⟩
theorem lK:SLT prog 129 170 4:=⟨runUnderlying129,sizeOf170⟩
theorem aJd:FA prog 170 1 1:=⟨_,_,_,runUnderlying170,rfl,sizeOf2,rfl,rfl⟩
theorem aJe:FA prog 170 2 2:=⟨_,_,_,runUnderlying170,rfl,sizeOf9,rfl,rfl⟩
theorem oM:FA prog 170 3 3:=⟨_,_,_,runUnderlying170,rfl,sizeOf168,rfl,rfl⟩
theorem aAI:SC prog 168:=⟨isAgg168,sizeOf168⟩
theorem mP:SLT prog 168 215 1:=⟨runUnderlying168,sizeOf215⟩
theorem aMn:FA prog 131 1 1:=⟨_,_,_,runUnderlying131,rfl,sizeOf2,rfl,rfl⟩
theorem aBP:FA prog 131 2 2:=⟨_,_,_,runUnderlying131,rfl,sizeOf129,rfl,rfl⟩
theorem xZ:SC prog 129:=⟨isAgg129,sizeOf129⟩
theorem aGc:FA prog 218 0 0:=⟨_,_,_,runUnderlying218,rfl,sizeOf2,rfl,rfl⟩
theorem aBQ:FA prog 218 1 1:=⟨_,_,_,runUnderlying218,rfl,sizeOf2,rfl,rfl⟩
theorem nP:SLT prog 215 218 2:=⟨runUnderlying215,sizeOf218⟩
theorem yA:AG prog 170 4:=⟨isAgg170,sizeOf170⟩
theorem aIl:SC prog 215:=⟨isAgg215,sizeOf215⟩
theorem aDP:FA prog 131 0 0:=⟨_,_,_,runUnderlying131,rfl,sizeOf9,rfl,rfl⟩
theorem aGd:AG prog 133 2:=⟨isAgg133,sizeOf133⟩
theorem aMo:FA prog 133 0 0:=⟨_,_,_,runUnderlying133,rfl,sizeOf2,rfl,rfl⟩
theorem fa_133_1:FA prog 133 1 1:=⟨_,_,_,runUnderlying133,rfl,sizeOf104,rfl,rfl⟩
theorem aKs:AG prog 135 3:=⟨isAgg135,sizeOf135⟩
theorem aMp:FA prog 135 0 0:=⟨_,_,_,runUnderlying135,rfl,sizeOf9,rfl,rfl⟩
theorem aMq:FA prog 135 1 1:=⟨_,_,_,runUnderlying135,rfl,sizeOf9,rfl,rfl⟩
theorem fa_135_2:FA prog 135 2 2:=⟨_,_,_,runUnderlying135,rfl,sizeOf9,rfl,rfl⟩
theorem aIm:AG prog 218 2:=⟨isAgg218,sizeOf218⟩
theorem mQ:SLT prog 247 4 1:=⟨runUnderlying247,sizeOf4⟩
theorem aLs:EZ prog 4 [zB false]:=⟨⟨_,zeroValue4,rfl⟩,⟨t4,typeInfo4,by show (1:Nat)<=128;decide,rfl,by kernel_rfl,_,rfl,rfl⟩⟩
theorem aLU:FA prog 46 0 0:=⟨_,_,_,runUnderlying46,rfl,sizeOf9,rfl,rfl⟩
theorem aJf:FA prog 46 1 1:=⟨_,_,_,runUnderlying46,rfl,sizeOf2,rfl,rfl⟩
theorem aEF:FA prog 46 2 2:=⟨_,_,_,runUnderlying46,rfl,sizeOf38,rfl,rfl⟩
theorem aEG:FA prog 46 3 6:=⟨_,_,_,runUnderlying46,rfl,sizeOf39,rfl,rfl⟩
theorem aOx:SC prog 39:=⟨isAgg39,sizeOf39⟩
theorem aCV:FA prog 46 4 7:=⟨_,_,_,runUnderlying46,rfl,sizeOf44,rfl,rfl⟩
theorem fa_128_0:FA prog 128 0 0:=⟨_,_,_,runUnderlying128,rfl,sizeOf2,rfl,rfl⟩
theorem fa_128_1:FA prog 128 1 1:=⟨_,_,_,runUnderlying128,rfl,sizeOf2,rfl,rfl⟩
theorem fa_128_2:FA prog 128 2 2:=⟨_,_,_,runUnderlying128,rfl,sizeOf2,rfl,rfl⟩
theorem ez_114:EZ prog 114 [i64 0,i64 0,i64 0]:=⟨⟨_,zeroValue114,rfl⟩,⟨t114,typeInfo114,by show (24:Nat)<=128;decide,rfl,by kernel_rfl,_,rfl,rfl⟩⟩
theorem ag_128:AG prog 128 3:=⟨isAgg128,sizeOf128⟩
theorem fa_25_0:FA prog 25 0 0:=⟨_,_,_,runUnderlying25,rfl,sizeOf2,rfl,rfl⟩
theorem fa_25_1:FA prog 25 1 1:=⟨_,_,_,runUnderlying25,rfl,sizeOf2,rfl,rfl⟩
theorem ag_38:AG prog 38 4:=⟨isAgg38,sizeOf38⟩
theorem fa_67_0:FA prog 67 0 0:=⟨_,_,_,runUnderlying67,rfl,sizeOf2,rfl,rfl⟩
theorem fa_67_1:FA prog 67 1 1:=⟨_,_,_,runUnderlying67,rfl,sizeOf2,rfl,rfl⟩
theorem fa_67_3:FA prog 67 3 3:=⟨_,_,_,runUnderlying67,rfl,sizeOf4,rfl,rfl⟩
theorem ez_83:EZ prog 83 [i64 0,i64 0,str [],zB false]:=⟨⟨_,zeroValue83,rfl⟩,⟨t83,typeInfo83,by show (40:Nat)<=128;decide,rfl,by kernel_rfl,_,rfl,rfl⟩⟩
theorem fa_320_0:FA prog 320 0 0:=⟨_,_,_,runUnderlying320,rfl,sizeOf2,rfl,rfl⟩
theorem fa_320_1:FA prog 320 1 1:=⟨_,_,_,runUnderlying320,rfl,sizeOf2,rfl,rfl⟩
theorem ez_218:EZ prog 218 [i64 0,i64 0]:=⟨⟨_,zeroValue218,rfl⟩,⟨t218,typeInfo218,by show (16:Nat)<=128;decide,rfl,by kernel_rfl,_,rfl,rfl⟩⟩
theorem ag_320:AG prog 320 2:=⟨isAgg320,sizeOf320⟩
theorem ez_215:EZ prog 215 [zS none 0 0]:=⟨⟨_,zeroValue215,rfl⟩,⟨t215,typeInfo215,by show (24:Nat)<=128;decide,rfl,by kernel_rfl,_,rfl,rfl⟩⟩
theorem fa_205_0:FA prog 205 0 0:=⟨_,_,_,runUnderlying205,rfl,sizeOf2,rfl,rfl⟩
theorem fa_205_1:FA prog 205 1 1:=⟨_,_,_,runUnderlying205,rfl,sizeOf2,rfl,rfl⟩
theorem ez_170:EZ prog 170 [i64 0,i64 0,str [],zS none 0 0]:=⟨⟨_,zeroValue170,rfl⟩,⟨t170,typeInfo170,by show (56:Nat)<=128;decide,rfl,by kernel_rfl,_,rfl,rfl⟩⟩
theorem fa_102_1:FA prog 102 1 1:=⟨_,_,_,runUnderlying102,rfl,sizeOf2,rfl,rfl⟩
theorem aEH:AG prog 131 3:=⟨isAgg131,sizeOf131⟩
theorem ez_131:EZ prog 131 [str [],i64 0,zS none 0 0]:=⟨⟨_,zeroValue131,rfl⟩,⟨t131,typeInfo131,by show (48:Nat)<=128;decide,rfl,by kernel_rfl,_,rfl,rfl⟩⟩
theorem fa_106_0:FA prog 106 0 0:=⟨_,_,_,runUnderlying106,rfl,sizeOf2,rfl,rfl⟩
theorem ez_133:EZ prog 133 [i64 0,zS none 0 0]:=⟨⟨_,zeroValue133,rfl⟩,⟨t133,typeInfo133,by show (32:Nat)<=128;decide,rfl,by kernel_rfl,_,rfl,rfl⟩⟩
theorem ez_135:EZ prog 135 [str [],str [],str []]:=⟨⟨_,zeroValue135,rfl⟩,⟨t135,typeInfo135,by show (48:Nat)<=128;decide,rfl,by kernel_rfl,_,rfl,rfl⟩⟩
theorem ag_44:AG prog 44 5:=⟨isAgg44,sizeOf44⟩
theorem fa_33_1:FA prog 33 1 1:=⟨_,_,_,runUnderlying33,rfl,sizeOf2,rfl,rfl⟩
theorem aMr:AG prog 46 12:=⟨isAgg46,sizeOf46⟩
theorem sl_226:SLT prog 226 3 1:=⟨runUnderlying226,sizeOf3⟩
theorem ez_3:EZ prog 3 [i64 0]:=⟨⟨_,zeroValue3,rfl⟩,⟨t3,typeInfo3,by show (8:Nat)<=128;decide,rfl,by kernel_rfl,_,rfl,rfl⟩⟩
theorem sc_3:SC prog 3:=⟨isAgg3,sizeOf3⟩
theorem bs_183:BS prog 183 [(0,4),(4,1)] [i64 0,i64 0,str [],zB false,zS none 0 0]:=⟨⟨_,zeroValue183,rfl⟩,_,runUnderlying183,fun w=>by simp [sizeOf181,sizeOf83]⟩
theorem qJ:FA prog 183 1 4:=⟨_,_,_,runUnderlying183,rfl,sizeOf181,rfl,rfl⟩
theorem aDy:SC prog 181:=⟨isAgg181,sizeOf181⟩
theorem aBR:SLT prog 181 146 1:=⟨runUnderlying181,sizeOf146⟩
theorem ez_146:EZ prog 146 [Value.pointer none]:=⟨⟨_,zeroValue146,rfl⟩,⟨t146,typeInfo146,by show (8:Nat)<=128;decide,rfl,by kernel_rfl,_,rfl,rfl⟩⟩
theorem aMs:FA prog 183 0 0:=⟨_,_,_,runUnderlying183,rfl,sizeOf83,rfl,rfl⟩
theorem aEI:SC prog 146:=⟨isAgg146,sizeOf146⟩
theorem sl_256:SLT prog 256 260 2:=⟨runUnderlying256,sizeOf260⟩
theorem ez_260:EZ prog 260 [i64 0,zB false]:=⟨⟨_,zeroValue260,rfl⟩,⟨t260,typeInfo260,by show (16:Nat)<=128;decide,rfl,by kernel_rfl,_,rfl,rfl⟩⟩
theorem sc_295:SC prog 295:=⟨isAgg295,sizeOf295⟩
theorem bs_260:BS prog 260 [(0,1),(1,1)] [i64 0,zB false]:=⟨⟨_,zeroValue260,rfl⟩,_,runUnderlying260,fun w=>by simp [sizeOf2,sizeOf4]⟩
theorem sc_256:SC prog 256:=⟨isAgg256,sizeOf256⟩
theorem ag_260:AG prog 260 2:=⟨isAgg260,sizeOf260⟩
theorem aQh:FA prog 260 0 0:=⟨_,_,_,runUnderlying260,rfl,sizeOf2,rfl,rfl⟩
theorem fa_260_1:FA prog 260 1 1:=⟨_,_,_,runUnderlying260,rfl,sizeOf4,rfl,rfl⟩
theorem bs_304:BS prog 304 [(0,2),(2,1)] [i64 0,i64 0,zS none 0 0]:=⟨⟨_,zeroValue304,rfl⟩,_,runUnderlying304,fun w=>by simp [sizeOf218,sizeOf302]⟩
theorem aBS:FA prog 304 1 2:=⟨_,_,_,runUnderlying304,rfl,sizeOf302,rfl,rfl⟩
theorem aKt:SC prog 302:=⟨isAgg302,sizeOf302⟩
theorem aIn:SLT prog 302 267 1:=⟨runUnderlying302,sizeOf267⟩
theorem ez_267:EZ prog 267 [Value.pointer none]:=⟨⟨_,zeroValue267,rfl⟩,⟨t267,typeInfo267,by show (8:Nat)<=128;decide,rfl,by kernel_rfl,_,rfl,rfl⟩⟩
theorem aDQ:FA prog 304 0 0:=⟨_,_,_,runUnderlying304,rfl,sizeOf218,rfl,rfl⟩
theorem ar_323:ART prog 323 2 9:=⟨runUnderlying323,isAgg2,sizeOf2⟩
theorem aMt:SC prog 267:=⟨isAgg267,sizeOf267⟩
theorem ar_306:ART prog 306 9 9:=⟨runUnderlying306,isAgg9,sizeOf9⟩
theorem vP:FA prog 238 1 1:=⟨_,_,_,runUnderlying238,rfl,sizeOf129,rfl,rfl⟩
theorem bs_238:BS prog 238 [(0,1),(1,1)] [zS none 0 0,zS none 0 0]:=⟨⟨_,zeroValue238,rfl⟩,_,runUnderlying238,fun w=>by simp [sizeOf129,sizeOf40]⟩
theorem aQi:FA prog 238 0 0:=⟨_,_,_,runUnderlying238,rfl,sizeOf40,rfl,rfl⟩
theorem bs_38:BS prog 38 [(0,1),(1,1),(2,1),(3,1)] [i64 0,i64 0,zS none 0 0,zS none 0 0]:=⟨⟨_,zeroValue38,rfl⟩,_,runUnderlying38,fun w=>by simp [sizeOf2,sizeOf22,sizeOf36]⟩
theorem bs_44:BS prog 44 [(0,1),(1,1),(2,1),(3,1),(4,1)] [zS none 0 0,zS none 0 0,zS none 0 0,zS none 0 0,zS none 0 0]:=⟨⟨_,zeroValue44,rfl⟩,_,runUnderlying44,fun w=>by simp [sizeOf22,sizeOf40,sizeOf41,sizeOf42]⟩
theorem ag_33:AG prog 33 12:=⟨isAgg33,sizeOf33⟩
theorem st_114:prog.stoodInHeld 114=false:=by kernel_rfl
theorem st_135:prog.stoodInHeld 135=false:=by kernel_rfl
theorem st_218:prog.stoodInHeld 218=false:=by kernel_rfl
theorem tab_3 {G:kH} {K:Hp} {L:List eW} {w:World} (hs:aF G K L w):∃ E fr,w.heap[3]?=some (.cells ((aIi).map (fun s=>str s)).toArray E fr):=(G.laid w hs.globs).2.2.2.2.1
theorem tab_5 {G:kH} {K:Hp} {L:List eW} {w:World} (hs:aF G K L w):∃ E fr,w.heap[5]?=some (.cells ((aKq).map (fun n=>i64 n)).toArray E fr):=(G.laid w hs.globs).2.2.2.2.2
theorem eq_114 {x y:Edge}:EQT prog 114 [i64 x.F,i64 x.B,i64 x.To] [i64 y.F,i64 y.B,i64 y.To] (decide (x=y)):=by
 refine ⟨by kernel_rfl,fun w=>?_⟩
 have h2:∀ (a b:Int),(Op.equalIn 9999 2 (i64 a) (i64 b)).run prog w=.ok (a == b) w:=fun a b=>aOp 9998 (runUnderlying2 w)
 have:Op.maxDepth=9999+1:=rfl
 unfold Op.equal
 rw [this]
 unfold Op.equalIn
 simp [runUnderlying114,st_114,part,h2,isAgg2]
 cases x;cases y
 simp
 repeat' split<;>simp_all
theorem eq_135 {x y:bB}:EQT prog 135 [str x.Left,str x.Right,str x.Result] [str y.Left,str y.Right,str y.Result] (decide (x=y)):=by
 refine ⟨by kernel_rfl,fun w=>?_⟩
 have h9:∀ (a b:aL),(Op.equalIn 9999 9 (str a) (str b)).run prog w=.ok (a == b) w:=fun a b=>run_eqInS 9998 (runUnderlying9 w)
 have:Op.maxDepth=9999+1:=rfl
 unfold Op.equal
 rw [this]
 unfold Op.equalIn
 simp [runUnderlying135,st_135,part,h9,isAgg9]
 cases x;cases y
 simp
 repeat' split<;>simp_all
theorem eq_218 {x y:aR}:EQT prog 218 [i64 x.Kind,i64 x.Value] [i64 y.Kind,i64 y.Value] (decide (x=y)):=by
 refine ⟨by kernel_rfl,fun w=>?_⟩
 have h2:∀ (a b:Int),(Op.equalIn 9999 2 (i64 a) (i64 b)).run prog w=.ok (a == b) w:=fun a b=>aOp 9998 (runUnderlying2 w)
 have:Op.maxDepth=9999+1:=rfl
 unfold Op.equal
 rw [this]
 unfold Op.equalIn
 simp [runUnderlying218,st_218,part,h2,isAgg2]
 cases x;cases y
 simp
 repeat' split<;>simp_all
theorem Tryz_mixed:prog.follows .mixedOrders=true:=by kernel_rfl
abbrev zC (d:gM) (a:Option Addr) (c:Nat) (b:Option Addr) (e:Nat):List Value:=[i64 d.N,i64 d.I,Value.slice a d.L.length c,Value.slice b d.E.length e]
abbrev zCa (d:gM) (a:Option Addr) (c:Nat) (b:Option Addr) (e:Nat):Array Value:=#[i64 d.N,i64 d.I,Value.slice a d.L.length c,Value.slice b d.E.length e]
abbrev zG:List Value:=[i64 0,i64 0,Value.slice none 0 0,Value.slice none 0 0]
abbrev zGa:Array Value:=#[i64 0,i64 0,Value.slice none 0 0,Value.slice none 0 0]
abbrev zK:List Value:=[i64 0,i64 0,Value.slice none 0 0,Value.slice none 0 0,Value.slice none 0 0,Value.slice none 0 0]
abbrev zKa:Array Value:=#[i64 0,i64 0,Value.slice none 0 0,Value.slice none 0 0,Value.slice none 0 0,Value.slice none 0 0]
end Gv
namespace Gv
open Go.Value renaming slice→zS
open Gv.Hp renaming le_refl→zR
open Go Go.Proofs Go.Proofs.Tryz
theorem lJ {p:Prop} (h:p:=by first|assumption|(apply st_cK;assumption;exact jP)):p:=h
theorem st_HR {p:Prop} (h:p:=by first|assumption|(apply st_rK;assumption;exact jP)):p:=h
theorem st_S {p:Prop} (h:p:=by with_reducible first|exact cT|exact dR|exact sl_23|exact sl_26|exact aPc|exact aMj|exact aMk|exact sl_27|exact sl_28|exact sl_29|exact uU|exact qI|exact xN|exact vO|exact sB|exact aIk|exact lK|exact mP|exact nP|exact mQ|exact sl_226|exact aBR|exact sl_256|exact aIn):p:=h
theorem uJ {p:Prop} (h:p:=by with_reducible first|exact oK|exact gJ|exact aMi|exact sc_23|exact sc_283|exact sc_203|exact sc_100|exact sc_104|exact sc_27|exact sc_28|exact sc_29|exact sc_26|exact aJb|exact aOw|exact aMl|exact sc_42|exact sc_4|exact sc_5|exact aAI|exact xZ|exact aIl|exact aOx|exact sc_3|exact aDy|exact aEI|exact sc_295|exact sc_256|exact aKt|exact aMt):p:=h
theorem aDz {p:Prop} (h:p:=by with_reducible first|exact ag_67|exact ag_205|exact ag_102|exact ag_106|exact ag_109|exact ag_25|exact ag_31|exact aKr|exact aMm|exact yA|exact aGd|exact aKs|exact aIm|exact ag_128|exact ag_38|exact ag_320|exact aEH|exact ag_44|exact aMr|exact ag_260|exact ag_33):p:=h
theorem st_F {p:Prop} (h:p:=by with_reducible first|exact fa_25_2|exact fa_25_3|exact fa_67_2|exact fa_205_2|exact fa_205_3|exact fa_102_0|exact fa_102_2|exact fa_106_1|exact fa_109_0|exact fa_109_1|exact fa_109_2|exact fa_31_0|exact fa_31_1|exact fa_31_2|exact fa_31_3|exact fa_31_4|exact fa_33_0|exact fa_33_2|exact fa_33_3|exact fa_33_4|exact aGa|exact aGb|exact aJa|exact aPd|exact aPe|exact aLS|exact aAZ|exact aGS|exact aCT|exact aPf|exact aPg|exact fa_44_4|exact aCU|exact aJc|exact aLT|exact aPh|exact oL|exact aJd|exact aJe|exact oM|exact aMn|exact aBP|exact aGc|exact aBQ|exact aDP|exact aMo|exact fa_133_1|exact aMp|exact aMq|exact fa_135_2|exact aLU|exact aJf|exact aEF|exact aEG|exact aCV|exact fa_128_0|exact fa_128_1|exact fa_128_2|exact fa_25_0|exact fa_25_1|exact fa_67_0|exact fa_67_1|exact fa_67_3|exact fa_320_0|exact fa_320_1|exact fa_205_0|exact fa_205_1|exact fa_102_1|exact fa_106_0|exact fa_33_1|exact qJ|exact aMs|exact aQh|exact fa_260_1|exact aBS|exact aDQ|exact vP|exact aQi):p:=h
theorem za_38:ZA prog 38 [i64 0,i64 0,zS none 0 0,zS none 0 0]:=⟨_,zeroValue38,rfl⟩
theorem za_44:ZA prog 44 [zS none 0 0,zS none 0 0,zS none 0 0,zS none 0 0,zS none 0 0]:=⟨_,zeroValue44,rfl⟩
theorem za_46:ZA prog 46 [str ([]:aL),i64 0,i64 0,i64 0,zS none 0 0,zS none 0 0,zS none 0 0,zS none 0 0,zS none 0 0,zS none 0 0,zS none 0 0,zS none 0 0]:=⟨_,zeroValue46,rfl⟩
theorem za_83:ZA prog 83 [i64 0,i64 0,str ([]:aL),Value.bool false]:=⟨_,zeroValue83,rfl⟩
theorem za_114:ZA prog 114 [i64 0,i64 0,i64 0]:=⟨_,zeroValue114,rfl⟩
theorem za_131:ZA prog 131 [str ([]:aL),i64 0,zS none 0 0]:=⟨_,zeroValue131,rfl⟩
theorem za_133:ZA prog 133 [i64 0,zS none 0 0]:=⟨_,zeroValue133,rfl⟩
theorem za_135:ZA prog 135 [str ([]:aL),str ([]:aL),str ([]:aL)]:=⟨_,zeroValue135,rfl⟩
theorem za_170:ZA prog 170 [i64 0,i64 0,str ([]:aL),zS none 0 0]:=⟨_,zeroValue170,rfl⟩
theorem za_218:ZA prog 218 [i64 0,i64 0]:=⟨_,zeroValue218,rfl⟩
theorem za_256:ZA prog 256 [zS none 0 0]:=⟨_,zeroValue256,rfl⟩
theorem za_260:ZA prog 260 [i64 0,Value.bool false]:=⟨_,zeroValue260,rfl⟩
theorem za_295:ZA prog 295 [Value.nilFunc]:=⟨_,zeroValue295,rfl⟩
theorem st_r {p:Prop} (h:p:=by with_reducible first|exact runUnderlying2|exact runUnderlying4|exact runUnderlying5|exact runUnderlying9):p:=h
theorem st_h {p:Prop} (h:p:=by with_reducible first|exact bs_183|exact bs_260|exact bs_304|exact bs_238|exact bs_38|exact bs_44):p:=h
theorem st_e {p:Prop} (h:p:=by with_reducible first|exact xY|exact qF|exact ez_5|exact aLs|exact ez_114|exact ez_83|exact ez_218|exact ez_215|exact ez_170|exact ez_131|exact ez_133|exact ez_135|exact ez_3|exact ez_146|exact ez_260|exact ez_267):p:=h
theorem st_u {p:Prop} (h:p:=by with_reducible first|exact underlying104|exact underlying126|exact underlying181|exact underlying22|exact underlying247|exact underlying302|exact underlying5|exact underlying9):p:=h
theorem st_z {p:Prop} (h:p:=by with_reducible first|exact sizeOf104|exact sizeOf114|exact sizeOf129|exact sizeOf131|exact sizeOf133|exact sizeOf135|exact sizeOf168|exact sizeOf170|exact sizeOf181|exact sizeOf2|exact sizeOf215|exact sizeOf218|exact sizeOf22|exact sizeOf256|exact sizeOf260|exact sizeOf295|exact sizeOf302|exact sizeOf36|exact sizeOf38|exact sizeOf39|exact sizeOf4|exact sizeOf40|exact sizeOf41|exact sizeOf42|exact sizeOf44|exact sizeOf46|exact sizeOf83|exact sizeOf9):p:=h
theorem st_y {p:Prop} (h:p:=by with_reducible first|exact za_38|exact za_44|exact za_46|exact za_83|exact za_114|exact za_131|exact za_133|exact za_135|exact za_170|exact za_218|exact za_256|exact za_260|exact za_295):p:=h
theorem st_V {p:Prop} (h:p:=by first|exact V_moveC|exact V_assignC|(apply V_B;first|(apply V_add;exact cB;exact cB)|(apply V_sub;exact cB;exact cB)|(apply V_mul;exact cB;exact cB)|(apply V_lss;exact cB;exact cB)|(apply V_leq;exact cB;exact cB)|(apply V_gtr;exact cB;exact cB)|(apply V_geq;exact cB;exact cB)|(apply V_eql;exact cB;exact cB)|(apply V_neq;exact cB;exact cB)|(apply V_eqlS;exact cB;exact cB)|(apply V_neqS;exact cB;exact cB)|(apply V_lssS;exact cB;exact cB)|(apply V_leqS;exact cB;exact cB)|(apply V_gtrS;exact cB;exact cB)|(apply V_geqS;exact cB;exact cB))|exact V_moveF|exact V_assignF|(apply V_move;exact cB)|(apply V_assign;exact cB)|(apply V_fldP;exact cB;exact st_F)|(apply V_fldE;exact cB;exact lJ;exact st_F)|(apply V_fldO;exact cB;exact eU;exact aIh;exact eU;exact st_F)|(apply V_L;first|(apply V_ldB;exact cB;exact eU;exact aIh;exact rfl;exact uJ)|(apply V_ldBG;exact cB;exact eU;exact aIh;exact aDz;exact st_D)|(apply aKZ (t:=0);exact cB;exact lJ;exact eU;exact rfl;exact uJ)|(apply aKZ (t:=1);exact cB;exact lJ;exact eU;exact rfl;exact uJ)|(apply aKZ (t:=2);exact cB;exact lJ;exact eU;exact rfl;exact uJ)|(apply aKZ (t:=3);exact cB;exact lJ;exact eU;exact rfl;exact uJ)|(apply aKZ (t:=4);exact cB;exact lJ;exact eU;exact rfl;exact uJ)|(apply aKZ (t:=5);exact cB;exact lJ;exact eU;exact rfl;exact uJ)|(apply aKZ (t:=6);exact cB;exact lJ;exact eU;exact rfl;exact uJ)|(apply aKZ (t:=7);exact cB;exact lJ;exact eU;exact rfl;exact uJ)|(apply aFZ (t:=0);exact cB;exact lJ;exact eU;exact aDz;exact rfl;exact rfl)|(apply aFZ (t:=1);exact cB;exact lJ;exact eU;exact aDz;exact rfl;exact rfl)|(apply aFZ (t:=2);exact cB;exact lJ;exact eU;exact aDz;exact rfl;exact rfl)|(apply aFZ (t:=3);exact cB;exact lJ;exact eU;exact aDz;exact rfl;exact rfl)|(apply aFZ (t:=4);exact cB;exact lJ;exact eU;exact aDz;exact rfl;exact rfl)|(apply aFZ (t:=5);exact cB;exact lJ;exact eU;exact aDz;exact rfl;exact rfl)|(apply aFZ (t:=6);exact cB;exact lJ;exact eU;exact aDz;exact rfl;exact rfl)|(apply aFZ (t:=7);exact cB;exact lJ;exact eU;exact aDz;exact rfl;exact rfl)|(apply V_ldO (t:=0);exact cB;exact eU;exact aIh;exact eU;exact rfl;exact rfl;exact uJ)|(apply V_ldO (t:=1);exact cB;exact eU;exact aIh;exact eU;exact rfl;exact rfl;exact uJ)|(apply V_ldO (t:=2);exact cB;exact eU;exact aIh;exact eU;exact rfl;exact rfl;exact uJ)|(apply V_ldO (t:=3);exact cB;exact eU;exact aIh;exact eU;exact rfl;exact rfl;exact uJ)|(apply V_ldO (t:=4);exact cB;exact eU;exact aIh;exact eU;exact rfl;exact rfl;exact uJ)|(apply V_ldOG (t:=0);exact cB;exact eU;exact aIh;exact eU;exact rfl;exact aDz;exact rfl;exact rfl)|(apply V_ldOG (t:=1);exact cB;exact eU;exact aIh;exact eU;exact rfl;exact aDz;exact rfl;exact rfl)|(apply V_ldOG (t:=2);exact cB;exact eU;exact aIh;exact eU;exact rfl;exact aDz;exact rfl;exact rfl)|(apply aLb (t:=0);exact cB;exact eU;exact eU;exact jP;exact rfl;exact uJ)|(apply aLb (t:=1);exact cB;exact eU;exact eU;exact jP;exact rfl;exact uJ)|(apply aLb (t:=2);exact cB;exact eU;exact eU;exact jP;exact rfl;exact uJ)|(apply aLb (t:=3);exact cB;exact eU;exact eU;exact jP;exact rfl;exact uJ)|(apply aLb (t:=4);exact cB;exact eU;exact eU;exact jP;exact rfl;exact uJ)|(apply aLb (t:=5);exact cB;exact eU;exact eU;exact jP;exact rfl;exact uJ)|(apply aLb (t:=6);exact cB;exact eU;exact eU;exact jP;exact rfl;exact uJ)|(apply aLb (t:=7);exact cB;exact eU;exact eU;exact jP;exact rfl;exact uJ)|(apply aPa (t:=0);exact cB;exact eU;exact eU;exact jP;exact aDz;exact rfl;exact rfl)|(apply aPa (t:=1);exact cB;exact eU;exact eU;exact jP;exact aDz;exact rfl;exact rfl)|(apply aPa (t:=2);exact cB;exact eU;exact eU;exact jP;exact aDz;exact rfl;exact rfl)|(apply aPa (t:=3);exact cB;exact eU;exact eU;exact jP;exact aDz;exact rfl;exact rfl)|(apply aLa (t:=0);exact eU;exact lJ;exact cB;exact rfl;exact uJ)|(apply aLa (t:=1);exact eU;exact lJ;exact cB;exact rfl;exact uJ)|(apply aLa (t:=2);exact eU;exact lJ;exact cB;exact rfl;exact uJ)|(apply aLa (t:=3);exact eU;exact lJ;exact cB;exact rfl;exact uJ)|(apply aLa (t:=4);exact eU;exact lJ;exact cB;exact rfl;exact uJ)|(apply aLa (t:=5);exact eU;exact lJ;exact cB;exact rfl;exact uJ)|(apply aLa (t:=6);exact eU;exact lJ;exact cB;exact rfl;exact uJ)|(apply aLa (t:=7);exact eU;exact lJ;exact cB;exact rfl;exact uJ)|(apply aOZ (t:=0);exact eU;exact lJ;exact cB;exact aDz;exact rfl;exact rfl)|(apply aOZ (t:=1);exact eU;exact lJ;exact cB;exact aDz;exact rfl;exact rfl)|(apply aOZ (t:=2);exact eU;exact lJ;exact cB;exact aDz;exact rfl;exact rfl)|(apply aOZ (t:=3);exact eU;exact lJ;exact cB;exact aDz;exact rfl;exact rfl))|(apply V_lenS;exact st_S;exact cB)|(apply V_nilE;exact cB;exact lJ)|(apply V_nilP;exact cB)|(apply V_nilO;exact cB;exact eU;exact aIh;exact eU)|(apply V_ixE;exact cB;exact cB;exact st_HR;exact eU;exact rfl;exact st_S;exact rfl)|(apply V_ixO;exact cB;exact cB;exact eU;exact aIh;exact eU;exact rfl;exact st_S;exact rfl)|(apply V_extract;exact cB;exact rfl)|(apply V_pickT;exact cB;exact aLr;exact cB)|(apply V_pickF;exact cB;exact aLr;exact cB)|(apply V_not;exact cB)|(apply V_lenStr;exact st_r;exact cB)|(apply V_ixS;exact st_r;exact cB;exact cB;exact eU)|(apply V_conv64;exact st_r;exact cB;exact ⟨_,st_r⟩)|(apply V_convu8';exact st_r;exact cB;exact ⟨_,st_r⟩)|(apply V_u8sub';exact cB;exact cB)|(apply V_neg;exact cB)|(apply V_quo;exact cB;exact cB;exact eU)|(apply V_rem;exact cB;exact cB;exact eU)|(apply V_cat;exact cB;exact cB;exact eU)|(apply V_neqB;exact st_r;exact cB;exact cB)|(apply V_slSLH;exact st_r;exact cB;exact cB;exact cB;exact eU)|(apply V_slSL;exact st_r;exact cB;exact cB;exact eU)|(apply V_slSH;exact st_r;exact cB;exact cB;exact eU)|(apply V_build;exact st_h;exact rfl;exact (by kernel_rfl))|(apply aRd;exact rfl)):p:=h
theorem st_call {p:Prop} (h:p:=by with_reducible first|exact call4|exact call5|exact call6|exact call7|exact call8|exact call9|exact call10|exact call11|exact call12|exact call13|exact call14|exact call15|exact call16|exact call17|exact call18|exact call19|exact call20|exact call21|exact call22|exact call23|exact call24|exact call25|exact call26|exact call27|exact call28|exact call29|exact call30|exact call31|exact call32|exact call33|exact call34|exact call35|exact call36|exact call37|exact call38|exact call39|exact call40|exact call41|exact call42|exact call43|exact call44|exact call45|exact call46|exact call47|exact call48|exact call49|exact call50|exact call51|exact call52|exact call53|exact call54|exact call55|exact call56|exact call57|exact call58|exact call59|exact call60|exact call61|exact call62|exact call63|exact call64|exact call65|exact call66|exact call67|exact call68|exact call69|exact call70|exact call71|exact call72|exact call73|exact call74|exact call75|exact call76|exact call77|exact call78|exact call79|exact call80|exact call81|exact call82|exact call83|exact call84|exact call85|exact call86|exact call87|exact call88|exact call89|exact call90|exact call91|exact call92|exact call93|exact call94|exact call95|exact call96|exact call97|exact call98|exact call99|exact call100|exact call101|exact call102|exact call103|exact call104|exact call105|exact call107|exact call108|exact call109|exact call110|exact call111|exact call112|exact call113|exact call114|exact call115|exact call116|exact call117|exact call118|exact call119|exact call120|exact call121|exact call122|exact call123|exact call124|exact call125|exact call126|exact call127|exact call128|exact call129|exact call130|exact call131|exact call132|exact call133|exact call134|exact call135|exact call136|exact call137|exact call138|exact call139|exact call140|exact call141|exact call142|exact call143|exact call144|exact call145|exact call149|exact call154|exact call155|exact call156|exact call157|exact call158|exact call159|exact call160|exact call161|exact call162|exact call163|exact call164|exact call165|exact call166|exact call167|exact call168|exact call169|exact call170|exact call171|exact call172|exact call173|exact call174|exact call175|exact call176|exact call177|exact call178|exact call179|exact call180|exact call181|exact call182|exact call185|exact call191|exact call192|exact call193|exact call194|exact call195|exact call196|exact call197|exact call198|exact call199|exact call200|exact call202|exact call204|exact call205|exact call206|exact call207|exact call208|exact call209|exact call210|exact call211|exact call212|exact call213|exact call214|exact call215|exact call216|exact call217|exact call220|exact call221|exact call222|exact call223|exact call232|exact call233|exact call234|exact call235|exact call236|exact call237|exact call238|exact call239|exact call240|exact call241|exact call245|exact call246|exact call247|exact call248|exact call249|exact call250|exact call251|exact call252|exact call253|exact call254|exact call255|exact call256|exact call257|exact call265|exact call266|exact call267|exact call268|exact call269|exact call273|exact call274|exact call275|exact call276|exact call279):p:=h
theorem st_f {p:Prop} (h:p:=by with_reducible first|exact func3|exact func4|exact func5|exact func6|exact func7|exact func8|exact func9|exact func10|exact func11|exact func12|exact func13|exact func14|exact func15|exact func16|exact func17|exact func18|exact func19|exact func20|exact func21|exact func22|exact func23|exact func24|exact func25|exact func26|exact func27|exact func28|exact func29|exact func30|exact func31|exact func32|exact func33|exact func34|exact func35|exact func36|exact func38|exact func39|exact func40|exact func41|exact func42|exact func43|exact func44|exact func45|exact func46|exact func47|exact func48|exact func49|exact func50|exact func51|exact func52|exact func54|exact func55|exact func56|exact func57|exact func58|exact func59|exact func60|exact func61|exact func62|exact func63|exact func64|exact func65|exact func66|exact func67|exact func68|exact func69|exact func70|exact func71|exact func72|exact func73|exact func74|exact func75|exact func76|exact func77|exact func78|exact func79|exact func80|exact func81|exact func82|exact func83|exact func84|exact func85|exact func86|exact func87|exact func88|exact func89|exact func90|exact func91|exact func92|exact func93|exact func94|exact func95|exact func96|exact func97|exact func98|exact func99|exact func100|exact func102|exact func103|exact func105|exact func107|exact func108|exact func109|exact func110|exact func111|exact func112|exact func113|exact func114|exact func115|exact func116|exact func117|exact func118|exact func119|exact func120|exact func121|exact func122|exact func123|exact func124|exact func125|exact func126|exact func127|exact func128|exact func129|exact func130|exact func131|exact func132|exact func133|exact func134|exact func135|exact func136|exact func137|exact func138|exact func139|exact func140|exact func141|exact func142|exact func143|exact func144|exact func145|exact func149|exact func154|exact func155|exact func156|exact func157|exact func158|exact func159|exact func160|exact func161|exact func162|exact func163|exact func164|exact func165|exact func167|exact func169|exact func170|exact func171|exact func172|exact func173|exact func174|exact func175|exact func176|exact func177|exact func178|exact func179|exact func180|exact func181|exact func182|exact func185|exact func191|exact func192|exact func193|exact func194|exact func195|exact func196|exact func197|exact func198|exact func199|exact func200|exact func204|exact func205|exact func206|exact func207|exact func208|exact func209|exact func210|exact func211|exact func212|exact func213|exact func214|exact func215|exact func216|exact func217|exact func220|exact func221|exact func222|exact func223|exact func232|exact func233|exact func234|exact func235|exact func236|exact func237|exact func238|exact func239|exact func240|exact func241|exact func245|exact func246|exact func247|exact func248|exact func249|exact func250|exact func251|exact func252|exact func253|exact func254|exact func255|exact func256|exact func257|exact func265|exact func266|exact func267|exact func268|exact func269|exact func273|exact func274|exact func275|exact func276|exact func279):p:=h
theorem aOy {p:Prop} (h:p:=by first|((with_reducible apply rv_tmp);exact rfl;exact rfl)|((with_reducible apply V_rvG);exact cB;exact eU;exact aIh;exact aDz;exact rfl;exact rfl)|((with_reducible apply V_rvB);exact cB;exact eU;exact aIh;exact uJ;exact rfl)):p:=h
theorem st_X {p:Prop} (h:p:=by
 (repeat (first
  |exact gF
  |(with_reducible apply Exists.intro)
  |((with_reducible apply And.intro);· first|exact gF|(with_reducible assumption)|exact (Option.some.inj (by with_reducible assumption)).symm|exact rfl|assumption|exact zR _|exact jP|exact vI _|(apply st_rK;assumption;exact jP)|(apply st_cK;assumption;exact jP)|exact vH (by assumption))
  |(with_reducible assumption)|exact st_c|exact rfl|assumption));first|done|fail):p:=h
theorem aBT {p q:Prop} (k:q) (h:Hd q->p:=by
 intro hk
 (first|apply st_ca|apply st_cb|apply st_cq);exact st_call;(first|(with_reducible intro z z)|skip);(first|((with_reducible first|apply aAc|apply aFS|apply aHB|apply aJW|apply aEn|apply aJX|apply aMU|apply aFP|apply aFQ|apply aKG|apply uO|apply aAw|apply lL|apply eY|apply fD|apply aDq|apply aIy|apply aPl|apply aFO|apply aAx|apply aMS|apply xE|apply rY|apply mG|apply aKD|apply aGJ|apply aHw|apply aHx|apply aJS|apply aNW|apply aHy|apply aIv|apply aNQ|apply aMB|apply aDI|apply aLu|apply aHR|apply aMC|apply aAS|apply rE|apply oS|apply aKu|apply aGw|apply rX|apply rF|apply aCN|apply aKv|apply aMD|apply aKw|apply aME|apply aPj|apply aNR|apply aMF|apply aMG|apply aLv|apply aNS|apply aMH|apply aHu|apply aGx|apply aLw|apply aIw|apply aHv|apply aKx|apply aJK|apply aLx|apply aHS|apply aLy|apply aFE|apply aGy|apply aJL|apply aKE|apply oT|apply uP|apply jS|apply aIA|apply xF|apply iN|apply aHA|apply sC|apply xG|apply aCC|apply aFR|apply tP|apply aCD|apply aAV|apply aJT|apply aAA|apply aKy|apply aGz|apply aFF|apply aEk|apply aKz|apply aLz|apply aLA|apply aGA|apply aJM|apply aCy|apply aAM|apply aDn|apply aFG|apply aLB|apply aNT|apply aKA|apply aJN|apply aNX|apply aMV|apply aPm|apply aNY|apply aMW|apply aNZ|apply aMX|apply aLJ|apply aOa|apply aMY|apply aHC|apply aGL|apply aLK|apply aIF|apply aHD|apply aKH|apply aJY|apply aLL|apply aHY|apply xH|apply aJU|apply xS|apply lG|apply fP|apply aIB|apply aKF|apply vD|apply aIC|apply aFf|apply aAB|apply kO|apply fL|apply aJV|apply aMT|apply xT|apply jO|apply fF|apply aID|apply aIE|apply aGK|apply qD|apply aMN|apply aMO|apply aMP|apply aLF|apply aFK|apply aCA|apply aJQ|apply aGE|apply aGF|apply aFL|apply aEl|apply aHU|apply aMQ|apply aJR|apply vC|apply iS|apply aIu|apply aHt|apply tO|apply aCx|apply rD|apply aHV|apply aGG|apply aHW|apply aGH|apply aLG|apply aHX|apply aMR|apply aAT|apply aAv|apply aLH|apply aCB|apply aAU|apply aEm|apply aDp|apply aFM|apply aAb|apply oD|apply sF|apply aGI|apply iJ|apply fR|apply aFN|apply gS|apply xP|apply aMK|apply aML|apply aMM|apply aGC|apply aIx|apply aJO|apply aLD|apply aLE|apply aJP|apply aFJ|apply aHT|apply aGD|apply aNV|apply aCz|apply gR|apply kT|apply aMI|apply aDo|apply aAN|apply aKB|apply aFH|apply aGB|apply aNU|apply aFI|apply aMJ|apply aLC|apply aPk|apply aKC);with_reducible assumption)|(with_reducible apply aCE;with_reducible assumption)|(with_reducible apply aCF;with_reducible assumption)|(with_reducible apply yV;with_reducible assumption)|(with_reducible apply jT;with_reducible assumption)|(with_reducible apply tQ;with_reducible assumption)|(with_reducible apply tR;with_reducible assumption)|(with_reducible apply aFg;with_reducible assumption)|(with_reducible apply jU;with_reducible assumption)|(with_reducible apply tS;with_reducible assumption)|(with_reducible apply tT;with_reducible assumption)|(with_reducible apply aFh;with_reducible assumption)|(with_reducible apply aAy;with_reducible assumption)|(with_reducible apply aAz;with_reducible assumption)|(with_reducible apply aIz;with_reducible assumption)|(with_reducible apply bN;with_reducible assumption)|(with_reducible apply xQ;with_reducible assumption)|(with_reducible apply xR;with_reducible assumption)|(with_reducible apply aHz;with_reducible assumption)|(with_reducible apply jD;with_reducible assumption)|(with_reducible apply eZ;with_reducible assumption)|(with_reducible apply nM;with_reducible assumption)|(with_reducible apply nN;with_reducible assumption)|(with_reducible apply qC;with_reducible assumption)|(with_reducible apply aDr;with_reducible assumption)|(with_reducible apply aDs;with_reducible assumption)|(with_reducible apply aLI;with_reducible assumption)|(with_reducible apply mL;with_reducible assumption)|(with_reducible apply lib_Cut;all_goals (try with_reducible assumption))|(with_reducible apply lib_Split;all_goals (try with_reducible assumption))|(with_reducible apply aMA;all_goals (try with_reducible assumption))|(with_reducible apply nL;all_goals (try with_reducible assumption))|(with_reducible apply aLt;all_goals (try with_reducible assumption))|(with_reducible apply aNm;all_goals (try with_reducible assumption))|(with_reducible apply lib_Swap;all_goals (try with_reducible assumption)));(case hv=>exact rfl);(repeat (first|assumption|exact st_c|(apply st_rK;assumption;exact jP)|(apply st_cK;assumption;exact jP)|exact vI _|exact jP|exact zR _|exact rfl|exact vH (by assumption)));exact hk.k;first|done|fail):p:=h ⟨k⟩
set_option maxRecDepth 100000 in
theorem aE {p:Prop} (h:p:=by
 repeat' (first
  |(apply st_i;exact cB;exact cB;exact eU;exact eU;exact rfl;exact st_S;exact rfl;intro z z zr;first|(have zr:=st_pd zr;subst zr)|obtain ⟨z,z,rfl,z⟩:=zr|obtain ⟨z,z,z,z,rfl,z,z⟩:=zr|obtain ⟨z,z,z,z,z,z,rfl,z,z,z⟩:=zr|obtain ⟨z,z,z,z,z,z,z,z,rfl,z,z,z,z⟩:=zr)
  |(apply st_iQ;exact cB;exact cB;exact eU;exact eU;exact rfl;exact st_S;exact rfl;intro z z zr;first|(have zr:=st_pd zr;subst zr)|obtain ⟨z,z,rfl,z⟩:=zr|obtain ⟨z,z,z,z,rfl,z,z⟩:=zr|obtain ⟨z,z,z,z,z,z,rfl,z,z,z⟩:=zr|obtain ⟨z,z,z,z,z,z,z,z,rfl,z,z,z,z⟩:=zr)
  |(apply st_iE;exact rfl;exact cB;exact cB;exact eU;exact eU;exact rfl;exact st_S;exact rfl;intro z z zr;first|(have zr:=st_pd zr;subst zr)|obtain ⟨z,z,rfl,z⟩:=zr|obtain ⟨z,z,z,z,rfl,z,z⟩:=zr|obtain ⟨z,z,z,z,z,z,rfl,z,z,z⟩:=zr|obtain ⟨z,z,z,z,z,z,z,z,rfl,z,z,z,z⟩:=zr)
  |(apply VO;exact st_V)
  |(apply VQ;intro _ _;exact st_V)
  |(apply bP)
  |with_reducible apply aD
  |with_reducible apply eL
  |(apply aH)
  |(apply bK)
  |(apply aU)
  |(apply aON)
  |(apply V_condT;exact cB;exact aLr)
  |(apply V_condF;exact cB;exact aLr)
  |with_reducible apply aEy
  |with_reducible apply aIR
  |(with_reducible apply blockQ_ne;exact rfl)
  |(apply V_onT;exact rfl;exact cB;exact aLr)
  |(apply V_onF;exact rfl;exact cB;exact aLr)
  |(apply V_offF;exact rfl;exact cB;exact aLr)
  |(apply V_offT;exact rfl;exact cB;exact aLr)
  |(apply Q_onT;exact rfl;exact cB;exact aLr)
  |(apply Q_onF;exact rfl;exact cB;exact aLr)
  |(apply Q_offF;exact rfl;exact cB;exact aLr)
  |(apply Q_offT;exact rfl;exact cB;exact aLr)
  |(apply aDM;exact rfl;exact cB)
  |(apply WQ_off_u;exact rfl;exact cB)
  |(apply V_WE;exact rfl;rintro _ ⟨_,_⟩;exact st_V)
  |(apply V_WT;exact rfl;intro _;exact st_V)
  |apply aAP
  |with_reducible apply aEz
  |with_reducible apply blockQ_r
  |exact st_X
  |(apply xU;exact rfl;exact rfl;refine aLc hm (fun z=>?_);subst z;exact st_X)
  |(apply retQ_2;exact rfl;exact rfl;exact rfl;refine aLc hm (fun z=>?_);subst z;exact st_X)
  |(apply retQ_3;exact rfl;exact rfl;exact rfl;exact rfl;refine aLc hm (fun z=>?_);subst z;exact st_X)
  |(apply retQ_m1;exact rfl;exact aOy;refine aLc hm (fun z=>?_);subst z;exact st_X)
  |(apply retQ_m2;exact rfl;exact aOy;exact aOy;refine aLc hm (fun z=>?_);subst z;exact st_X)
  |(apply retQ_m3;exact rfl;exact aOy;exact aOy;exact aOy;refine aLc hm (fun z=>?_);subst z;exact st_X)
  |(apply retQ_0n;exact rfl;refine aLc hm (fun z=>?_);subst z;exact st_X)
  |(apply retQ_0;exact rfl;refine aLc hm (fun z=>?_);subst z;exact st_X)
  |(refine st_I st_f ?_)
  |intro (hm:(_:Option _)=some _)
  |intro (hr:∀ r',_=Sum.inr r'->_)
  |(with_reducible refine aAQ fun z=>?_)
  |(with_reducible refine aAR ?_)
  |(intro (zv:(_:Value)=_);subst zv)
  |intro z
  |((with_reducible apply st_we);first|exact ⟨_,by assumption⟩|exact ⟨_,aF.weakK (by assumption) jP⟩)
  |(apply vM;exact rfl)
  |(apply WE_s;exact rfl)
  |apply WE_nil
  |(have zq:=hr _ (Option.some.inj hm).symm;subst zq;have hm:=ho;clear hr ho;try dsimp only at hm)
  |obtain ⟨z,z,hm⟩:=aB hm
  |exact st_no hm
  |refine st_a (fun z z z=>?_)
  |refine st_s (fun z z=>?_)
  |refine st_x (fun z z z=>?_)
  |refine st_ba (by with_reducible assumption) (fun z z z=>?_)
  |refine st_b (T:=104) ([]:List Int) (fun z z z=>?_)
  |refine st_b (T:=126) ([]:List UInt8) (fun z z z=>?_)
  |refine st_b (T:=22) ([]:List aL) (fun z z z=>?_)
  |refine st_b (T:=247) ([]:List Bool) (fun z z z=>?_)
  |refine st_p (fun z z z z=>?_)
  |(apply st_q2;exact cB;exact cB;(first|assumption|(apply st_rK;assumption;exact jP));assumption;exact st_M;assumption;exact st_S;exact st_u;exact st_e;exact rfl;exact rfl;exact rfl;exact rfl;intro z z z z)
  |(apply uH;intro z z)
  |refine st_k ?_
  |(apply bJ)
  |(refine aBT ?_;first|(intro z z;repeat (first|(with_reducible refine aAQ fun z=>?_)|with_reducible refine aAR ?_|(intro (zv:(_:Value)=_);subst zv)|intro z))|skip)
  |((first|(apply lO;(with_reducible assumption);exact .head;(first|exact zR _|exact jP);intro zK zh zr zs bk)|(apply lP;(with_reducible assumption);exact .head;intro zK zh zr zs bk));refine aBT ?_;(first|(intro z z;repeat (first|(with_reducible refine aAQ fun z=>?_)|with_reducible refine aAR ?_|(intro (zv:(_:Value)=_);subst zv)|intro z))|skip);(have z:=bk _ _ (by with_reducible assumption);clear bk))
  |((first|(apply lO;(with_reducible assumption);exact zt1;(first|exact zR _|exact jP);intro zK zh zr zs bk)|(apply lP;(with_reducible assumption);exact zt1;intro zK zh zr zs bk));refine aBT ?_;(first|(intro z z;repeat (first|(with_reducible refine aAQ fun z=>?_)|with_reducible refine aAR ?_|(intro (zv:(_:Value)=_);subst zv)|intro z))|skip);(have z:=bk _ _ (by with_reducible assumption);clear bk))
  |((first|(apply lO;(with_reducible assumption);exact zt2;(first|exact zR _|exact jP);intro zK zh zr zs bk)|(apply lP;(with_reducible assumption);exact zt2;intro zK zh zr zs bk));refine aBT ?_;(first|(intro z z;repeat (first|(with_reducible refine aAQ fun z=>?_)|with_reducible refine aAR ?_|(intro (zv:(_:Value)=_);subst zv)|intro z))|skip);(have z:=bk _ _ (by with_reducible assumption);clear bk))
  |((first|(apply lO;(with_reducible assumption);exact zt3;(first|exact zR _|exact jP);intro zK zh zr zs bk)|(apply lP;(with_reducible assumption);exact zt3;intro zK zh zr zs bk));refine aBT ?_;(first|(intro z z;repeat (first|(with_reducible refine aAQ fun z=>?_)|with_reducible refine aAR ?_|(intro (zv:(_:Value)=_);subst zv)|intro z))|skip);(have z:=bk _ _ (by with_reducible assumption);clear bk))
  |((first|(apply lO;(with_reducible assumption);exact zt4;(first|exact zR _|exact jP);intro zK zh zr zs bk)|(apply lP;(with_reducible assumption);exact zt4;intro zK zh zr zs bk));refine aBT ?_;(first|(intro z z;repeat (first|(with_reducible refine aAQ fun z=>?_)|with_reducible refine aAR ?_|(intro (zv:(_:Value)=_);subst zv)|intro z))|skip);(have z:=bk _ _ (by with_reducible assumption);clear bk))
  |((first|(apply lO;(with_reducible assumption);exact .head;(first|exact zR _|exact jP);intro zK zh zr zs bk)|(apply lP;(with_reducible assumption);exact .head;intro zK zh zr zs bk));(first|(apply lO;(with_reducible assumption);exact .head;(first|exact zR _|exact jP);intro zK zh zr zs bk)|(apply lP;(with_reducible assumption);exact .head;intro zK zh zr zs bk));refine aBT ?_;(first|(intro z z;repeat (first|(with_reducible refine aAQ fun z=>?_)|with_reducible refine aAR ?_|(intro (zv:(_:Value)=_);subst zv)|intro z))|skip);(have z:=bk _ _ (by with_reducible assumption);clear bk);(have z:=bk _ _ (by with_reducible assumption);clear bk))
  |((first|(apply lO;(with_reducible assumption);exact zt1;(first|exact zR _|exact jP);intro zK zh zr zs bk)|(apply lP;(with_reducible assumption);exact zt1;intro zK zh zr zs bk));(first|(apply lO;(with_reducible assumption);exact zt1;(first|exact zR _|exact jP);intro zK zh zr zs bk)|(apply lP;(with_reducible assumption);exact zt1;intro zK zh zr zs bk));refine aBT ?_;(first|(intro z z;repeat (first|(with_reducible refine aAQ fun z=>?_)|with_reducible refine aAR ?_|(intro (zv:(_:Value)=_);subst zv)|intro z))|skip);(have z:=bk _ _ (by with_reducible assumption);clear bk);(have z:=bk _ _ (by with_reducible assumption);clear bk))
  |((first|(apply lO;(with_reducible assumption);exact zt1;(first|exact zR _|exact jP);intro zK zh zr zs bk)|(apply lP;(with_reducible assumption);exact zt1;intro zK zh zr zs bk));(first|(apply lO;(with_reducible assumption);exact .head;(first|exact zR _|exact jP);intro zK zh zr zs bk)|(apply lP;(with_reducible assumption);exact .head;intro zK zh zr zs bk));refine aBT ?_;(first|(intro z z;repeat (first|(with_reducible refine aAQ fun z=>?_)|with_reducible refine aAR ?_|(intro (zv:(_:Value)=_);subst zv)|intro z))|skip);(have z:=bk _ _ (by with_reducible assumption);clear bk);(have z:=bk _ _ (by with_reducible assumption);clear bk))
  |((first|(apply lO;(with_reducible assumption);exact zt2;(first|exact zR _|exact jP);intro zK zh zr zs bk)|(apply lP;(with_reducible assumption);exact zt2;intro zK zh zr zs bk));(first|(apply lO;(with_reducible assumption);exact zt1;(first|exact zR _|exact jP);intro zK zh zr zs bk)|(apply lP;(with_reducible assumption);exact zt1;intro zK zh zr zs bk));refine aBT ?_;(first|(intro z z;repeat (first|(with_reducible refine aAQ fun z=>?_)|with_reducible refine aAR ?_|(intro (zv:(_:Value)=_);subst zv)|intro z))|skip);(have z:=bk _ _ (by with_reducible assumption);clear bk);(have z:=bk _ _ (by with_reducible assumption);clear bk))
  |((first|(apply lO;(with_reducible assumption);exact zt2;(first|exact zR _|exact jP);intro zK zh zr zs bk)|(apply lP;(with_reducible assumption);exact zt2;intro zK zh zr zs bk));(first|(apply lO;(with_reducible assumption);exact zt1;(first|exact zR _|exact jP);intro zK zh zr zs bk)|(apply lP;(with_reducible assumption);exact zt1;intro zK zh zr zs bk));(first|(apply lO;(with_reducible assumption);exact zt1;(first|exact zR _|exact jP);intro zK zh zr zs bk)|(apply lP;(with_reducible assumption);exact zt1;intro zK zh zr zs bk));refine aBT ?_;(first|(intro z z;repeat (first|(with_reducible refine aAQ fun z=>?_)|with_reducible refine aAR ?_|(intro (zv:(_:Value)=_);subst zv)|intro z))|skip);(have z:=bk _ _ (by with_reducible assumption);clear bk);(have z:=bk _ _ (by with_reducible assumption);clear bk);(have z:=bk _ _ (by with_reducible assumption);clear bk))
  |((first|(apply lO;(with_reducible assumption);exact .head;(first|exact zR _|exact jP);intro zK zh zr zs bk)|(apply lP;(with_reducible assumption);exact .head;intro zK zh zr zs bk));(first|(apply lO;(with_reducible assumption);exact .head;(first|exact zR _|exact jP);intro zK zh zr zs bk)|(apply lP;(with_reducible assumption);exact .head;intro zK zh zr zs bk));(first|(apply lO;(with_reducible assumption);exact .head;(first|exact zR _|exact jP);intro zK zh zr zs bk)|(apply lP;(with_reducible assumption);exact .head;intro zK zh zr zs bk));refine aBT ?_;(first|(intro z z;repeat (first|(with_reducible refine aAQ fun z=>?_)|with_reducible refine aAR ?_|(intro (zv:(_:Value)=_);subst zv)|intro z))|skip);(have z:=bk _ _ (by with_reducible assumption);clear bk);(have z:=bk _ _ (by with_reducible assumption);clear bk);(have z:=bk _ _ (by with_reducible assumption);clear bk))
  |((first|(apply lO;(with_reducible assumption);exact zt1;(first|exact zR _|exact jP);intro zK zh zr zs bk)|(apply lP;(with_reducible assumption);exact zt1;intro zK zh zr zs bk));(first|(apply lO;(with_reducible assumption);exact zt1;(first|exact zR _|exact jP);intro zK zh zr zs bk)|(apply lP;(with_reducible assumption);exact zt1;intro zK zh zr zs bk));(first|(apply lO;(with_reducible assumption);exact zt1;(first|exact zR _|exact jP);intro zK zh zr zs bk)|(apply lP;(with_reducible assumption);exact zt1;intro zK zh zr zs bk));refine aBT ?_;(first|(intro z z;repeat (first|(with_reducible refine aAQ fun z=>?_)|with_reducible refine aAR ?_|(intro (zv:(_:Value)=_);subst zv)|intro z))|skip);(have z:=bk _ _ (by with_reducible assumption);clear bk);(have z:=bk _ _ (by with_reducible assumption);clear bk);(have z:=bk _ _ (by with_reducible assumption);clear bk))
  |((first|(apply lO;(with_reducible assumption);exact zt3;(first|exact zR _|exact jP);intro zK zh zr zs bk)|(apply lP;(with_reducible assumption);exact zt3;intro zK zh zr zs bk));(first|(apply lO;(with_reducible assumption);exact zt2;(first|exact zR _|exact jP);intro zK zh zr zs bk)|(apply lP;(with_reducible assumption);exact zt2;intro zK zh zr zs bk));(first|(apply lO;(with_reducible assumption);exact zt2;(first|exact zR _|exact jP);intro zK zh zr zs bk)|(apply lP;(with_reducible assumption);exact zt2;intro zK zh zr zs bk));refine aBT ?_;(first|(intro z z;repeat (first|(with_reducible refine aAQ fun z=>?_)|with_reducible refine aAR ?_|(intro (zv:(_:Value)=_);subst zv)|intro z))|skip);(have z:=bk _ _ (by with_reducible assumption);clear bk);(have z:=bk _ _ (by with_reducible assumption);clear bk);(have z:=bk _ _ (by with_reducible assumption);clear bk))
  |((first|(apply lO;(with_reducible assumption);exact .head;(first|exact zR _|exact jP);intro zK zh zr zs bk)|(apply lP;(with_reducible assumption);exact .head;intro zK zh zr zs bk));(first|(apply lO;(with_reducible assumption);exact .head;(first|exact zR _|exact jP);intro zK zh zr zs bk)|(apply lP;(with_reducible assumption);exact .head;intro zK zh zr zs bk));(first|(apply lO;(with_reducible assumption);exact .head;(first|exact zR _|exact jP);intro zK zh zr zs bk)|(apply lP;(with_reducible assumption);exact .head;intro zK zh zr zs bk));(first|(apply lO;(with_reducible assumption);exact .head;(first|exact zR _|exact jP);intro zK zh zr zs bk)|(apply lP;(with_reducible assumption);exact .head;intro zK zh zr zs bk));refine aBT ?_;(first|(intro z z;repeat (first|(with_reducible refine aAQ fun z=>?_)|with_reducible refine aAR ?_|(intro (zv:(_:Value)=_);subst zv)|intro z))|skip);(have z:=bk _ _ (by with_reducible assumption);clear bk);(have z:=bk _ _ (by with_reducible assumption);clear bk);(have z:=bk _ _ (by with_reducible assumption);clear bk);(have z:=bk _ _ (by with_reducible assumption);clear bk))
  |((first|(with_reducible apply st_g0)|(with_reducible apply st_g1)|(with_reducible apply st_g2)|(with_reducible apply st_g3)|(apply st_g4;exact rfl));rcases aI hm with ⟨z,hm⟩|⟨z,hm⟩))):p:=h
end Gv
