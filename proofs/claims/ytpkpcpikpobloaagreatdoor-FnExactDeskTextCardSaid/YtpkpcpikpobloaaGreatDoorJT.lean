/- Readings of the program's data; what is known of its types. -/
import Derived.Test.YtpkpcpikpobloaaGreatDoorJYS
import Derived.Test.YtpkpcpikpobloaaGreatDoorProg
set_option linter.all false
namespace Gv
open Go.Value renaming slice→zS,bool→zB
open Gv.Hp renaming le_trans→zL
open Go Go.Proofs Go.Proofs.Tryz
instance:iR Edge where
 sz:=3
 enc d:=[i64 d.F,i64 d.B,i64 d.To]
 len _:=rfl
 one _ v h:=by simp at h;rcases h with rfl|rfl|rfl<;>rfl
 pos:=by decide
instance:El gM where
 sz:=4
 rd K cs d:=∃ (a0:Option Addr) (c0:Nat) (a1:Option Addr) (c1:Nat),cs=[i64 d.N,i64 d.I,zS a0 d.L.length c0,zS a1 d.E.length c1]/\aX K a0 c0 d.L/\aX K a1 c1 d.E
 mono:=fun h ⟨a0,c0,a1,c1,e,h0,h1⟩=>⟨a0,c0,a1,c1,e,h0.mono h,h1.mono h⟩
 len:=fun ⟨_,_,_,_,e,_⟩=>by rw [e];rfl
 one:=fun ⟨_,_,_,_,e,_⟩ v hv=>by rw [e] at hv;simp at hv;rcases hv with rfl|rfl|rfl|rfl<;>rfl
 pos:=by decide
instance:iR bI where
 sz:=4
 enc d:=[i64 d.Kind,i64 d.Variable,str d.B,zB d.Not]
 len _:=rfl
 one _ v h:=by simp at h;rcases h with rfl|rfl|rfl|rfl<;>rfl
 pos:=by decide
instance:iR aS where
 sz:=2
 enc d:=[i64 d.Kind,i64 d.Value]
 len _:=rfl
 one _ v h:=by simp at h;rcases h with rfl|rfl<;>rfl
 pos:=by decide
instance:El bH where
 sz:=4
 rd K cs d:=∃ (a0:Option Addr) (c0:Nat),cs=[i64 d.Kind,i64 d.Number,str d.Name,zS a0 d.Arguments.length c0]/\aX K a0 c0 d.Arguments
 mono:=fun h ⟨a0,c0,e,h0⟩=>⟨a0,c0,e,h0.mono h⟩
 len:=fun ⟨_,_,e,_⟩=>by rw [e];rfl
 one:=fun ⟨_,_,e,_⟩ v hv=>by rw [e] at hv;simp at hv;rcases hv with rfl|rfl|rfl|rfl<;>rfl
 pos:=by decide
instance:El Definition where
 sz:=3
 rd K cs d:=∃ (a0:Option Addr) (c0:Nat),cs=[str d.Name,i64 d.Parameters,zS a0 d.Body.length c0]/\aX K a0 c0 d.Body
 mono:=fun h ⟨a0,c0,e,h0⟩=>⟨a0,c0,e,h0.mono h⟩
 len:=fun ⟨_,_,e,_⟩=>by rw [e];rfl
 one:=fun ⟨_,_,e,_⟩ v hv=>by rw [e] at hv;simp at hv;rcases hv with rfl|rfl|rfl<;>rfl
 pos:=by decide
instance:El bA where
 sz:=2
 rd K cs d:=∃ (a0:Option Addr) (c0:Nat),cs=[i64 d.Definition,zS a0 d.Values.length c0]/\aX K a0 c0 d.Values
 mono:=fun h ⟨a0,c0,e,h0⟩=>⟨a0,c0,e,h0.mono h⟩
 len:=fun ⟨_,_,e,_⟩=>by rw [e];rfl
 one:=fun ⟨_,_,e,_⟩ v hv=>by rw [e] at hv;simp at hv;rcases hv with rfl|rfl<;>rfl
 pos:=by decide
instance:iR bD where
 sz:=3
 enc d:=[str d.Left,str d.Right,str d.Result]
 len _:=rfl
 one _ v h:=by simp at h;rcases h with rfl|rfl|rfl<;>rfl
 pos:=by decide
instance:El bM where
 sz:=5
 rd K cs d:=∃ (a0:Option Addr) (c0:Nat) (a1:Option Addr) (c1:Nat) (a2:Option Addr) (c2:Nat) (a3:Option Addr) (c3:Nat) (a4:Option Addr) (c4:Nat),cs=[zS a0 d.Definitions.length c0,zS a1 d.Components.length c1,zS a2 d.Meetings.length c2,zS a3 d.Allowed.length c3,zS a4 d.Hidden.length c4]/\aX K a0 c0 d.Definitions/\aX K a1 c1 d.Components/\aX K a2 c2 d.Meetings/\aX K a3 c3 d.Allowed/\aX K a4 c4 d.Hidden
 mono:=fun h ⟨a0,c0,a1,c1,a2,c2,a3,c3,a4,c4,e,h0,h1,h2,h3,h4⟩=>⟨a0,c0,a1,c1,a2,c2,a3,c3,a4,c4,e,h0.mono h,h1.mono h,h2.mono h,h3.mono h,h4.mono h⟩
 len:=fun ⟨_,_,_,_,_,_,_,_,_,_,e,_⟩=>by rw [e];rfl
 one:=fun ⟨_,_,_,_,_,_,_,_,_,_,e,_⟩ v hv=>by rw [e] at hv;simp at hv;rcases hv with rfl|rfl|rfl|rfl|rfl<;>rfl
 pos:=by decide
instance:El Kept where
 sz:=12
 rd K cs d:=∃ (a0:Option Addr) (c0:Nat) (a1:Option Addr) (c1:Nat) (a2:Option Addr) (c2:Nat) (a3:Option Addr) (c3:Nat) (a4:Option Addr) (c4:Nat) (a5:Option Addr) (c5:Nat) (a6:Option Addr) (c6:Nat) (a7:Option Addr) (c7:Nat),cs=[str d.Name,i64 d.Kind,i64 d.S.N,i64 d.S.I,zS a0 d.S.L.length c0,zS a1 d.S.E.length c1,zS a2 d.Formula.length c2,zS a3 d.Source.Definitions.length c3,zS a4 d.Source.Components.length c4,zS a5 d.Source.Meetings.length c5,zS a6 d.Source.Allowed.length c6,zS a7 d.Source.Hidden.length c7]/\aX K a0 c0 d.S.L/\aX K a1 c1 d.S.E/\aX K a2 c2 d.Formula/\aX K a3 c3 d.Source.Definitions/\aX K a4 c4 d.Source.Components/\aX K a5 c5 d.Source.Meetings/\aX K a6 c6 d.Source.Allowed/\aX K a7 c7 d.Source.Hidden
 mono:=fun h ⟨a0,c0,a1,c1,a2,c2,a3,c3,a4,c4,a5,c5,a6,c6,a7,c7,e,h0,h1,h2,h3,h4,h5,h6,h7⟩=>⟨a0,c0,a1,c1,a2,c2,a3,c3,a4,c4,a5,c5,a6,c6,a7,c7,e,h0.mono h,h1.mono h,h2.mono h,h3.mono h,h4.mono h,h5.mono h,h6.mono h,h7.mono h⟩
 len:=fun ⟨_,_,_,_,_,_,_,_,_,_,_,_,_,_,_,_,e,_⟩=>by rw [e];rfl
 one:=fun ⟨_,_,_,_,_,_,_,_,_,_,_,_,_,_,_,_,e,_⟩ v hv=>by rw [e] at hv;simp at hv;rcases hv with rfl|rfl|rfl|rfl|rfl|rfl|rfl|rfl|rfl|rfl|rfl|rfl<;>rfl
 pos:=by decide
instance:El pR where
 sz:=1
 rd K cs d:=∃ (a0:Option Addr) (c0:Nat),cs=[zS a0 d.Kept.length c0]/\aX K a0 c0 d.Kept
 mono:=fun h ⟨a0,c0,e,h0⟩=>⟨a0,c0,e,h0.mono h⟩
 len:=fun ⟨_,_,e,_⟩=>by rw [e];rfl
 one:=fun ⟨_,_,e,_⟩ v hv=>by rw [e] at hv;simp at hv;rcases hv with rfl<;>rfl
 pos:=by decide
instance:iR dK where
 sz:=2
 enc d:=[i64 d.scope,zB d.behind]
 len _:=rfl
 one _ v h:=by simp at h;rcases h with rfl|rfl<;>rfl
 pos:=by decide
instance:Dp bH where
 Hd:=((Option Addr × Nat) × List (Dp.Hd (List aS)))
 sz1:=3
 enc hd x:=[i64 x.Kind,i64 x.Number,str x.Name,.slice hd.1.1 x.Arguments.length hd.1.2]
 pcs tys hd x:=[aV (tys.headD 0) Hp.nil hd.1.1 hd.1.2 (cG hd.2 x.Arguments),aMV [(tys.tail.headD 0)] hd.2 x.Arguments]
 len _ _:=rfl
 one _ _ v h:=by simp at h;rcases h with rfl|rfl|rfl|rfl<;>rfl
instance:DpEl bH where
 sz:=rfl
 rd:=fun {tys hd x h K} a hK=>by
  obtain ⟨p0,r0,b0,_,l0,m0,a⟩:=a
  obtain ⟨p1,r1,b1,_,l1,m1,a⟩:=a
  exact ⟨hd.1.1,hd.1.2,rfl,nest_rd b0 b1 (zL l0 (hK)) (zL l1 (zL m0 (hK)))⟩
theorem aQa (tys:List TypeId):fR (Dp.pcs tys (((none,0),[]):Dp.Hd bH) (⟨0,0,[],[]⟩:bH)) Hp.nil:=
 aQW _ _ (trivial)
instance:Dp Definition where
 Hd:=((Option Addr × Nat) × List (Dp.Hd bH))
 sz1:=2
 enc hd x:=[str x.Name,i64 x.Parameters,.slice hd.1.1 x.Body.length hd.1.2]
 pcs tys hd x:=[aV (tys.headD 0) Hp.nil hd.1.1 hd.1.2 (cG hd.2 x.Body),aMV [(tys.tail.headD 0),(tys.tail.tail.headD 0)] hd.2 x.Body]
 len _ _:=rfl
 one _ _ v h:=by simp at h;rcases h with rfl|rfl|rfl<;>rfl
instance:DpEl Definition where
 sz:=rfl
 rd:=fun {tys hd x h K} a hK=>by
  obtain ⟨p0,r0,b0,_,l0,m0,a⟩:=a
  obtain ⟨p1,r1,b1,_,l1,m1,a⟩:=a
  exact ⟨hd.1.1,hd.1.2,rfl,nest_rd b0 b1 (zL l0 (hK)) (zL l1 (zL m0 (hK)))⟩
theorem aIQ (tys:List TypeId):fR (Dp.pcs tys (((none,0),[]):Dp.Hd Definition) (⟨[],0,[]⟩:Definition)) Hp.nil:=
 aQW _ _ (trivial)
instance:Dp bA where
 Hd:=(Option Addr × Nat)
 sz1:=1
 enc hd x:=[i64 x.Definition,.slice hd.1 x.Values.length hd.2]
 pcs tys hd x:=[aV (tys.headD 0) Hp.nil hd.1 hd.2 x.Values]
 len _ _:=rfl
 one _ _ v h:=by simp at h;rcases h with rfl|rfl<;>rfl
instance:DpEl bA where
 sz:=rfl
 rd:=fun {tys hd x h K} a hK=>by
  obtain ⟨p0,r0,b0,_,l0,m0,a⟩:=a
  exact ⟨hd.1,hd.2,rfl,aV.rd b0 (zL l0 (hK)) (Hp.nil_le _)⟩
theorem aJI (tys:List TypeId):fR (Dp.pcs tys ((none,0):Dp.Hd bA) (⟨0,[]⟩:bA)) Hp.nil:=
 ⟨Hp.nil,Hp.nil,aV.nil _ _ _,Hp.nil_dj _,Hp.nil_le _,Hp.nil_le _,trivial⟩
theorem cU:zX prog 39 9 1:=⟨runUnderlying39,sizeOf9⟩
theorem nV:SC prog 9:=⟨isAgg9,sizeOf9⟩
theorem dW:zX prog 108 2 1:=⟨runUnderlying108,sizeOf2⟩
theorem yK:EZ prog 2 [i64 0]:=⟨⟨_,zeroValue2,rfl⟩,⟨t2,typeInfo2,by show (8:Nat)<=128;decide,rfl,by kernel_rfl,_,rfl,rfl⟩⟩
theorem pT:EZ prog 9 [str []]:=⟨⟨_,zeroValue9,rfl⟩,⟨t9,typeInfo9,by show (16:Nat)<=128;decide,rfl,by kernel_rfl,_,rfl,rfl⟩⟩
theorem gH:SC prog 2:=⟨isAgg2,sizeOf2⟩
theorem sl_56:zX prog 56 199 3:=⟨runUnderlying56,sizeOf199⟩
theorem fa_58_2:FA prog 58 2 2:=⟨_,_,_,runUnderlying58,rfl,sizeOf39,rfl,rfl⟩
theorem aMW:SC prog 39:=⟨isAgg39,sizeOf39⟩
theorem fa_58_3:FA prog 58 3 3:=⟨_,_,_,runUnderlying58,rfl,sizeOf56,rfl,rfl⟩
theorem sc_56:SC prog 56:=⟨isAgg56,sizeOf56⟩
theorem fa_120_2:FA prog 120 2 2:=⟨_,_,_,runUnderlying120,rfl,sizeOf9,rfl,rfl⟩
theorem sl_59:zX prog 59 120 4:=⟨runUnderlying59,sizeOf120⟩
theorem ag_120:AG prog 120 4:=⟨isAgg120,sizeOf120⟩
theorem aQb:zX prog 333 344 2:=⟨runUnderlying333,sizeOf344⟩
theorem aMX:zX prog 274 333 1:=⟨runUnderlying274,sizeOf333⟩
theorem sc_333:SC prog 333:=⟨isAgg333,sizeOf333⟩
theorem fa_276_2:FA prog 276 2 2:=⟨_,_,_,runUnderlying276,rfl,sizeOf9,rfl,rfl⟩
theorem fa_276_3:FA prog 276 3 3:=⟨_,_,_,runUnderlying276,rfl,sizeOf274,rfl,rfl⟩
theorem sc_274:SC prog 274:=⟨isAgg274,sizeOf274⟩
theorem aMY:zX prog 185 276 4:=⟨runUnderlying185,sizeOf276⟩
theorem ag_276:AG prog 276 4:=⟨isAgg276,sizeOf276⟩
theorem fa_187_0:FA prog 187 0 0:=⟨_,_,_,runUnderlying187,rfl,sizeOf9,rfl,rfl⟩
theorem fa_187_2:FA prog 187 2 2:=⟨_,_,_,runUnderlying187,rfl,sizeOf185,rfl,rfl⟩
theorem sc_185:SC prog 185:=⟨isAgg185,sizeOf185⟩
theorem sl_60:zX prog 60 187 3:=⟨runUnderlying60,sizeOf187⟩
theorem ag_187:AG prog 187 3:=⟨isAgg187,sizeOf187⟩
theorem fa_189_1:FA prog 189 1 1:=⟨_,_,_,runUnderlying189,rfl,sizeOf108,rfl,rfl⟩
theorem sc_108:SC prog 108:=⟨isAgg108,sizeOf108⟩
theorem sl_61:zX prog 61 189 2:=⟨runUnderlying61,sizeOf189⟩
theorem ag_189:AG prog 189 2:=⟨isAgg189,sizeOf189⟩
theorem fa_191_0:FA prog 191 0 0:=⟨_,_,_,runUnderlying191,rfl,sizeOf9,rfl,rfl⟩
theorem fa_191_1:FA prog 191 1 1:=⟨_,_,_,runUnderlying191,rfl,sizeOf9,rfl,rfl⟩
theorem fa_191_2:FA prog 191 2 2:=⟨_,_,_,runUnderlying191,rfl,sizeOf9,rfl,rfl⟩
theorem sl_62:zX prog 62 191 3:=⟨runUnderlying62,sizeOf191⟩
theorem ag_191:AG prog 191 3:=⟨isAgg191,sizeOf191⟩
theorem fa_64_0:FA prog 64 0 0:=⟨_,_,_,runUnderlying64,rfl,sizeOf60,rfl,rfl⟩
theorem sc_60:SC prog 60:=⟨isAgg60,sizeOf60⟩
theorem fa_64_1:FA prog 64 1 1:=⟨_,_,_,runUnderlying64,rfl,sizeOf61,rfl,rfl⟩
theorem sc_61:SC prog 61:=⟨isAgg61,sizeOf61⟩
theorem fa_64_2:FA prog 64 2 2:=⟨_,_,_,runUnderlying64,rfl,sizeOf62,rfl,rfl⟩
theorem sc_62:SC prog 62:=⟨isAgg62,sizeOf62⟩
theorem fa_64_3:FA prog 64 3 3:=⟨_,_,_,runUnderlying64,rfl,sizeOf39,rfl,rfl⟩
theorem fa_64_4:FA prog 64 4 4:=⟨_,_,_,runUnderlying64,rfl,sizeOf39,rfl,rfl⟩
theorem fa_66_0:FA prog 66 0 0:=⟨_,_,_,runUnderlying66,rfl,sizeOf9,rfl,rfl⟩
theorem fa_66_2:FA prog 66 2 2:=⟨_,_,_,runUnderlying66,rfl,sizeOf58,rfl,rfl⟩
theorem ag_58:AG prog 58 4:=⟨isAgg58,sizeOf58⟩
theorem fa_66_3:FA prog 66 3 6:=⟨_,_,_,runUnderlying66,rfl,sizeOf59,rfl,rfl⟩
theorem sc_59:SC prog 59:=⟨isAgg59,sizeOf59⟩
theorem fa_66_4:FA prog 66 4 7:=⟨_,_,_,runUnderlying66,rfl,sizeOf64,rfl,rfl⟩
theorem ag_64:AG prog 64 5:=⟨isAgg64,sizeOf64⟩
theorem aMZ:zX prog 22 66 12:=⟨runUnderlying22,sizeOf66⟩
theorem ag_66:AG prog 66 12:=⟨isAgg66,sizeOf66⟩
theorem fa_24_0:FA prog 24 0 0:=⟨_,_,_,runUnderlying24,rfl,sizeOf22,rfl,rfl⟩
theorem sc_22:SC prog 22:=⟨isAgg22,sizeOf22⟩
theorem aGt:FA prog 106 0 0:=⟨_,_,_,runUnderlying106,rfl,sizeOf2,rfl,rfl⟩
theorem aGu:FA prog 106 1 1:=⟨_,_,_,runUnderlying106,rfl,sizeOf2,rfl,rfl⟩
theorem aJJ:FA prog 106 2 2:=⟨_,_,_,runUnderlying106,rfl,sizeOf2,rfl,rfl⟩
theorem aQc:FA prog 42 0 0:=⟨_,_,_,runUnderlying42,rfl,sizeOf2,rfl,rfl⟩
theorem aQd:FA prog 42 1 1:=⟨_,_,_,runUnderlying42,rfl,sizeOf2,rfl,rfl⟩
theorem aMH:FA prog 42 2 2:=⟨_,_,_,runUnderlying42,rfl,sizeOf39,rfl,rfl⟩
theorem aBl:FA prog 42 3 3:=⟨_,_,_,runUnderlying42,rfl,sizeOf40,rfl,rfl⟩
theorem aJK:SC prog 40:=⟨isAgg40,sizeOf40⟩
theorem vG:zX prog 40 106 3:=⟨runUnderlying40,sizeOf106⟩
theorem aLd:AG prog 106 3:=⟨isAgg106,sizeOf106⟩
theorem aHo:FA prog 48 0 0:=⟨_,_,_,runUnderlying48,rfl,sizeOf44,rfl,rfl⟩
theorem aPs:SC prog 44:=⟨isAgg44,sizeOf44⟩
theorem qN:zX prog 44 151 3:=⟨runUnderlying44,sizeOf151⟩
theorem aDg:FA prog 48 1 1:=⟨_,_,_,runUnderlying48,rfl,sizeOf45,rfl,rfl⟩
theorem aNa:SC prog 45:=⟨isAgg45,sizeOf45⟩
theorem xZ:zX prog 45 155 2:=⟨runUnderlying45,sizeOf155⟩
theorem aQe:FA prog 48 2 2:=⟨_,_,_,runUnderlying48,rfl,sizeOf46,rfl,rfl⟩
theorem sc_46:SC prog 46:=⟨isAgg46,sizeOf46⟩
theorem vX:zX prog 46 159 3:=⟨runUnderlying46,sizeOf159⟩
theorem aQf:FA prog 48 3 3:=⟨_,_,_,runUnderlying48,rfl,sizeOf39,rfl,rfl⟩
theorem fa_48_4:FA prog 48 4 4:=⟨_,_,_,runUnderlying48,rfl,sizeOf39,rfl,rfl⟩
theorem sM:zX prog 43 132 4:=⟨runUnderlying43,sizeOf132⟩
theorem aAw:FA prog 132 0 0:=⟨_,_,_,runUnderlying132,rfl,sizeOf2,rfl,rfl⟩
theorem aGv:FA prog 132 2 2:=⟨_,_,_,runUnderlying132,rfl,sizeOf9,rfl,rfl⟩
theorem aJL:FA prog 132 3 3:=⟨_,_,_,runUnderlying132,rfl,sizeOf4,rfl,rfl⟩
theorem sc_4:SC prog 4:=⟨isAgg4,sizeOf4⟩
theorem aNb:FA prog 132 1 1:=⟨_,_,_,runUnderlying132,rfl,sizeOf2,rfl,rfl⟩
theorem aNc:zX prog 78 5 1:=⟨runUnderlying78,sizeOf5⟩
theorem ez_5:EZ prog 5 [Value.int .u8 0]:=⟨⟨_,zeroValue5,rfl⟩,⟨t5,typeInfo5,by show (1:Nat)<=128;decide,rfl,by kernel_rfl,_,rfl,rfl⟩⟩
theorem sc_5:SC prog 5:=⟨isAgg5,sizeOf5⟩
theorem aIR:AG prog 132 4:=⟨isAgg132,sizeOf132⟩
theorem oQ:FA prog 206 0 0:=⟨_,_,_,runUnderlying206,rfl,sizeOf2,rfl,rfl⟩
theorem lO:zX prog 149 206 4:=⟨runUnderlying149,sizeOf206⟩
theorem aJM:FA prog 206 1 1:=⟨_,_,_,runUnderlying206,rfl,sizeOf2,rfl,rfl⟩
theorem aJN:FA prog 206 2 2:=⟨_,_,_,runUnderlying206,rfl,sizeOf9,rfl,rfl⟩
theorem oR:FA prog 206 3 3:=⟨_,_,_,runUnderlying206,rfl,sizeOf204,rfl,rfl⟩
theorem aAW:SC prog 204:=⟨isAgg204,sizeOf204⟩
theorem mT:zX prog 204 239 1:=⟨runUnderlying204,sizeOf239⟩
theorem aNd:FA prog 151 1 1:=⟨_,_,_,runUnderlying151,rfl,sizeOf2,rfl,rfl⟩
theorem aCb:FA prog 151 2 2:=⟨_,_,_,runUnderlying151,rfl,sizeOf149,rfl,rfl⟩
theorem yL:SC prog 149:=⟨isAgg149,sizeOf149⟩
theorem aGw:FA prog 242 0 0:=⟨_,_,_,runUnderlying242,rfl,sizeOf2,rfl,rfl⟩
theorem aCc:FA prog 242 1 1:=⟨_,_,_,runUnderlying242,rfl,sizeOf2,rfl,rfl⟩
theorem nW:zX prog 239 242 2:=⟨runUnderlying239,sizeOf242⟩
theorem yM:AG prog 206 4:=⟨isAgg206,sizeOf206⟩
theorem aIS:SC prog 239:=⟨isAgg239,sizeOf239⟩
theorem aEe:FA prog 151 0 0:=⟨_,_,_,runUnderlying151,rfl,sizeOf9,rfl,rfl⟩
theorem aGx:AG prog 155 2:=⟨isAgg155,sizeOf155⟩
theorem aNe:FA prog 155 0 0:=⟨_,_,_,runUnderlying155,rfl,sizeOf2,rfl,rfl⟩
theorem fa_155_1:FA prog 155 1 1:=⟨_,_,_,runUnderlying155,rfl,sizeOf108,rfl,rfl⟩
theorem aLe:AG prog 159 3:=⟨isAgg159,sizeOf159⟩
theorem aNf:FA prog 159 0 0:=⟨_,_,_,runUnderlying159,rfl,sizeOf9,rfl,rfl⟩
theorem aNg:FA prog 159 1 1:=⟨_,_,_,runUnderlying159,rfl,sizeOf9,rfl,rfl⟩
theorem fa_159_2:FA prog 159 2 2:=⟨_,_,_,runUnderlying159,rfl,sizeOf9,rfl,rfl⟩
theorem aIT:AG prog 242 2:=⟨isAgg242,sizeOf242⟩
theorem mU:zX prog 282 4 1:=⟨runUnderlying282,sizeOf4⟩
theorem aMf:EZ prog 4 [zB false]:=⟨⟨_,zeroValue4,rfl⟩,⟨t4,typeInfo4,by show (1:Nat)<=128;decide,rfl,by kernel_rfl,_,rfl,rfl⟩⟩
theorem aJO:FA prog 50 0 0:=⟨_,_,_,runUnderlying50,rfl,sizeOf9,rfl,rfl⟩
theorem aHp:FA prog 50 1 1:=⟨_,_,_,runUnderlying50,rfl,sizeOf2,rfl,rfl⟩
theorem aEV:FA prog 50 2 2:=⟨_,_,_,runUnderlying50,rfl,sizeOf42,rfl,rfl⟩
theorem aEW:FA prog 50 3 6:=⟨_,_,_,runUnderlying50,rfl,sizeOf43,rfl,rfl⟩
theorem aPt:SC prog 43:=⟨isAgg43,sizeOf43⟩
theorem aDh:FA prog 50 4 7:=⟨_,_,_,runUnderlying50,rfl,sizeOf48,rfl,rfl⟩
theorem zY:FA prog 29 0 0:=⟨_,_,_,runUnderlying29,rfl,sizeOf27,rfl,rfl⟩
theorem aIj:SC prog 27:=⟨isAgg27,sizeOf27⟩
theorem vY:zX prog 27 50 12:=⟨runUnderlying27,sizeOf50⟩
theorem fa_199_0:FA prog 199 0 0:=⟨_,_,_,runUnderlying199,rfl,sizeOf2,rfl,rfl⟩
theorem fa_199_1:FA prog 199 1 1:=⟨_,_,_,runUnderlying199,rfl,sizeOf2,rfl,rfl⟩
theorem fa_199_2:FA prog 199 2 2:=⟨_,_,_,runUnderlying199,rfl,sizeOf2,rfl,rfl⟩
theorem ez_106:EZ prog 106 [i64 0,i64 0,i64 0]:=⟨⟨_,zeroValue106,rfl⟩,⟨t106,typeInfo106,by show (24:Nat)<=128;decide,rfl,by kernel_rfl,_,rfl,rfl⟩⟩
theorem ag_199:AG prog 199 3:=⟨isAgg199,sizeOf199⟩
theorem fa_58_0:FA prog 58 0 0:=⟨_,_,_,runUnderlying58,rfl,sizeOf2,rfl,rfl⟩
theorem fa_58_1:FA prog 58 1 1:=⟨_,_,_,runUnderlying58,rfl,sizeOf2,rfl,rfl⟩
theorem ag_42:AG prog 42 4:=⟨isAgg42,sizeOf42⟩
theorem fa_120_0:FA prog 120 0 0:=⟨_,_,_,runUnderlying120,rfl,sizeOf2,rfl,rfl⟩
theorem fa_120_1:FA prog 120 1 1:=⟨_,_,_,runUnderlying120,rfl,sizeOf2,rfl,rfl⟩
theorem fa_120_3:FA prog 120 3 3:=⟨_,_,_,runUnderlying120,rfl,sizeOf4,rfl,rfl⟩
theorem ez_132:EZ prog 132 [i64 0,i64 0,str [],zB false]:=⟨⟨_,zeroValue132,rfl⟩,⟨t132,typeInfo132,by show (40:Nat)<=128;decide,rfl,by kernel_rfl,_,rfl,rfl⟩⟩
theorem fa_344_0:FA prog 344 0 0:=⟨_,_,_,runUnderlying344,rfl,sizeOf2,rfl,rfl⟩
theorem fa_344_1:FA prog 344 1 1:=⟨_,_,_,runUnderlying344,rfl,sizeOf2,rfl,rfl⟩
theorem ez_242:EZ prog 242 [i64 0,i64 0]:=⟨⟨_,zeroValue242,rfl⟩,⟨t242,typeInfo242,by show (16:Nat)<=128;decide,rfl,by kernel_rfl,_,rfl,rfl⟩⟩
theorem ag_344:AG prog 344 2:=⟨isAgg344,sizeOf344⟩
theorem ez_239:EZ prog 239 [zS none 0 0]:=⟨⟨_,zeroValue239,rfl⟩,⟨t239,typeInfo239,by show (24:Nat)<=128;decide,rfl,by kernel_rfl,_,rfl,rfl⟩⟩
theorem fa_276_0:FA prog 276 0 0:=⟨_,_,_,runUnderlying276,rfl,sizeOf2,rfl,rfl⟩
theorem fa_276_1:FA prog 276 1 1:=⟨_,_,_,runUnderlying276,rfl,sizeOf2,rfl,rfl⟩
theorem ez_206:EZ prog 206 [i64 0,i64 0,str [],zS none 0 0]:=⟨⟨_,zeroValue206,rfl⟩,⟨t206,typeInfo206,by show (56:Nat)<=128;decide,rfl,by kernel_rfl,_,rfl,rfl⟩⟩
theorem fa_187_1:FA prog 187 1 1:=⟨_,_,_,runUnderlying187,rfl,sizeOf2,rfl,rfl⟩
theorem aEX:AG prog 151 3:=⟨isAgg151,sizeOf151⟩
theorem ez_151:EZ prog 151 [str [],i64 0,zS none 0 0]:=⟨⟨_,zeroValue151,rfl⟩,⟨t151,typeInfo151,by show (48:Nat)<=128;decide,rfl,by kernel_rfl,_,rfl,rfl⟩⟩
theorem fa_189_0:FA prog 189 0 0:=⟨_,_,_,runUnderlying189,rfl,sizeOf2,rfl,rfl⟩
theorem ez_155:EZ prog 155 [i64 0,zS none 0 0]:=⟨⟨_,zeroValue155,rfl⟩,⟨t155,typeInfo155,by show (32:Nat)<=128;decide,rfl,by kernel_rfl,_,rfl,rfl⟩⟩
theorem ez_159:EZ prog 159 [str [],str [],str []]:=⟨⟨_,zeroValue159,rfl⟩,⟨t159,typeInfo159,by show (48:Nat)<=128;decide,rfl,by kernel_rfl,_,rfl,rfl⟩⟩
theorem ag_48:AG prog 48 5:=⟨isAgg48,sizeOf48⟩
theorem fa_66_1:FA prog 66 1 1:=⟨_,_,_,runUnderlying66,rfl,sizeOf2,rfl,rfl⟩
theorem aNh:AG prog 50 12:=⟨isAgg50,sizeOf50⟩
theorem ez_50:EZB true prog 50 [str [],i64 0,i64 0,i64 0,zS none 0 0,zS none 0 0,zS none 0 0,zS none 0 0,zS none 0 0,zS none 0 0,zS none 0 0,zS none 0 0]:=⟨⟨_,zeroValue50,rfl⟩,⟨t50,typeInfo50,by show (232:Nat)<=256;decide,rfl,by kernel_rfl,_,rfl,rfl⟩⟩
theorem ag_29:AG prog 29 1:=⟨isAgg29,sizeOf29⟩
theorem bs_172:BS prog 172 [(0,4),(4,1)] [i64 0,i64 0,str [],zB false,zS none 0 0]:=⟨⟨_,zeroValue172,rfl⟩,_,runUnderlying172,fun w=>by simp [sizeOf132,sizeOf170]⟩
theorem qO:FA prog 172 1 4:=⟨_,_,_,runUnderlying172,rfl,sizeOf170,rfl,rfl⟩
theorem aDM:SC prog 170:=⟨isAgg170,sizeOf170⟩
theorem aCd:zX prog 170 110 1:=⟨runUnderlying170,sizeOf110⟩
theorem ez_110:EZ prog 110 [Value.pointer none]:=⟨⟨_,zeroValue110,rfl⟩,⟨t110,typeInfo110,by show (8:Nat)<=128;decide,rfl,by kernel_rfl,_,rfl,rfl⟩⟩
theorem aNi:FA prog 172 0 0:=⟨_,_,_,runUnderlying172,rfl,sizeOf132,rfl,rfl⟩
theorem aEY:SC prog 110:=⟨isAgg110,sizeOf110⟩
theorem sl_289:zX prog 289 293 2:=⟨runUnderlying289,sizeOf293⟩
theorem ez_293:EZ prog 293 [i64 0,zB false]:=⟨⟨_,zeroValue293,rfl⟩,⟨t293,typeInfo293,by show (16:Nat)<=128;decide,rfl,by kernel_rfl,_,rfl,rfl⟩⟩
theorem sc_325:SC prog 325:=⟨isAgg325,sizeOf325⟩
theorem bs_293:BS prog 293 [(0,1),(1,1)] [i64 0,zB false]:=⟨⟨_,zeroValue293,rfl⟩,_,runUnderlying293,fun w=>by simp [sizeOf2,sizeOf4]⟩
theorem sc_289:SC prog 289:=⟨isAgg289,sizeOf289⟩
theorem ag_293:AG prog 293 2:=⟨isAgg293,sizeOf293⟩
theorem aRe:FA prog 293 0 0:=⟨_,_,_,runUnderlying293,rfl,sizeOf2,rfl,rfl⟩
theorem fa_293_1:FA prog 293 1 1:=⟨_,_,_,runUnderlying293,rfl,sizeOf4,rfl,rfl⟩
theorem bs_311:BS prog 311 [(0,2),(2,1)] [i64 0,i64 0,zS none 0 0]:=⟨⟨_,zeroValue311,rfl⟩,_,runUnderlying311,fun w=>by simp [sizeOf242,sizeOf309]⟩
theorem aCe:FA prog 311 1 2:=⟨_,_,_,runUnderlying311,rfl,sizeOf309,rfl,rfl⟩
theorem aLf:SC prog 309:=⟨isAgg309,sizeOf309⟩
theorem aIU:zX prog 309 270 1:=⟨runUnderlying309,sizeOf270⟩
theorem ez_270:EZ prog 270 [Value.pointer none]:=⟨⟨_,zeroValue270,rfl⟩,⟨t270,typeInfo270,by show (8:Nat)<=128;decide,rfl,by kernel_rfl,_,rfl,rfl⟩⟩
theorem aEf:FA prog 311 0 0:=⟨_,_,_,runUnderlying311,rfl,sizeOf242,rfl,rfl⟩
theorem ar_330:ART prog 330 2 9:=⟨runUnderlying330,isAgg2,sizeOf2⟩
theorem aNj:SC prog 270:=⟨isAgg270,sizeOf270⟩
theorem ar_313:ART prog 313 9 9:=⟨runUnderlying313,isAgg9,sizeOf9⟩
theorem vZ:FA prog 224 1 1:=⟨_,_,_,runUnderlying224,rfl,sizeOf149,rfl,rfl⟩
theorem bs_224:BS prog 224 [(0,1),(1,1)] [zS none 0 0,zS none 0 0]:=⟨⟨_,zeroValue224,rfl⟩,_,runUnderlying224,fun w=>by simp [sizeOf149,sizeOf44]⟩
theorem aRf:FA prog 224 0 0:=⟨_,_,_,runUnderlying224,rfl,sizeOf44,rfl,rfl⟩
theorem sl_249:zX prog 249 3 1:=⟨runUnderlying249,sizeOf3⟩
theorem ez_3:EZ prog 3 [i64 0]:=⟨⟨_,zeroValue3,rfl⟩,⟨t3,typeInfo3,by show (8:Nat)<=128;decide,rfl,by kernel_rfl,_,rfl,rfl⟩⟩
theorem sc_3:SC prog 3:=⟨isAgg3,sizeOf3⟩
theorem bs_42:BS prog 42 [(0,1),(1,1),(2,1),(3,1)] [i64 0,i64 0,zS none 0 0,zS none 0 0]:=⟨⟨_,zeroValue42,rfl⟩,_,runUnderlying42,fun w=>by simp [sizeOf2,sizeOf39,sizeOf40]⟩
theorem bs_48:BS prog 48 [(0,1),(1,1),(2,1),(3,1),(4,1)] [zS none 0 0,zS none 0 0,zS none 0 0,zS none 0 0,zS none 0 0]:=⟨⟨_,zeroValue48,rfl⟩,_,runUnderlying48,fun w=>by simp [sizeOf39,sizeOf44,sizeOf45,sizeOf46]⟩
theorem ar_72:ART prog 72 9 4:=⟨runUnderlying72,isAgg9,sizeOf9⟩
theorem bz_72:∃ z,(∀ w,(zeroValue 72).run prog w=.ok z w)/\z.cells=[str [],str [],str [],str []].toArray:=⟨_,zeroValue72,rfl⟩
theorem ag_24:AG prog 24 1:=⟨isAgg24,sizeOf24⟩
theorem st_106:prog.stoodInHeld 106=false:=by kernel_rfl
theorem st_159:prog.stoodInHeld 159=false:=by kernel_rfl
theorem st_242:prog.stoodInHeld 242=false:=by kernel_rfl
theorem tab_4 {G:kE} {K:Hp} {L:List eV} {w:World} (hs:aG G K L w):∃ E fr,w.heap[4]?=some (.cells ((aIP).map (fun s=>str s)).toArray E fr):=(G.laid w hs.globs).2.2.2.2.1
theorem tab_5 {G:kE} {K:Hp} {L:List eV} {w:World} (hs:aG G K L w):∃ E fr,w.heap[5]?=some (.cells ((aLc).map (fun n=>i64 n)).toArray E fr):=(G.laid w hs.globs).2.2.2.2.2
theorem eq_106 {x y:Edge}:EQT prog 106 [i64 x.F,i64 x.B,i64 x.To] [i64 y.F,i64 y.B,i64 y.To] (decide (x=y)):=by
 refine ⟨by kernel_rfl,fun w=>?_⟩
 have h2:∀ (a b:Int),(Op.equalIn 9999 2 (i64 a) (i64 b)).run prog w=.ok (a == b) w:=fun a b=>aPl 9998 (runUnderlying2 w)
 have:Op.maxDepth=9999+1:=rfl
 unfold Op.equal
 rw [this]
 unfold Op.equalIn
 simp [runUnderlying106,st_106,part,h2,isAgg2]
 cases x;cases y
 simp
 repeat' split<;>simp_all
theorem eq_159 {x y:bD}:EQT prog 159 [str x.Left,str x.Right,str x.Result] [str y.Left,str y.Right,str y.Result] (decide (x=y)):=by
 refine ⟨by kernel_rfl,fun w=>?_⟩
 have h9:∀ (a b:aK),(Op.equalIn 9999 9 (str a) (str b)).run prog w=.ok (a == b) w:=fun a b=>run_eqInS 9998 (runUnderlying9 w)
 have:Op.maxDepth=9999+1:=rfl
 unfold Op.equal
 rw [this]
 unfold Op.equalIn
 simp [runUnderlying159,st_159,part,h9,isAgg9]
 cases x;cases y
 simp
 repeat' split<;>simp_all
theorem eq_242 {x y:aS}:EQT prog 242 [i64 x.Kind,i64 x.Value] [i64 y.Kind,i64 y.Value] (decide (x=y)):=by
 refine ⟨by kernel_rfl,fun w=>?_⟩
 have h2:∀ (a b:Int),(Op.equalIn 9999 2 (i64 a) (i64 b)).run prog w=.ok (a == b) w:=fun a b=>aPl 9998 (runUnderlying2 w)
 have:Op.maxDepth=9999+1:=rfl
 unfold Op.equal
 rw [this]
 unfold Op.equalIn
 simp [runUnderlying242,st_242,part,h2,isAgg2]
 cases x;cases y
 simp
 repeat' split<;>simp_all
theorem Tryz_mixed:prog.follows .mixedOrders=true:=by kernel_rfl
abbrev zC (d:gM) (a:Option Addr) (c:Nat) (b:Option Addr) (e:Nat):List Value:=[i64 d.N,i64 d.I,Value.slice a d.L.length c,Value.slice b d.E.length e]
abbrev zCa (d:gM) (a:Option Addr) (c:Nat) (b:Option Addr) (e:Nat):Array Value:=#[i64 d.N,i64 d.I,Value.slice a d.L.length c,Value.slice b d.E.length e]
abbrev zG:List Value:=[i64 0,i64 0,Value.slice none 0 0,Value.slice none 0 0]
abbrev zGa:Array Value:=#[i64 0,i64 0,Value.slice none 0 0,Value.slice none 0 0]
abbrev zK:List Value:=[i64 0,i64 0,Value.slice none 0 0,Value.slice none 0 0,Value.slice none 0 0,Value.slice none 0 0]
abbrev zKa:Array Value:=#[i64 0,i64 0,Value.slice none 0 0,Value.slice none 0 0,Value.slice none 0 0,Value.slice none 0 0]
end Gv
namespace Gv
open Go.Value renaming slice→zS
open Gv.Hp renaming le_refl→zR
open Go Go.Proofs Go.Proofs.Tryz
theorem lM {p:Prop} (h:p:=by first|assumption|(apply st_cK;assumption;exact jS)):p:=h
theorem st_HR {p:Prop} (h:p:=by first|assumption|(apply st_rK;assumption;exact jS)):p:=h
theorem st_S {p:Prop} (h:p:=by with_reducible first|exact cU|exact dW|exact sl_56|exact sl_59|exact aQb|exact aMX|exact aMY|exact sl_60|exact sl_61|exact sl_62|exact aMZ|exact vG|exact qN|exact xZ|exact vX|exact sM|exact aNc|exact lO|exact mT|exact nW|exact mU|exact vY|exact aCd|exact sl_289|exact aIU|exact sl_249):p:=h
theorem uV {p:Prop} (h:p:=by with_reducible first|exact nV|exact gH|exact aMW|exact sc_56|exact sc_333|exact sc_274|exact sc_185|exact sc_108|exact sc_60|exact sc_61|exact sc_62|exact sc_59|exact sc_22|exact aJK|exact aPs|exact aNa|exact sc_46|exact sc_4|exact sc_5|exact aAW|exact yL|exact aIS|exact aPt|exact aIj|exact aDM|exact aEY|exact sc_325|exact sc_289|exact aLf|exact aNj|exact sc_3):p:=h
theorem aDN {p:Prop} (h:p:=by with_reducible first|exact ag_120|exact ag_276|exact ag_187|exact ag_189|exact ag_191|exact ag_58|exact ag_64|exact ag_66|exact aLd|exact aIR|exact yM|exact aGx|exact aLe|exact aIT|exact ag_199|exact ag_42|exact ag_344|exact aEX|exact ag_48|exact aNh|exact ag_29|exact ag_293|exact ag_24):p:=h
theorem st_F {p:Prop} (h:p:=by with_reducible first|exact fa_58_2|exact fa_58_3|exact fa_120_2|exact fa_276_2|exact fa_276_3|exact fa_187_0|exact fa_187_2|exact fa_189_1|exact fa_191_0|exact fa_191_1|exact fa_191_2|exact fa_64_0|exact fa_64_1|exact fa_64_2|exact fa_64_3|exact fa_64_4|exact fa_66_0|exact fa_66_2|exact fa_66_3|exact fa_66_4|exact fa_24_0|exact aGt|exact aGu|exact aJJ|exact aQc|exact aQd|exact aMH|exact aBl|exact aHo|exact aDg|exact aQe|exact aQf|exact fa_48_4|exact aAw|exact aGv|exact aJL|exact aNb|exact oQ|exact aJM|exact aJN|exact oR|exact aNd|exact aCb|exact aGw|exact aCc|exact aEe|exact aNe|exact fa_155_1|exact aNf|exact aNg|exact fa_159_2|exact aJO|exact aHp|exact aEV|exact aEW|exact aDh|exact zY|exact fa_199_0|exact fa_199_1|exact fa_199_2|exact fa_58_0|exact fa_58_1|exact fa_120_0|exact fa_120_1|exact fa_120_3|exact fa_344_0|exact fa_344_1|exact fa_276_0|exact fa_276_1|exact fa_187_1|exact fa_189_0|exact fa_66_1|exact qO|exact aNi|exact aRe|exact fa_293_1|exact aCe|exact aEf|exact vZ|exact aRf):p:=h
theorem za_29:ZA prog 29 [zS none 0 0]:=⟨_,zeroValue29,rfl⟩
theorem za_42:ZA prog 42 [i64 0,i64 0,zS none 0 0,zS none 0 0]:=⟨_,zeroValue42,rfl⟩
theorem za_48:ZA prog 48 [zS none 0 0,zS none 0 0,zS none 0 0,zS none 0 0,zS none 0 0]:=⟨_,zeroValue48,rfl⟩
theorem za_50:ZA prog 50 [str ([]:aK),i64 0,i64 0,i64 0,zS none 0 0,zS none 0 0,zS none 0 0,zS none 0 0,zS none 0 0,zS none 0 0,zS none 0 0,zS none 0 0]:=⟨_,zeroValue50,rfl⟩
theorem za_106:ZA prog 106 [i64 0,i64 0,i64 0]:=⟨_,zeroValue106,rfl⟩
theorem za_132:ZA prog 132 [i64 0,i64 0,str ([]:aK),Value.bool false]:=⟨_,zeroValue132,rfl⟩
theorem za_151:ZA prog 151 [str ([]:aK),i64 0,zS none 0 0]:=⟨_,zeroValue151,rfl⟩
theorem za_155:ZA prog 155 [i64 0,zS none 0 0]:=⟨_,zeroValue155,rfl⟩
theorem za_159:ZA prog 159 [str ([]:aK),str ([]:aK),str ([]:aK)]:=⟨_,zeroValue159,rfl⟩
theorem za_206:ZA prog 206 [i64 0,i64 0,str ([]:aK),zS none 0 0]:=⟨_,zeroValue206,rfl⟩
theorem za_242:ZA prog 242 [i64 0,i64 0]:=⟨_,zeroValue242,rfl⟩
theorem za_289:ZA prog 289 [zS none 0 0]:=⟨_,zeroValue289,rfl⟩
theorem za_293:ZA prog 293 [i64 0,Value.bool false]:=⟨_,zeroValue293,rfl⟩
theorem za_325:ZA prog 325 [Value.nilFunc]:=⟨_,zeroValue325,rfl⟩
theorem st_r {p:Prop} (h:p:=by with_reducible first|exact runUnderlying2|exact runUnderlying4|exact runUnderlying5|exact runUnderlying9):p:=h
theorem st_h {p:Prop} (h:p:=by with_reducible first|exact bs_172|exact bs_293|exact bs_311|exact bs_224|exact bs_42|exact bs_48):p:=h
theorem st_e {p:Prop} (h:p:=by with_reducible first|exact yK|exact pT|exact ez_5|exact aMf|exact ez_106|exact ez_132|exact ez_242|exact ez_239|exact ez_206|exact ez_151|exact ez_155|exact ez_159|exact ez_50|exact ez_110|exact ez_293|exact ez_270|exact ez_3):p:=h
theorem st_u {p:Prop} (h:p:=by with_reducible first|exact underlying108|exact underlying170|exact underlying282|exact underlying309|exact underlying39|exact underlying5|exact underlying78|exact underlying9):p:=h
theorem st_z {p:Prop} (h:p:=by with_reducible first|exact sizeOf106|exact sizeOf108|exact sizeOf132|exact sizeOf149|exact sizeOf151|exact sizeOf155|exact sizeOf159|exact sizeOf170|exact sizeOf2|exact sizeOf204|exact sizeOf206|exact sizeOf239|exact sizeOf242|exact sizeOf27|exact sizeOf289|exact sizeOf29|exact sizeOf293|exact sizeOf309|exact sizeOf325|exact sizeOf39|exact sizeOf4|exact sizeOf40|exact sizeOf42|exact sizeOf43|exact sizeOf44|exact sizeOf45|exact sizeOf46|exact sizeOf48|exact sizeOf50|exact sizeOf9):p:=h
theorem st_y {p:Prop} (h:p:=by with_reducible first|exact za_29|exact za_42|exact za_48|exact za_50|exact za_106|exact za_132|exact za_151|exact za_155|exact za_159|exact za_206|exact za_242|exact za_289|exact za_293|exact za_325):p:=h
theorem st_V {p:Prop} (h:p:=by first|exact V_moveC|exact V_assignC|(apply V_B;first|(apply V_add;exact cE;exact cE)|(apply V_sub;exact cE;exact cE)|(apply V_mul;exact cE;exact cE)|(apply V_lss;exact cE;exact cE)|(apply V_leq;exact cE;exact cE)|(apply V_gtr;exact cE;exact cE)|(apply V_geq;exact cE;exact cE)|(apply V_eql;exact cE;exact cE)|(apply V_neq;exact cE;exact cE)|(apply V_eqlS;exact cE;exact cE)|(apply V_neqS;exact cE;exact cE)|(apply V_lssS;exact cE;exact cE)|(apply V_leqS;exact cE;exact cE)|(apply V_gtrS;exact cE;exact cE)|(apply V_geqS;exact cE;exact cE))|exact V_moveF|exact V_assignF|(apply V_move;exact cE)|(apply V_assign;exact cE)|(apply V_fldP;exact cE;exact st_F)|(apply V_fldE;exact cE;exact lM;exact st_F)|(apply V_fldO;exact cE;exact eU;exact aIO;exact eU;exact st_F)|(apply V_L;first|(apply V_ldB;exact cE;exact eU;exact aIO;exact rfl;exact uV)|(apply V_ldBG;exact cE;exact eU;exact aIO;exact aDN;exact st_D)|(apply aLM (t:=0);exact cE;exact lM;exact eU;exact rfl;exact uV)|(apply aLM (t:=1);exact cE;exact lM;exact eU;exact rfl;exact uV)|(apply aLM (t:=2);exact cE;exact lM;exact eU;exact rfl;exact uV)|(apply aLM (t:=3);exact cE;exact lM;exact eU;exact rfl;exact uV)|(apply aLM (t:=4);exact cE;exact lM;exact eU;exact rfl;exact uV)|(apply aLM (t:=5);exact cE;exact lM;exact eU;exact rfl;exact uV)|(apply aLM (t:=6);exact cE;exact lM;exact eU;exact rfl;exact uV)|(apply aLM (t:=7);exact cE;exact lM;exact eU;exact rfl;exact uV)|(apply aGs (t:=0);exact cE;exact lM;exact eU;exact aDN;exact rfl;exact rfl)|(apply aGs (t:=1);exact cE;exact lM;exact eU;exact aDN;exact rfl;exact rfl)|(apply aGs (t:=2);exact cE;exact lM;exact eU;exact aDN;exact rfl;exact rfl)|(apply aGs (t:=3);exact cE;exact lM;exact eU;exact aDN;exact rfl;exact rfl)|(apply aGs (t:=4);exact cE;exact lM;exact eU;exact aDN;exact rfl;exact rfl)|(apply aGs (t:=5);exact cE;exact lM;exact eU;exact aDN;exact rfl;exact rfl)|(apply aGs (t:=6);exact cE;exact lM;exact eU;exact aDN;exact rfl;exact rfl)|(apply aGs (t:=7);exact cE;exact lM;exact eU;exact aDN;exact rfl;exact rfl)|(apply V_ldO (t:=0);exact cE;exact eU;exact aIO;exact eU;exact rfl;exact rfl;exact uV)|(apply V_ldO (t:=1);exact cE;exact eU;exact aIO;exact eU;exact rfl;exact rfl;exact uV)|(apply V_ldO (t:=2);exact cE;exact eU;exact aIO;exact eU;exact rfl;exact rfl;exact uV)|(apply V_ldO (t:=3);exact cE;exact eU;exact aIO;exact eU;exact rfl;exact rfl;exact uV)|(apply V_ldO (t:=4);exact cE;exact eU;exact aIO;exact eU;exact rfl;exact rfl;exact uV)|(apply V_ldOG (t:=0);exact cE;exact eU;exact aIO;exact eU;exact rfl;exact aDN;exact rfl;exact rfl)|(apply V_ldOG (t:=1);exact cE;exact eU;exact aIO;exact eU;exact rfl;exact aDN;exact rfl;exact rfl)|(apply V_ldOG (t:=2);exact cE;exact eU;exact aIO;exact eU;exact rfl;exact aDN;exact rfl;exact rfl)|(apply aLO (t:=0);exact cE;exact eU;exact eU;exact jS;exact rfl;exact uV)|(apply aLO (t:=1);exact cE;exact eU;exact eU;exact jS;exact rfl;exact uV)|(apply aLO (t:=2);exact cE;exact eU;exact eU;exact jS;exact rfl;exact uV)|(apply aLO (t:=3);exact cE;exact eU;exact eU;exact jS;exact rfl;exact uV)|(apply aLO (t:=4);exact cE;exact eU;exact eU;exact jS;exact rfl;exact uV)|(apply aLO (t:=5);exact cE;exact eU;exact eU;exact jS;exact rfl;exact uV)|(apply aLO (t:=6);exact cE;exact eU;exact eU;exact jS;exact rfl;exact uV)|(apply aLO (t:=7);exact cE;exact eU;exact eU;exact jS;exact rfl;exact uV)|(apply aPZ (t:=0);exact cE;exact eU;exact eU;exact jS;exact aDN;exact rfl;exact rfl)|(apply aPZ (t:=1);exact cE;exact eU;exact eU;exact jS;exact aDN;exact rfl;exact rfl)|(apply aPZ (t:=2);exact cE;exact eU;exact eU;exact jS;exact aDN;exact rfl;exact rfl)|(apply aPZ (t:=3);exact cE;exact eU;exact eU;exact jS;exact aDN;exact rfl;exact rfl)|(apply aLN (t:=0);exact eU;exact lM;exact cE;exact rfl;exact uV)|(apply aLN (t:=1);exact eU;exact lM;exact cE;exact rfl;exact uV)|(apply aLN (t:=2);exact eU;exact lM;exact cE;exact rfl;exact uV)|(apply aLN (t:=3);exact eU;exact lM;exact cE;exact rfl;exact uV)|(apply aLN (t:=4);exact eU;exact lM;exact cE;exact rfl;exact uV)|(apply aLN (t:=5);exact eU;exact lM;exact cE;exact rfl;exact uV)|(apply aLN (t:=6);exact eU;exact lM;exact cE;exact rfl;exact uV)|(apply aLN (t:=7);exact eU;exact lM;exact cE;exact rfl;exact uV)|(apply aPY (t:=0);exact eU;exact lM;exact cE;exact aDN;exact rfl;exact rfl)|(apply aPY (t:=1);exact eU;exact lM;exact cE;exact aDN;exact rfl;exact rfl)|(apply aPY (t:=2);exact eU;exact lM;exact cE;exact aDN;exact rfl;exact rfl)|(apply aPY (t:=3);exact eU;exact lM;exact cE;exact aDN;exact rfl;exact rfl))|(apply V_lenS;exact st_S;exact cE)|(apply V_nilE;exact cE;exact lM)|(apply V_nilP;exact cE)|(apply V_nilO;exact cE;exact eU;exact aIO;exact eU)|(apply V_ixE;exact cE;exact cE;exact st_HR;exact eU;exact rfl;exact st_S;exact rfl)|(apply V_ixO;exact cE;exact cE;exact eU;exact aIO;exact eU;exact rfl;exact st_S;exact rfl)|(apply V_extract;exact cE;exact rfl)|(apply V_pickT;exact cE;exact aMe;exact cE)|(apply V_pickF;exact cE;exact aMe;exact cE)|(apply V_not;exact cE)|(apply V_lenStr;exact st_r;exact cE)|(apply V_ixS;exact st_r;exact cE;exact cE;exact eU)|(apply V_conv64;exact st_r;exact cE;exact ⟨_,st_r⟩)|(apply V_convu8';exact st_r;exact cE;exact ⟨_,st_r⟩)|(apply V_u8sub';exact cE;exact cE)|(apply V_neg;exact cE)|(apply V_quo;exact cE;exact cE;exact eU)|(apply V_rem;exact cE;exact cE;exact eU)|(apply V_cat;exact cE;exact cE;exact eU)|(apply V_neqB;exact st_r;exact cE;exact cE)|(apply V_slSLH;exact st_r;exact cE;exact cE;exact cE;exact eU)|(apply V_slSL;exact st_r;exact cE;exact cE;exact eU)|(apply V_slSH;exact st_r;exact cE;exact cE;exact eU)|(apply V_build;exact st_h;exact rfl;exact (by kernel_rfl))|(apply aSe;exact rfl)):p:=h
theorem st_call {p:Prop} (h:p:=by with_reducible first|exact call4|exact call5|exact call6|exact call7|exact call8|exact call9|exact call10|exact call11|exact call12|exact call13|exact call14|exact call15|exact call16|exact call17|exact call18|exact call19|exact call20|exact call21|exact call22|exact call23|exact call24|exact call25|exact call26|exact call30|exact call31|exact call32|exact call33|exact call34|exact call35|exact call36|exact call37|exact call38|exact call39|exact call40|exact call41|exact call42|exact call43|exact call44|exact call45|exact call46|exact call47|exact call48|exact call49|exact call50|exact call51|exact call52|exact call53|exact call54|exact call55|exact call56|exact call58|exact call61|exact call62|exact call63|exact call64|exact call65|exact call66|exact call67|exact call68|exact call69|exact call70|exact call71|exact call72|exact call73|exact call74|exact call75|exact call76|exact call77|exact call78|exact call79|exact call80|exact call81|exact call82|exact call83|exact call84|exact call85|exact call86|exact call87|exact call88|exact call89|exact call90|exact call91|exact call92|exact call93|exact call94|exact call95|exact call96|exact call97|exact call98|exact call99|exact call100|exact call101|exact call102|exact call103|exact call104|exact call105|exact call106|exact call107|exact call108|exact call109|exact call111|exact call112|exact call113|exact call114|exact call118|exact call121|exact call122|exact call123|exact call124|exact call125|exact call126|exact call127|exact call128|exact call129|exact call130|exact call131|exact call132|exact call133|exact call134|exact call135|exact call136|exact call137|exact call138|exact call139|exact call140|exact call141|exact call142|exact call143|exact call144|exact call145|exact call146|exact call147|exact call148|exact call149|exact call150|exact call151|exact call152|exact call153|exact call154|exact call155|exact call156|exact call157|exact call158|exact call159|exact call160|exact call162|exact call163|exact call168|exact call169|exact call170|exact call171|exact call172|exact call173|exact call174|exact call175|exact call176|exact call177|exact call178|exact call179|exact call180|exact call181|exact call182|exact call183|exact call184|exact call185|exact call186|exact call187|exact call188|exact call189|exact call190|exact call191|exact call192|exact call193|exact call194|exact call195|exact call196|exact call197|exact call198|exact call199|exact call204|exact call209|exact call210|exact call211|exact call212|exact call213|exact call214|exact call215|exact call216|exact call217|exact call218|exact call219|exact call220|exact call221|exact call222|exact call223|exact call225|exact call227|exact call228|exact call229|exact call230|exact call231|exact call232|exact call233|exact call234|exact call235|exact call236|exact call237|exact call238|exact call239|exact call245|exact call248|exact call249|exact call250|exact call251|exact call252|exact call253|exact call254|exact call255|exact call256|exact call257|exact call258|exact call259|exact call260|exact call264|exact call265|exact call266|exact call267|exact call268|exact call269|exact call270|exact call271|exact call272|exact call275|exact call276|exact call277|exact call278|exact call279|exact call280|exact call281|exact call285|exact call286|exact call287|exact call288|exact call289|exact call296):p:=h
theorem st_f {p:Prop} (h:p:=by with_reducible first|exact func3|exact func4|exact func5|exact func6|exact func7|exact func8|exact func9|exact func10|exact func11|exact func12|exact func13|exact func14|exact func15|exact func17|exact func18|exact func19|exact func20|exact func21|exact func22|exact func23|exact func24|exact func26|exact func30|exact func31|exact func32|exact func33|exact func34|exact func35|exact func36|exact func37|exact func38|exact func39|exact func40|exact func41|exact func42|exact func43|exact func44|exact func45|exact func46|exact func47|exact func48|exact func49|exact func50|exact func51|exact func52|exact func54|exact func55|exact func56|exact func58|exact func61|exact func62|exact func63|exact func64|exact func65|exact func66|exact func67|exact func68|exact func69|exact func70|exact func71|exact func72|exact func73|exact func74|exact func75|exact func76|exact func77|exact func78|exact func79|exact func80|exact func81|exact func82|exact func83|exact func84|exact func86|exact func87|exact func88|exact func89|exact func90|exact func91|exact func92|exact func93|exact func94|exact func95|exact func96|exact func97|exact func98|exact func99|exact func100|exact func101|exact func102|exact func103|exact func104|exact func105|exact func106|exact func107|exact func108|exact func109|exact func111|exact func112|exact func113|exact func114|exact func118|exact func121|exact func122|exact func123|exact func124|exact func125|exact func126|exact func127|exact func128|exact func129|exact func130|exact func131|exact func132|exact func133|exact func134|exact func135|exact func136|exact func137|exact func138|exact func139|exact func140|exact func141|exact func142|exact func143|exact func144|exact func145|exact func146|exact func147|exact func148|exact func149|exact func150|exact func151|exact func152|exact func153|exact func154|exact func155|exact func156|exact func157|exact func158|exact func159|exact func160|exact func162|exact func163|exact func168|exact func169|exact func170|exact func171|exact func172|exact func173|exact func174|exact func175|exact func176|exact func177|exact func178|exact func179|exact func180|exact func181|exact func182|exact func183|exact func184|exact func186|exact func188|exact func189|exact func190|exact func191|exact func192|exact func193|exact func194|exact func195|exact func196|exact func197|exact func198|exact func199|exact func204|exact func209|exact func210|exact func211|exact func212|exact func213|exact func214|exact func215|exact func216|exact func217|exact func218|exact func219|exact func220|exact func221|exact func222|exact func223|exact func227|exact func228|exact func229|exact func230|exact func231|exact func232|exact func233|exact func234|exact func235|exact func236|exact func237|exact func238|exact func239|exact func245|exact func248|exact func249|exact func250|exact func251|exact func252|exact func253|exact func254|exact func255|exact func256|exact func257|exact func258|exact func259|exact func260|exact func264|exact func265|exact func266|exact func267|exact func268|exact func269|exact func270|exact func271|exact func272|exact func275|exact func276|exact func277|exact func278|exact func279|exact func280|exact func281|exact func285|exact func286|exact func287|exact func288|exact func289|exact func296):p:=h
theorem aPu {p:Prop} (h:p:=by first|((with_reducible apply rv_tmp);exact rfl;exact rfl)|((with_reducible apply V_rvG);exact cE;exact eU;exact aIO;exact aDN;exact rfl;exact rfl)|((with_reducible apply V_rvB);exact cE;exact eU;exact aIO;exact uV;exact rfl)):p:=h
theorem st_X {p:Prop} (h:p:=by
 (repeat (first
  |exact gB
  |(with_reducible apply Exists.intro)
  |((with_reducible apply And.intro);· first|exact gB|(with_reducible assumption)|exact (Option.some.inj (by with_reducible assumption)).symm|exact rfl|assumption|exact zR _|exact jS|exact kM _|(apply st_rK;assumption;exact jS)|(apply st_cK;assumption;exact jS)|exact uS (by assumption))
  |(with_reducible assumption)|exact st_c|exact rfl|assumption));first|done|fail):p:=h
theorem aCf {p q:Prop} (k:q) (h:Hd q->p:=by
 intro hk
 (first|apply st_ca|apply st_cb|apply st_cq);exact st_call;(first|(with_reducible intro z z)|skip);(first|((with_reducible first|apply aKA|apply gR|apply kW|apply aNz|apply aDA|apply aBb|apply aLn|apply aFX|apply aGX|apply aOP|apply aFY|apply aNA|apply aMp|apply aQi|apply aAq|apply aGj|apply aId|apply aKK|apply oJ|apply sQ|apply aHf|apply iK|apply fT|apply aGe|apply gS|apply yF|apply vD|apply aAR|apply aJd|apply aOK|apply aNr|apply aDX|apply aMh|apply aIw|apply aNs|apply aBe|apply rM|apply oX|apply aLg|apply aGS|apply sG|apply rN|apply aDa|apply aLh|apply aNt|apply aLi|apply aNu|apply aQh|apply aOL|apply aNv|apply aNw|apply aMi|apply aOM|apply aNx|apply aHW|apply aGT|apply aMj|apply aJe|apply aHX|apply aLj|apply aKx|apply aMk|apply aON|apply aNy|apply aIx|apply aMl|apply aFU|apply aJh|apply xS|apply iN|apply aIc|apply sO|apply xT|apply aCO|apply aGi|apply uA|apply aQj|apply aCP|apply aBh|apply aAP|apply aKH|apply aKI|apply yD|apply lJ|apply fQ|apply aJi|apply aLr|apply vP|apply aJj|apply aFx|apply aAQ|apply kS|apply fM|apply aKJ|apply aNN|apply yE|apply jR|apply fF|apply aJk|apply aJl|apply aHe|apply qJ|apply aNP|apply aQk|apply aOT|apply aNQ|apply aOU|apply aNR|apply aMy|apply aOV|apply aNS|apply aIe|apply aHg|apply aMz|apply aJn|apply aIf|apply aLt|apply aKM|apply aMA|apply aOW|apply aNT|apply aIE|apply xU|apply aID|apply aNL|apply aAp|apply aAM|apply aNM|apply xR|apply sH|apply mK|apply aLp|apply aHd|apply aHY|apply aHZ|apply aKG|apply aOR|apply aIa|apply aLq|apply oY|apply vC|apply jV|apply aGU|apply aKy|apply aLk|apply aGV|apply aFV|apply aEB|apply aLl|apply aMm|apply aMn|apply aGW|apply aKz|apply aCK|apply aBa|apply aDz|apply aFW|apply aMo|apply aOO|apply aLm|apply aGZ|apply aOQ|apply aCL|apply aNE|apply aNF|apply aNG|apply aMs|apply aGa|apply aCM|apply aKD|apply lP|apply eZ|apply fD|apply aDE|apply aJm|apply aGf|apply aEE|apply aEF|apply aMw|apply aKL|apply aNO|apply aMx|apply aGg|apply aLs|apply aOS|apply vO|apply iT|apply aJc|apply aHV|apply tZ|apply aCJ|apply rL|apply aLo|apply aNB|apply aNC|apply aND|apply aGY|apply aJf|apply aKB|apply aMq|apply aMr|apply aKC|apply aFZ|apply aIy|apply aKE|apply aHa|apply aNH|apply aNI|apply aGb|apply aGc|apply aEC|apply aIz|apply aNJ|apply aKF|apply aIA|apply aHb|apply aIB|apply aHc|apply aMt|apply aIC|apply aNK|apply aBf|apply aAL|apply aMu|apply aCN|apply aBg|apply aED|apply aDB|apply aGd);with_reducible assumption)|(with_reducible apply jW;with_reducible assumption)|(with_reducible apply uB;with_reducible assumption)|(with_reducible apply uC;with_reducible assumption)|(with_reducible apply aFy;with_reducible assumption)|(with_reducible apply jX;with_reducible assumption)|(with_reducible apply uD;with_reducible assumption)|(with_reducible apply uE;with_reducible assumption)|(with_reducible apply aFz;with_reducible assumption)|(with_reducible apply yB;with_reducible assumption)|(with_reducible apply yC;with_reducible assumption)|(with_reducible apply aIb;with_reducible assumption)|(with_reducible apply jF;with_reducible assumption)|(with_reducible apply fB;with_reducible assumption)|(with_reducible apply nR;with_reducible assumption)|(with_reducible apply nS;with_reducible assumption)|(with_reducible apply qI;with_reducible assumption)|(with_reducible apply aDC;with_reducible assumption)|(with_reducible apply aDD;with_reducible assumption)|(with_reducible apply aMv;with_reducible assumption)|(with_reducible apply mP;with_reducible assumption)|(with_reducible apply aCQ;with_reducible assumption)|(with_reducible apply aCR;with_reducible assumption)|(with_reducible apply zO;with_reducible assumption)|(with_reducible apply aAN;with_reducible assumption)|(with_reducible apply aAO;with_reducible assumption)|(with_reducible apply aJg;with_reducible assumption)|(with_reducible apply bP;with_reducible assumption)|(with_reducible apply lib_Cut;all_goals (try with_reducible assumption))|(with_reducible apply lib_Split;all_goals (try with_reducible assumption))|(with_reducible apply aNq;all_goals (try with_reducible assumption))|(with_reducible apply nP;all_goals (try with_reducible assumption))|(with_reducible apply aMg;all_goals (try with_reducible assumption))|(with_reducible apply aOi;all_goals (try with_reducible assumption))|(with_reducible apply lib_Swap;all_goals (try with_reducible assumption)));(case hv=>exact rfl);(repeat (first|assumption|exact st_c|(apply st_rK;assumption;exact jS)|(apply st_cK;assumption;exact jS)|exact kM _|exact jS|exact zR _|exact rfl|exact uS (by assumption)));exact hk.k;first|done|fail):p:=h ⟨k⟩
set_option maxRecDepth 100000 in
theorem aF {p:Prop} (h:p:=by
 repeat' (first
  |(apply st_i;exact cE;exact cE;exact eU;exact eU;exact rfl;exact st_S;exact rfl;intro z z zr;first|(have zr:=st_pd zr;subst zr)|obtain ⟨z,z,rfl,z⟩:=zr|obtain ⟨z,z,z,z,rfl,z,z⟩:=zr|obtain ⟨z,z,z,z,z,z,rfl,z,z,z⟩:=zr|obtain ⟨z,z,z,z,z,z,z,z,rfl,z,z,z,z⟩:=zr)
  |(apply st_iQ;exact cE;exact cE;exact eU;exact eU;exact rfl;exact st_S;exact rfl;intro z z zr;first|(have zr:=st_pd zr;subst zr)|obtain ⟨z,z,rfl,z⟩:=zr|obtain ⟨z,z,z,z,rfl,z,z⟩:=zr|obtain ⟨z,z,z,z,z,z,rfl,z,z,z⟩:=zr|obtain ⟨z,z,z,z,z,z,z,z,rfl,z,z,z,z⟩:=zr)
  |(apply st_iE;exact rfl;exact cE;exact cE;exact eU;exact eU;exact rfl;exact st_S;exact rfl;intro z z zr;first|(have zr:=st_pd zr;subst zr)|obtain ⟨z,z,rfl,z⟩:=zr|obtain ⟨z,z,z,z,rfl,z,z⟩:=zr|obtain ⟨z,z,z,z,z,z,rfl,z,z,z⟩:=zr|obtain ⟨z,z,z,z,z,z,z,z,rfl,z,z,z,z⟩:=zr)
  |(apply VO;exact st_V)
  |(apply VQ;intro _ _;exact st_V)
  |(apply bR)
  |with_reducible apply aE
  |with_reducible apply eK
  |(apply aH)
  |(apply bL)
  |(apply aT)
  |(apply aPL)
  |(apply V_condT;exact cE;exact aMe)
  |(apply V_condF;exact cE;exact aMe)
  |with_reducible apply aEQ
  |with_reducible apply aJB
  |(with_reducible apply blockQ_ne;exact rfl)
  |(apply V_onT;exact rfl;exact cE;exact aMe)
  |(apply V_onF;exact rfl;exact cE;exact aMe)
  |(apply V_offF;exact rfl;exact cE;exact aMe)
  |(apply V_offT;exact rfl;exact cE;exact aMe)
  |(apply Q_onT;exact rfl;exact cE;exact aMe)
  |(apply Q_onF;exact rfl;exact cE;exact aMe)
  |(apply Q_offF;exact rfl;exact cE;exact aMe)
  |(apply Q_offT;exact rfl;exact cE;exact aMe)
  |(apply aEb;exact rfl;exact cE)
  |(apply WQ_off_u;exact rfl;exact cE)
  |(apply V_WE;exact rfl;rintro _ ⟨_,_⟩;exact st_V)
  |(apply V_WT;exact rfl;intro _;exact st_V)
  |apply aGk
  |with_reducible apply aPM
  |with_reducible apply blockQ_r
  |exact st_X
  |(apply aGm;exact rfl;exact rfl;refine aLP hm (fun z=>?_);subst z;exact st_X)
  |(apply retQ_2;exact rfl;exact rfl;exact rfl;refine aLP hm (fun z=>?_);subst z;exact st_X)
  |(apply retQ_3;exact rfl;exact rfl;exact rfl;exact rfl;refine aLP hm (fun z=>?_);subst z;exact st_X)
  |(apply retQ_m1;exact rfl;exact aPu;refine aLP hm (fun z=>?_);subst z;exact st_X)
  |(apply retQ_m2;exact rfl;exact aPu;exact aPu;refine aLP hm (fun z=>?_);subst z;exact st_X)
  |(apply retQ_m3;exact rfl;exact aPu;exact aPu;exact aPu;refine aLP hm (fun z=>?_);subst z;exact st_X)
  |(apply retQ_0n;exact rfl;refine aLP hm (fun z=>?_);subst z;exact st_X)
  |(apply retQ_0;exact rfl;refine aLP hm (fun z=>?_);subst z;exact st_X)
  |(refine st_I st_f ?_)
  |intro (hm:(_:Option _)=some _)
  |intro (hr:∀ r',_=Sum.inr r'->_)
  |(with_reducible refine aBc fun z=>?_)
  |(with_reducible refine aBd ?_)
  |(intro (zv:(_:Value)=_);subst zv)
  |intro z
  |((with_reducible apply st_we);first|exact ⟨_,by assumption⟩|exact ⟨_,aG.weakK (by assumption) jS⟩)
  |(apply vV;exact rfl)
  |(apply WE_s;exact rfl)
  |apply WE_nil
  |(have zq:=hr _ (Option.some.inj hm).symm;subst zq;have hm:=ho;clear hr ho;try dsimp only at hm)
  |obtain ⟨z,z,hm⟩:=aB hm
  |exact st_no hm
  |refine st_a (fun z z z=>?_)
  |refine st_s (fun z z=>?_)
  |refine st_x (fun z z z=>?_)
  |refine st_ba (by with_reducible assumption) (fun z z z=>?_)
  |refine st_b (T:=108) ([]:List Int) (fun z z z=>?_)
  |refine st_b (T:=282) ([]:List Bool) (fun z z z=>?_)
  |refine st_b (T:=39) ([]:List aK) (fun z z z=>?_)
  |refine st_b (T:=78) ([]:List UInt8) (fun z z z=>?_)
  |refine st_p (fun z z z z=>?_)
  |(apply st_q2;exact cE;exact cE;(first|assumption|(apply st_rK;assumption;exact jS));assumption;exact st_M;assumption;exact st_S;exact st_u;exact st_e;exact rfl;exact rfl;exact rfl;exact rfl;intro z z z z)
  |(apply uT;intro z z)
  |refine st_k ?_
  |(apply bJ)
  |(refine aCf ?_;first|(intro z z;repeat (first|(with_reducible refine aBc fun z=>?_)|with_reducible refine aBd ?_|(intro (zv:(_:Value)=_);subst zv)|intro z))|skip)
  |((first|(apply lT;(with_reducible assumption);exact .head;(first|exact zR _|exact jS);intro zK zh zr zs bk)|(apply lU;(with_reducible assumption);exact .head;intro zK zh zr zs bk));refine aCf ?_;(first|(intro z z;repeat (first|(with_reducible refine aBc fun z=>?_)|with_reducible refine aBd ?_|(intro (zv:(_:Value)=_);subst zv)|intro z))|skip);(have z:=bk _ _ (by with_reducible assumption);clear bk))
  |((first|(apply lT;(with_reducible assumption);exact zt1;(first|exact zR _|exact jS);intro zK zh zr zs bk)|(apply lU;(with_reducible assumption);exact zt1;intro zK zh zr zs bk));refine aCf ?_;(first|(intro z z;repeat (first|(with_reducible refine aBc fun z=>?_)|with_reducible refine aBd ?_|(intro (zv:(_:Value)=_);subst zv)|intro z))|skip);(have z:=bk _ _ (by with_reducible assumption);clear bk))
  |((first|(apply lT;(with_reducible assumption);exact zt2;(first|exact zR _|exact jS);intro zK zh zr zs bk)|(apply lU;(with_reducible assumption);exact zt2;intro zK zh zr zs bk));refine aCf ?_;(first|(intro z z;repeat (first|(with_reducible refine aBc fun z=>?_)|with_reducible refine aBd ?_|(intro (zv:(_:Value)=_);subst zv)|intro z))|skip);(have z:=bk _ _ (by with_reducible assumption);clear bk))
  |((first|(apply lT;(with_reducible assumption);exact zt3;(first|exact zR _|exact jS);intro zK zh zr zs bk)|(apply lU;(with_reducible assumption);exact zt3;intro zK zh zr zs bk));refine aCf ?_;(first|(intro z z;repeat (first|(with_reducible refine aBc fun z=>?_)|with_reducible refine aBd ?_|(intro (zv:(_:Value)=_);subst zv)|intro z))|skip);(have z:=bk _ _ (by with_reducible assumption);clear bk))
  |((first|(apply lT;(with_reducible assumption);exact zt4;(first|exact zR _|exact jS);intro zK zh zr zs bk)|(apply lU;(with_reducible assumption);exact zt4;intro zK zh zr zs bk));refine aCf ?_;(first|(intro z z;repeat (first|(with_reducible refine aBc fun z=>?_)|with_reducible refine aBd ?_|(intro (zv:(_:Value)=_);subst zv)|intro z))|skip);(have z:=bk _ _ (by with_reducible assumption);clear bk))
  |((first|(apply lT;(with_reducible assumption);exact .head;(first|exact zR _|exact jS);intro zK zh zr zs bk)|(apply lU;(with_reducible assumption);exact .head;intro zK zh zr zs bk));(first|(apply lT;(with_reducible assumption);exact .head;(first|exact zR _|exact jS);intro zK zh zr zs bk)|(apply lU;(with_reducible assumption);exact .head;intro zK zh zr zs bk));refine aCf ?_;(first|(intro z z;repeat (first|(with_reducible refine aBc fun z=>?_)|with_reducible refine aBd ?_|(intro (zv:(_:Value)=_);subst zv)|intro z))|skip);(have z:=bk _ _ (by with_reducible assumption);clear bk);(have z:=bk _ _ (by with_reducible assumption);clear bk))
  |((first|(apply lT;(with_reducible assumption);exact zt1;(first|exact zR _|exact jS);intro zK zh zr zs bk)|(apply lU;(with_reducible assumption);exact zt1;intro zK zh zr zs bk));(first|(apply lT;(with_reducible assumption);exact zt1;(first|exact zR _|exact jS);intro zK zh zr zs bk)|(apply lU;(with_reducible assumption);exact zt1;intro zK zh zr zs bk));refine aCf ?_;(first|(intro z z;repeat (first|(with_reducible refine aBc fun z=>?_)|with_reducible refine aBd ?_|(intro (zv:(_:Value)=_);subst zv)|intro z))|skip);(have z:=bk _ _ (by with_reducible assumption);clear bk);(have z:=bk _ _ (by with_reducible assumption);clear bk))
  |((first|(apply lT;(with_reducible assumption);exact zt1;(first|exact zR _|exact jS);intro zK zh zr zs bk)|(apply lU;(with_reducible assumption);exact zt1;intro zK zh zr zs bk));(first|(apply lT;(with_reducible assumption);exact .head;(first|exact zR _|exact jS);intro zK zh zr zs bk)|(apply lU;(with_reducible assumption);exact .head;intro zK zh zr zs bk));refine aCf ?_;(first|(intro z z;repeat (first|(with_reducible refine aBc fun z=>?_)|with_reducible refine aBd ?_|(intro (zv:(_:Value)=_);subst zv)|intro z))|skip);(have z:=bk _ _ (by with_reducible assumption);clear bk);(have z:=bk _ _ (by with_reducible assumption);clear bk))
  |((first|(apply lT;(with_reducible assumption);exact zt2;(first|exact zR _|exact jS);intro zK zh zr zs bk)|(apply lU;(with_reducible assumption);exact zt2;intro zK zh zr zs bk));(first|(apply lT;(with_reducible assumption);exact zt1;(first|exact zR _|exact jS);intro zK zh zr zs bk)|(apply lU;(with_reducible assumption);exact zt1;intro zK zh zr zs bk));refine aCf ?_;(first|(intro z z;repeat (first|(with_reducible refine aBc fun z=>?_)|with_reducible refine aBd ?_|(intro (zv:(_:Value)=_);subst zv)|intro z))|skip);(have z:=bk _ _ (by with_reducible assumption);clear bk);(have z:=bk _ _ (by with_reducible assumption);clear bk))
  |((first|(apply lT;(with_reducible assumption);exact zt2;(first|exact zR _|exact jS);intro zK zh zr zs bk)|(apply lU;(with_reducible assumption);exact zt2;intro zK zh zr zs bk));(first|(apply lT;(with_reducible assumption);exact zt1;(first|exact zR _|exact jS);intro zK zh zr zs bk)|(apply lU;(with_reducible assumption);exact zt1;intro zK zh zr zs bk));(first|(apply lT;(with_reducible assumption);exact zt1;(first|exact zR _|exact jS);intro zK zh zr zs bk)|(apply lU;(with_reducible assumption);exact zt1;intro zK zh zr zs bk));refine aCf ?_;(first|(intro z z;repeat (first|(with_reducible refine aBc fun z=>?_)|with_reducible refine aBd ?_|(intro (zv:(_:Value)=_);subst zv)|intro z))|skip);(have z:=bk _ _ (by with_reducible assumption);clear bk);(have z:=bk _ _ (by with_reducible assumption);clear bk);(have z:=bk _ _ (by with_reducible assumption);clear bk))
  |((first|(apply lT;(with_reducible assumption);exact .head;(first|exact zR _|exact jS);intro zK zh zr zs bk)|(apply lU;(with_reducible assumption);exact .head;intro zK zh zr zs bk));(first|(apply lT;(with_reducible assumption);exact .head;(first|exact zR _|exact jS);intro zK zh zr zs bk)|(apply lU;(with_reducible assumption);exact .head;intro zK zh zr zs bk));(first|(apply lT;(with_reducible assumption);exact .head;(first|exact zR _|exact jS);intro zK zh zr zs bk)|(apply lU;(with_reducible assumption);exact .head;intro zK zh zr zs bk));refine aCf ?_;(first|(intro z z;repeat (first|(with_reducible refine aBc fun z=>?_)|with_reducible refine aBd ?_|(intro (zv:(_:Value)=_);subst zv)|intro z))|skip);(have z:=bk _ _ (by with_reducible assumption);clear bk);(have z:=bk _ _ (by with_reducible assumption);clear bk);(have z:=bk _ _ (by with_reducible assumption);clear bk))
  |((first|(apply lT;(with_reducible assumption);exact zt1;(first|exact zR _|exact jS);intro zK zh zr zs bk)|(apply lU;(with_reducible assumption);exact zt1;intro zK zh zr zs bk));(first|(apply lT;(with_reducible assumption);exact zt1;(first|exact zR _|exact jS);intro zK zh zr zs bk)|(apply lU;(with_reducible assumption);exact zt1;intro zK zh zr zs bk));(first|(apply lT;(with_reducible assumption);exact zt1;(first|exact zR _|exact jS);intro zK zh zr zs bk)|(apply lU;(with_reducible assumption);exact zt1;intro zK zh zr zs bk));refine aCf ?_;(first|(intro z z;repeat (first|(with_reducible refine aBc fun z=>?_)|with_reducible refine aBd ?_|(intro (zv:(_:Value)=_);subst zv)|intro z))|skip);(have z:=bk _ _ (by with_reducible assumption);clear bk);(have z:=bk _ _ (by with_reducible assumption);clear bk);(have z:=bk _ _ (by with_reducible assumption);clear bk))
  |((first|(apply lT;(with_reducible assumption);exact zt3;(first|exact zR _|exact jS);intro zK zh zr zs bk)|(apply lU;(with_reducible assumption);exact zt3;intro zK zh zr zs bk));(first|(apply lT;(with_reducible assumption);exact zt2;(first|exact zR _|exact jS);intro zK zh zr zs bk)|(apply lU;(with_reducible assumption);exact zt2;intro zK zh zr zs bk));(first|(apply lT;(with_reducible assumption);exact zt2;(first|exact zR _|exact jS);intro zK zh zr zs bk)|(apply lU;(with_reducible assumption);exact zt2;intro zK zh zr zs bk));refine aCf ?_;(first|(intro z z;repeat (first|(with_reducible refine aBc fun z=>?_)|with_reducible refine aBd ?_|(intro (zv:(_:Value)=_);subst zv)|intro z))|skip);(have z:=bk _ _ (by with_reducible assumption);clear bk);(have z:=bk _ _ (by with_reducible assumption);clear bk);(have z:=bk _ _ (by with_reducible assumption);clear bk))
  |((first|(apply lT;(with_reducible assumption);exact .head;(first|exact zR _|exact jS);intro zK zh zr zs bk)|(apply lU;(with_reducible assumption);exact .head;intro zK zh zr zs bk));(first|(apply lT;(with_reducible assumption);exact .head;(first|exact zR _|exact jS);intro zK zh zr zs bk)|(apply lU;(with_reducible assumption);exact .head;intro zK zh zr zs bk));(first|(apply lT;(with_reducible assumption);exact .head;(first|exact zR _|exact jS);intro zK zh zr zs bk)|(apply lU;(with_reducible assumption);exact .head;intro zK zh zr zs bk));(first|(apply lT;(with_reducible assumption);exact .head;(first|exact zR _|exact jS);intro zK zh zr zs bk)|(apply lU;(with_reducible assumption);exact .head;intro zK zh zr zs bk));refine aCf ?_;(first|(intro z z;repeat (first|(with_reducible refine aBc fun z=>?_)|with_reducible refine aBd ?_|(intro (zv:(_:Value)=_);subst zv)|intro z))|skip);(have z:=bk _ _ (by with_reducible assumption);clear bk);(have z:=bk _ _ (by with_reducible assumption);clear bk);(have z:=bk _ _ (by with_reducible assumption);clear bk);(have z:=bk _ _ (by with_reducible assumption);clear bk))
  |((first|(with_reducible apply st_g0)|(with_reducible apply st_g1)|(with_reducible apply st_g2)|(with_reducible apply st_g3)|(apply st_g4;exact rfl));rcases aJ hm with ⟨z,hm⟩|⟨z,hm⟩))):p:=h
end Gv
