/- Readings of the program's data; what is known of its types. -/
import Derived.Test.YtfhgggimcgajdaaGreatDoorJYS
import Derived.Test.YtfhgggimcgajdaaGreatDoorProg
set_option linter.all false
namespace Gv
open Go.Value renaming slice→zS
open Gv.Hp renaming le_trans→zL
open Go Go.Proofs Go.Proofs.Tryz
instance:oS bS where
 sz:=2
 enc d:=[i64 d.Kind,i64 d.Value]
 len _:=rfl
 one _ v h:=by simp at h;rcases h with rfl|rfl<;>rfl
 pos:=by decide
instance:El Part where
 sz:=4
 rd K cs d:=∃ (a0:Option Addr) (c0:Nat),cs=[i64 d.Kind,i64 d.Number,bE d.Name,zS a0 d.Arguments.length c0]/\bY K a0 c0 d.Arguments
 mono:=fun h ⟨a0,c0,e,h0⟩=>⟨a0,c0,e,h0.mono h⟩
 len:=fun ⟨_,_,e,_⟩=>by rw [e];rfl
 one:=fun ⟨_,_,e,_⟩ v hv=>by rw [e] at hv;simp at hv;rcases hv with rfl|rfl|rfl|rfl<;>rfl
 pos:=by decide
instance:El Definition where
 sz:=3
 rd K cs d:=∃ (a0:Option Addr) (c0:Nat),cs=[bE d.Name,i64 d.Parameters,zS a0 d.Body.length c0]/\bY K a0 c0 d.Body
 mono:=fun h ⟨a0,c0,e,h0⟩=>⟨a0,c0,e,h0.mono h⟩
 len:=fun ⟨_,_,e,_⟩=>by rw [e];rfl
 one:=fun ⟨_,_,e,_⟩ v hv=>by rw [e] at hv;simp at hv;rcases hv with rfl|rfl|rfl<;>rfl
 pos:=by decide
instance:El bT where
 sz:=2
 rd K cs d:=∃ (a0:Option Addr) (c0:Nat),cs=[i64 d.Definition,zS a0 d.Values.length c0]/\bY K a0 c0 d.Values
 mono:=fun h ⟨a0,c0,e,h0⟩=>⟨a0,c0,e,h0.mono h⟩
 len:=fun ⟨_,_,e,_⟩=>by rw [e];rfl
 one:=fun ⟨_,_,e,_⟩ v hv=>by rw [e] at hv;simp at hv;rcases hv with rfl|rfl<;>rfl
 pos:=by decide
instance:oS bU where
 sz:=3
 enc d:=[bE d.Left,bE d.Right,bE d.Result]
 len _:=rfl
 one _ v h:=by simp at h;rcases h with rfl|rfl|rfl<;>rfl
 pos:=by decide
instance:El bZ where
 sz:=5
 rd K cs d:=∃ (a0:Option Addr) (c0:Nat) (a1:Option Addr) (c1:Nat) (a2:Option Addr) (c2:Nat) (a3:Option Addr) (c3:Nat) (a4:Option Addr) (c4:Nat),cs=[zS a0 d.Definitions.length c0,zS a1 d.Components.length c1,zS a2 d.Meetings.length c2,zS a3 d.Allowed.length c3,zS a4 d.Hidden.length c4]/\bY K a0 c0 d.Definitions/\bY K a1 c1 d.Components/\bY K a2 c2 d.Meetings/\bY K a3 c3 d.Allowed/\bY K a4 c4 d.Hidden
 mono:=fun h ⟨a0,c0,a1,c1,a2,c2,a3,c3,a4,c4,e,h0,h1,h2,h3,h4⟩=>⟨a0,c0,a1,c1,a2,c2,a3,c3,a4,c4,e,h0.mono h,h1.mono h,h2.mono h,h3.mono h,h4.mono h⟩
 len:=fun ⟨_,_,_,_,_,_,_,_,_,_,e,_⟩=>by rw [e];rfl
 one:=fun ⟨_,_,_,_,_,_,_,_,_,_,e,_⟩ v hv=>by rw [e] at hv;simp at hv;rcases hv with rfl|rfl|rfl|rfl|rfl<;>rfl
 pos:=by decide
instance:El aZ where
 sz:=3
 rd K cs d:=∃ (a0:Option Addr) (c0:Nat),cs=[i64 d.Definition,i64 d.Part,zS a0 d.Values.length c0]/\bY K a0 c0 d.Values
 mono:=fun h ⟨a0,c0,e,h0⟩=>⟨a0,c0,e,h0.mono h⟩
 len:=fun ⟨_,_,e,_⟩=>by rw [e];rfl
 one:=fun ⟨_,_,e,_⟩ v hv=>by rw [e] at hv;simp at hv;rcases hv with rfl|rfl|rfl<;>rfl
 pos:=by decide
instance:El cM where
 sz:=4
 rd K cs d:=∃ (a0:Option Addr) (c0:Nat),cs=[bE d.B,i64 d.Next.Definition,i64 d.Next.Part,zS a0 d.Next.Values.length c0]/\bY K a0 c0 d.Next.Values
 mono:=fun h ⟨a0,c0,e,h0⟩=>⟨a0,c0,e,h0.mono h⟩
 len:=fun ⟨_,_,e,_⟩=>by rw [e];rfl
 one:=fun ⟨_,_,e,_⟩ v hv=>by rw [e] at hv;simp at hv;rcases hv with rfl|rfl|rfl|rfl<;>rfl
 pos:=by decide
instance:El bV where
 sz:=4
 rd K cs d:=∃ (a0:Option Addr) (c0:Nat),cs=[bE d.B,i64 d.First,i64 d.Second,zS a0 d.State.length c0]/\bY K a0 c0 d.State
 mono:=fun h ⟨a0,c0,e,h0⟩=>⟨a0,c0,e,h0.mono h⟩
 len:=fun ⟨_,_,e,_⟩=>by rw [e];rfl
 one:=fun ⟨_,_,e,_⟩ v hv=>by rw [e] at hv;simp at hv;rcases hv with rfl|rfl|rfl|rfl<;>rfl
 pos:=by decide
instance:oS dI where
 sz:=4
 enc d:=[i64 d.Choice,i64 d.First,i64 d.Second,bE d.B]
 len _:=rfl
 one _ v h:=by simp at h;rcases h with rfl|rfl|rfl|rfl<;>rfl
 pos:=by decide
instance:oS eX where
 sz:=2
 enc d:=[i64 d.scope,Value.bool d.behind]
 len _:=rfl
 one _ v h:=by simp at h;rcases h with rfl|rfl<;>rfl
 pos:=by decide
instance:oS rZ where
 sz:=2
 enc d:=[i64 d.policy,i64 d.seed]
 len _:=rfl
 one _ v h:=by simp at h;rcases h with rfl|rfl<;>rfl
 pos:=by decide
instance:Dp Part where
 Hd:=((Option Addr × Nat) × List (Dp.Hd (List bS)))
 sz1:=3
 enc hd x:=[i64 x.Kind,i64 x.Number,bE x.Name,.slice hd.1.1 x.Arguments.length hd.1.2]
 pcs tys hd x:=[bN (tys.headD 0) Hp.nil hd.1.1 hd.1.2 (bK hd.2 x.Arguments),aDG [(tys.tail.headD 0)] hd.2 x.Arguments]
 len _ _:=rfl
 one _ _ v h:=by simp at h;rcases h with rfl|rfl|rfl|rfl<;>rfl
instance:aKS Part where
 sz:=rfl
 rd:=fun {tys hd x h K} a hK=>by
  obtain ⟨p0,r0,b0,_,l0,m0,a⟩:=a
  obtain ⟨p1,r1,b1,_,l1,m1,a⟩:=a
  exact ⟨hd.1.1,hd.1.2,rfl,aOv b0 b1 (zL l0 (hK)) (zL l1 (zL m0 (hK)))⟩
theorem aOw (tys:List TypeId):gT (Dp.pcs tys (((none,0),[]):Dp.Hd Part) (⟨0,0,[],[]⟩:Part)) Hp.nil:=
 aPA _ _ (trivial)
theorem aQN {hd:Dp.Hd Part} {x:Part} {l:(List (List bS))} (h:x.Arguments.length=l.length):Dp.enc hd (⟨x.Kind,x.Number,x.Name,l⟩:Part)=Dp.enc hd x:=by
 simp only [Dp.enc,h]
instance:Dp Definition where
 Hd:=((Option Addr × Nat) × List (Dp.Hd Part))
 sz1:=2
 enc hd x:=[bE x.Name,i64 x.Parameters,.slice hd.1.1 x.Body.length hd.1.2]
 pcs tys hd x:=[bN (tys.headD 0) Hp.nil hd.1.1 hd.1.2 (bK hd.2 x.Body),aDG [(tys.tail.headD 0),(tys.tail.tail.headD 0)] hd.2 x.Body]
 len _ _:=rfl
 one _ _ v h:=by simp at h;rcases h with rfl|rfl|rfl<;>rfl
instance:aKS Definition where
 sz:=rfl
 rd:=fun {tys hd x h K} a hK=>by
  obtain ⟨p0,r0,b0,_,l0,m0,a⟩:=a
  obtain ⟨p1,r1,b1,_,l1,m1,a⟩:=a
  exact ⟨hd.1.1,hd.1.2,rfl,aOv b0 b1 (zL l0 (hK)) (zL l1 (zL m0 (hK)))⟩
theorem aIx (tys:List TypeId):gT (Dp.pcs tys (((none,0),[]):Dp.Hd Definition) (⟨[],0,[]⟩:Definition)) Hp.nil:=
 aPA _ _ (trivial)
theorem aJT {hd:Dp.Hd Definition} {x:Definition} {l:(List Part)} (h:x.Body.length=l.length):Dp.enc hd (⟨x.Name,x.Parameters,l⟩:Definition)=Dp.enc hd x:=by
 simp only [Dp.enc,h]
instance:Dp bT where
 Hd:=(Option Addr × Nat)
 sz1:=1
 enc hd x:=[i64 x.Definition,.slice hd.1 x.Values.length hd.2]
 pcs tys hd x:=[bN (tys.headD 0) Hp.nil hd.1 hd.2 x.Values]
 len _ _:=rfl
 one _ _ v h:=by simp at h;rcases h with rfl|rfl<;>rfl
instance:aKS bT where
 sz:=rfl
 rd:=fun {tys hd x h K} a hK=>by
  obtain ⟨p0,r0,b0,_,l0,m0,a⟩:=a
  exact ⟨hd.1,hd.2,rfl,bN.rd b0 (zL l0 (hK)) (Hp.nil_le _)⟩
theorem aIT (tys:List TypeId):gT (Dp.pcs tys ((none,0):Dp.Hd bT) (⟨0,[]⟩:bT)) Hp.nil:=
 ⟨Hp.nil,Hp.nil,bN.nil _ _ _,Hp.nil_dj _,Hp.nil_le _,Hp.nil_le _,trivial⟩
theorem aKT {hd:Dp.Hd bT} {x:bT} {l:(List Int)} (h:x.Values.length=l.length):Dp.enc hd (⟨x.Definition,l⟩:bT)=Dp.enc hd x:=by
 simp only [Dp.enc,h]
instance:Dp aZ where
 Hd:=(Option Addr × Nat)
 sz1:=2
 enc hd x:=[i64 x.Definition,i64 x.Part,.slice hd.1 x.Values.length hd.2]
 pcs tys hd x:=[bN (tys.headD 0) Hp.nil hd.1 hd.2 x.Values]
 len _ _:=rfl
 one _ _ v h:=by simp at h;rcases h with rfl|rfl|rfl<;>rfl
instance:aKS aZ where
 sz:=rfl
 rd:=fun {tys hd x h K} a hK=>by
  obtain ⟨p0,r0,b0,_,l0,m0,a⟩:=a
  exact ⟨hd.1,hd.2,rfl,bN.rd b0 (zL l0 (hK)) (Hp.nil_le _)⟩
theorem aOx {hd:Dp.Hd aZ} {x:aZ} {l:(List Int)} (h:x.Values.length=l.length):Dp.enc hd (⟨x.Definition,x.Part,l⟩:aZ)=Dp.enc hd x:=by
 simp only [Dp.enc,h]
instance:Dp bV where
 Hd:=((Option Addr × Nat) × List (Dp.Hd aZ))
 sz1:=3
 enc hd x:=[bE x.B,i64 x.First,i64 x.Second,.slice hd.1.1 x.State.length hd.1.2]
 pcs tys hd x:=[bN (tys.headD 0) Hp.nil hd.1.1 hd.1.2 (bK hd.2 x.State),aDG [(tys.tail.headD 0)] hd.2 x.State]
 len _ _:=rfl
 one _ _ v h:=by simp at h;rcases h with rfl|rfl|rfl|rfl<;>rfl
instance:aKS bV where
 sz:=rfl
 rd:=fun {tys hd x h K} a hK=>by
  obtain ⟨p0,r0,b0,_,l0,m0,a⟩:=a
  obtain ⟨p1,r1,b1,_,l1,m1,a⟩:=a
  exact ⟨hd.1.1,hd.1.2,rfl,aOv b0 b1 (zL l0 (hK)) (zL l1 (zL m0 (hK)))⟩
theorem aOy:SLT prog 226 277 2:=⟨runUnderlying226,sizeOf277⟩
theorem aJU:SLT prog 155 226 1:=⟨runUnderlying155,sizeOf226⟩
theorem sc_226:SC prog 226:=⟨isAgg226,sizeOf226⟩
theorem aPB:FA prog 157 2 2:=⟨_,_,_,runUnderlying157,rfl,sizeOf9,rfl,rfl⟩
theorem fA:SC prog 9:=⟨isAgg9,sizeOf9⟩
theorem aPC:FA prog 157 3 3:=⟨_,_,_,runUnderlying157,rfl,sizeOf155,rfl,rfl⟩
theorem sc_155:SC prog 155:=⟨isAgg155,sizeOf155⟩
theorem aNI:SLT prog 81 157 4:=⟨runUnderlying81,sizeOf157⟩
theorem ag_157:AG prog 157 4:=⟨isAgg157,sizeOf157⟩
theorem fa_83_0:FA prog 83 0 0:=⟨_,_,_,runUnderlying83,rfl,sizeOf9,rfl,rfl⟩
theorem fa_83_2:FA prog 83 2 2:=⟨_,_,_,runUnderlying83,rfl,sizeOf81,rfl,rfl⟩
theorem sc_81:SC prog 81:=⟨isAgg81,sizeOf81⟩
theorem aNJ:SLT prog 22 83 3:=⟨runUnderlying22,sizeOf83⟩
theorem ag_83:AG prog 83 3:=⟨isAgg83,sizeOf83⟩
theorem fN:SLT prog 68 2 1:=⟨runUnderlying68,sizeOf2⟩
theorem fa_86_1:FA prog 86 1 1:=⟨_,_,_,runUnderlying86,rfl,sizeOf68,rfl,rfl⟩
theorem vL:SC prog 68:=⟨isAgg68,sizeOf68⟩
theorem aNK:SLT prog 23 86 2:=⟨runUnderlying23,sizeOf86⟩
theorem ag_86:AG prog 86 2:=⟨isAgg86,sizeOf86⟩
theorem fa_89_0:FA prog 89 0 0:=⟨_,_,_,runUnderlying89,rfl,sizeOf9,rfl,rfl⟩
theorem fa_89_1:FA prog 89 1 1:=⟨_,_,_,runUnderlying89,rfl,sizeOf9,rfl,rfl⟩
theorem fa_89_2:FA prog 89 2 2:=⟨_,_,_,runUnderlying89,rfl,sizeOf9,rfl,rfl⟩
theorem aNL:SLT prog 24 89 3:=⟨runUnderlying24,sizeOf89⟩
theorem ag_89:AG prog 89 3:=⟨isAgg89,sizeOf89⟩
theorem hH:SLT prog 25 9 1:=⟨runUnderlying25,sizeOf9⟩
theorem fa_27_0:FA prog 27 0 0:=⟨_,_,_,runUnderlying27,rfl,sizeOf22,rfl,rfl⟩
theorem sc_22:SC prog 22:=⟨isAgg22,sizeOf22⟩
theorem fa_27_1:FA prog 27 1 1:=⟨_,_,_,runUnderlying27,rfl,sizeOf23,rfl,rfl⟩
theorem sc_23:SC prog 23:=⟨isAgg23,sizeOf23⟩
theorem fa_27_2:FA prog 27 2 2:=⟨_,_,_,runUnderlying27,rfl,sizeOf24,rfl,rfl⟩
theorem sc_24:SC prog 24:=⟨isAgg24,sizeOf24⟩
theorem fa_27_3:FA prog 27 3 3:=⟨_,_,_,runUnderlying27,rfl,sizeOf25,rfl,rfl⟩
theorem zV:SC prog 25:=⟨isAgg25,sizeOf25⟩
theorem fa_27_4:FA prog 27 4 4:=⟨_,_,_,runUnderlying27,rfl,sizeOf25,rfl,rfl⟩
theorem eY:FA prog 152 0 0:=⟨_,_,_,runUnderlying152,rfl,sizeOf2,rfl,rfl⟩
theorem dC:SC prog 2:=⟨isAgg2,sizeOf2⟩
theorem iH:SLT prog 102 152 4:=⟨runUnderlying102,sizeOf152⟩
theorem jH:FA prog 152 1 1:=⟨_,_,_,runUnderlying152,rfl,sizeOf2,rfl,rfl⟩
theorem lD:FA prog 152 2 2:=⟨_,_,_,runUnderlying152,rfl,sizeOf9,rfl,rfl⟩
theorem jI:FA prog 152 3 3:=⟨_,_,_,runUnderlying152,rfl,sizeOf150,rfl,rfl⟩
theorem qN:SC prog 150:=⟨isAgg150,sizeOf150⟩
theorem lE:SLT prog 150 190 1:=⟨runUnderlying150,sizeOf190⟩
theorem rE:FA prog 104 1 1:=⟨_,_,_,runUnderlying104,rfl,sizeOf2,rfl,rfl⟩
theorem jJ:FA prog 104 2 2:=⟨_,_,_,runUnderlying104,rfl,sizeOf102,rfl,rfl⟩
theorem qO:SC prog 102:=⟨isAgg102,sizeOf102⟩
theorem vT:FA prog 224 0 0:=⟨_,_,_,runUnderlying224,rfl,sizeOf2,rfl,rfl⟩
theorem kL:FA prog 224 1 1:=⟨_,_,_,runUnderlying224,rfl,sizeOf2,rfl,rfl⟩
theorem lX:SLT prog 190 224 2:=⟨runUnderlying190,sizeOf224⟩
theorem yD:AG prog 152 4:=⟨isAgg152,sizeOf152⟩
theorem jO:SLT prog 33 104 3:=⟨runUnderlying33,sizeOf104⟩
theorem aFP:SC prog 190:=⟨isAgg190,sizeOf190⟩
theorem vU:FA prog 104 0 0:=⟨_,_,_,runUnderlying104,rfl,sizeOf9,rfl,rfl⟩
theorem uM:FA prog 37 1 1:=⟨_,_,_,runUnderlying37,rfl,sizeOf34,rfl,rfl⟩
theorem aGs:SC prog 34:=⟨isAgg34,sizeOf34⟩
theorem vV:SLT prog 34 100 2:=⟨runUnderlying34,sizeOf100⟩
theorem aFQ:AG prog 100 2:=⟨isAgg100,sizeOf100⟩
theorem vW:FA prog 100 0 0:=⟨_,_,_,runUnderlying100,rfl,sizeOf2,rfl,rfl⟩
theorem zW:FA prog 37 0 0:=⟨_,_,_,runUnderlying37,rfl,sizeOf33,rfl,rfl⟩
theorem aGR:SC prog 33:=⟨isAgg33,sizeOf33⟩
theorem vX:FA prog 100 1 1:=⟨_,_,_,runUnderlying100,rfl,sizeOf68,rfl,rfl⟩
theorem mB:SLT prog 35 107 3:=⟨runUnderlying35,sizeOf107⟩
theorem aEO:AG prog 107 3:=⟨isAgg107,sizeOf107⟩
theorem kM:FA prog 107 0 0:=⟨_,_,_,runUnderlying107,rfl,sizeOf9,rfl,rfl⟩
theorem mC:FA prog 107 1 1:=⟨_,_,_,runUnderlying107,rfl,sizeOf9,rfl,rfl⟩
theorem rF:FA prog 107 2 2:=⟨_,_,_,runUnderlying107,rfl,sizeOf9,rfl,rfl⟩
theorem aCR:FA prog 37 2 2:=⟨_,_,_,runUnderlying37,rfl,sizeOf35,rfl,rfl⟩
theorem aKF:SC prog 35:=⟨isAgg35,sizeOf35⟩
theorem aCS:FA prog 37 3 3:=⟨_,_,_,runUnderlying37,rfl,sizeOf25,rfl,rfl⟩
theorem aEu:FA prog 37 4 4:=⟨_,_,_,runUnderlying37,rfl,sizeOf25,rfl,rfl⟩
theorem aFe:EZ prog 2 [i64 0]:=⟨⟨_,zeroValue2,rfl⟩,⟨t2,typeInfo2,by show (8:Nat)<=128;decide,rfl,by kernel_rfl,_,rfl,rfl⟩⟩
theorem gP:SLT prog 30 70 3:=⟨runUnderlying30,sizeOf70⟩
theorem aGt:EZ prog 70 [i64 0,i64 0,zS none 0 0]:=⟨⟨_,zeroValue70,rfl⟩,⟨t70,typeInfo70,by show (40:Nat)<=128;decide,rfl,by kernel_rfl,_,rfl,rfl⟩⟩
theorem aBx:FA prog 70 0 0:=⟨_,_,_,runUnderlying70,rfl,sizeOf2,rfl,rfl⟩
theorem aBy:FA prog 70 1 1:=⟨_,_,_,runUnderlying70,rfl,sizeOf2,rfl,rfl⟩
theorem xD:FA prog 70 2 2:=⟨_,_,_,runUnderlying70,rfl,sizeOf68,rfl,rfl⟩
theorem aLW:BS prog 70 [(0,1),(1,1),(2,1)] [i64 0,i64 0,zS none 0 0]:=⟨⟨_,zeroValue70,rfl⟩,_,runUnderlying70,fun w=>by simp [sizeOf2,sizeOf68]⟩
theorem aDH:SLT prog 118 5 1:=⟨runUnderlying118,sizeOf5⟩
theorem ez_5:EZ prog 5 [Value.int .u8 0]:=⟨⟨_,zeroValue5,rfl⟩,⟨t5,typeInfo5,by show (1:Nat)<=128;decide,rfl,by kernel_rfl,_,rfl,rfl⟩⟩
theorem sc_5:SC prog 5:=⟨isAgg5,sizeOf5⟩
theorem lY:SLT prog 122 127 4:=⟨runUnderlying122,sizeOf127⟩
theorem vM:AG prog 70 3:=⟨isAgg70,sizeOf70⟩
theorem bs_127:BS prog 127 [(0,1),(1,3)] [bE [],i64 0,i64 0,zS none 0 0]:=⟨⟨_,zeroValue127,rfl⟩,_,runUnderlying127,fun w=>by simp [sizeOf70,sizeOf9]⟩
theorem aLX:EZ prog 127 [bE [],i64 0,i64 0,zS none 0 0]:=⟨⟨_,zeroValue127,rfl⟩,⟨t127,typeInfo127,by show (56:Nat)<=128;decide,rfl,by kernel_rfl,_,rfl,rfl⟩⟩
theorem tA:FA prog 127 0 0:=⟨_,_,_,runUnderlying127,rfl,sizeOf9,rfl,rfl⟩
theorem zX:FA prog 127 1 1:=⟨_,_,_,runUnderlying127,rfl,sizeOf70,rfl,rfl⟩
theorem aJV:AG prog 127 4:=⟨isAgg127,sizeOf127⟩
theorem qI:SLT prog 94 99 4:=⟨runUnderlying94,sizeOf99⟩
theorem ag_99:AG prog 99 4:=⟨isAgg99,sizeOf99⟩
theorem aLu:FA prog 99 0 0:=⟨_,_,_,runUnderlying99,rfl,sizeOf9,rfl,rfl⟩
theorem aHz:FA prog 99 1 1:=⟨_,_,_,runUnderlying99,rfl,sizeOf2,rfl,rfl⟩
theorem aLv:FA prog 99 2 2:=⟨_,_,_,runUnderlying99,rfl,sizeOf2,rfl,rfl⟩
theorem aLw:FA prog 99 3 3:=⟨_,_,_,runUnderlying99,rfl,sizeOf30,rfl,rfl⟩
theorem sc_30:SC prog 30:=⟨isAgg30,sizeOf30⟩
theorem ez_99:EZ prog 99 [bE [],i64 0,i64 0,zS none 0 0]:=⟨⟨_,zeroValue99,rfl⟩,⟨t99,typeInfo99,by show (56:Nat)<=128;decide,rfl,by kernel_rfl,_,rfl,rfl⟩⟩
theorem ez_9:EZ prog 9 [bE []]:=⟨⟨_,zeroValue9,rfl⟩,⟨t9,typeInfo9,by show (16:Nat)<=128;decide,rfl,by kernel_rfl,_,rfl,rfl⟩⟩
theorem yE:SLT prog 121 122 1:=⟨runUnderlying121,sizeOf122⟩
theorem aLZ:EZ prog 122 [zS none 0 0]:=⟨⟨_,zeroValue122,rfl⟩,⟨t122,typeInfo122,by show (24:Nat)<=128;decide,rfl,by kernel_rfl,_,rfl,rfl⟩⟩
theorem aBg:SC prog 122:=⟨isAgg122,sizeOf122⟩
theorem bs_99:BS prog 99 [(0,1),(1,1),(2,1),(3,1)] [bE [],i64 0,i64 0,zS none 0 0]:=⟨⟨_,zeroValue99,rfl⟩,_,runUnderlying99,fun w=>by simp [sizeOf2,sizeOf30,sizeOf9]⟩
theorem mX:SLT prog 29 66 4:=⟨runUnderlying29,sizeOf66⟩
theorem aIU:FA prog 66 1 1:=⟨_,_,_,runUnderlying66,rfl,sizeOf2,rfl,rfl⟩
theorem aNM:EZ prog 66 [i64 0,i64 0,i64 0,bE []]:=⟨⟨_,zeroValue66,rfl⟩,⟨t66,typeInfo66,by show (40:Nat)<=128;decide,rfl,by kernel_rfl,_,rfl,rfl⟩⟩
theorem bs_66:BS prog 66 [(0,1),(1,1),(2,1),(3,1)] [i64 0,i64 0,i64 0,bE []]:=⟨⟨_,zeroValue66,rfl⟩,_,runUnderlying66,fun w=>by simp [sizeOf2,sizeOf9]⟩
theorem fa_277_0:FA prog 277 0 0:=⟨_,_,_,runUnderlying277,rfl,sizeOf2,rfl,rfl⟩
theorem fa_277_1:FA prog 277 1 1:=⟨_,_,_,runUnderlying277,rfl,sizeOf2,rfl,rfl⟩
theorem aFR:AG prog 224 2:=⟨isAgg224,sizeOf224⟩
theorem ez_224:EZ prog 224 [i64 0,i64 0]:=⟨⟨_,zeroValue224,rfl⟩,⟨t224,typeInfo224,by show (16:Nat)<=128;decide,rfl,by kernel_rfl,_,rfl,rfl⟩⟩
theorem ag_277:AG prog 277 2:=⟨isAgg277,sizeOf277⟩
theorem ez_190:EZ prog 190 [zS none 0 0]:=⟨⟨_,zeroValue190,rfl⟩,⟨t190,typeInfo190,by show (24:Nat)<=128;decide,rfl,by kernel_rfl,_,rfl,rfl⟩⟩
theorem fa_157_0:FA prog 157 0 0:=⟨_,_,_,runUnderlying157,rfl,sizeOf2,rfl,rfl⟩
theorem fa_157_1:FA prog 157 1 1:=⟨_,_,_,runUnderlying157,rfl,sizeOf2,rfl,rfl⟩
theorem ez_152:EZ prog 152 [i64 0,i64 0,bE [],zS none 0 0]:=⟨⟨_,zeroValue152,rfl⟩,⟨t152,typeInfo152,by show (56:Nat)<=128;decide,rfl,by kernel_rfl,_,rfl,rfl⟩⟩
theorem fa_83_1:FA prog 83 1 1:=⟨_,_,_,runUnderlying83,rfl,sizeOf2,rfl,rfl⟩
theorem aCK:AG prog 104 3:=⟨isAgg104,sizeOf104⟩
theorem ez_104:EZ prog 104 [bE [],i64 0,zS none 0 0]:=⟨⟨_,zeroValue104,rfl⟩,⟨t104,typeInfo104,by show (48:Nat)<=128;decide,rfl,by kernel_rfl,_,rfl,rfl⟩⟩
theorem fa_86_0:FA prog 86 0 0:=⟨_,_,_,runUnderlying86,rfl,sizeOf2,rfl,rfl⟩
theorem ez_100:EZ prog 100 [i64 0,zS none 0 0]:=⟨⟨_,zeroValue100,rfl⟩,⟨t100,typeInfo100,by show (32:Nat)<=128;decide,rfl,by kernel_rfl,_,rfl,rfl⟩⟩
theorem ez_107:EZ prog 107 [bE [],bE [],bE []]:=⟨⟨_,zeroValue107,rfl⟩,⟨t107,typeInfo107,by show (48:Nat)<=128;decide,rfl,by kernel_rfl,_,rfl,rfl⟩⟩
theorem aFf:AG prog 37 5:=⟨isAgg37,sizeOf37⟩
theorem sl_237:SLT prog 237 241 2:=⟨runUnderlying237,sizeOf241⟩
theorem ez_241:EZ prog 241 [i64 0,Value.bool false]:=⟨⟨_,zeroValue241,rfl⟩,⟨t241,typeInfo241,by show (16:Nat)<=128;decide,rfl,by kernel_rfl,_,rfl,rfl⟩⟩
theorem sc_278:SC prog 278:=⟨isAgg278,sizeOf278⟩
theorem bs_241:BS prog 241 [(0,1),(1,1)] [i64 0,Value.bool false]:=⟨⟨_,zeroValue241,rfl⟩,_,runUnderlying241,fun w=>by simp [sizeOf2,sizeOf4]⟩
theorem sc_237:SC prog 237:=⟨isAgg237,sizeOf237⟩
theorem ag_241:AG prog 241 2:=⟨isAgg241,sizeOf241⟩
theorem aGS:FA prog 241 0 0:=⟨_,_,_,runUnderlying241,rfl,sizeOf2,rfl,rfl⟩
theorem fa_241_1:FA prog 241 1 1:=⟨_,_,_,runUnderlying241,rfl,sizeOf4,rfl,rfl⟩
theorem sc_4:SC prog 4:=⟨isAgg4,sizeOf4⟩
theorem aOA:FA prog 60 0 0:=⟨_,_,_,runUnderlying60,rfl,sizeOf2,rfl,rfl⟩
theorem fa_60_1:FA prog 60 1 1:=⟨_,_,_,runUnderlying60,rfl,sizeOf2,rfl,rfl⟩
theorem ag_60:AG prog 60 2:=⟨isAgg60,sizeOf60⟩
theorem bs_286:BS prog 286 [(0,2),(2,1)] [i64 0,i64 0,zS none 0 0]:=⟨⟨_,zeroValue286,rfl⟩,_,runUnderlying286,fun w=>by simp [sizeOf224,sizeOf284]⟩
theorem aGT:FA prog 286 1 2:=⟨_,_,_,runUnderlying286,rfl,sizeOf284,rfl,rfl⟩
theorem aOB:SC prog 284:=⟨isAgg284,sizeOf284⟩
theorem aMa:SLT prog 284 246 1:=⟨runUnderlying284,sizeOf246⟩
theorem ez_246:EZ prog 246 [Value.pointer none]:=⟨⟨_,zeroValue246,rfl⟩,⟨t246,typeInfo246,by show (8:Nat)<=128;decide,rfl,by kernel_rfl,_,rfl,rfl⟩⟩
theorem aIV:FA prog 286 0 0:=⟨_,_,_,runUnderlying286,rfl,sizeOf224,rfl,rfl⟩
theorem sc_246:SC prog 246:=⟨isAgg246,sizeOf246⟩
theorem bs_174:BS prog 174 [(0,1),(1,1),(2,1)] [zS none 0 0,zS none 0 0,Value.map none]:=⟨⟨_,zeroValue174,rfl⟩,_,runUnderlying174,fun w=>by simp [sizeOf122,sizeOf138,sizeOf33]⟩
theorem fa_174_0:FA prog 174 0 0:=⟨_,_,_,runUnderlying174,rfl,sizeOf33,rfl,rfl⟩
theorem aPF:FA prog 174 2 2:=⟨_,_,_,runUnderlying174,rfl,sizeOf138,rfl,rfl⟩
theorem aOC:SC prog 138:=⟨isAgg138,sizeOf138⟩
theorem ko_9:KeyOk prog 9 bJ:=keyOk_str runUnderlying9
theorem aIW:FA prog 174 1 1:=⟨_,_,_,runUnderlying174,rfl,sizeOf122,rfl,rfl⟩
theorem bs_140:BS prog 140 [(0,5),(5,1),(6,1),(7,1)] [zS none 0 0,zS none 0 0,zS none 0 0,zS none 0 0,zS none 0 0,zS none 0 0,zS none 0 0,Value.map none]:=⟨⟨_,zeroValue140,rfl⟩,_,runUnderlying140,fun w=>by simp [sizeOf138,sizeOf30,sizeOf37,sizeOf94]⟩
theorem aMb:FA prog 140 0 0:=⟨_,_,_,runUnderlying140,rfl,sizeOf37,rfl,rfl⟩
theorem fa_140_1:FA prog 140 1 5:=⟨_,_,_,runUnderlying140,rfl,sizeOf30,rfl,rfl⟩
theorem aPG:FA prog 140 3 7:=⟨_,_,_,runUnderlying140,rfl,sizeOf138,rfl,rfl⟩
theorem aIX:FA prog 140 2 6:=⟨_,_,_,runUnderlying140,rfl,sizeOf94,rfl,rfl⟩
theorem sc_94:SC prog 94:=⟨isAgg94,sizeOf94⟩
theorem ag_66:AG prog 66 4:=⟨isAgg66,sizeOf66⟩
theorem sc_29:SC prog 29:=⟨isAgg29,sizeOf29⟩
theorem fv_66_1:FV prog 66 1 1:=⟨_,_,runUnderlying66,rfl,dC,rfl⟩
theorem bs_60:BS prog 60 [(0,1),(1,1)] [i64 0,i64 0]:=⟨⟨_,zeroValue60,rfl⟩,_,runUnderlying60,fun w=>by simp [sizeOf2]⟩
theorem aLx:FA prog 66 0 0:=⟨_,_,_,runUnderlying66,rfl,sizeOf2,rfl,rfl⟩
theorem aLy:FA prog 66 2 2:=⟨_,_,_,runUnderlying66,rfl,sizeOf2,rfl,rfl⟩
theorem aLz:FA prog 66 3 3:=⟨_,_,_,runUnderlying66,rfl,sizeOf9,rfl,rfl⟩
theorem ag_27:AG prog 27 5:=⟨isAgg27,sizeOf27⟩
theorem cI:prog.follows .mixedOrders=true:=by kernel_rfl
abbrev zG:List Value:=[i64 0,i64 0,Value.slice none 0 0,Value.slice none 0 0]
abbrev zGa:Array Value:=#[i64 0,i64 0,Value.slice none 0 0,Value.slice none 0 0]
abbrev zK:List Value:=[i64 0,i64 0,Value.slice none 0 0,Value.slice none 0 0,Value.slice none 0 0,Value.slice none 0 0]
abbrev zKa:Array Value:=#[i64 0,i64 0,Value.slice none 0 0,Value.slice none 0 0,Value.slice none 0 0,Value.slice none 0 0]
end Gv
