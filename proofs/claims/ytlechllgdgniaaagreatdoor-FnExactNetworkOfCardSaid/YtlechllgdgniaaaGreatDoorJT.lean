/- Readings of the program's data; what is known of its types. -/
import Derived.Test.YtlechllgdgniaaaGreatDoorJYS
import Derived.Test.YtlechllgdgniaaaGreatDoorProg
set_option linter.all false
namespace Gv
open Go.Value renaming slice→zS
open Gv.Hp renaming le_trans→zL
open Go Go.Proofs Go.Proofs.Tryz
instance:hY bP where
 sz:=2
 enc d:=[i64 d.Kind,i64 d.Value]
 len _:=rfl
 one _ v h:=by simp at h;rcases h with rfl|rfl<;>rfl
 pos:=by decide
instance:El Part where
 sz:=4
 rd K cs d:=∃ (a0:Option Addr) (c0:Nat),cs=[i64 d.Kind,i64 d.Number,str d.Name,zS a0 d.Arguments.length c0]/\cE K a0 c0 d.Arguments
 mono:=fun h ⟨a0,c0,e,h0⟩=>⟨a0,c0,e,h0.mono h⟩
 len:=fun ⟨_,_,e,_⟩=>by rw [e];rfl
 one:=fun ⟨_,_,e,_⟩ v hv=>by rw [e] at hv;simp at hv;rcases hv with rfl|rfl|rfl|rfl<;>rfl
 pos:=by decide
instance:El Definition where
 sz:=3
 rd K cs d:=∃ (a0:Option Addr) (c0:Nat),cs=[str d.Name,i64 d.Parameters,zS a0 d.Body.length c0]/\cE K a0 c0 d.Body
 mono:=fun h ⟨a0,c0,e,h0⟩=>⟨a0,c0,e,h0.mono h⟩
 len:=fun ⟨_,_,e,_⟩=>by rw [e];rfl
 one:=fun ⟨_,_,e,_⟩ v hv=>by rw [e] at hv;simp at hv;rcases hv with rfl|rfl|rfl<;>rfl
 pos:=by decide
instance:El bL where
 sz:=2
 rd K cs d:=∃ (a0:Option Addr) (c0:Nat),cs=[i64 d.Definition,zS a0 d.Values.length c0]/\cE K a0 c0 d.Values
 mono:=fun h ⟨a0,c0,e,h0⟩=>⟨a0,c0,e,h0.mono h⟩
 len:=fun ⟨_,_,e,_⟩=>by rw [e];rfl
 one:=fun ⟨_,_,e,_⟩ v hv=>by rw [e] at hv;simp at hv;rcases hv with rfl|rfl<;>rfl
 pos:=by decide
instance:hY bV where
 sz:=3
 enc d:=[str d.Left,str d.Right,str d.Result]
 len _:=rfl
 one _ v h:=by simp at h;rcases h with rfl|rfl|rfl<;>rfl
 pos:=by decide
instance:El cP where
 sz:=5
 rd K cs d:=∃ (a0:Option Addr) (c0:Nat) (a1:Option Addr) (c1:Nat) (a2:Option Addr) (c2:Nat) (a3:Option Addr) (c3:Nat) (a4:Option Addr) (c4:Nat),cs=[zS a0 d.Definitions.length c0,zS a1 d.Components.length c1,zS a2 d.Meetings.length c2,zS a3 d.Allowed.length c3,zS a4 d.Hidden.length c4]/\cE K a0 c0 d.Definitions/\cE K a1 c1 d.Components/\cE K a2 c2 d.Meetings/\cE K a3 c3 d.Allowed/\cE K a4 c4 d.Hidden
 mono:=fun h ⟨a0,c0,a1,c1,a2,c2,a3,c3,a4,c4,e,h0,h1,h2,h3,h4⟩=>⟨a0,c0,a1,c1,a2,c2,a3,c3,a4,c4,e,h0.mono h,h1.mono h,h2.mono h,h3.mono h,h4.mono h⟩
 len:=fun ⟨_,_,_,_,_,_,_,_,_,_,e,_⟩=>by rw [e];rfl
 one:=fun ⟨_,_,_,_,_,_,_,_,_,_,e,_⟩ v hv=>by rw [e] at hv;simp at hv;rcases hv with rfl|rfl|rfl|rfl|rfl<;>rfl
 pos:=by decide
instance:El bS where
 sz:=3
 rd K cs d:=∃ (a0:Option Addr) (c0:Nat),cs=[i64 d.Definition,i64 d.Part,zS a0 d.Values.length c0]/\cE K a0 c0 d.Values
 mono:=fun h ⟨a0,c0,e,h0⟩=>⟨a0,c0,e,h0.mono h⟩
 len:=fun ⟨_,_,e,_⟩=>by rw [e];rfl
 one:=fun ⟨_,_,e,_⟩ v hv=>by rw [e] at hv;simp at hv;rcases hv with rfl|rfl|rfl<;>rfl
 pos:=by decide
instance:El dM where
 sz:=4
 rd K cs d:=∃ (a0:Option Addr) (c0:Nat),cs=[str d.B,i64 d.Next.Definition,i64 d.Next.Part,zS a0 d.Next.Values.length c0]/\cE K a0 c0 d.Next.Values
 mono:=fun h ⟨a0,c0,e,h0⟩=>⟨a0,c0,e,h0.mono h⟩
 len:=fun ⟨_,_,e,_⟩=>by rw [e];rfl
 one:=fun ⟨_,_,e,_⟩ v hv=>by rw [e] at hv;simp at hv;rcases hv with rfl|rfl|rfl|rfl<;>rfl
 pos:=by decide
instance:hY Edge where
 sz:=3
 enc d:=[i64 d.F,i64 d.B,i64 d.To]
 len _:=rfl
 one _ v h:=by simp at h;rcases h with rfl|rfl|rfl<;>rfl
 pos:=by decide
instance:El eP where
 sz:=4
 rd K cs d:=∃ (a0:Option Addr) (c0:Nat) (a1:Option Addr) (c1:Nat),cs=[i64 d.N,i64 d.I,zS a0 d.L.length c0,zS a1 d.E.length c1]/\cE K a0 c0 d.L/\cE K a1 c1 d.E
 mono:=fun h ⟨a0,c0,a1,c1,e,h0,h1⟩=>⟨a0,c0,a1,c1,e,h0.mono h,h1.mono h⟩
 len:=fun ⟨_,_,_,_,e,_⟩=>by rw [e];rfl
 one:=fun ⟨_,_,_,_,e,_⟩ v hv=>by rw [e] at hv;simp at hv;rcases hv with rfl|rfl|rfl|rfl<;>rfl
 pos:=by decide
instance:El iY where
 sz:=4
 rd K cs d:=∃ (a0:Option Addr) (c0:Nat) (a1:Option Addr) (c1:Nat) (a2:Option Addr) (c2:Nat) (a3:Option Addr) (c3:Nat),cs=[zS a0 d.Parts.length c0,zS a1 d.Meetings.length c1,zS a2 d.Allowed.length c2,zS a3 d.Hidden.length c3]/\cE K a0 c0 d.Parts/\cE K a1 c1 d.Meetings/\cE K a2 c2 d.Allowed/\cE K a3 c3 d.Hidden
 mono:=fun h ⟨a0,c0,a1,c1,a2,c2,a3,c3,e,h0,h1,h2,h3⟩=>⟨a0,c0,a1,c1,a2,c2,a3,c3,e,h0.mono h,h1.mono h,h2.mono h,h3.mono h⟩
 len:=fun ⟨_,_,_,_,_,_,_,_,e,_⟩=>by rw [e];rfl
 one:=fun ⟨_,_,_,_,_,_,_,_,e,_⟩ v hv=>by rw [e] at hv;simp at hv;rcases hv with rfl|rfl|rfl|rfl<;>rfl
 pos:=by decide
instance:hY fD where
 sz:=2
 enc d:=[i64 d.scope,Value.bool d.behind]
 len _:=rfl
 one _ v h:=by simp at h;rcases h with rfl|rfl<;>rfl
 pos:=by decide
instance:hY vQ where
 sz:=3
 enc d:=[i64 d.from_,str d.label,i64 d.to_]
 len _:=rfl
 one _ v h:=by simp at h;rcases h with rfl|rfl|rfl<;>rfl
 pos:=by decide
instance:Dp Part where
 Hd:=((Option Addr × Nat) × List (Dp.Hd (List bP)))
 sz1:=3
 enc hd x:=[i64 x.Kind,i64 x.Number,str x.Name,.slice hd.1.1 x.Arguments.length hd.1.2]
 pcs tys hd x:=[bB (tys.headD 0) Hp.nil hd.1.1 hd.1.2 (bT hd.2 x.Arguments),aGQ [(tys.tail.headD 0)] hd.2 x.Arguments]
 len _ _:=rfl
 one _ _ v h:=by simp at h;rcases h with rfl|rfl|rfl|rfl<;>rfl
instance:aLC Part where
 sz:=rfl
 rd:=fun {tys hd x h K} a hK=>by
  obtain ⟨p0,r0,b0,_,l0,m0,a⟩:=a
  obtain ⟨p1,r1,b1,_,l1,m1,a⟩:=a
  exact ⟨hd.1.1,hd.1.2,rfl,nest_rd b0 b1 (zL l0 (hK)) (zL l1 (zL m0 (hK)))⟩
theorem aPH (tys:List TypeId):iF (Dp.pcs tys (((none,0),[]):Dp.Hd Part) (⟨0,0,[],[]⟩:Part)) Hp.nil:=
 aQI _ _ (trivial)
theorem aSf {hd:Dp.Hd Part} {x:Part} {l:(List (List bP))} (h:x.Arguments.length=l.length):Dp.enc hd (⟨x.Kind,x.Number,x.Name,l⟩:Part)=Dp.enc hd x:=by
 simp only [Dp.enc,h]
instance:Dp Definition where
 Hd:=((Option Addr × Nat) × List (Dp.Hd Part))
 sz1:=2
 enc hd x:=[str x.Name,i64 x.Parameters,.slice hd.1.1 x.Body.length hd.1.2]
 pcs tys hd x:=[bB (tys.headD 0) Hp.nil hd.1.1 hd.1.2 (bT hd.2 x.Body),aGQ [(tys.tail.headD 0),(tys.tail.tail.headD 0)] hd.2 x.Body]
 len _ _:=rfl
 one _ _ v h:=by simp at h;rcases h with rfl|rfl|rfl<;>rfl
instance:aLC Definition where
 sz:=rfl
 rd:=fun {tys hd x h K} a hK=>by
  obtain ⟨p0,r0,b0,_,l0,m0,a⟩:=a
  obtain ⟨p1,r1,b1,_,l1,m1,a⟩:=a
  exact ⟨hd.1.1,hd.1.2,rfl,nest_rd b0 b1 (zL l0 (hK)) (zL l1 (zL m0 (hK)))⟩
theorem aJd (tys:List TypeId):iF (Dp.pcs tys (((none,0),[]):Dp.Hd Definition) (⟨[],0,[]⟩:Definition)) Hp.nil:=
 aQI _ _ (trivial)
theorem aKA {hd:Dp.Hd Definition} {x:Definition} {l:(List Part)} (h:x.Body.length=l.length):Dp.enc hd (⟨x.Name,x.Parameters,l⟩:Definition)=Dp.enc hd x:=by
 simp only [Dp.enc,h]
instance:Dp bL where
 Hd:=(Option Addr × Nat)
 sz1:=1
 enc hd x:=[i64 x.Definition,.slice hd.1 x.Values.length hd.2]
 pcs tys hd x:=[bB (tys.headD 0) Hp.nil hd.1 hd.2 x.Values]
 len _ _:=rfl
 one _ _ v h:=by simp at h;rcases h with rfl|rfl<;>rfl
instance:aLC bL where
 sz:=rfl
 rd:=fun {tys hd x h K} a hK=>by
  obtain ⟨p0,r0,b0,_,l0,m0,a⟩:=a
  exact ⟨hd.1,hd.2,rfl,bB.rd b0 (zL l0 (hK)) (Hp.nil_le _)⟩
theorem aJF (tys:List TypeId):iF (Dp.pcs tys ((none,0):Dp.Hd bL) (⟨0,[]⟩:bL)) Hp.nil:=
 ⟨Hp.nil,Hp.nil,bB.nil _ _ _,Hp.nil_dj _,Hp.nil_le _,Hp.nil_le _,trivial⟩
theorem aLD {hd:Dp.Hd bL} {x:bL} {l:(List Int)} (h:x.Values.length=l.length):Dp.enc hd (⟨x.Definition,l⟩:bL)=Dp.enc hd x:=by
 simp only [Dp.enc,h]
instance:Dp bS where
 Hd:=(Option Addr × Nat)
 sz1:=2
 enc hd x:=[i64 x.Definition,i64 x.Part,.slice hd.1 x.Values.length hd.2]
 pcs tys hd x:=[bB (tys.headD 0) Hp.nil hd.1 hd.2 x.Values]
 len _ _:=rfl
 one _ _ v h:=by simp at h;rcases h with rfl|rfl|rfl<;>rfl
instance:aLC bS where
 sz:=rfl
 rd:=fun {tys hd x h K} a hK=>by
  obtain ⟨p0,r0,b0,_,l0,m0,a⟩:=a
  exact ⟨hd.1,hd.2,rfl,bB.rd b0 (zL l0 (hK)) (Hp.nil_le _)⟩
instance:Dp eP where
 Hd:=(Option Addr × Nat) × (Option Addr × Nat)
 sz1:=3
 enc hd x:=[i64 x.N,i64 x.I,.slice hd.1.1 x.L.length hd.1.2,.slice hd.2.1 x.E.length hd.2.2]
 pcs tys hd x:=[bB (tys.headD 0) Hp.nil hd.1.1 hd.1.2 x.L,bB (tys.tail.headD 0) Hp.nil hd.2.1 hd.2.2 x.E]
 len _ _:=rfl
 one _ _ v h:=by simp at h;rcases h with rfl|rfl|rfl|rfl<;>rfl
instance:aLC eP where
 sz:=rfl
 rd:=fun {tys hd x h K} a hK=>by
  obtain ⟨p0,r0,b0,_,l0,m0,a⟩:=a
  obtain ⟨p1,r1,b1,_,l1,m1,a⟩:=a
  exact ⟨hd.1.1,hd.1.2,hd.2.1,hd.2.2,rfl,bB.rd b0 (zL l0 (hK)) (Hp.nil_le _),bB.rd b1 (zL l1 (zL m0 (hK))) (Hp.nil_le _)⟩
theorem enc_Lts_0 {hd:Dp.Hd eP} {x:eP} {l:(List bK)} (h:x.L.length=l.length):Dp.enc hd (⟨x.N,x.I,l,x.E⟩:eP)=Dp.enc hd x:=by
 simp only [Dp.enc,h]
theorem enc_Lts_1 {hd:Dp.Hd eP} {x:eP} {l:(List Edge)} (h:x.E.length=l.length):Dp.enc hd (⟨x.N,x.I,x.L,l⟩:eP)=Dp.enc hd x:=by
 simp only [Dp.enc,h]
theorem gF:SLT prog 78 2 1:=⟨runUnderlying78,sizeOf2⟩
theorem dC:SC prog 2:=⟨isAgg2,sizeOf2⟩
theorem dL:SLT prog 25 9 1:=⟨runUnderlying25,sizeOf9⟩
theorem aCp:EZ prog 9 [str []]:=⟨⟨_,zeroValue9,rfl⟩,⟨t9,typeInfo9,by show (16:Nat)<=128;decide,rfl,by kernel_rfl,_,rfl,rfl⟩⟩
theorem fF:SC prog 9:=⟨isAgg9,sizeOf9⟩
theorem aFx:EZ prog 2 [i64 0]:=⟨⟨_,zeroValue2,rfl⟩,⟨t2,typeInfo2,by show (8:Nat)<=128;decide,rfl,by kernel_rfl,_,rfl,rfl⟩⟩
theorem aPI:SLT prog 244 303 2:=⟨runUnderlying244,sizeOf303⟩
theorem aKB:SLT prog 165 244 1:=⟨runUnderlying165,sizeOf244⟩
theorem sc_244:SC prog 244:=⟨isAgg244,sizeOf244⟩
theorem aQJ:FA prog 167 2 2:=⟨_,_,_,runUnderlying167,rfl,sizeOf9,rfl,rfl⟩
theorem aQK:FA prog 167 3 3:=⟨_,_,_,runUnderlying167,rfl,sizeOf165,rfl,rfl⟩
theorem sc_165:SC prog 165:=⟨isAgg165,sizeOf165⟩
theorem aOQ:SLT prog 74 167 4:=⟨runUnderlying74,sizeOf167⟩
theorem ag_167:AG prog 167 4:=⟨isAgg167,sizeOf167⟩
theorem fa_76_0:FA prog 76 0 0:=⟨_,_,_,runUnderlying76,rfl,sizeOf9,rfl,rfl⟩
theorem fa_76_2:FA prog 76 2 2:=⟨_,_,_,runUnderlying76,rfl,sizeOf74,rfl,rfl⟩
theorem sc_74:SC prog 74:=⟨isAgg74,sizeOf74⟩
theorem aOR:SLT prog 22 76 3:=⟨runUnderlying22,sizeOf76⟩
theorem ag_76:AG prog 76 3:=⟨isAgg76,sizeOf76⟩
theorem fa_80_1:FA prog 80 1 1:=⟨_,_,_,runUnderlying80,rfl,sizeOf78,rfl,rfl⟩
theorem aCq:SC prog 78:=⟨isAgg78,sizeOf78⟩
theorem aOS:SLT prog 23 80 2:=⟨runUnderlying23,sizeOf80⟩
theorem ag_80:AG prog 80 2:=⟨isAgg80,sizeOf80⟩
theorem fa_83_0:FA prog 83 0 0:=⟨_,_,_,runUnderlying83,rfl,sizeOf9,rfl,rfl⟩
theorem fa_83_1:FA prog 83 1 1:=⟨_,_,_,runUnderlying83,rfl,sizeOf9,rfl,rfl⟩
theorem fa_83_2:FA prog 83 2 2:=⟨_,_,_,runUnderlying83,rfl,sizeOf9,rfl,rfl⟩
theorem aOT:SLT prog 24 83 3:=⟨runUnderlying24,sizeOf83⟩
theorem ag_83:AG prog 83 3:=⟨isAgg83,sizeOf83⟩
theorem fa_27_0:FA prog 27 0 0:=⟨_,_,_,runUnderlying27,rfl,sizeOf22,rfl,rfl⟩
theorem sc_22:SC prog 22:=⟨isAgg22,sizeOf22⟩
theorem fa_27_1:FA prog 27 1 1:=⟨_,_,_,runUnderlying27,rfl,sizeOf23,rfl,rfl⟩
theorem sc_23:SC prog 23:=⟨isAgg23,sizeOf23⟩
theorem fa_27_2:FA prog 27 2 2:=⟨_,_,_,runUnderlying27,rfl,sizeOf24,rfl,rfl⟩
theorem sc_24:SC prog 24:=⟨isAgg24,sizeOf24⟩
theorem fa_27_3:FA prog 27 3 3:=⟨_,_,_,runUnderlying27,rfl,sizeOf25,rfl,rfl⟩
theorem jG:SC prog 25:=⟨isAgg25,sizeOf25⟩
theorem fa_27_4:FA prog 27 4 4:=⟨_,_,_,runUnderlying27,rfl,sizeOf25,rfl,rfl⟩
theorem fE:FA prog 162 0 0:=⟨_,_,_,runUnderlying162,rfl,sizeOf2,rfl,rfl⟩
theorem jV:SLT prog 87 162 4:=⟨runUnderlying87,sizeOf162⟩
theorem jW:FA prog 162 1 1:=⟨_,_,_,runUnderlying162,rfl,sizeOf2,rfl,rfl⟩
theorem lU:FA prog 162 2 2:=⟨_,_,_,runUnderlying162,rfl,sizeOf9,rfl,rfl⟩
theorem jC:FA prog 162 3 3:=⟨_,_,_,runUnderlying162,rfl,sizeOf160,rfl,rfl⟩
theorem pQ:SC prog 160:=⟨isAgg160,sizeOf160⟩
theorem jR:SLT prog 160 203 1:=⟨runUnderlying160,sizeOf203⟩
theorem xL:FA prog 89 1 1:=⟨_,_,_,runUnderlying89,rfl,sizeOf2,rfl,rfl⟩
theorem kT:FA prog 89 2 2:=⟨_,_,_,runUnderlying89,rfl,sizeOf87,rfl,rfl⟩
theorem yQ:SC prog 87:=⟨isAgg87,sizeOf87⟩
theorem vY:FA prog 242 0 0:=⟨_,_,_,runUnderlying242,rfl,sizeOf2,rfl,rfl⟩
theorem kW:FA prog 242 1 1:=⟨_,_,_,runUnderlying242,rfl,sizeOf2,rfl,rfl⟩
theorem lE:SLT prog 203 242 2:=⟨runUnderlying203,sizeOf242⟩
theorem tG:AG prog 162 4:=⟨isAgg162,sizeOf162⟩
theorem iW:SLT prog 35 89 3:=⟨runUnderlying35,sizeOf89⟩
theorem aFm:SC prog 203:=⟨isAgg203,sizeOf203⟩
theorem aBL:FA prog 89 0 0:=⟨_,_,_,runUnderlying89,rfl,sizeOf9,rfl,rfl⟩
theorem mD:FA prog 38 1 1:=⟨_,_,_,runUnderlying38,rfl,sizeOf36,rfl,rfl⟩
theorem aBn:SC prog 36:=⟨isAgg36,sizeOf36⟩
theorem oJ:SLT prog 36 91 2:=⟨runUnderlying36,sizeOf91⟩
theorem aHo:AG prog 91 2:=⟨isAgg91,sizeOf91⟩
theorem aBM:FA prog 91 0 0:=⟨_,_,_,runUnderlying91,rfl,sizeOf2,rfl,rfl⟩
theorem pL:FA prog 38 0 0:=⟨_,_,_,runUnderlying38,rfl,sizeOf35,rfl,rfl⟩
theorem aDY:SC prog 35:=⟨isAgg35,sizeOf35⟩
theorem xM:FA prog 91 1 1:=⟨_,_,_,runUnderlying91,rfl,sizeOf78,rfl,rfl⟩
theorem lV:SLT prog 30 93 3:=⟨runUnderlying30,sizeOf93⟩
theorem aJG:AG prog 93 3:=⟨isAgg93,sizeOf93⟩
theorem oK:FA prog 93 0 0:=⟨_,_,_,runUnderlying93,rfl,sizeOf9,rfl,rfl⟩
theorem rC:FA prog 93 1 1:=⟨_,_,_,runUnderlying93,rfl,sizeOf9,rfl,rfl⟩
theorem aAd:FA prog 93 2 2:=⟨_,_,_,runUnderlying93,rfl,sizeOf9,rfl,rfl⟩
theorem aBN:FA prog 38 2 2:=⟨_,_,_,runUnderlying38,rfl,sizeOf30,rfl,rfl⟩
theorem aFy:SC prog 30:=⟨isAgg30,sizeOf30⟩
theorem aBO:FA prog 38 3 3:=⟨_,_,_,runUnderlying38,rfl,sizeOf25,rfl,rfl⟩
theorem aBP:FA prog 38 4 4:=⟨_,_,_,runUnderlying38,rfl,sizeOf25,rfl,rfl⟩
theorem ez_242:EZ prog 242 [i64 0,i64 0]:=⟨⟨_,zeroValue242,rfl⟩,⟨t242,typeInfo242,by show (16:Nat)<=128;decide,rfl,by kernel_rfl,_,rfl,rfl⟩⟩
theorem aPJ:EZ prog 203 [zS none 0 0]:=⟨⟨_,zeroValue203,rfl⟩,⟨t203,typeInfo203,by show (24:Nat)<=128;decide,rfl,by kernel_rfl,_,rfl,rfl⟩⟩
theorem aPK:EZ prog 162 [i64 0,i64 0,str [],zS none 0 0]:=⟨⟨_,zeroValue162,rfl⟩,⟨t162,typeInfo162,by show (56:Nat)<=128;decide,rfl,by kernel_rfl,_,rfl,rfl⟩⟩
theorem ez_89:EZ prog 89 [str [],i64 0,zS none 0 0]:=⟨⟨_,zeroValue89,rfl⟩,⟨t89,typeInfo89,by show (48:Nat)<=128;decide,rfl,by kernel_rfl,_,rfl,rfl⟩⟩
theorem ez_91:EZ prog 91 [i64 0,zS none 0 0]:=⟨⟨_,zeroValue91,rfl⟩,⟨t91,typeInfo91,by show (32:Nat)<=128;decide,rfl,by kernel_rfl,_,rfl,rfl⟩⟩
theorem bs_38:BS prog 38 [(0,1),(1,1),(2,1),(3,1),(4,1)] [zS none 0 0,zS none 0 0,zS none 0 0,zS none 0 0,zS none 0 0]:=⟨⟨_,zeroValue38,rfl⟩,_,runUnderlying38,fun w=>by simp [sizeOf25,sizeOf30,sizeOf35,sizeOf36]⟩
theorem aES:AG prog 89 3:=⟨isAgg89,sizeOf89⟩
theorem aRU:EZ prog 93 [str [],str [],str []]:=⟨⟨_,zeroValue93,rfl⟩,⟨t93,typeInfo93,by show (48:Nat)<=128;decide,rfl,by kernel_rfl,_,rfl,rfl⟩⟩
theorem aHp:AG prog 38 5:=⟨isAgg38,sizeOf38⟩
theorem sT:SLT prog 96 100 3:=⟨runUnderlying96,sizeOf100⟩
theorem aFn:EZ prog 100 [i64 0,i64 0,zS none 0 0]:=⟨⟨_,zeroValue100,rfl⟩,⟨t100,typeInfo100,by show (40:Nat)<=128;decide,rfl,by kernel_rfl,_,rfl,rfl⟩⟩
theorem aKC:BS prog 100 [(0,1),(1,1),(2,1)] [i64 0,i64 0,zS none 0 0]:=⟨⟨_,zeroValue100,rfl⟩,_,runUnderlying100,fun w=>by simp [sizeOf2,sizeOf78]⟩
theorem aHq:FA prog 100 0 0:=⟨_,_,_,runUnderlying100,rfl,sizeOf2,rfl,rfl⟩
theorem aHr:FA prog 100 1 1:=⟨_,_,_,runUnderlying100,rfl,sizeOf2,rfl,rfl⟩
theorem aHs:FA prog 100 2 2:=⟨_,_,_,runUnderlying100,rfl,sizeOf78,rfl,rfl⟩
theorem tH:SLT prog 104 108 4:=⟨runUnderlying104,sizeOf108⟩
theorem aDZ:SLT prog 159 5 1:=⟨runUnderlying159,sizeOf5⟩
theorem ez_5:EZ prog 5 [Value.int .u8 0]:=⟨⟨_,zeroValue5,rfl⟩,⟨t5,typeInfo5,by show (1:Nat)<=128;decide,rfl,by kernel_rfl,_,rfl,rfl⟩⟩
theorem sc_5:SC prog 5:=⟨isAgg5,sizeOf5⟩
theorem aAe:AG prog 100 3:=⟨isAgg100,sizeOf100⟩
theorem bs_108:BS prog 108 [(0,1),(1,3)] [str [],i64 0,i64 0,zS none 0 0]:=⟨⟨_,zeroValue108,rfl⟩,_,runUnderlying108,fun w=>by simp [sizeOf100,sizeOf9]⟩
theorem aMJ:EZ prog 108 [str [],i64 0,i64 0,zS none 0 0]:=⟨⟨_,zeroValue108,rfl⟩,⟨t108,typeInfo108,by show (56:Nat)<=128;decide,rfl,by kernel_rfl,_,rfl,rfl⟩⟩
theorem aHt:FA prog 108 0 0:=⟨_,_,_,runUnderlying108,rfl,sizeOf9,rfl,rfl⟩
theorem aFz:FA prog 108 1 1:=⟨_,_,_,runUnderlying108,rfl,sizeOf100,rfl,rfl⟩
theorem aSj:AG prog 108 4:=⟨isAgg108,sizeOf108⟩
theorem rR:FA prog 130 0 0:=⟨_,_,_,runUnderlying130,rfl,sizeOf2,rfl,rfl⟩
theorem oL:FA prog 130 1 1:=⟨_,_,_,runUnderlying130,rfl,sizeOf2,rfl,rfl⟩
theorem vZ:FA prog 130 2 2:=⟨_,_,_,runUnderlying130,rfl,sizeOf2,rfl,rfl⟩
theorem iI:SLT prog 58 130 3:=⟨runUnderlying58,sizeOf130⟩
theorem tI:AG prog 130 3:=⟨isAgg130,sizeOf130⟩
theorem aSk:BS prog 130 [(0,1),(1,1),(2,1)] [i64 0,i64 0,i64 0]:=⟨⟨_,zeroValue130,rfl⟩,_,runUnderlying130,fun w=>by simp [sizeOf2]⟩
theorem aGn:EZ prog 130 [i64 0,i64 0,i64 0]:=⟨⟨_,zeroValue130,rfl⟩,⟨t130,typeInfo130,by show (24:Nat)<=128;decide,rfl,by kernel_rfl,_,rfl,rfl⟩⟩
theorem bs_60:BS prog 60 [(0,1),(1,1),(2,1),(3,1)] [i64 0,i64 0,zS none 0 0,zS none 0 0]:=⟨⟨_,zeroValue60,rfl⟩,_,runUnderlying60,fun w=>by simp [sizeOf2,sizeOf25,sizeOf58]⟩
theorem rD:FA prog 60 2 2:=⟨_,_,_,runUnderlying60,rfl,sizeOf25,rfl,rfl⟩
theorem nX:FA prog 60 3 3:=⟨_,_,_,runUnderlying60,rfl,sizeOf58,rfl,rfl⟩
theorem aEa:SC prog 58:=⟨isAgg58,sizeOf58⟩
theorem wA:AG prog 60 4:=⟨isAgg60,sizeOf60⟩
theorem aBQ:FA prog 60 0 0:=⟨_,_,_,runUnderlying60,rfl,sizeOf2,rfl,rfl⟩
theorem aIe:FA prog 60 1 1:=⟨_,_,_,runUnderlying60,rfl,sizeOf2,rfl,rfl⟩
theorem yR:SLT prog 29 60 4:=⟨runUnderlying29,sizeOf60⟩
theorem aRY:EZ prog 60 [i64 0,i64 0,zS none 0 0,zS none 0 0]:=⟨⟨_,zeroValue60,rfl⟩,⟨t60,typeInfo60,by show (64:Nat)<=128;decide,rfl,by kernel_rfl,_,rfl,rfl⟩⟩
theorem aLo:BS prog 32 [(0,1),(1,1),(2,1),(3,1)] [zS none 0 0,zS none 0 0,zS none 0 0,zS none 0 0]:=⟨⟨_,zeroValue32,rfl⟩,_,runUnderlying32,fun w=>by simp [sizeOf25,sizeOf29,sizeOf30]⟩
theorem aIf:FA prog 32 0 0:=⟨_,_,_,runUnderlying32,rfl,sizeOf29,rfl,rfl⟩
theorem sc_29:SC prog 29:=⟨isAgg29,sizeOf29⟩
theorem wB:AG prog 32 4:=⟨isAgg32,sizeOf32⟩
theorem fa_303_0:FA prog 303 0 0:=⟨_,_,_,runUnderlying303,rfl,sizeOf2,rfl,rfl⟩
theorem fa_303_1:FA prog 303 1 1:=⟨_,_,_,runUnderlying303,rfl,sizeOf2,rfl,rfl⟩
theorem aGo:AG prog 242 2:=⟨isAgg242,sizeOf242⟩
theorem ag_303:AG prog 303 2:=⟨isAgg303,sizeOf303⟩
theorem fa_167_0:FA prog 167 0 0:=⟨_,_,_,runUnderlying167,rfl,sizeOf2,rfl,rfl⟩
theorem fa_167_1:FA prog 167 1 1:=⟨_,_,_,runUnderlying167,rfl,sizeOf2,rfl,rfl⟩
theorem fa_76_1:FA prog 76 1 1:=⟨_,_,_,runUnderlying76,rfl,sizeOf2,rfl,rfl⟩
theorem fa_80_0:FA prog 80 0 0:=⟨_,_,_,runUnderlying80,rfl,sizeOf2,rfl,rfl⟩
theorem sl_219:SLT prog 219 223 2:=⟨runUnderlying219,sizeOf223⟩
theorem ez_223:EZ prog 223 [i64 0,Value.bool false]:=⟨⟨_,zeroValue223,rfl⟩,⟨t223,typeInfo223,by show (16:Nat)<=128;decide,rfl,by kernel_rfl,_,rfl,rfl⟩⟩
theorem sc_254:SC prog 254:=⟨isAgg254,sizeOf254⟩
theorem bs_223:BS prog 223 [(0,1),(1,1)] [i64 0,Value.bool false]:=⟨⟨_,zeroValue223,rfl⟩,_,runUnderlying223,fun w=>by simp [sizeOf2,sizeOf4]⟩
theorem sc_219:SC prog 219:=⟨isAgg219,sizeOf219⟩
theorem ag_223:AG prog 223 2:=⟨isAgg223,sizeOf223⟩
theorem aHu:FA prog 223 0 0:=⟨_,_,_,runUnderlying223,rfl,sizeOf2,rfl,rfl⟩
theorem fa_223_1:FA prog 223 1 1:=⟨_,_,_,runUnderlying223,rfl,sizeOf4,rfl,rfl⟩
theorem sc_4:SC prog 4:=⟨isAgg4,sizeOf4⟩
theorem sl_276:SLT prog 276 3 1:=⟨runUnderlying276,sizeOf3⟩
theorem ez_3:EZ prog 3 [i64 0]:=⟨⟨_,zeroValue3,rfl⟩,⟨t3,typeInfo3,by show (8:Nat)<=128;decide,rfl,by kernel_rfl,_,rfl,rfl⟩⟩
theorem sc_3:SC prog 3:=⟨isAgg3,sizeOf3⟩
theorem aFo:SLT prog 141 146 3:=⟨runUnderlying141,sizeOf146⟩
theorem ag_146:AG prog 146 3:=⟨isAgg146,sizeOf146⟩
theorem aTe:FA prog 146 0 0:=⟨_,_,_,runUnderlying146,rfl,sizeOf2,rfl,rfl⟩
theorem aQP:FA prog 146 1 1:=⟨_,_,_,runUnderlying146,rfl,sizeOf9,rfl,rfl⟩
theorem aTf:FA prog 146 2 2:=⟨_,_,_,runUnderlying146,rfl,sizeOf2,rfl,rfl⟩
theorem bs_291:BS prog 291 [(0,2),(2,1)] [i64 0,i64 0,zS none 0 0]:=⟨⟨_,zeroValue291,rfl⟩,_,runUnderlying291,fun w=>by simp [sizeOf242,sizeOf289]⟩
theorem aHv:FA prog 291 1 2:=⟨_,_,_,runUnderlying291,rfl,sizeOf289,rfl,rfl⟩
theorem aPM:SC prog 289:=⟨isAgg289,sizeOf289⟩
theorem aMK:SLT prog 289 237 1:=⟨runUnderlying289,sizeOf237⟩
theorem ez_237:EZ prog 237 [Value.pointer none]:=⟨⟨_,zeroValue237,rfl⟩,⟨t237,typeInfo237,by show (8:Nat)<=128;decide,rfl,by kernel_rfl,_,rfl,rfl⟩⟩
theorem aJH:FA prog 291 0 0:=⟨_,_,_,runUnderlying291,rfl,sizeOf242,rfl,rfl⟩
theorem aSl:SC prog 237:=⟨isAgg237,sizeOf237⟩
theorem bs_154:BS prog 154 [(0,1),(1,1),(2,1)] [zS none 0 0,zS none 0 0,Value.map none]:=⟨⟨_,zeroValue154,rfl⟩,_,runUnderlying154,fun w=>by simp [sizeOf104,sizeOf152,sizeOf35]⟩
theorem aTg:FA prog 154 0 0:=⟨_,_,_,runUnderlying154,rfl,sizeOf35,rfl,rfl⟩
theorem aQQ:FA prog 154 2 2:=⟨_,_,_,runUnderlying154,rfl,sizeOf152,rfl,rfl⟩
theorem sc_152:SC prog 152:=⟨isAgg152,sizeOf152⟩
theorem ko_9:aOK prog 9 bK:=keyOk_str runUnderlying9
theorem aJI:FA prog 154 1 1:=⟨_,_,_,runUnderlying154,rfl,sizeOf104,rfl,rfl⟩
theorem sc_104:SC prog 104:=⟨isAgg104,sizeOf104⟩
theorem bs_143:BS prog 143 [(0,1),(1,1),(2,1),(3,1)] [zS none 0 0,Value.map none,zS none 0 0,Value.nilFunc]:=⟨⟨_,zeroValue143,rfl⟩,_,runUnderlying143,fun w=>by simp [sizeOf102,sizeOf140,sizeOf141,sizeOf96]⟩
theorem aEb:SC prog 139:=⟨isAgg139,sizeOf139⟩
theorem aTh:FA prog 143 3 3:=⟨_,_,_,runUnderlying143,rfl,sizeOf102,rfl,rfl⟩
theorem sc_102:SC prog 102:=⟨isAgg102,sizeOf102⟩
theorem aQR:FA prog 143 1 1:=⟨_,_,_,runUnderlying143,rfl,sizeOf140,rfl,rfl⟩
theorem sc_140:SC prog 140:=⟨isAgg140,sizeOf140⟩
theorem aCr:FA prog 143 0 0:=⟨_,_,_,runUnderlying143,rfl,sizeOf96,rfl,rfl⟩
theorem aML:SC prog 96:=⟨isAgg96,sizeOf96⟩
theorem aFA:FA prog 143 2 2:=⟨_,_,_,runUnderlying143,rfl,sizeOf141,rfl,rfl⟩
theorem aMM:SC prog 141:=⟨isAgg141,sizeOf141⟩
theorem bs_146:BS prog 146 [(0,1),(1,1),(2,1)] [i64 0,str [],i64 0]:=⟨⟨_,zeroValue146,rfl⟩,_,runUnderlying146,fun w=>by simp [sizeOf2,sizeOf9]⟩
theorem aKD:EZ prog 146 [i64 0,str [],i64 0]:=⟨⟨_,zeroValue146,rfl⟩,⟨t146,typeInfo146,by show (32:Nat)<=128;decide,rfl,by kernel_rfl,_,rfl,rfl⟩⟩
theorem aJJ:FA prog 32 1 1:=⟨_,_,_,runUnderlying32,rfl,sizeOf30,rfl,rfl⟩
theorem aJK:FA prog 32 2 2:=⟨_,_,_,runUnderlying32,rfl,sizeOf25,rfl,rfl⟩
theorem aJL:FA prog 32 3 3:=⟨_,_,_,runUnderlying32,rfl,sizeOf25,rfl,rfl⟩
theorem aRZ:AG prog 27 5:=⟨isAgg27,sizeOf27⟩
theorem st_130:prog.stoodInHeld 130=false:=by kernel_rfl
theorem eq_130 {x y:Edge}:EQT prog 130 [i64 x.F,i64 x.B,i64 x.To] [i64 y.F,i64 y.B,i64 y.To] (decide (x=y)):=by
 refine ⟨by kernel_rfl,fun w=>?_⟩
 have h2:∀ (a b:Int),(Op.equalIn 9999 2 (i64 a) (i64 b)).run prog w=.ok (a == b) w:=fun a b=>run_eqInI 9998 (runUnderlying2 w)
 have:Op.maxDepth=9999+1:=rfl
 unfold Op.equal
 rw [this]
 unfold Op.equalIn
 simp [runUnderlying130,st_130,part,h2,isAgg2]
 cases x;cases y
 simp
 repeat' split<;>simp_all
theorem cB:prog.follows .mixedOrders=true:=by kernel_rfl
abbrev zC (d:eP) (a:Option Addr) (c:Nat) (b:Option Addr) (e:Nat):List Value:=[i64 d.N,i64 d.I,Value.slice a d.L.length c,Value.slice b d.E.length e]
abbrev zCa (d:eP) (a:Option Addr) (c:Nat) (b:Option Addr) (e:Nat):Array Value:=#[i64 d.N,i64 d.I,Value.slice a d.L.length c,Value.slice b d.E.length e]
abbrev zG:List Value:=[i64 0,i64 0,Value.slice none 0 0,Value.slice none 0 0]
abbrev zGa:Array Value:=#[i64 0,i64 0,Value.slice none 0 0,Value.slice none 0 0]
abbrev zK:List Value:=[i64 0,i64 0,Value.slice none 0 0,Value.slice none 0 0,Value.slice none 0 0,Value.slice none 0 0]
abbrev zKa:Array Value:=#[i64 0,i64 0,Value.slice none 0 0,Value.slice none 0 0,Value.slice none 0 0,Value.slice none 0 0]
end Gv
namespace Gv
open Go.Value renaming slice→zS
open Gv.Hp renaming le_refl→zR
open Go Go.Proofs Go.Proofs.Tryz
theorem aDN {p:Prop} (h:p:=by first|assumption|(apply st_cK;assumption;exact aCY)):p:=h
theorem st_HR {p:Prop} (h:p:=by first|assumption|(apply st_rK;assumption;exact aCY)):p:=h
theorem st_S {p:Prop} (h:p:=by with_reducible first|exact gF|exact dL|exact aPI|exact aKB|exact aOQ|exact aOR|exact aOS|exact aOT|exact jV|exact jR|exact lE|exact iW|exact oJ|exact lV|exact sT|exact tH|exact aDZ|exact iI|exact yR|exact sl_219|exact sl_276|exact aFo|exact aMK):p:=h
theorem aHc {p:Prop} (h:p:=by with_reducible first|exact dC|exact fF|exact sc_244|exact sc_165|exact sc_74|exact aCq|exact sc_22|exact sc_23|exact sc_24|exact jG|exact pQ|exact yQ|exact aFm|exact aBn|exact aDY|exact aFy|exact sc_5|exact aEa|exact sc_29|exact sc_254|exact sc_219|exact sc_4|exact sc_3|exact aPM|exact aSl|exact sc_152|exact sc_104|exact aEb|exact sc_102|exact sc_140|exact aML|exact aMM):p:=h
theorem aNP {p:Prop} (h:p:=by with_reducible first|exact ag_167|exact ag_76|exact ag_80|exact ag_83|exact tG|exact aHo|exact aJG|exact aES|exact aHp|exact aAe|exact aSj|exact tI|exact wA|exact wB|exact aGo|exact ag_303|exact ag_223|exact ag_146|exact aRZ):p:=h
theorem st_F {p:Prop} (h:p:=by with_reducible first|exact aQJ|exact aQK|exact fa_76_0|exact fa_76_2|exact fa_80_1|exact fa_83_0|exact fa_83_1|exact fa_83_2|exact fa_27_0|exact fa_27_1|exact fa_27_2|exact fa_27_3|exact fa_27_4|exact fE|exact jW|exact lU|exact jC|exact xL|exact kT|exact vY|exact kW|exact aBL|exact mD|exact aBM|exact pL|exact xM|exact oK|exact rC|exact aAd|exact aBN|exact aBO|exact aBP|exact aHq|exact aHr|exact aHs|exact aHt|exact aFz|exact rR|exact oL|exact vZ|exact rD|exact nX|exact aBQ|exact aIe|exact aIf|exact fa_303_0|exact fa_303_1|exact fa_167_0|exact fa_167_1|exact fa_76_1|exact fa_80_0|exact aHu|exact fa_223_1|exact aTe|exact aQP|exact aTf|exact aHv|exact aJH|exact aTg|exact aQQ|exact aJI|exact aTh|exact aQR|exact aCr|exact aFA|exact aJJ|exact aJK|exact aJL):p:=h
theorem za_3:ZA prog 3 [i64 0]:=⟨_,zeroValue3,rfl⟩
theorem za_32:ZA prog 32 [zS none 0 0,zS none 0 0,zS none 0 0,zS none 0 0]:=⟨_,zeroValue32,rfl⟩
theorem za_38:ZA prog 38 [zS none 0 0,zS none 0 0,zS none 0 0,zS none 0 0,zS none 0 0]:=⟨_,zeroValue38,rfl⟩
theorem za_60:ZA prog 60 [i64 0,i64 0,zS none 0 0,zS none 0 0]:=⟨_,zeroValue60,rfl⟩
theorem za_89:ZA prog 89 [str ([]:bK),i64 0,zS none 0 0]:=⟨_,zeroValue89,rfl⟩
theorem za_91:ZA prog 91 [i64 0,zS none 0 0]:=⟨_,zeroValue91,rfl⟩
theorem za_93:ZA prog 93 [str ([]:bK),str ([]:bK),str ([]:bK)]:=⟨_,zeroValue93,rfl⟩
theorem za_100:ZA prog 100 [i64 0,i64 0,zS none 0 0]:=⟨_,zeroValue100,rfl⟩
theorem za_108:ZA prog 108 [str ([]:bK),i64 0,i64 0,zS none 0 0]:=⟨_,zeroValue108,rfl⟩
theorem za_130:ZA prog 130 [i64 0,i64 0,i64 0]:=⟨_,zeroValue130,rfl⟩
theorem za_139:ZA prog 139 [Value.pointer none]:=⟨_,zeroValue139,rfl⟩
theorem za_146:ZA prog 146 [i64 0,str ([]:bK),i64 0]:=⟨_,zeroValue146,rfl⟩
theorem za_162:ZA prog 162 [i64 0,i64 0,str ([]:bK),zS none 0 0]:=⟨_,zeroValue162,rfl⟩
theorem za_219:ZA prog 219 [zS none 0 0]:=⟨_,zeroValue219,rfl⟩
theorem za_223:ZA prog 223 [i64 0,Value.bool false]:=⟨_,zeroValue223,rfl⟩
theorem za_242:ZA prog 242 [i64 0,i64 0]:=⟨_,zeroValue242,rfl⟩
theorem za_254:ZA prog 254 [Value.nilFunc]:=⟨_,zeroValue254,rfl⟩
theorem st_r {p:Prop} (h:p:=by with_reducible first|exact runUnderlying140|exact runUnderlying152|exact runUnderlying2|exact runUnderlying3|exact runUnderlying4|exact runUnderlying5|exact runUnderlying9):p:=h
theorem st_h {p:Prop} (h:p:=by with_reducible first|exact bs_38|exact aKC|exact bs_108|exact aSk|exact bs_60|exact aLo|exact bs_223|exact bs_291|exact bs_154|exact bs_143|exact bs_146):p:=h
theorem st_e {p:Prop} (h:p:=by with_reducible first|exact aCp|exact aFx|exact ez_242|exact aPJ|exact aPK|exact ez_89|exact ez_91|exact aRU|exact aFn|exact ez_5|exact aMJ|exact aGn|exact aRY|exact ez_223|exact ez_3|exact ez_237|exact aKD):p:=h
theorem st_u {p:Prop} (h:p:=by with_reducible first|exact underlying104|exact underlying141|exact underlying159|exact underlying160|exact underlying203|exact underlying25|exact underlying289|exact underlying29|exact underlying30|exact underlying35|exact underlying36|exact underlying5|exact underlying58|exact underlying78|exact underlying87|exact underlying9|exact underlying96):p:=h
theorem st_z {p:Prop} (h:p:=by with_reducible first|exact sizeOf100|exact sizeOf104|exact sizeOf108|exact sizeOf130|exact sizeOf139|exact sizeOf141|exact sizeOf146|exact sizeOf160|exact sizeOf162|exact sizeOf2|exact sizeOf203|exact sizeOf219|exact sizeOf223|exact sizeOf242|exact sizeOf25|exact sizeOf254|exact sizeOf289|exact sizeOf29|exact sizeOf3|exact sizeOf30|exact sizeOf32|exact sizeOf35|exact sizeOf36|exact sizeOf38|exact sizeOf58|exact sizeOf60|exact sizeOf78|exact sizeOf87|exact sizeOf89|exact sizeOf9|exact sizeOf91|exact sizeOf93|exact sizeOf96):p:=h
theorem st_y {p:Prop} (h:p:=by with_reducible first|exact za_3|exact za_32|exact za_38|exact za_60|exact za_89|exact za_91|exact za_93|exact za_100|exact za_108|exact za_130|exact za_139|exact za_146|exact za_162|exact za_219|exact za_223|exact za_242|exact za_254):p:=h
theorem st_V {p:Prop} (h:p:=by first|exact V_moveC|exact V_assignC|(apply V_B;first|(apply V_add;exact aBk;exact aBk)|(apply V_sub;exact aBk;exact aBk)|(apply V_mul;exact aBk;exact aBk)|(apply V_lss;exact aBk;exact aBk)|(apply V_leq;exact aBk;exact aBk)|(apply V_gtr;exact aBk;exact aBk)|(apply V_geq;exact aBk;exact aBk)|(apply V_eql;exact aBk;exact aBk)|(apply V_neq;exact aBk;exact aBk)|(apply V_eqlS;exact aBk;exact aBk)|(apply V_neqS;exact aBk;exact aBk)|(apply V_lssS;exact aBk;exact aBk)|(apply V_leqS;exact aBk;exact aBk)|(apply V_gtrS;exact aBk;exact aBk)|(apply V_geqS;exact aBk;exact aBk))|exact V_moveF|exact V_assignF|(apply V_move;exact aBk)|(apply V_assign;exact aBk)|(apply V_fldP;exact aBk;exact st_F)|(apply V_fldE;exact aBk;exact aDN;exact st_F)|(apply V_fldO;exact aBk;exact aBB;exact aOA;exact aBB;exact st_F)|(apply V_L;first|(apply V_ldB;exact aBk;exact aBB;exact aOA;exact rfl;exact aHc)|(apply V_ldBG;exact aBk;exact aBB;exact aOA;exact aNP;exact st_D)|(apply aQs (t:=0);exact aBk;exact aDN;exact aBB;exact rfl;exact aHc)|(apply aQs (t:=1);exact aBk;exact aDN;exact aBB;exact rfl;exact aHc)|(apply aQs (t:=2);exact aBk;exact aDN;exact aBB;exact rfl;exact aHc)|(apply aQs (t:=3);exact aBk;exact aDN;exact aBB;exact rfl;exact aHc)|(apply aQs (t:=4);exact aBk;exact aDN;exact aBB;exact rfl;exact aHc)|(apply aQs (t:=5);exact aBk;exact aDN;exact aBB;exact rfl;exact aHc)|(apply aQs (t:=6);exact aBk;exact aDN;exact aBB;exact rfl;exact aHc)|(apply aQs (t:=7);exact aBk;exact aDN;exact aBB;exact rfl;exact aHc)|(apply aOu (t:=0);exact aBk;exact aDN;exact aBB;exact aNP;exact rfl;exact rfl)|(apply aOu (t:=1);exact aBk;exact aDN;exact aBB;exact aNP;exact rfl;exact rfl)|(apply aOu (t:=2);exact aBk;exact aDN;exact aBB;exact aNP;exact rfl;exact rfl)|(apply aOu (t:=3);exact aBk;exact aDN;exact aBB;exact aNP;exact rfl;exact rfl)|(apply aOu (t:=4);exact aBk;exact aDN;exact aBB;exact aNP;exact rfl;exact rfl)|(apply aOu (t:=5);exact aBk;exact aDN;exact aBB;exact aNP;exact rfl;exact rfl)|(apply aOu (t:=6);exact aBk;exact aDN;exact aBB;exact aNP;exact rfl;exact rfl)|(apply aOu (t:=7);exact aBk;exact aDN;exact aBB;exact aNP;exact rfl;exact rfl)|(apply V_ldO (t:=0);exact aBk;exact aBB;exact aOA;exact aBB;exact rfl;exact rfl;exact aHc)|(apply V_ldO (t:=1);exact aBk;exact aBB;exact aOA;exact aBB;exact rfl;exact rfl;exact aHc)|(apply V_ldO (t:=2);exact aBk;exact aBB;exact aOA;exact aBB;exact rfl;exact rfl;exact aHc)|(apply V_ldO (t:=3);exact aBk;exact aBB;exact aOA;exact aBB;exact rfl;exact rfl;exact aHc)|(apply V_ldO (t:=4);exact aBk;exact aBB;exact aOA;exact aBB;exact rfl;exact rfl;exact aHc)|(apply V_ldOG (t:=0);exact aBk;exact aBB;exact aOA;exact aBB;exact rfl;exact aNP;exact rfl;exact rfl)|(apply V_ldOG (t:=1);exact aBk;exact aBB;exact aOA;exact aBB;exact rfl;exact aNP;exact rfl;exact rfl)|(apply V_ldOG (t:=2);exact aBk;exact aBB;exact aOA;exact aBB;exact rfl;exact aNP;exact rfl;exact rfl)|(apply aQv (t:=0);exact aBk;exact aBB;exact aBB;exact aCY;exact rfl;exact aHc)|(apply aQv (t:=1);exact aBk;exact aBB;exact aBB;exact aCY;exact rfl;exact aHc)|(apply aQv (t:=2);exact aBk;exact aBB;exact aBB;exact aCY;exact rfl;exact aHc)|(apply aQv (t:=3);exact aBk;exact aBB;exact aBB;exact aCY;exact rfl;exact aHc)|(apply aQv (t:=4);exact aBk;exact aBB;exact aBB;exact aCY;exact rfl;exact aHc)|(apply aQv (t:=5);exact aBk;exact aBB;exact aBB;exact aCY;exact rfl;exact aHc)|(apply aQv (t:=6);exact aBk;exact aBB;exact aBB;exact aCY;exact rfl;exact aHc)|(apply aQv (t:=7);exact aBk;exact aBB;exact aBB;exact aCY;exact rfl;exact aHc)|(apply aSi (t:=0);exact aBk;exact aBB;exact aBB;exact aCY;exact aNP;exact rfl;exact rfl)|(apply aSi (t:=1);exact aBk;exact aBB;exact aBB;exact aCY;exact aNP;exact rfl;exact rfl)|(apply aSi (t:=2);exact aBk;exact aBB;exact aBB;exact aCY;exact aNP;exact rfl;exact rfl)|(apply aSi (t:=3);exact aBk;exact aBB;exact aBB;exact aCY;exact aNP;exact rfl;exact rfl)|(apply aQt (t:=0);exact aBB;exact aDN;exact aBk;exact rfl;exact aHc)|(apply aQt (t:=1);exact aBB;exact aDN;exact aBk;exact rfl;exact aHc)|(apply aQt (t:=2);exact aBB;exact aDN;exact aBk;exact rfl;exact aHc)|(apply aQt (t:=3);exact aBB;exact aDN;exact aBk;exact rfl;exact aHc)|(apply aQt (t:=4);exact aBB;exact aDN;exact aBk;exact rfl;exact aHc)|(apply aQt (t:=5);exact aBB;exact aDN;exact aBk;exact rfl;exact aHc)|(apply aQt (t:=6);exact aBB;exact aDN;exact aBk;exact rfl;exact aHc)|(apply aQt (t:=7);exact aBB;exact aDN;exact aBk;exact rfl;exact aHc)|(apply aSh (t:=0);exact aBB;exact aDN;exact aBk;exact aNP;exact rfl;exact rfl)|(apply aSh (t:=1);exact aBB;exact aDN;exact aBk;exact aNP;exact rfl;exact rfl)|(apply aSh (t:=2);exact aBB;exact aDN;exact aBk;exact aNP;exact rfl;exact rfl)|(apply aSh (t:=3);exact aBB;exact aDN;exact aBk;exact aNP;exact rfl;exact rfl))|(apply V_lenS;exact st_S;exact aBk)|(apply V_nilE;exact aBk;exact aDN)|(apply V_nilP;exact aBk)|(apply V_nilO;exact aBk;exact aBB;exact aOA;exact aBB)|(apply V_ixE;exact aBk;exact aBk;exact st_HR;exact aBB;exact rfl;exact st_S;exact rfl)|(apply V_ixO;exact aBk;exact aBk;exact aBB;exact aOA;exact aBB;exact rfl;exact st_S;exact rfl)|(apply V_extract;exact aBk;exact rfl)|(apply V_pickT;exact aBk;exact aQC;exact aBk)|(apply V_pickF;exact aBk;exact aQC;exact aBk)|(apply V_not;exact aBk)|(apply V_lenStr;exact st_r;exact aBk)|(apply V_ixS;exact st_r;exact aBk;exact aBk;exact aBB)|(apply V_conv64;exact st_r;exact aBk;exact ⟨_,st_r⟩)|(apply V_convu8';exact st_r;exact aBk;exact ⟨_,st_r⟩)|(apply V_u8sub';exact aBk;exact aBk)|(apply V_neg;exact aBk)|(apply V_quo;exact aBk;exact aBk;exact aBB)|(apply V_rem;exact aBk;exact aBk;exact aBB)|(apply V_cat;exact aBk;exact aBk;exact aBB)|(apply V_neqB;exact st_r;exact aBk;exact aBk)|(apply V_slSLH;exact st_r;exact aBk;exact aBk;exact aBk;exact aBB)|(apply V_slSL;exact st_r;exact aBk;exact aBk;exact aBB)|(apply V_slSH;exact st_r;exact aBk;exact aBk;exact aBB)|(apply V_isNil;exact st_S;exact aBk;exact rfl)|(apply V_build;exact st_h;exact rfl;exact (by kernel_rfl))|(apply aTw;exact rfl)):p:=h
theorem st_call {p:Prop} (h:p:=by with_reducible first|exact call4|exact call5|exact call6|exact call7|exact call8|exact call9|exact call10|exact call11|exact call12|exact call13|exact call14|exact call15|exact call16|exact call17|exact call18|exact call19|exact call20|exact call21|exact call22|exact call23|exact call24|exact call25|exact call26|exact call27|exact call28|exact call29|exact call30|exact call31|exact call32|exact call33|exact call34|exact call35|exact call36|exact call37|exact call38|exact call39|exact call40|exact call41|exact call42|exact call43|exact call44|exact call45|exact call46|exact call47|exact call48|exact call49|exact call50|exact call51|exact call52|exact call53|exact call54|exact call55|exact call56|exact call57|exact call58|exact call59|exact call60|exact call61|exact call62|exact call63|exact call64|exact call65|exact call66|exact call67|exact call68|exact call69|exact call70|exact call71|exact call72|exact call73|exact call74|exact call75|exact call76|exact call77|exact call78|exact call79|exact call80|exact call81|exact call82|exact call83|exact call84|exact call85|exact call86|exact call87|exact call88|exact call89|exact call90|exact call91|exact call92|exact call93|exact call94|exact call95|exact call96|exact call97|exact call98|exact call99|exact call100|exact call101|exact call102|exact call103|exact call104|exact call105|exact call106|exact call107|exact call108|exact call109|exact call110|exact call111|exact call112|exact call113|exact call114|exact call115|exact call116|exact call117|exact call118|exact call119|exact call120|exact call121|exact call122|exact call123|exact call124|exact call125|exact call126|exact call127|exact call129|exact call130|exact call131|exact call132|exact call133|exact call134|exact call135|exact call137|exact call138|exact call139|exact call140|exact call141|exact call142|exact call143|exact call144|exact call145|exact call146|exact call147|exact call148|exact call149|exact call150|exact call151|exact call152|exact call153|exact call154|exact call155|exact call156|exact call157|exact call158|exact call159|exact call160|exact call161|exact call162|exact call163|exact call164|exact call165|exact call166|exact call167|exact call168|exact call169|exact call170|exact call173|exact call175|exact call176|exact call177|exact call179|exact call180|exact call181|exact call182|exact call183|exact call184|exact call185|exact call186|exact call187|exact call188|exact call189|exact call190|exact call191|exact call192|exact call193|exact call194|exact call195|exact call196|exact call197|exact call198|exact call199|exact call200|exact call201|exact call221|exact call222|exact call223|exact call224|exact call225|exact call230|exact call231|exact call232|exact call233|exact call234|exact call235|exact call236|exact call237|exact call238|exact call239|exact call240|exact call241|exact call242|exact call243|exact call244|exact call245|exact call246|exact call247|exact call248|exact call249|exact call260|exact call262|exact call270|exact call279):p:=h
theorem st_f {p:Prop} (h:p:=by with_reducible first|exact func3|exact func4|exact func5|exact func6|exact func7|exact func8|exact func9|exact func10|exact func11|exact func12|exact func13|exact func14|exact func15|exact func16|exact func17|exact func18|exact func19|exact func20|exact func21|exact func22|exact func23|exact func24|exact func25|exact func26|exact func27|exact func28|exact func29|exact func30|exact func31|exact func32|exact func33|exact func34|exact func35|exact func36|exact func37|exact func38|exact func39|exact func40|exact func41|exact func42|exact func43|exact func44|exact func45|exact func46|exact func47|exact func48|exact func49|exact func50|exact func51|exact func52|exact func53|exact func54|exact func55|exact func56|exact func57|exact func58|exact func59|exact func60|exact func61|exact func62|exact func63|exact func64|exact func65|exact func66|exact func67|exact func68|exact func69|exact func70|exact func71|exact func72|exact func73|exact func74|exact func75|exact func76|exact func77|exact func78|exact func79|exact func80|exact func81|exact func82|exact func83|exact func84|exact func85|exact func86|exact func87|exact func88|exact func89|exact func90|exact func91|exact func92|exact func94|exact func95|exact func96|exact func97|exact func98|exact func99|exact func100|exact func101|exact func102|exact func103|exact func104|exact func105|exact func106|exact func107|exact func108|exact func109|exact func110|exact func111|exact func112|exact func113|exact func114|exact func115|exact func116|exact func117|exact func118|exact func119|exact func120|exact func121|exact func122|exact func123|exact func124|exact func125|exact func126|exact func128|exact func129|exact func130|exact func132|exact func133|exact func134|exact func135|exact func137|exact func138|exact func139|exact func140|exact func141|exact func142|exact func143|exact func144|exact func145|exact func146|exact func147|exact func148|exact func149|exact func150|exact func151|exact func152|exact func153|exact func154|exact func155|exact func156|exact func157|exact func158|exact func159|exact func160|exact func161|exact func162|exact func163|exact func164|exact func165|exact func166|exact func167|exact func168|exact func169|exact func170|exact func175|exact func176|exact func177|exact func179|exact func180|exact func181|exact func182|exact func183|exact func184|exact func185|exact func186|exact func187|exact func188|exact func189|exact func190|exact func191|exact func192|exact func193|exact func194|exact func195|exact func196|exact func197|exact func198|exact func199|exact func200|exact func201|exact func221|exact func223|exact func225|exact func230|exact func232|exact func233|exact func234|exact func235|exact func236|exact func237|exact func238|exact func239|exact func240|exact func241|exact func242|exact func243|exact func244|exact func245|exact func246|exact func247|exact func248|exact func249|exact func262|exact func270|exact func279):p:=h
theorem aSc {p:Prop} (h:p:=by first|((with_reducible apply vS);exact rfl;exact rfl)|((with_reducible apply V_rvG);exact aBk;exact aBB;exact aOA;exact aNP;exact rfl;exact rfl)|((with_reducible apply V_rvB);exact aBk;exact aBB;exact aOA;exact aHc;exact rfl)):p:=h
theorem st_X {p:Prop} (h:p:=by
 (repeat (first
  |exact aU
  |(with_reducible apply Exists.intro)
  |((with_reducible apply And.intro);· first|exact aU|(with_reducible assumption)|exact (Option.some.inj (by with_reducible assumption)).symm|exact rfl|assumption|exact zR _|exact aCY|exact aPr _|(apply st_rK;assumption;exact aCY)|(apply st_cK;assumption;exact aCY)|exact cH (by assumption))
  |(with_reducible assumption)|exact st_c|exact rfl|assumption));first|done|fail):p:=h
theorem aNl {p q:Prop} (k:q) (h:Hd q->p:=by
 intro hk
 (first|apply st_ca|apply st_cb|apply st_cq);exact st_call;(first|(with_reducible intro z z)|skip);(first|((with_reducible first|apply gA|apply aHK|apply aIw|apply aFP|apply aMN|apply aIQ|apply oF|apply aIR|apply aHL|apply aJg|apply vO|apply uK|apply aEL|apply aKE|apply aMO|apply aMP|apply aLF|apply aNT|apply aMQ|apply aIx|apply aHM|apply aLG|apply aJh|apply aIy|apply aKF|apply aJR|apply aFQ|apply aLH|apply aGR|apply aGS|apply aBf|apply iH|apply aFR|apply aLI|apply aHJ|apply zV|apply oA|apply aJf|apply aDb|apply xI|apply aEw|apply uI|apply aJp|apply aGV|apply yL|apply aLR|apply jT|apply aIG|apply aKO|apply aOb|apply aLS|apply aKP|apply aGW|apply aQX|apply mZ|apply aNg|apply aGX|apply aEy|apply aGE|apply aID|apply aKM|apply aJV|apply aFS|apply yE|apply aGB|apply kO|apply aIE|apply aEM|apply aGC|apply aEx|apply aBo|apply aFp|apply aDD|apply aJk|apply aIF|apply aJW|apply aCR|apply aJX|apply aGZ|apply nS|apply mQ|apply aMR|apply aIS|apply aLJ|apply aMS|apply aGT|apply aPP|apply aKG|apply aMT|apply aMU|apply aMV|apply aHN|apply qT|apply aJi|apply qW|apply aOc|apply aNh|apply aPW|apply aOd|apply aKQ|apply aFi|apply aBA|apply aOe|apply aNi|apply aLU|apply aOf|apply aNj|apply aIK|apply aHW|apply aLV|apply aJq|apply aIL|apply aLW|apply iV|apply aKR|apply aKc|apply aKS|apply aGG|apply aKd|apply aHb|apply aDd|apply nT|apply aKe|apply aKT|apply aLX|apply aJr|apply yM|apply aKU|apply aLY|apply aIM|apply aEA|apply aFV|apply aPV|apply jN|apply aBz|apply aCS|apply aDE|apply aEz|apply oB|apply mR|apply aIJ|apply aFU|apply aHQ|apply aNb|apply aHR|apply aNY|apply aNc|apply aNd|apply aLM|apply aKJ|apply aKK|apply aLN|apply aLO|apply aJS|apply aGU|apply aLK|apply aPQ|apply aNU|apply aKH|apply aJT|apply aCm|apply aNV|apply aLL|apply jP|apply aNW|apply aPR|apply aHO|apply aHP|apply aMY|apply aDc|apply aNX|apply aMZ|apply aNa|apply aKI|apply aPT|apply aIB|apply aPU|apply aKL|apply aNZ|apply aNe|apply aLP|apply aOa|apply aNf|apply aIC|apply aHT|apply aLQ|apply aJj|apply aJl|apply aKN|apply aFT|apply aJm|apply aGD|apply aHU|apply mY|apply mC|apply aJY|apply aHV|apply aHa|apply mB|apply lD|apply aJn|apply aJo|apply qU|apply uL|apply vT);with_reducible assumption)|(with_reducible apply uJ;with_reducible assumption)|(with_reducible apply sD;with_reducible assumption)|(with_reducible apply sE;with_reducible assumption)|(with_reducible apply qV;with_reducible assumption)|(with_reducible apply aJZ;with_reducible assumption)|(with_reducible apply aKa;with_reducible assumption)|(with_reducible apply aLT;with_reducible assumption)|(with_reducible apply aIH;with_reducible assumption)|(with_reducible apply aII;with_reducible assumption)|(with_reducible apply aKb;with_reducible assumption)|(with_reducible apply lJ;with_reducible assumption)|(with_reducible apply kP;with_reducible assumption)|(with_reducible apply aCP;with_reducible assumption)|(with_reducible apply aCQ;with_reducible assumption)|(with_reducible apply aDC;with_reducible assumption)|(with_reducible apply aFq;with_reducible assumption)|(with_reducible apply aFr;with_reducible assumption)|(with_reducible apply aGF;with_reducible assumption)|(with_reducible apply aIz;with_reducible assumption)|(with_reducible apply aIA;with_reducible assumption)|(with_reducible apply aJU;with_reducible assumption)|(with_reducible apply aPw;with_reducible assumption)|(with_reducible apply aMW;with_reducible assumption)|(with_reducible apply aMX;with_reducible assumption)|(with_reducible apply aPS;with_reducible assumption)|(with_reducible apply aHS;with_reducible assumption)|(with_reducible apply lib_SortStr;all_goals (try with_reducible assumption))|(with_reducible apply lib_SortEdge;all_goals (try with_reducible assumption))|(with_reducible apply lib_Cut;all_goals (try with_reducible assumption))|(with_reducible apply lib_Split;all_goals (try with_reducible assumption))|(with_reducible apply aQU;all_goals (try with_reducible assumption))|(with_reducible apply lib_Join;all_goals (try with_reducible assumption))|(with_reducible apply aHI;all_goals (try with_reducible assumption))|(with_reducible apply aLE;all_goals (try with_reducible assumption)));(case hv=>exact rfl);(repeat (first|assumption|exact st_c|(apply st_rK;assumption;exact aCY)|(apply st_cK;assumption;exact aCY)|exact aPr _|exact aCY|exact zR _|exact rfl|exact cH (by assumption)));exact hk.k;first|done|fail):p:=h ⟨k⟩
set_option maxRecDepth 100000 in
theorem cA {p:Prop} (h:p:=by
 repeat' (first
  |(apply st_i;exact aBk;exact aBk;exact aBB;exact aBB;exact rfl;exact st_S;exact rfl;intro z z zr;first|(have zr:=st_pd zr;subst zr)|obtain ⟨z,z,rfl,z⟩:=zr|obtain ⟨z,z,z,z,rfl,z,z⟩:=zr|obtain ⟨z,z,z,z,z,z,rfl,z,z,z⟩:=zr|obtain ⟨z,z,z,z,z,z,z,z,rfl,z,z,z,z⟩:=zr)
  |(apply st_iQ;exact aBk;exact aBk;exact aBB;exact aBB;exact rfl;exact st_S;exact rfl;intro z z zr;first|(have zr:=st_pd zr;subst zr)|obtain ⟨z,z,rfl,z⟩:=zr|obtain ⟨z,z,z,z,rfl,z,z⟩:=zr|obtain ⟨z,z,z,z,z,z,rfl,z,z,z⟩:=zr|obtain ⟨z,z,z,z,z,z,z,z,rfl,z,z,z,z⟩:=zr)
  |(apply st_iE;exact rfl;exact aBk;exact aBk;exact aBB;exact aBB;exact rfl;exact st_S;exact rfl;intro z z zr;first|(have zr:=st_pd zr;subst zr)|obtain ⟨z,z,rfl,z⟩:=zr|obtain ⟨z,z,z,z,rfl,z,z⟩:=zr|obtain ⟨z,z,z,z,z,z,rfl,z,z,z⟩:=zr|obtain ⟨z,z,z,z,z,z,z,z,rfl,z,z,z,z⟩:=zr)
  |(apply VO;exact st_V)
  |(apply VQ;intro _ _;exact st_V)
  |(apply cC)
  |with_reducible apply aB
  |with_reducible apply bM
  |(apply aO)
  |(apply aV)
  |(apply aW)
  |(apply cL)
  |(apply V_condT;exact aBk;exact aQC)
  |(apply V_condF;exact aBk;exact aQC)
  |with_reducible apply bF
  |with_reducible apply bU
  |(with_reducible apply blockQ_ne;exact rfl)
  |(apply V_onT;exact rfl;exact aBk;exact aQC)
  |(apply V_onF;exact rfl;exact aBk;exact aQC)
  |(apply V_offF;exact rfl;exact aBk;exact aQC)
  |(apply V_offT;exact rfl;exact aBk;exact aQC)
  |(apply Q_onT;exact rfl;exact aBk;exact aQC)
  |(apply Q_onF;exact rfl;exact aBk;exact aQC)
  |(apply Q_offF;exact rfl;exact aBk;exact aQC)
  |(apply Q_offT;exact rfl;exact aBk;exact aQC)
  |(apply cF;exact rfl;exact aBk)
  |(apply bY;exact rfl;exact aBk)
  |(apply V_WE;exact rfl;rintro _ ⟨_,_⟩;exact st_V)
  |(apply V_WT;exact rfl;intro _;exact st_V)
  |apply aX
  |with_reducible apply aK
  |with_reducible apply aZ
  |exact st_X
  |(apply aP;exact rfl;exact rfl;refine aQx hm (fun z=>?_);subst z;exact st_X)
  |(apply nZ;exact rfl;exact rfl;exact rfl;refine aQx hm (fun z=>?_);subst z;exact st_X)
  |(apply retQ_3;exact rfl;exact rfl;exact rfl;exact rfl;refine aQx hm (fun z=>?_);subst z;exact st_X)
  |(apply aBK;exact rfl;exact aSc;refine aQx hm (fun z=>?_);subst z;exact st_X)
  |(apply xK;exact rfl;exact aSc;exact aSc;refine aQx hm (fun z=>?_);subst z;exact st_X)
  |(apply retQ_m3;exact rfl;exact aSc;exact aSc;exact aSc;refine aQx hm (fun z=>?_);subst z;exact st_X)
  |(apply aMi;exact rfl;refine aQx hm (fun z=>?_);subst z;exact st_X)
  |(apply retQ_0;exact rfl;refine aQx hm (fun z=>?_);subst z;exact st_X)
  |(refine st_I st_f ?_)
  |intro (hm:(_:Option _)=some _)
  |intro (hr:∀ r',_=Sum.inr r'->_)
  |(with_reducible refine aLA fun z=>?_)
  |(with_reducible refine aMa ?_)
  |(intro (zv:(_:Value)=_);subst zv)
  |intro z
  |((with_reducible apply st_we);first|exact ⟨_,by assumption⟩|exact ⟨_,aN.weakK (by assumption) aCY⟩)
  |(apply pP;exact rfl)
  |(apply aJa;exact rfl)
  |apply sQ
  |(have zq:=hr _ (Option.some.inj hm).symm;subst zq;have hm:=ho;clear hr ho;try dsimp only at hm)
  |obtain ⟨z,z,hm⟩:=aC hm
  |exact st_no hm
  |refine st_a (fun z z z=>?_)
  |refine st_s (fun z z=>?_)
  |refine st_x (fun z z z=>?_)
  |refine st_ba (by with_reducible assumption) (fun z z z=>?_)
  |refine aPm (T:=104) ([]:List dM) (fun z z z=>?_)
  |refine aPm (T:=159) ([]:List UInt8) (fun z z z=>?_)
  |refine aPm (T:=160) ([]:List (List bP)) (fun z z z=>?_)
  |refine aPm (T:=203) ([]:List bP) (fun z z z=>?_)
  |refine aPm (T:=25) ([]:List bK) (fun z z z=>?_)
  |refine aPm (T:=29) ([]:List eP) (fun z z z=>?_)
  |refine aPm (T:=30) ([]:List bV) (fun z z z=>?_)
  |refine aPm (T:=35) ([]:List Definition) (fun z z z=>?_)
  |refine aPm (T:=36) ([]:List bL) (fun z z z=>?_)
  |refine aPm (T:=58) ([]:List Edge) (fun z z z=>?_)
  |refine aPm (T:=78) ([]:List Int) (fun z z z=>?_)
  |refine aPm (T:=87) ([]:List Part) (fun z z z=>?_)
  |refine aPm (T:=96) ([]:List bS) (fun z z z=>?_)
  |refine st_p (fun z z z z=>?_)
  |(apply st_q2;exact aBk;exact aBk;(first|assumption|(apply st_rK;assumption;exact aCY));assumption;exact st_M;assumption;exact st_S;exact st_u;exact st_e;exact rfl;exact rfl;exact rfl;exact rfl;intro z z z z)
  |(apply dH;intro z z)
  |refine st_k ?_
  |(apply bZ)
  |(refine aNl ?_;first|(intro z z;repeat (first|(with_reducible refine aLA fun z=>?_)|with_reducible refine aMa ?_|(intro (zv:(_:Value)=_);subst zv)|intro z))|skip)
  |((first|(apply aEN;(with_reducible assumption);exact .head;(first|exact zR _|exact aCY);intro zK zh zr zs bk)|(apply aEP;(with_reducible assumption);exact .head;intro zK zh zr zs bk));refine aNl ?_;(first|(intro z z;repeat (first|(with_reducible refine aLA fun z=>?_)|with_reducible refine aMa ?_|(intro (zv:(_:Value)=_);subst zv)|intro z))|skip);(have z:=bk _ _ (by with_reducible assumption);clear bk))
  |((first|(apply aEN;(with_reducible assumption);exact zt1;(first|exact zR _|exact aCY);intro zK zh zr zs bk)|(apply aEP;(with_reducible assumption);exact zt1;intro zK zh zr zs bk));refine aNl ?_;(first|(intro z z;repeat (first|(with_reducible refine aLA fun z=>?_)|with_reducible refine aMa ?_|(intro (zv:(_:Value)=_);subst zv)|intro z))|skip);(have z:=bk _ _ (by with_reducible assumption);clear bk))
  |((first|(apply aEN;(with_reducible assumption);exact zt2;(first|exact zR _|exact aCY);intro zK zh zr zs bk)|(apply aEP;(with_reducible assumption);exact zt2;intro zK zh zr zs bk));refine aNl ?_;(first|(intro z z;repeat (first|(with_reducible refine aLA fun z=>?_)|with_reducible refine aMa ?_|(intro (zv:(_:Value)=_);subst zv)|intro z))|skip);(have z:=bk _ _ (by with_reducible assumption);clear bk))
  |((first|(apply aEN;(with_reducible assumption);exact zt3;(first|exact zR _|exact aCY);intro zK zh zr zs bk)|(apply aEP;(with_reducible assumption);exact zt3;intro zK zh zr zs bk));refine aNl ?_;(first|(intro z z;repeat (first|(with_reducible refine aLA fun z=>?_)|with_reducible refine aMa ?_|(intro (zv:(_:Value)=_);subst zv)|intro z))|skip);(have z:=bk _ _ (by with_reducible assumption);clear bk))
  |((first|(apply aEN;(with_reducible assumption);exact zt4;(first|exact zR _|exact aCY);intro zK zh zr zs bk)|(apply aEP;(with_reducible assumption);exact zt4;intro zK zh zr zs bk));refine aNl ?_;(first|(intro z z;repeat (first|(with_reducible refine aLA fun z=>?_)|with_reducible refine aMa ?_|(intro (zv:(_:Value)=_);subst zv)|intro z))|skip);(have z:=bk _ _ (by with_reducible assumption);clear bk))
  |((first|(apply aEN;(with_reducible assumption);exact .head;(first|exact zR _|exact aCY);intro zK zh zr zs bk)|(apply aEP;(with_reducible assumption);exact .head;intro zK zh zr zs bk));(first|(apply aEN;(with_reducible assumption);exact .head;(first|exact zR _|exact aCY);intro zK zh zr zs bk)|(apply aEP;(with_reducible assumption);exact .head;intro zK zh zr zs bk));refine aNl ?_;(first|(intro z z;repeat (first|(with_reducible refine aLA fun z=>?_)|with_reducible refine aMa ?_|(intro (zv:(_:Value)=_);subst zv)|intro z))|skip);(have z:=bk _ _ (by with_reducible assumption);clear bk);(have z:=bk _ _ (by with_reducible assumption);clear bk))
  |((first|(apply aEN;(with_reducible assumption);exact zt1;(first|exact zR _|exact aCY);intro zK zh zr zs bk)|(apply aEP;(with_reducible assumption);exact zt1;intro zK zh zr zs bk));(first|(apply aEN;(with_reducible assumption);exact zt1;(first|exact zR _|exact aCY);intro zK zh zr zs bk)|(apply aEP;(with_reducible assumption);exact zt1;intro zK zh zr zs bk));refine aNl ?_;(first|(intro z z;repeat (first|(with_reducible refine aLA fun z=>?_)|with_reducible refine aMa ?_|(intro (zv:(_:Value)=_);subst zv)|intro z))|skip);(have z:=bk _ _ (by with_reducible assumption);clear bk);(have z:=bk _ _ (by with_reducible assumption);clear bk))
  |((first|(apply aEN;(with_reducible assumption);exact zt1;(first|exact zR _|exact aCY);intro zK zh zr zs bk)|(apply aEP;(with_reducible assumption);exact zt1;intro zK zh zr zs bk));(first|(apply aEN;(with_reducible assumption);exact .head;(first|exact zR _|exact aCY);intro zK zh zr zs bk)|(apply aEP;(with_reducible assumption);exact .head;intro zK zh zr zs bk));refine aNl ?_;(first|(intro z z;repeat (first|(with_reducible refine aLA fun z=>?_)|with_reducible refine aMa ?_|(intro (zv:(_:Value)=_);subst zv)|intro z))|skip);(have z:=bk _ _ (by with_reducible assumption);clear bk);(have z:=bk _ _ (by with_reducible assumption);clear bk))
  |((first|(apply aEN;(with_reducible assumption);exact zt2;(first|exact zR _|exact aCY);intro zK zh zr zs bk)|(apply aEP;(with_reducible assumption);exact zt2;intro zK zh zr zs bk));(first|(apply aEN;(with_reducible assumption);exact zt1;(first|exact zR _|exact aCY);intro zK zh zr zs bk)|(apply aEP;(with_reducible assumption);exact zt1;intro zK zh zr zs bk));refine aNl ?_;(first|(intro z z;repeat (first|(with_reducible refine aLA fun z=>?_)|with_reducible refine aMa ?_|(intro (zv:(_:Value)=_);subst zv)|intro z))|skip);(have z:=bk _ _ (by with_reducible assumption);clear bk);(have z:=bk _ _ (by with_reducible assumption);clear bk))
  |((first|(apply aEN;(with_reducible assumption);exact zt2;(first|exact zR _|exact aCY);intro zK zh zr zs bk)|(apply aEP;(with_reducible assumption);exact zt2;intro zK zh zr zs bk));(first|(apply aEN;(with_reducible assumption);exact zt1;(first|exact zR _|exact aCY);intro zK zh zr zs bk)|(apply aEP;(with_reducible assumption);exact zt1;intro zK zh zr zs bk));(first|(apply aEN;(with_reducible assumption);exact zt1;(first|exact zR _|exact aCY);intro zK zh zr zs bk)|(apply aEP;(with_reducible assumption);exact zt1;intro zK zh zr zs bk));refine aNl ?_;(first|(intro z z;repeat (first|(with_reducible refine aLA fun z=>?_)|with_reducible refine aMa ?_|(intro (zv:(_:Value)=_);subst zv)|intro z))|skip);(have z:=bk _ _ (by with_reducible assumption);clear bk);(have z:=bk _ _ (by with_reducible assumption);clear bk);(have z:=bk _ _ (by with_reducible assumption);clear bk))
  |((first|(apply aEN;(with_reducible assumption);exact .head;(first|exact zR _|exact aCY);intro zK zh zr zs bk)|(apply aEP;(with_reducible assumption);exact .head;intro zK zh zr zs bk));(first|(apply aEN;(with_reducible assumption);exact .head;(first|exact zR _|exact aCY);intro zK zh zr zs bk)|(apply aEP;(with_reducible assumption);exact .head;intro zK zh zr zs bk));(first|(apply aEN;(with_reducible assumption);exact .head;(first|exact zR _|exact aCY);intro zK zh zr zs bk)|(apply aEP;(with_reducible assumption);exact .head;intro zK zh zr zs bk));refine aNl ?_;(first|(intro z z;repeat (first|(with_reducible refine aLA fun z=>?_)|with_reducible refine aMa ?_|(intro (zv:(_:Value)=_);subst zv)|intro z))|skip);(have z:=bk _ _ (by with_reducible assumption);clear bk);(have z:=bk _ _ (by with_reducible assumption);clear bk);(have z:=bk _ _ (by with_reducible assumption);clear bk))
  |((first|(apply aEN;(with_reducible assumption);exact zt1;(first|exact zR _|exact aCY);intro zK zh zr zs bk)|(apply aEP;(with_reducible assumption);exact zt1;intro zK zh zr zs bk));(first|(apply aEN;(with_reducible assumption);exact zt1;(first|exact zR _|exact aCY);intro zK zh zr zs bk)|(apply aEP;(with_reducible assumption);exact zt1;intro zK zh zr zs bk));(first|(apply aEN;(with_reducible assumption);exact zt1;(first|exact zR _|exact aCY);intro zK zh zr zs bk)|(apply aEP;(with_reducible assumption);exact zt1;intro zK zh zr zs bk));refine aNl ?_;(first|(intro z z;repeat (first|(with_reducible refine aLA fun z=>?_)|with_reducible refine aMa ?_|(intro (zv:(_:Value)=_);subst zv)|intro z))|skip);(have z:=bk _ _ (by with_reducible assumption);clear bk);(have z:=bk _ _ (by with_reducible assumption);clear bk);(have z:=bk _ _ (by with_reducible assumption);clear bk))
  |((first|(apply aEN;(with_reducible assumption);exact zt3;(first|exact zR _|exact aCY);intro zK zh zr zs bk)|(apply aEP;(with_reducible assumption);exact zt3;intro zK zh zr zs bk));(first|(apply aEN;(with_reducible assumption);exact zt2;(first|exact zR _|exact aCY);intro zK zh zr zs bk)|(apply aEP;(with_reducible assumption);exact zt2;intro zK zh zr zs bk));(first|(apply aEN;(with_reducible assumption);exact zt2;(first|exact zR _|exact aCY);intro zK zh zr zs bk)|(apply aEP;(with_reducible assumption);exact zt2;intro zK zh zr zs bk));refine aNl ?_;(first|(intro z z;repeat (first|(with_reducible refine aLA fun z=>?_)|with_reducible refine aMa ?_|(intro (zv:(_:Value)=_);subst zv)|intro z))|skip);(have z:=bk _ _ (by with_reducible assumption);clear bk);(have z:=bk _ _ (by with_reducible assumption);clear bk);(have z:=bk _ _ (by with_reducible assumption);clear bk))
  |((first|(apply aEN;(with_reducible assumption);exact .head;(first|exact zR _|exact aCY);intro zK zh zr zs bk)|(apply aEP;(with_reducible assumption);exact .head;intro zK zh zr zs bk));(first|(apply aEN;(with_reducible assumption);exact .head;(first|exact zR _|exact aCY);intro zK zh zr zs bk)|(apply aEP;(with_reducible assumption);exact .head;intro zK zh zr zs bk));(first|(apply aEN;(with_reducible assumption);exact .head;(first|exact zR _|exact aCY);intro zK zh zr zs bk)|(apply aEP;(with_reducible assumption);exact .head;intro zK zh zr zs bk));(first|(apply aEN;(with_reducible assumption);exact .head;(first|exact zR _|exact aCY);intro zK zh zr zs bk)|(apply aEP;(with_reducible assumption);exact .head;intro zK zh zr zs bk));refine aNl ?_;(first|(intro z z;repeat (first|(with_reducible refine aLA fun z=>?_)|with_reducible refine aMa ?_|(intro (zv:(_:Value)=_);subst zv)|intro z))|skip);(have z:=bk _ _ (by with_reducible assumption);clear bk);(have z:=bk _ _ (by with_reducible assumption);clear bk);(have z:=bk _ _ (by with_reducible assumption);clear bk);(have z:=bk _ _ (by with_reducible assumption);clear bk))
  |((first|(with_reducible apply st_g0)|(with_reducible apply st_g1)|(with_reducible apply st_g2)|(with_reducible apply st_g3)|(apply st_g4;exact rfl));rcases aH hm with ⟨z,hm⟩|⟨z,hm⟩))):p:=h
end Gv
