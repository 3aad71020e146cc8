/- Readings of the program's data; what is known of its types. -/
import Derived.Test.YtmlemmpanilhjaaGreatDoorJYS
import Derived.Test.YtmlemmpanilhjaaGreatDoorProg
set_option linter.all false
namespace Gv
open Go.Value renaming slice→zS
open Gv.Hp renaming le_trans→zL
open Go Go.Proofs Go.Proofs.Tryz
instance:gZ bS where
 sz:=2
 enc d:=[i64 d.Kind,i64 d.Value]
 len _:=rfl
 one _ v h:=by simp at h;rcases h with rfl|rfl<;>rfl
 pos:=by decide
instance:El Part where
 sz:=4
 rd K cs d:=∃ (a0:Option Addr) (c0:Nat),cs=[i64 d.Kind,i64 d.Number,str d.Name,zS a0 d.Arguments.length c0]/\cI K a0 c0 d.Arguments
 mono:=fun h ⟨a0,c0,e,h0⟩=>⟨a0,c0,e,h0.mono h⟩
 len:=fun ⟨_,_,e,_⟩=>by rw [e];rfl
 one:=fun ⟨_,_,e,_⟩ v hv=>by rw [e] at hv;simp at hv;rcases hv with rfl|rfl|rfl|rfl<;>rfl
 pos:=by decide
instance:El Definition where
 sz:=3
 rd K cs d:=∃ (a0:Option Addr) (c0:Nat),cs=[str d.Name,i64 d.Parameters,zS a0 d.Body.length c0]/\cI K a0 c0 d.Body
 mono:=fun h ⟨a0,c0,e,h0⟩=>⟨a0,c0,e,h0.mono h⟩
 len:=fun ⟨_,_,e,_⟩=>by rw [e];rfl
 one:=fun ⟨_,_,e,_⟩ v hv=>by rw [e] at hv;simp at hv;rcases hv with rfl|rfl|rfl<;>rfl
 pos:=by decide
instance:El bU where
 sz:=2
 rd K cs d:=∃ (a0:Option Addr) (c0:Nat),cs=[i64 d.Definition,zS a0 d.Values.length c0]/\cI K a0 c0 d.Values
 mono:=fun h ⟨a0,c0,e,h0⟩=>⟨a0,c0,e,h0.mono h⟩
 len:=fun ⟨_,_,e,_⟩=>by rw [e];rfl
 one:=fun ⟨_,_,e,_⟩ v hv=>by rw [e] at hv;simp at hv;rcases hv with rfl|rfl<;>rfl
 pos:=by decide
instance:gZ cB where
 sz:=3
 enc d:=[str d.Left,str d.Right,str d.Result]
 len _:=rfl
 one _ v h:=by simp at h;rcases h with rfl|rfl|rfl<;>rfl
 pos:=by decide
instance:El cW where
 sz:=5
 rd K cs d:=∃ (a0:Option Addr) (c0:Nat) (a1:Option Addr) (c1:Nat) (a2:Option Addr) (c2:Nat) (a3:Option Addr) (c3:Nat) (a4:Option Addr) (c4:Nat),cs=[zS a0 d.Definitions.length c0,zS a1 d.Components.length c1,zS a2 d.Meetings.length c2,zS a3 d.Allowed.length c3,zS a4 d.Hidden.length c4]/\cI K a0 c0 d.Definitions/\cI K a1 c1 d.Components/\cI K a2 c2 d.Meetings/\cI K a3 c3 d.Allowed/\cI K a4 c4 d.Hidden
 mono:=fun h ⟨a0,c0,a1,c1,a2,c2,a3,c3,a4,c4,e,h0,h1,h2,h3,h4⟩=>⟨a0,c0,a1,c1,a2,c2,a3,c3,a4,c4,e,h0.mono h,h1.mono h,h2.mono h,h3.mono h,h4.mono h⟩
 len:=fun ⟨_,_,_,_,_,_,_,_,_,_,e,_⟩=>by rw [e];rfl
 one:=fun ⟨_,_,_,_,_,_,_,_,_,_,e,_⟩ v hv=>by rw [e] at hv;simp at hv;rcases hv with rfl|rfl|rfl|rfl|rfl<;>rfl
 pos:=by decide
instance:El bO where
 sz:=3
 rd K cs d:=∃ (a0:Option Addr) (c0:Nat),cs=[i64 d.Definition,i64 d.Part,zS a0 d.Values.length c0]/\cI K a0 c0 d.Values
 mono:=fun h ⟨a0,c0,e,h0⟩=>⟨a0,c0,e,h0.mono h⟩
 len:=fun ⟨_,_,e,_⟩=>by rw [e];rfl
 one:=fun ⟨_,_,e,_⟩ v hv=>by rw [e] at hv;simp at hv;rcases hv with rfl|rfl|rfl<;>rfl
 pos:=by decide
instance:El dK where
 sz:=4
 rd K cs d:=∃ (a0:Option Addr) (c0:Nat),cs=[str d.B,i64 d.Next.Definition,i64 d.Next.Part,zS a0 d.Next.Values.length c0]/\cI K a0 c0 d.Next.Values
 mono:=fun h ⟨a0,c0,e,h0⟩=>⟨a0,c0,e,h0.mono h⟩
 len:=fun ⟨_,_,e,_⟩=>by rw [e];rfl
 one:=fun ⟨_,_,e,_⟩ v hv=>by rw [e] at hv;simp at hv;rcases hv with rfl|rfl|rfl|rfl<;>rfl
 pos:=by decide
instance:gZ Edge where
 sz:=3
 enc d:=[i64 d.F,i64 d.B,i64 d.To]
 len _:=rfl
 one _ v h:=by simp at h;rcases h with rfl|rfl|rfl<;>rfl
 pos:=by decide
instance:El iW where
 sz:=4
 rd K cs d:=∃ (a0:Option Addr) (c0:Nat) (a1:Option Addr) (c1:Nat),cs=[i64 d.N,i64 d.I,zS a0 d.L.length c0,zS a1 d.E.length c1]/\cI K a0 c0 d.L/\cI K a1 c1 d.E
 mono:=fun h ⟨a0,c0,a1,c1,e,h0,h1⟩=>⟨a0,c0,a1,c1,e,h0.mono h,h1.mono h⟩
 len:=fun ⟨_,_,_,_,e,_⟩=>by rw [e];rfl
 one:=fun ⟨_,_,_,_,e,_⟩ v hv=>by rw [e] at hv;simp at hv;rcases hv with rfl|rfl|rfl|rfl<;>rfl
 pos:=by decide
instance:gZ eZ where
 sz:=2
 enc d:=[i64 d.scope,Value.bool d.behind]
 len _:=rfl
 one _ v h:=by simp at h;rcases h with rfl|rfl<;>rfl
 pos:=by decide
instance:gZ uT where
 sz:=3
 enc d:=[i64 d.from_,str d.label,i64 d.to_]
 len _:=rfl
 one _ v h:=by simp at h;rcases h with rfl|rfl|rfl<;>rfl
 pos:=by decide
instance:Dp Part where
 Hd:=((Option Addr × Nat) × List (Dp.Hd (List bS)))
 sz1:=3
 enc hd x:=[i64 x.Kind,i64 x.Number,str x.Name,.slice hd.1.1 x.Arguments.length hd.1.2]
 pcs tys hd x:=[bI (tys.headD 0) Hp.nil hd.1.1 hd.1.2 (bX hd.2 x.Arguments),aFQ [(tys.tail.headD 0)] hd.2 x.Arguments]
 len _ _:=rfl
 one _ _ v h:=by simp at h;rcases h with rfl|rfl|rfl|rfl<;>rfl
instance:DpEl Part where
 sz:=rfl
 rd:=fun {tys hd x h K} a hK=>by
  obtain ⟨p0,r0,b0,_,l0,m0,a⟩:=a
  obtain ⟨p1,r1,b1,_,l1,m1,a⟩:=a
  exact ⟨hd.1.1,hd.1.2,rfl,nest_rd b0 b1 (zL l0 (hK)) (zL l1 (zL m0 (hK)))⟩
theorem aOp (tys:List TypeId):iB (Dp.pcs tys (((none,0),[]):Dp.Hd Part) (⟨0,0,[],[]⟩:Part)) Hp.nil:=
 aPi _ _ (trivial)
theorem aQz {hd:Dp.Hd Part} {x:Part} {l:(List (List bS))} (h:x.Arguments.length=l.length):Dp.enc hd (⟨x.Kind,x.Number,x.Name,l⟩:Part)=Dp.enc hd x:=by
 simp only [Dp.enc,h]
instance:Dp Definition where
 Hd:=((Option Addr × Nat) × List (Dp.Hd Part))
 sz1:=2
 enc hd x:=[str x.Name,i64 x.Parameters,.slice hd.1.1 x.Body.length hd.1.2]
 pcs tys hd x:=[bI (tys.headD 0) Hp.nil hd.1.1 hd.1.2 (bX hd.2 x.Body),aFQ [(tys.tail.headD 0),(tys.tail.tail.headD 0)] hd.2 x.Body]
 len _ _:=rfl
 one _ _ v h:=by simp at h;rcases h with rfl|rfl|rfl<;>rfl
instance:DpEl Definition where
 sz:=rfl
 rd:=fun {tys hd x h K} a hK=>by
  obtain ⟨p0,r0,b0,_,l0,m0,a⟩:=a
  obtain ⟨p1,r1,b1,_,l1,m1,a⟩:=a
  exact ⟨hd.1.1,hd.1.2,rfl,nest_rd b0 b1 (zL l0 (hK)) (zL l1 (zL m0 (hK)))⟩
theorem aHX (tys:List TypeId):iB (Dp.pcs tys (((none,0),[]):Dp.Hd Definition) (⟨[],0,[]⟩:Definition)) Hp.nil:=
 aPi _ _ (trivial)
theorem aJy {hd:Dp.Hd Definition} {x:Definition} {l:(List Part)} (h:x.Body.length=l.length):Dp.enc hd (⟨x.Name,x.Parameters,l⟩:Definition)=Dp.enc hd x:=by
 simp only [Dp.enc,h]
instance:Dp bU where
 Hd:=(Option Addr × Nat)
 sz1:=1
 enc hd x:=[i64 x.Definition,.slice hd.1 x.Values.length hd.2]
 pcs tys hd x:=[bI (tys.headD 0) Hp.nil hd.1 hd.2 x.Values]
 len _ _:=rfl
 one _ _ v h:=by simp at h;rcases h with rfl|rfl<;>rfl
instance:DpEl bU where
 sz:=rfl
 rd:=fun {tys hd x h K} a hK=>by
  obtain ⟨p0,r0,b0,_,l0,m0,a⟩:=a
  exact ⟨hd.1,hd.2,rfl,bI.rd b0 (zL l0 (hK)) (Hp.nil_le _)⟩
theorem aIA (tys:List TypeId):iB (Dp.pcs tys ((none,0):Dp.Hd bU) (⟨0,[]⟩:bU)) Hp.nil:=
 ⟨Hp.nil,Hp.nil,bI.nil _ _ _,Hp.nil_dj _,Hp.nil_le _,Hp.nil_le _,trivial⟩
theorem aKz {hd:Dp.Hd bU} {x:bU} {l:(List Int)} (h:x.Values.length=l.length):Dp.enc hd (⟨x.Definition,l⟩:bU)=Dp.enc hd x:=by
 simp only [Dp.enc,h]
instance:Dp bO where
 Hd:=(Option Addr × Nat)
 sz1:=2
 enc hd x:=[i64 x.Definition,i64 x.Part,.slice hd.1 x.Values.length hd.2]
 pcs tys hd x:=[bI (tys.headD 0) Hp.nil hd.1 hd.2 x.Values]
 len _ _:=rfl
 one _ _ v h:=by simp at h;rcases h with rfl|rfl|rfl<;>rfl
instance:DpEl bO where
 sz:=rfl
 rd:=fun {tys hd x h K} a hK=>by
  obtain ⟨p0,r0,b0,_,l0,m0,a⟩:=a
  exact ⟨hd.1,hd.2,rfl,bI.rd b0 (zL l0 (hK)) (Hp.nil_le _)⟩
theorem gD:SLT prog 75 2 1:=⟨runUnderlying75,sizeOf2⟩
theorem dC:SC prog 2:=⟨isAgg2,sizeOf2⟩
theorem dQ:SLT prog 25 9 1:=⟨runUnderlying25,sizeOf9⟩
theorem aEz:EZ prog 9 [str []]:=⟨⟨_,zeroValue9,rfl⟩,⟨t9,typeInfo9,by show (16:Nat)<=128;decide,rfl,by kernel_rfl,_,rfl,rfl⟩⟩
theorem fJ:SC prog 9:=⟨isAgg9,sizeOf9⟩
theorem aEA:EZ prog 2 [i64 0]:=⟨⟨_,zeroValue2,rfl⟩,⟨t2,typeInfo2,by show (8:Nat)<=128;decide,rfl,by kernel_rfl,_,rfl,rfl⟩⟩
theorem aOq:SLT prog 235 289 2:=⟨runUnderlying235,sizeOf289⟩
theorem aJz:SLT prog 160 235 1:=⟨runUnderlying160,sizeOf235⟩
theorem sc_235:SC prog 235:=⟨isAgg235,sizeOf235⟩
theorem aPj:FA prog 162 2 2:=⟨_,_,_,runUnderlying162,rfl,sizeOf9,rfl,rfl⟩
theorem aPk:FA prog 162 3 3:=⟨_,_,_,runUnderlying162,rfl,sizeOf160,rfl,rfl⟩
theorem sc_160:SC prog 160:=⟨isAgg160,sizeOf160⟩
theorem aNB:SLT prog 71 162 4:=⟨runUnderlying71,sizeOf162⟩
theorem ag_162:AG prog 162 4:=⟨isAgg162,sizeOf162⟩
theorem fa_73_0:FA prog 73 0 0:=⟨_,_,_,runUnderlying73,rfl,sizeOf9,rfl,rfl⟩
theorem fa_73_2:FA prog 73 2 2:=⟨_,_,_,runUnderlying73,rfl,sizeOf71,rfl,rfl⟩
theorem sc_71:SC prog 71:=⟨isAgg71,sizeOf71⟩
theorem aNC:SLT prog 22 73 3:=⟨runUnderlying22,sizeOf73⟩
theorem ag_73:AG prog 73 3:=⟨isAgg73,sizeOf73⟩
theorem fa_77_1:FA prog 77 1 1:=⟨_,_,_,runUnderlying77,rfl,sizeOf75,rfl,rfl⟩
theorem aCe:SC prog 75:=⟨isAgg75,sizeOf75⟩
theorem aND:SLT prog 23 77 2:=⟨runUnderlying23,sizeOf77⟩
theorem ag_77:AG prog 77 2:=⟨isAgg77,sizeOf77⟩
theorem fa_80_0:FA prog 80 0 0:=⟨_,_,_,runUnderlying80,rfl,sizeOf9,rfl,rfl⟩
theorem fa_80_1:FA prog 80 1 1:=⟨_,_,_,runUnderlying80,rfl,sizeOf9,rfl,rfl⟩
theorem fa_80_2:FA prog 80 2 2:=⟨_,_,_,runUnderlying80,rfl,sizeOf9,rfl,rfl⟩
theorem aNE:SLT prog 24 80 3:=⟨runUnderlying24,sizeOf80⟩
theorem ag_80:AG prog 80 3:=⟨isAgg80,sizeOf80⟩
theorem fa_27_0:FA prog 27 0 0:=⟨_,_,_,runUnderlying27,rfl,sizeOf22,rfl,rfl⟩
theorem sc_22:SC prog 22:=⟨isAgg22,sizeOf22⟩
theorem fa_27_1:FA prog 27 1 1:=⟨_,_,_,runUnderlying27,rfl,sizeOf23,rfl,rfl⟩
theorem sc_23:SC prog 23:=⟨isAgg23,sizeOf23⟩
theorem fa_27_2:FA prog 27 2 2:=⟨_,_,_,runUnderlying27,rfl,sizeOf24,rfl,rfl⟩
theorem sc_24:SC prog 24:=⟨isAgg24,sizeOf24⟩
theorem fa_27_3:FA prog 27 3 3:=⟨_,_,_,runUnderlying27,rfl,sizeOf25,rfl,rfl⟩
theorem oR:SC prog 25:=⟨isAgg25,sizeOf25⟩
theorem fa_27_4:FA prog 27 4 4:=⟨_,_,_,runUnderlying27,rfl,sizeOf25,rfl,rfl⟩
theorem fA:FA prog 157 0 0:=⟨_,_,_,runUnderlying157,rfl,sizeOf2,rfl,rfl⟩
theorem lH:SLT prog 98 157 4:=⟨runUnderlying98,sizeOf157⟩
theorem jO:FA prog 157 1 1:=⟨_,_,_,runUnderlying157,rfl,sizeOf2,rfl,rfl⟩
theorem lI:FA prog 157 2 2:=⟨_,_,_,runUnderlying157,rfl,sizeOf9,rfl,rfl⟩
theorem jP:FA prog 157 3 3:=⟨_,_,_,runUnderlying157,rfl,sizeOf155,rfl,rfl⟩
theorem qI:SC prog 155:=⟨isAgg155,sizeOf155⟩
theorem lJ:SLT prog 155 173 1:=⟨runUnderlying155,sizeOf173⟩
theorem qX:FA prog 100 1 1:=⟨_,_,_,runUnderlying100,rfl,sizeOf2,rfl,rfl⟩
theorem jQ:FA prog 100 2 2:=⟨_,_,_,runUnderlying100,rfl,sizeOf98,rfl,rfl⟩
theorem yM:SC prog 98:=⟨isAgg98,sizeOf98⟩
theorem vB:FA prog 233 0 0:=⟨_,_,_,runUnderlying233,rfl,sizeOf2,rfl,rfl⟩
theorem kN:FA prog 233 1 1:=⟨_,_,_,runUnderlying233,rfl,sizeOf2,rfl,rfl⟩
theorem lW:SLT prog 173 233 2:=⟨runUnderlying173,sizeOf233⟩
theorem xG:AG prog 157 4:=⟨isAgg157,sizeOf157⟩
theorem jV:SLT prog 34 100 3:=⟨runUnderlying34,sizeOf100⟩
theorem aFk:SC prog 173:=⟨isAgg173,sizeOf173⟩
theorem vC:FA prog 100 0 0:=⟨_,_,_,runUnderlying100,rfl,sizeOf9,rfl,rfl⟩
theorem qJ:FA prog 38 1 1:=⟨_,_,_,runUnderlying38,rfl,sizeOf35,rfl,rfl⟩
theorem aDV:SC prog 35:=⟨isAgg35,sizeOf35⟩
theorem sL:SLT prog 35 102 2:=⟨runUnderlying35,sizeOf102⟩
theorem aFl:AG prog 102 2:=⟨isAgg102,sizeOf102⟩
theorem vD:FA prog 102 0 0:=⟨_,_,_,runUnderlying102,rfl,sizeOf2,rfl,rfl⟩
theorem yN:FA prog 38 0 0:=⟨_,_,_,runUnderlying38,rfl,sizeOf34,rfl,rfl⟩
theorem aGo:SC prog 34:=⟨isAgg34,sizeOf34⟩
theorem vE:FA prog 102 1 1:=⟨_,_,_,runUnderlying102,rfl,sizeOf75,rfl,rfl⟩
theorem qE:SLT prog 36 104 3:=⟨runUnderlying36,sizeOf104⟩
theorem aFm:AG prog 104 3:=⟨isAgg104,sizeOf104⟩
theorem lZ:FA prog 104 0 0:=⟨_,_,_,runUnderlying104,rfl,sizeOf9,rfl,rfl⟩
theorem nV:FA prog 104 1 1:=⟨_,_,_,runUnderlying104,rfl,sizeOf9,rfl,rfl⟩
theorem vF:FA prog 104 2 2:=⟨_,_,_,runUnderlying104,rfl,sizeOf9,rfl,rfl⟩
theorem aGY:FA prog 38 2 2:=⟨_,_,_,runUnderlying38,rfl,sizeOf36,rfl,rfl⟩
theorem sc_36:SC prog 36:=⟨isAgg36,sizeOf36⟩
theorem aGZ:FA prog 38 3 3:=⟨_,_,_,runUnderlying38,rfl,sizeOf25,rfl,rfl⟩
theorem aHa:FA prog 38 4 4:=⟨_,_,_,runUnderlying38,rfl,sizeOf25,rfl,rfl⟩
theorem rV:SLT prog 84 83 3:=⟨runUnderlying84,sizeOf83⟩
theorem aHK:EZ prog 83 [i64 0,i64 0,zS none 0 0]:=⟨⟨_,zeroValue83,rfl⟩,⟨t83,typeInfo83,by show (40:Nat)<=128;decide,rfl,by kernel_rfl,_,rfl,rfl⟩⟩
theorem aNF:BS prog 83 [(0,1),(1,1),(2,1)] [i64 0,i64 0,zS none 0 0]:=⟨⟨_,zeroValue83,rfl⟩,_,runUnderlying83,fun w=>by simp [sizeOf2,sizeOf75]⟩
theorem aIB:FA prog 83 0 0:=⟨_,_,_,runUnderlying83,rfl,sizeOf2,rfl,rfl⟩
theorem aIC:FA prog 83 1 1:=⟨_,_,_,runUnderlying83,rfl,sizeOf2,rfl,rfl⟩
theorem aID:FA prog 83 2 2:=⟨_,_,_,runUnderlying83,rfl,sizeOf75,rfl,rfl⟩
theorem aBv:SLT prog 86 92 4:=⟨runUnderlying86,sizeOf92⟩
theorem aDe:SLT prog 154 5 1:=⟨runUnderlying154,sizeOf5⟩
theorem ez_5:EZ prog 5 [Value.int .u8 0]:=⟨⟨_,zeroValue5,rfl⟩,⟨t5,typeInfo5,by show (1:Nat)<=128;decide,rfl,by kernel_rfl,_,rfl,rfl⟩⟩
theorem sc_5:SC prog 5:=⟨isAgg5,sizeOf5⟩
theorem aDW:AG prog 83 3:=⟨isAgg83,sizeOf83⟩
theorem bs_92:BS prog 92 [(0,1),(1,3)] [str [],i64 0,i64 0,zS none 0 0]:=⟨⟨_,zeroValue92,rfl⟩,_,runUnderlying92,fun w=>by simp [sizeOf83,sizeOf9]⟩
theorem aPq:EZ prog 92 [str [],i64 0,i64 0,zS none 0 0]:=⟨⟨_,zeroValue92,rfl⟩,⟨t92,typeInfo92,by show (56:Nat)<=128;decide,rfl,by kernel_rfl,_,rfl,rfl⟩⟩
theorem aIE:FA prog 92 0 0:=⟨_,_,_,runUnderlying92,rfl,sizeOf9,rfl,rfl⟩
theorem aHb:FA prog 92 1 1:=⟨_,_,_,runUnderlying92,rfl,sizeOf83,rfl,rfl⟩
theorem ag_92:AG prog 92 4:=⟨isAgg92,sizeOf92⟩
theorem wL:FA prog 94 0 0:=⟨_,_,_,runUnderlying94,rfl,sizeOf2,rfl,rfl⟩
theorem rW:FA prog 94 1 1:=⟨_,_,_,runUnderlying94,rfl,sizeOf2,rfl,rfl⟩
theorem aBa:FA prog 94 2 2:=⟨_,_,_,runUnderlying94,rfl,sizeOf2,rfl,rfl⟩
theorem iD:SLT prog 29 94 3:=⟨runUnderlying29,sizeOf94⟩
theorem aBw:AG prog 94 3:=⟨isAgg94,sizeOf94⟩
theorem bs_94:BS prog 94 [(0,1),(1,1),(2,1)] [i64 0,i64 0,i64 0]:=⟨⟨_,zeroValue94,rfl⟩,_,runUnderlying94,fun w=>by simp [sizeOf2]⟩
theorem aIF:EZ prog 94 [i64 0,i64 0,i64 0]:=⟨⟨_,zeroValue94,rfl⟩,⟨t94,typeInfo94,by show (24:Nat)<=128;decide,rfl,by kernel_rfl,_,rfl,rfl⟩⟩
theorem aGp:BS prog 31 [(0,1),(1,1),(2,1),(3,1)] [i64 0,i64 0,zS none 0 0,zS none 0 0]:=⟨⟨_,zeroValue31,rfl⟩,_,runUnderlying31,fun w=>by simp [sizeOf2,sizeOf25,sizeOf29]⟩
theorem qK:FA prog 31 2 2:=⟨_,_,_,runUnderlying31,rfl,sizeOf25,rfl,rfl⟩
theorem nH:FA prog 31 3 3:=⟨_,_,_,runUnderlying31,rfl,sizeOf29,rfl,rfl⟩
theorem aDf:SC prog 29:=⟨isAgg29,sizeOf29⟩
theorem kZ:AG prog 31 4:=⟨isAgg31,sizeOf31⟩
theorem aDX:FA prog 31 0 0:=⟨_,_,_,runUnderlying31,rfl,sizeOf2,rfl,rfl⟩
theorem aLe:FA prog 31 1 1:=⟨_,_,_,runUnderlying31,rfl,sizeOf2,rfl,rfl⟩
theorem fa_289_0:FA prog 289 0 0:=⟨_,_,_,runUnderlying289,rfl,sizeOf2,rfl,rfl⟩
theorem fa_289_1:FA prog 289 1 1:=⟨_,_,_,runUnderlying289,rfl,sizeOf2,rfl,rfl⟩
theorem aFn:AG prog 233 2:=⟨isAgg233,sizeOf233⟩
theorem ez_233:EZ prog 233 [i64 0,i64 0]:=⟨⟨_,zeroValue233,rfl⟩,⟨t233,typeInfo233,by show (16:Nat)<=128;decide,rfl,by kernel_rfl,_,rfl,rfl⟩⟩
theorem ag_289:AG prog 289 2:=⟨isAgg289,sizeOf289⟩
theorem ez_173:EZ prog 173 [zS none 0 0]:=⟨⟨_,zeroValue173,rfl⟩,⟨t173,typeInfo173,by show (24:Nat)<=128;decide,rfl,by kernel_rfl,_,rfl,rfl⟩⟩
theorem fa_162_0:FA prog 162 0 0:=⟨_,_,_,runUnderlying162,rfl,sizeOf2,rfl,rfl⟩
theorem fa_162_1:FA prog 162 1 1:=⟨_,_,_,runUnderlying162,rfl,sizeOf2,rfl,rfl⟩
theorem ez_157:EZ prog 157 [i64 0,i64 0,str [],zS none 0 0]:=⟨⟨_,zeroValue157,rfl⟩,⟨t157,typeInfo157,by show (56:Nat)<=128;decide,rfl,by kernel_rfl,_,rfl,rfl⟩⟩
theorem fa_73_1:FA prog 73 1 1:=⟨_,_,_,runUnderlying73,rfl,sizeOf2,rfl,rfl⟩
theorem aCc:AG prog 100 3:=⟨isAgg100,sizeOf100⟩
theorem ez_100:EZ prog 100 [str [],i64 0,zS none 0 0]:=⟨⟨_,zeroValue100,rfl⟩,⟨t100,typeInfo100,by show (48:Nat)<=128;decide,rfl,by kernel_rfl,_,rfl,rfl⟩⟩
theorem fa_77_0:FA prog 77 0 0:=⟨_,_,_,runUnderlying77,rfl,sizeOf2,rfl,rfl⟩
theorem ez_102:EZ prog 102 [i64 0,zS none 0 0]:=⟨⟨_,zeroValue102,rfl⟩,⟨t102,typeInfo102,by show (32:Nat)<=128;decide,rfl,by kernel_rfl,_,rfl,rfl⟩⟩
theorem ez_104:EZ prog 104 [str [],str [],str []]:=⟨⟨_,zeroValue104,rfl⟩,⟨t104,typeInfo104,by show (48:Nat)<=128;decide,rfl,by kernel_rfl,_,rfl,rfl⟩⟩
theorem aIG:AG prog 38 5:=⟨isAgg38,sizeOf38⟩
theorem sl_210:SLT prog 210 214 2:=⟨runUnderlying210,sizeOf214⟩
theorem ez_214:EZ prog 214 [i64 0,Value.bool false]:=⟨⟨_,zeroValue214,rfl⟩,⟨t214,typeInfo214,by show (16:Nat)<=128;decide,rfl,by kernel_rfl,_,rfl,rfl⟩⟩
theorem sc_246:SC prog 246:=⟨isAgg246,sizeOf246⟩
theorem bs_214:BS prog 214 [(0,1),(1,1)] [i64 0,Value.bool false]:=⟨⟨_,zeroValue214,rfl⟩,_,runUnderlying214,fun w=>by simp [sizeOf2,sizeOf4]⟩
theorem sc_210:SC prog 210:=⟨isAgg210,sizeOf210⟩
theorem ag_214:AG prog 214 2:=⟨isAgg214,sizeOf214⟩
theorem aGq:FA prog 214 0 0:=⟨_,_,_,runUnderlying214,rfl,sizeOf2,rfl,rfl⟩
theorem fa_214_1:FA prog 214 1 1:=⟨_,_,_,runUnderlying214,rfl,sizeOf4,rfl,rfl⟩
theorem sc_4:SC prog 4:=⟨isAgg4,sizeOf4⟩
theorem sl_268:SLT prog 268 3 1:=⟨runUnderlying268,sizeOf3⟩
theorem ez_3:EZ prog 3 [i64 0]:=⟨⟨_,zeroValue3,rfl⟩,⟨t3,typeInfo3,by show (8:Nat)<=128;decide,rfl,by kernel_rfl,_,rfl,rfl⟩⟩
theorem sc_3:SC prog 3:=⟨isAgg3,sizeOf3⟩
theorem aEp:SLT prog 138 143 3:=⟨runUnderlying138,sizeOf143⟩
theorem ag_143:AG prog 143 3:=⟨isAgg143,sizeOf143⟩
theorem aRw:FA prog 143 0 0:=⟨_,_,_,runUnderlying143,rfl,sizeOf2,rfl,rfl⟩
theorem aPn:FA prog 143 1 1:=⟨_,_,_,runUnderlying143,rfl,sizeOf9,rfl,rfl⟩
theorem aRx:FA prog 143 2 2:=⟨_,_,_,runUnderlying143,rfl,sizeOf2,rfl,rfl⟩
theorem bs_283:BS prog 283 [(0,2),(2,1)] [i64 0,i64 0,zS none 0 0]:=⟨⟨_,zeroValue283,rfl⟩,_,runUnderlying283,fun w=>by simp [sizeOf233,sizeOf281]⟩
theorem aGr:FA prog 283 1 2:=⟨_,_,_,runUnderlying283,rfl,sizeOf281,rfl,rfl⟩
theorem aOs:SC prog 281:=⟨isAgg281,sizeOf281⟩
theorem aLy:SLT prog 281 228 1:=⟨runUnderlying281,sizeOf228⟩
theorem ez_228:EZ prog 228 [Value.pointer none]:=⟨⟨_,zeroValue228,rfl⟩,⟨t228,typeInfo228,by show (8:Nat)<=128;decide,rfl,by kernel_rfl,_,rfl,rfl⟩⟩
theorem aIH:FA prog 283 0 0:=⟨_,_,_,runUnderlying283,rfl,sizeOf233,rfl,rfl⟩
theorem aRf:SC prog 228:=⟨isAgg228,sizeOf228⟩
theorem bs_151:BS prog 151 [(0,1),(1,1),(2,1)] [zS none 0 0,zS none 0 0,Value.map none]:=⟨⟨_,zeroValue151,rfl⟩,_,runUnderlying151,fun w=>by simp [sizeOf149,sizeOf34,sizeOf86]⟩
theorem aRy:FA prog 151 0 0:=⟨_,_,_,runUnderlying151,rfl,sizeOf34,rfl,rfl⟩
theorem aPo:FA prog 151 2 2:=⟨_,_,_,runUnderlying151,rfl,sizeOf149,rfl,rfl⟩
theorem sc_149:SC prog 149:=⟨isAgg149,sizeOf149⟩
theorem ko_9:aNv prog 9 bL:=keyOk_str runUnderlying9
theorem aII:FA prog 151 1 1:=⟨_,_,_,runUnderlying151,rfl,sizeOf86,rfl,rfl⟩
theorem sc_86:SC prog 86:=⟨isAgg86,sizeOf86⟩
theorem bs_140:BS prog 140 [(0,1),(1,1),(2,1),(3,1)] [zS none 0 0,Value.map none,zS none 0 0,Value.nilFunc]:=⟨⟨_,zeroValue140,rfl⟩,_,runUnderlying140,fun w=>by simp [sizeOf110,sizeOf137,sizeOf138,sizeOf84]⟩
theorem aDg:SC prog 136:=⟨isAgg136,sizeOf136⟩
theorem aRz:FA prog 140 3 3:=⟨_,_,_,runUnderlying140,rfl,sizeOf110,rfl,rfl⟩
theorem sc_110:SC prog 110:=⟨isAgg110,sizeOf110⟩
theorem aPp:FA prog 140 1 1:=⟨_,_,_,runUnderlying140,rfl,sizeOf137,rfl,rfl⟩
theorem sc_137:SC prog 137:=⟨isAgg137,sizeOf137⟩
theorem aBx:FA prog 140 0 0:=⟨_,_,_,runUnderlying140,rfl,sizeOf84,rfl,rfl⟩
theorem aLz:SC prog 84:=⟨isAgg84,sizeOf84⟩
theorem aEB:FA prog 140 2 2:=⟨_,_,_,runUnderlying140,rfl,sizeOf138,rfl,rfl⟩
theorem aLA:SC prog 138:=⟨isAgg138,sizeOf138⟩
theorem bs_143:BS prog 143 [(0,1),(1,1),(2,1)] [i64 0,str [],i64 0]:=⟨⟨_,zeroValue143,rfl⟩,_,runUnderlying143,fun w=>by simp [sizeOf2,sizeOf9]⟩
theorem aJA:EZ prog 143 [i64 0,str [],i64 0]:=⟨⟨_,zeroValue143,rfl⟩,⟨t143,typeInfo143,by show (32:Nat)<=128;decide,rfl,by kernel_rfl,_,rfl,rfl⟩⟩
theorem aQx:AG prog 27 5:=⟨isAgg27,sizeOf27⟩
theorem st_94:prog.stoodInHeld 94=false:=by kernel_rfl
theorem eq_94 {x y:Edge}:EQT prog 94 [i64 x.F,i64 x.B,i64 x.To] [i64 y.F,i64 y.B,i64 y.To] (decide (x=y)):=by
 refine ⟨by kernel_rfl,fun w=>?_⟩
 have h2:∀ (a b:Int),(Op.equalIn 9999 2 (i64 a) (i64 b)).run prog w=.ok (a == b) w:=fun a b=>run_eqInI 9998 (runUnderlying2 w)
 have:Op.maxDepth=9999+1:=rfl
 unfold Op.equal
 rw [this]
 unfold Op.equalIn
 simp [runUnderlying94,st_94,part,h2,isAgg2]
 cases x;cases y
 simp
 repeat' split<;>simp_all
theorem cC:prog.follows .mixedOrders=true:=by kernel_rfl
abbrev zC (d:iW) (a:Option Addr) (c:Nat) (b:Option Addr) (e:Nat):List Value:=[i64 d.N,i64 d.I,Value.slice a d.L.length c,Value.slice b d.E.length e]
abbrev zCa (d:iW) (a:Option Addr) (c:Nat) (b:Option Addr) (e:Nat):Array Value:=#[i64 d.N,i64 d.I,Value.slice a d.L.length c,Value.slice b d.E.length e]
abbrev zG:List Value:=[i64 0,i64 0,Value.slice none 0 0,Value.slice none 0 0]
abbrev zGa:Array Value:=#[i64 0,i64 0,Value.slice none 0 0,Value.slice none 0 0]
abbrev zK:List Value:=[i64 0,i64 0,Value.slice none 0 0,Value.slice none 0 0,Value.slice none 0 0,Value.slice none 0 0]
abbrev zKa:Array Value:=#[i64 0,i64 0,Value.slice none 0 0,Value.slice none 0 0,Value.slice none 0 0,Value.slice none 0 0]
end Gv
namespace Gv
open Go.Value renaming slice→zS
open Gv.Hp renaming le_refl→zR
open Go Go.Proofs Go.Proofs.Tryz
theorem aDP {p:Prop} (h:p:=by first|assumption|(apply st_cK;assumption;exact aCT)):p:=h
theorem st_HR {p:Prop} (h:p:=by first|assumption|(apply st_rK;assumption;exact aCT)):p:=h
theorem st_S {p:Prop} (h:p:=by with_reducible first|exact gD|exact dQ|exact aOq|exact aJz|exact aNB|exact aNC|exact aND|exact aNE|exact lH|exact lJ|exact lW|exact jV|exact sL|exact qE|exact rV|exact aBv|exact aDe|exact iD|exact sl_210|exact sl_268|exact aEp|exact aLy):p:=h
theorem aGc {p:Prop} (h:p:=by with_reducible first|exact dC|exact fJ|exact sc_235|exact sc_160|exact sc_71|exact aCe|exact sc_22|exact sc_23|exact sc_24|exact oR|exact qI|exact yM|exact aFk|exact aDV|exact aGo|exact sc_36|exact sc_5|exact aDf|exact sc_246|exact sc_210|exact sc_4|exact sc_3|exact aOs|exact aRf|exact sc_149|exact sc_86|exact aDg|exact sc_110|exact sc_137|exact aLz|exact aLA):p:=h
theorem aMF {p:Prop} (h:p:=by with_reducible first|exact ag_162|exact ag_73|exact ag_77|exact ag_80|exact xG|exact aFl|exact aFm|exact aDW|exact ag_92|exact aBw|exact kZ|exact aFn|exact ag_289|exact aCc|exact aIG|exact ag_214|exact ag_143|exact aQx):p:=h
theorem st_F {p:Prop} (h:p:=by with_reducible first|exact aPj|exact aPk|exact fa_73_0|exact fa_73_2|exact fa_77_1|exact fa_80_0|exact fa_80_1|exact fa_80_2|exact fa_27_0|exact fa_27_1|exact fa_27_2|exact fa_27_3|exact fa_27_4|exact fA|exact jO|exact lI|exact jP|exact qX|exact jQ|exact vB|exact kN|exact vC|exact qJ|exact vD|exact yN|exact vE|exact lZ|exact nV|exact vF|exact aGY|exact aGZ|exact aHa|exact aIB|exact aIC|exact aID|exact aIE|exact aHb|exact wL|exact rW|exact aBa|exact qK|exact nH|exact aDX|exact aLe|exact fa_289_0|exact fa_289_1|exact fa_162_0|exact fa_162_1|exact fa_73_1|exact fa_77_0|exact aGq|exact fa_214_1|exact aRw|exact aPn|exact aRx|exact aGr|exact aIH|exact aRy|exact aPo|exact aII|exact aRz|exact aPp|exact aBx|exact aEB):p:=h
theorem za_3:ZA prog 3 [i64 0]:=⟨_,zeroValue3,rfl⟩
theorem za_31:ZA prog 31 [i64 0,i64 0,zS none 0 0,zS none 0 0]:=⟨_,zeroValue31,rfl⟩
theorem za_38:ZA prog 38 [zS none 0 0,zS none 0 0,zS none 0 0,zS none 0 0,zS none 0 0]:=⟨_,zeroValue38,rfl⟩
theorem za_83:ZA prog 83 [i64 0,i64 0,zS none 0 0]:=⟨_,zeroValue83,rfl⟩
theorem za_92:ZA prog 92 [str ([]:bL),i64 0,i64 0,zS none 0 0]:=⟨_,zeroValue92,rfl⟩
theorem za_94:ZA prog 94 [i64 0,i64 0,i64 0]:=⟨_,zeroValue94,rfl⟩
theorem za_100:ZA prog 100 [str ([]:bL),i64 0,zS none 0 0]:=⟨_,zeroValue100,rfl⟩
theorem za_102:ZA prog 102 [i64 0,zS none 0 0]:=⟨_,zeroValue102,rfl⟩
theorem za_104:ZA prog 104 [str ([]:bL),str ([]:bL),str ([]:bL)]:=⟨_,zeroValue104,rfl⟩
theorem za_136:ZA prog 136 [Value.pointer none]:=⟨_,zeroValue136,rfl⟩
theorem za_143:ZA prog 143 [i64 0,str ([]:bL),i64 0]:=⟨_,zeroValue143,rfl⟩
theorem za_157:ZA prog 157 [i64 0,i64 0,str ([]:bL),zS none 0 0]:=⟨_,zeroValue157,rfl⟩
theorem za_210:ZA prog 210 [zS none 0 0]:=⟨_,zeroValue210,rfl⟩
theorem za_214:ZA prog 214 [i64 0,Value.bool false]:=⟨_,zeroValue214,rfl⟩
theorem za_233:ZA prog 233 [i64 0,i64 0]:=⟨_,zeroValue233,rfl⟩
theorem za_246:ZA prog 246 [Value.nilFunc]:=⟨_,zeroValue246,rfl⟩
theorem st_r {p:Prop} (h:p:=by with_reducible first|exact runUnderlying137|exact runUnderlying149|exact runUnderlying2|exact runUnderlying3|exact runUnderlying4|exact runUnderlying5|exact runUnderlying9):p:=h
theorem st_h {p:Prop} (h:p:=by with_reducible first|exact aNF|exact bs_92|exact bs_94|exact aGp|exact bs_214|exact bs_283|exact bs_151|exact bs_140|exact bs_143):p:=h
theorem st_e {p:Prop} (h:p:=by with_reducible first|exact aEz|exact aEA|exact aHK|exact ez_5|exact aPq|exact aIF|exact ez_233|exact ez_173|exact ez_157|exact ez_100|exact ez_102|exact ez_104|exact ez_214|exact ez_3|exact ez_228|exact aJA):p:=h
theorem st_u {p:Prop} (h:p:=by with_reducible first|exact underlying138|exact underlying154|exact underlying25|exact underlying281|exact underlying29|exact underlying5|exact underlying75|exact underlying84|exact underlying86|exact underlying9):p:=h
theorem st_z {p:Prop} (h:p:=by with_reducible first|exact sizeOf100|exact sizeOf102|exact sizeOf104|exact sizeOf136|exact sizeOf138|exact sizeOf143|exact sizeOf155|exact sizeOf157|exact sizeOf173|exact sizeOf2|exact sizeOf210|exact sizeOf214|exact sizeOf233|exact sizeOf246|exact sizeOf25|exact sizeOf281|exact sizeOf29|exact sizeOf3|exact sizeOf31|exact sizeOf34|exact sizeOf35|exact sizeOf36|exact sizeOf38|exact sizeOf75|exact sizeOf83|exact sizeOf84|exact sizeOf86|exact sizeOf9|exact sizeOf92|exact sizeOf94|exact sizeOf98):p:=h
theorem st_y {p:Prop} (h:p:=by with_reducible first|exact za_3|exact za_31|exact za_38|exact za_83|exact za_92|exact za_94|exact za_100|exact za_102|exact za_104|exact za_136|exact za_143|exact za_157|exact za_210|exact za_214|exact za_233|exact za_246):p:=h
theorem st_V {p:Prop} (h:p:=by first|exact V_moveC|exact V_assignC|(apply V_B;first|(apply V_add;exact aAT;exact aAT)|(apply V_sub;exact aAT;exact aAT)|(apply V_mul;exact aAT;exact aAT)|(apply V_lss;exact aAT;exact aAT)|(apply V_leq;exact aAT;exact aAT)|(apply V_gtr;exact aAT;exact aAT)|(apply V_geq;exact aAT;exact aAT)|(apply V_eql;exact aAT;exact aAT)|(apply V_neq;exact aAT;exact aAT)|(apply V_eqlS;exact aAT;exact aAT)|(apply V_neqS;exact aAT;exact aAT)|(apply V_lssS;exact aAT;exact aAT)|(apply V_leqS;exact aAT;exact aAT)|(apply V_gtrS;exact aAT;exact aAT)|(apply V_geqS;exact aAT;exact aAT))|exact V_moveF|exact V_assignF|(apply V_move;exact aAT)|(apply V_assign;exact aAT)|(apply V_fldP;exact aAT;exact st_F)|(apply V_fldE;exact aAT;exact aDP;exact st_F)|(apply V_fldO;exact aAT;exact aCb;exact aNl;exact aCb;exact st_F)|(apply V_L;first|(apply V_ldB;exact aAT;exact aCb;exact aNl;exact rfl;exact aGc)|(apply V_ldBG;exact aAT;exact aCb;exact aNl;exact aMF;exact st_D)|(apply aOr (t:=0);exact aAT;exact aDP;exact aCb;exact rfl;exact aGc)|(apply aOr (t:=1);exact aAT;exact aDP;exact aCb;exact rfl;exact aGc)|(apply aOr (t:=2);exact aAT;exact aDP;exact aCb;exact rfl;exact aGc)|(apply aOr (t:=3);exact aAT;exact aDP;exact aCb;exact rfl;exact aGc)|(apply aOr (t:=4);exact aAT;exact aDP;exact aCb;exact rfl;exact aGc)|(apply aOr (t:=5);exact aAT;exact aDP;exact aCb;exact rfl;exact aGc)|(apply aOr (t:=6);exact aAT;exact aDP;exact aCb;exact rfl;exact aGc)|(apply aOr (t:=7);exact aAT;exact aDP;exact aCb;exact rfl;exact aGc)|(apply aNg (t:=0);exact aAT;exact aDP;exact aCb;exact aMF;exact rfl;exact rfl)|(apply aNg (t:=1);exact aAT;exact aDP;exact aCb;exact aMF;exact rfl;exact rfl)|(apply aNg (t:=2);exact aAT;exact aDP;exact aCb;exact aMF;exact rfl;exact rfl)|(apply aNg (t:=3);exact aAT;exact aDP;exact aCb;exact aMF;exact rfl;exact rfl)|(apply aNg (t:=4);exact aAT;exact aDP;exact aCb;exact aMF;exact rfl;exact rfl)|(apply aNg (t:=5);exact aAT;exact aDP;exact aCb;exact aMF;exact rfl;exact rfl)|(apply aNg (t:=6);exact aAT;exact aDP;exact aCb;exact aMF;exact rfl;exact rfl)|(apply aNg (t:=7);exact aAT;exact aDP;exact aCb;exact aMF;exact rfl;exact rfl)|(apply V_ldO (t:=0);exact aAT;exact aCb;exact aNl;exact aCb;exact rfl;exact rfl;exact aGc)|(apply V_ldO (t:=1);exact aAT;exact aCb;exact aNl;exact aCb;exact rfl;exact rfl;exact aGc)|(apply V_ldO (t:=2);exact aAT;exact aCb;exact aNl;exact aCb;exact rfl;exact rfl;exact aGc)|(apply V_ldO (t:=3);exact aAT;exact aCb;exact aNl;exact aCb;exact rfl;exact rfl;exact aGc)|(apply V_ldO (t:=4);exact aAT;exact aCb;exact aNl;exact aCb;exact rfl;exact rfl;exact aGc)|(apply V_ldOG (t:=0);exact aAT;exact aCb;exact aNl;exact aCb;exact rfl;exact aMF;exact rfl;exact rfl)|(apply V_ldOG (t:=1);exact aAT;exact aCb;exact aNl;exact aCb;exact rfl;exact aMF;exact rfl;exact rfl)|(apply V_ldOG (t:=2);exact aAT;exact aCb;exact aNl;exact aCb;exact rfl;exact aMF;exact rfl;exact rfl)|(apply aOU (t:=0);exact aAT;exact aCb;exact aCb;exact aCT;exact rfl;exact aGc)|(apply aOU (t:=1);exact aAT;exact aCb;exact aCb;exact aCT;exact rfl;exact aGc)|(apply aOU (t:=2);exact aAT;exact aCb;exact aCb;exact aCT;exact rfl;exact aGc)|(apply aOU (t:=3);exact aAT;exact aCb;exact aCb;exact aCT;exact rfl;exact aGc)|(apply aOU (t:=4);exact aAT;exact aCb;exact aCb;exact aCT;exact rfl;exact aGc)|(apply aOU (t:=5);exact aAT;exact aCb;exact aCb;exact aCT;exact rfl;exact aGc)|(apply aOU (t:=6);exact aAT;exact aCb;exact aCb;exact aCT;exact rfl;exact aGc)|(apply aOU (t:=7);exact aAT;exact aCb;exact aCb;exact aCT;exact rfl;exact aGc)|(apply aQV (t:=0);exact aAT;exact aCb;exact aCb;exact aCT;exact aMF;exact rfl;exact rfl)|(apply aQV (t:=1);exact aAT;exact aCb;exact aCb;exact aCT;exact aMF;exact rfl;exact rfl)|(apply aQV (t:=2);exact aAT;exact aCb;exact aCb;exact aCT;exact aMF;exact rfl;exact rfl)|(apply aQV (t:=3);exact aAT;exact aCb;exact aCb;exact aCT;exact aMF;exact rfl;exact rfl)|(apply aOT (t:=0);exact aCb;exact aDP;exact aAT;exact rfl;exact aGc)|(apply aOT (t:=1);exact aCb;exact aDP;exact aAT;exact rfl;exact aGc)|(apply aOT (t:=2);exact aCb;exact aDP;exact aAT;exact rfl;exact aGc)|(apply aOT (t:=3);exact aCb;exact aDP;exact aAT;exact rfl;exact aGc)|(apply aOT (t:=4);exact aCb;exact aDP;exact aAT;exact rfl;exact aGc)|(apply aOT (t:=5);exact aCb;exact aDP;exact aAT;exact rfl;exact aGc)|(apply aOT (t:=6);exact aCb;exact aDP;exact aAT;exact rfl;exact aGc)|(apply aOT (t:=7);exact aCb;exact aDP;exact aAT;exact rfl;exact aGc)|(apply aQD (t:=0);exact aCb;exact aDP;exact aAT;exact aMF;exact rfl;exact rfl)|(apply aQD (t:=1);exact aCb;exact aDP;exact aAT;exact aMF;exact rfl;exact rfl)|(apply aQD (t:=2);exact aCb;exact aDP;exact aAT;exact aMF;exact rfl;exact rfl)|(apply aQD (t:=3);exact aCb;exact aDP;exact aAT;exact aMF;exact rfl;exact rfl))|(apply V_lenS;exact st_S;exact aAT)|(apply V_nilE;exact aAT;exact aDP)|(apply V_nilP;exact aAT)|(apply V_nilO;exact aAT;exact aCb;exact aNl;exact aCb)|(apply V_ixE;exact aAT;exact aAT;exact st_HR;exact aCb;exact rfl;exact st_S;exact rfl)|(apply V_ixO;exact aAT;exact aAT;exact aCb;exact aNl;exact aCb;exact rfl;exact st_S;exact rfl)|(apply V_extract;exact aAT;exact rfl)|(apply V_pickT;exact aAT;exact aOX;exact aAT)|(apply V_pickF;exact aAT;exact aOX;exact aAT)|(apply V_not;exact aAT)|(apply V_lenStr;exact st_r;exact aAT)|(apply V_ixS;exact st_r;exact aAT;exact aAT;exact aCb)|(apply V_conv64;exact st_r;exact aAT;exact ⟨_,st_r⟩)|(apply V_convu8';exact st_r;exact aAT;exact ⟨_,st_r⟩)|(apply V_u8sub';exact aAT;exact aAT)|(apply V_neg;exact aAT)|(apply V_quo;exact aAT;exact aAT;exact aCb)|(apply V_rem;exact aAT;exact aAT;exact aCb)|(apply V_cat;exact aAT;exact aAT;exact aCb)|(apply V_neqB;exact st_r;exact aAT;exact aAT)|(apply V_slSLH;exact st_r;exact aAT;exact aAT;exact aAT;exact aCb)|(apply V_slSL;exact st_r;exact aAT;exact aAT;exact aCb)|(apply V_slSH;exact st_r;exact aAT;exact aAT;exact aCb)|(apply V_isNil;exact st_S;exact aAT;exact rfl)|(apply V_build;exact st_h;exact rfl;exact (by kernel_rfl))|(apply aRN;exact rfl)):p:=h
theorem st_call {p:Prop} (h:p:=by with_reducible first|exact call4|exact call5|exact call6|exact call7|exact call8|exact call9|exact call10|exact call11|exact call12|exact call13|exact call14|exact call15|exact call16|exact call17|exact call18|exact call19|exact call20|exact call21|exact call22|exact call23|exact call24|exact call25|exact call26|exact call27|exact call28|exact call29|exact call30|exact call31|exact call32|exact call33|exact call34|exact call35|exact call36|exact call37|exact call38|exact call39|exact call40|exact call41|exact call42|exact call43|exact call44|exact call45|exact call46|exact call47|exact call48|exact call49|exact call50|exact call51|exact call52|exact call53|exact call54|exact call55|exact call56|exact call57|exact call58|exact call59|exact call60|exact call61|exact call62|exact call63|exact call64|exact call65|exact call66|exact call67|exact call68|exact call69|exact call70|exact call71|exact call72|exact call73|exact call74|exact call75|exact call76|exact call77|exact call78|exact call79|exact call80|exact call81|exact call82|exact call83|exact call84|exact call85|exact call86|exact call87|exact call88|exact call89|exact call90|exact call91|exact call92|exact call93|exact call94|exact call95|exact call96|exact call97|exact call98|exact call99|exact call100|exact call101|exact call102|exact call103|exact call104|exact call105|exact call106|exact call107|exact call108|exact call109|exact call110|exact call111|exact call112|exact call113|exact call114|exact call115|exact call116|exact call117|exact call118|exact call119|exact call120|exact call121|exact call122|exact call124|exact call125|exact call126|exact call127|exact call128|exact call129|exact call130|exact call132|exact call133|exact call134|exact call135|exact call136|exact call137|exact call138|exact call139|exact call140|exact call141|exact call142|exact call143|exact call144|exact call145|exact call146|exact call147|exact call148|exact call149|exact call150|exact call151|exact call152|exact call153|exact call154|exact call155|exact call156|exact call157|exact call158|exact call159|exact call160|exact call161|exact call164|exact call166|exact call167|exact call168|exact call170|exact call171|exact call172|exact call173|exact call174|exact call175|exact call176|exact call177|exact call178|exact call179|exact call180|exact call181|exact call182|exact call183|exact call184|exact call185|exact call186|exact call187|exact call188|exact call189|exact call190|exact call191|exact call192|exact call193|exact call194|exact call195|exact call215|exact call216|exact call217|exact call218|exact call219|exact call224|exact call225|exact call226|exact call227|exact call228|exact call229|exact call230|exact call231|exact call232|exact call233|exact call234|exact call235|exact call236|exact call247|exact call249|exact call257|exact call266):p:=h
theorem st_f {p:Prop} (h:p:=by with_reducible first|exact func3|exact func4|exact func5|exact func6|exact func7|exact func8|exact func9|exact func10|exact func11|exact func12|exact func13|exact func14|exact func15|exact func16|exact func17|exact func18|exact func19|exact func20|exact func21|exact func22|exact func23|exact func24|exact func25|exact func26|exact func27|exact func28|exact func29|exact func30|exact func31|exact func32|exact func33|exact func34|exact func35|exact func36|exact func37|exact func38|exact func39|exact func40|exact func41|exact func42|exact func43|exact func44|exact func45|exact func46|exact func47|exact func48|exact func49|exact func50|exact func51|exact func52|exact func53|exact func54|exact func55|exact func56|exact func57|exact func58|exact func59|exact func60|exact func61|exact func62|exact func63|exact func64|exact func65|exact func66|exact func67|exact func68|exact func69|exact func70|exact func71|exact func72|exact func73|exact func74|exact func75|exact func76|exact func77|exact func78|exact func79|exact func80|exact func81|exact func82|exact func83|exact func84|exact func85|exact func86|exact func87|exact func88|exact func89|exact func90|exact func91|exact func92|exact func94|exact func95|exact func96|exact func97|exact func98|exact func99|exact func100|exact func101|exact func102|exact func103|exact func104|exact func105|exact func106|exact func107|exact func108|exact func109|exact func110|exact func111|exact func112|exact func113|exact func114|exact func115|exact func116|exact func117|exact func118|exact func119|exact func120|exact func121|exact func123|exact func124|exact func125|exact func127|exact func128|exact func129|exact func130|exact func132|exact func133|exact func134|exact func135|exact func136|exact func137|exact func138|exact func139|exact func140|exact func141|exact func142|exact func143|exact func144|exact func145|exact func146|exact func147|exact func148|exact func149|exact func150|exact func151|exact func152|exact func153|exact func154|exact func155|exact func156|exact func157|exact func158|exact func159|exact func160|exact func161|exact func166|exact func167|exact func168|exact func170|exact func171|exact func172|exact func173|exact func174|exact func175|exact func176|exact func177|exact func178|exact func179|exact func180|exact func181|exact func182|exact func183|exact func184|exact func185|exact func186|exact func187|exact func188|exact func189|exact func190|exact func191|exact func192|exact func193|exact func194|exact func195|exact func215|exact func217|exact func219|exact func224|exact func226|exact func227|exact func228|exact func229|exact func230|exact func231|exact func232|exact func233|exact func234|exact func235|exact func236|exact func249|exact func257|exact func266):p:=h
theorem aQy {p:Prop} (h:p:=by first|((with_reducible apply uV);exact rfl;exact rfl)|((with_reducible apply V_rvG);exact aAT;exact aCb;exact aNl;exact aMF;exact rfl;exact rfl)|((with_reducible apply V_rvB);exact aAT;exact aCb;exact aNl;exact aGc;exact rfl)):p:=h
theorem st_X {p:Prop} (h:p:=by
 (repeat (first
  |exact aU
  |(with_reducible apply Exists.intro)
  |((with_reducible apply And.intro);· first|exact aU|(with_reducible assumption)|exact (Option.some.inj (by with_reducible assumption)).symm|exact rfl|assumption|exact zR _|exact aCT|exact aPl _|(apply st_rK;assumption;exact aCT)|(apply st_cK;assumption;exact aCT)|exact cR (by assumption))
  |(with_reducible assumption)|exact st_c|exact rfl|assumption));first|done|fail):p:=h
theorem aLr {p q:Prop} (k:q) (h:Hd q->p:=by
 intro hk
 (first|apply st_ca|apply st_cb|apply st_cq);exact st_call;(first|(with_reducible intro z z)|skip);(first|((with_reducible first|apply aIO|apply aFU|apply aKG|apply aOw|apply aEq|apply aKH|apply jJ|apply aMK|apply aOx|apply aGH|apply aGI|apply aLM|apply aCg|apply aML|apply aLN|apply aLO|apply aJE|apply aGJ|apply aLF|apply aHN|apply aKF|apply aLG|apply aFT|apply aOv|apply aJD|apply aLH|apply aLI|apply aLJ|apply aGG|apply pY|apply aIc|apply aHv|apply aHw|apply aMN|apply aLS|apply aKL|apply aMO|apply aLT|apply aHx|apply aGM|apply aKM|apply aId|apply aHy|apply aJH|apply aIQ|apply aET|apply xB|apply aFB|apply kG|apply aHz|apply aDO|apply aFC|apply aDA|apply aAH|apply fY|apply aGD|apply aHq|apply aEQ|apply aLB|apply aHL|apply nP|apply aHM|apply aGE|apply aIa|apply uR|apply tN|apply aDN|apply aJB|apply aLC|apply aLD|apply aKB|apply aMJ|apply aLE|apply aHr|apply aGF|apply aKC|apply aIb|apply aHs|apply aJC|apply aIN|apply aER|apply aKD|apply gY|apply aFR|apply aFS|apply aAA|apply aES|apply aKE|apply aIY|apply aJN|apply aFH|apply aIZ|apply aGb|apply aHG|apply xK|apply aJa|apply aJO|apply aLY|apply aIl|apply aJP|apply aGQ|apply aDD|apply aEr|apply aAB|apply aIe|apply aHA|apply aIR|apply aBT|apply aIS|apply aFZ|apply nD|apply mD|apply aIf|apply aJI|apply aEU|apply aIg|apply aFD|apply aGN|apply mJ|apply lP|apply aMP|apply aKO|apply aJK|apply aFW|apply aPv|apply mK|apply aLU|apply aFX|apply aDB|apply aFE|apply aOA|apply jG|apply aAR|apply aBU|apply aIT|apply aGO|apply aGa|apply lO|apply kS|apply aIh|apply aIi|apply pZ|apply tO|apply uW|apply aIj|apply aFV|apply xJ|apply aKN|apply jM|apply aHB|apply aJJ|apply aLP|apply aGK|apply aMM|apply aLQ|apply aLR|apply aKI|apply aJF|apply aJG|apply aKJ|apply aKK|apply aOz|apply aGC|apply yD|apply nL|apply aHZ|apply aCf|apply wJ|apply aDz|apply tL|apply aCI|apply aDC|apply aCh|apply aAS|apply aMQ|apply aLV|apply aFG|apply aMR|apply aLW|apply aKQ|apply aMS|apply aLX|apply aHE|apply aGP|apply aKR|apply aIk|apply aHF|apply aJL|apply aIX|apply aKS|apply lX|apply aJM);with_reducible assumption)|(with_reducible apply aLK;with_reducible assumption)|(with_reducible apply aLL;with_reducible assumption)|(with_reducible apply aOy;with_reducible assumption)|(with_reducible apply aHt;with_reducible assumption)|(with_reducible apply aHu;with_reducible assumption)|(with_reducible apply aIP;with_reducible assumption)|(with_reducible apply aNW;with_reducible assumption)|(with_reducible apply kY;with_reducible assumption)|(with_reducible apply kH;with_reducible assumption)|(with_reducible apply tM;with_reducible assumption)|(with_reducible apply rK;with_reducible assumption)|(with_reducible apply aBR;with_reducible assumption)|(with_reducible apply aBS;with_reducible assumption)|(with_reducible apply aCH;with_reducible assumption)|(with_reducible apply rL;with_reducible assumption)|(with_reducible apply qA;with_reducible assumption)|(with_reducible apply aIU;with_reducible assumption)|(with_reducible apply aIV;with_reducible assumption)|(with_reducible apply aKP;with_reducible assumption)|(with_reducible apply aHC;with_reducible assumption)|(with_reducible apply aHD;with_reducible assumption)|(with_reducible apply aIW;with_reducible assumption)|(with_reducible apply aEs;with_reducible assumption)|(with_reducible apply aEt;with_reducible assumption)|(with_reducible apply aFF;with_reducible assumption)|(with_reducible apply aGL;with_reducible assumption)|(with_reducible apply lib_SortStr;all_goals (try with_reducible assumption))|(with_reducible apply lib_SortEdge;all_goals (try with_reducible assumption))|(with_reducible apply lib_Cut;all_goals (try with_reducible assumption))|(with_reducible apply lib_Split;all_goals (try with_reducible assumption))|(with_reducible apply aPs;all_goals (try with_reducible assumption))|(with_reducible apply lib_Join;all_goals (try with_reducible assumption))|(with_reducible apply aGB;all_goals (try with_reducible assumption))|(with_reducible apply aKA;all_goals (try with_reducible assumption)));(case hv=>exact rfl);(repeat (first|assumption|exact st_c|(apply st_rK;assumption;exact aCT)|(apply st_cK;assumption;exact aCT)|exact aPl _|exact aCT|exact zR _|exact rfl|exact cR (by assumption)));exact hk.k;first|done|fail):p:=h ⟨k⟩
set_option maxRecDepth 100000 in
theorem cA {p:Prop} (h:p:=by
 repeat' (first
  |(apply st_i;exact aAT;exact aAT;exact aCb;exact aCb;exact rfl;exact st_S;exact rfl;intro z z zr;first|(have zr:=st_pd zr;subst zr)|obtain ⟨z,z,rfl,z⟩:=zr|obtain ⟨z,z,z,z,rfl,z,z⟩:=zr|obtain ⟨z,z,z,z,z,z,rfl,z,z,z⟩:=zr|obtain ⟨z,z,z,z,z,z,z,z,rfl,z,z,z,z⟩:=zr)
  |(apply st_iQ;exact aAT;exact aAT;exact aCb;exact aCb;exact rfl;exact st_S;exact rfl;intro z z zr;first|(have zr:=st_pd zr;subst zr)|obtain ⟨z,z,rfl,z⟩:=zr|obtain ⟨z,z,z,z,rfl,z,z⟩:=zr|obtain ⟨z,z,z,z,z,z,rfl,z,z,z⟩:=zr|obtain ⟨z,z,z,z,z,z,z,z,rfl,z,z,z,z⟩:=zr)
  |(apply st_iE;exact rfl;exact aAT;exact aAT;exact aCb;exact aCb;exact rfl;exact st_S;exact rfl;intro z z zr;first|(have zr:=st_pd zr;subst zr)|obtain ⟨z,z,rfl,z⟩:=zr|obtain ⟨z,z,z,z,rfl,z,z⟩:=zr|obtain ⟨z,z,z,z,z,z,rfl,z,z,z⟩:=zr|obtain ⟨z,z,z,z,z,z,z,z,rfl,z,z,z,z⟩:=zr)
  |(apply VO;exact st_V)
  |(apply VQ;intro _ _;exact st_V)
  |(apply cG)
  |with_reducible apply aB
  |with_reducible apply bN
  |(apply aP)
  |(apply aW)
  |(apply aX)
  |(apply cK)
  |(apply V_condT;exact aAT;exact aOX)
  |(apply V_condF;exact aAT;exact aOX)
  |with_reducible apply bF
  |with_reducible apply bV
  |(with_reducible apply blockQ_ne;exact rfl)
  |(apply V_onT;exact rfl;exact aAT;exact aOX)
  |(apply V_onF;exact rfl;exact aAT;exact aOX)
  |(apply V_offF;exact rfl;exact aAT;exact aOX)
  |(apply V_offT;exact rfl;exact aAT;exact aOX)
  |(apply Q_onT;exact rfl;exact aAT;exact aOX)
  |(apply Q_onF;exact rfl;exact aAT;exact aOX)
  |(apply Q_offF;exact rfl;exact aAT;exact aOX)
  |(apply Q_offT;exact rfl;exact aAT;exact aOX)
  |(apply cD;exact rfl;exact aAT)
  |(apply bW;exact rfl;exact aAT)
  |(apply V_WE;exact rfl;rintro _ ⟨_,_⟩;exact st_V)
  |(apply V_WT;exact rfl;intro _;exact st_V)
  |apply aY
  |with_reducible apply aM
  |with_reducible apply bA
  |exact st_X
  |(apply aR;exact rfl;exact rfl;refine aOV hm (fun z=>?_);subst z;exact st_X)
  |(apply nK;exact rfl;exact rfl;exact rfl;refine aOV hm (fun z=>?_);subst z;exact st_X)
  |(apply retQ_3;exact rfl;exact rfl;exact rfl;exact rfl;refine aOV hm (fun z=>?_);subst z;exact st_X)
  |(apply aDT;exact rfl;exact aQy;refine aOV hm (fun z=>?_);subst z;exact st_X)
  |(apply wK;exact rfl;exact aQy;exact aQy;refine aOV hm (fun z=>?_);subst z;exact st_X)
  |(apply retQ_m3;exact rfl;exact aQy;exact aQy;exact aQy;refine aOV hm (fun z=>?_);subst z;exact st_X)
  |(apply aKZ;exact rfl;refine aOV hm (fun z=>?_);subst z;exact st_X)
  |(apply retQ_0;exact rfl;refine aOV hm (fun z=>?_);subst z;exact st_X)
  |(refine st_I st_f ?_)
  |intro (hm:(_:Option _)=some _)
  |intro (hr:∀ r',_=Sum.inr r'->_)
  |(with_reducible refine aJg fun z=>?_)
  |(with_reducible refine aKx ?_)
  |(intro (zv:(_:Value)=_);subst zv)
  |intro z
  |((with_reducible apply st_we);first|exact ⟨_,by assumption⟩|exact ⟨_,aO.weakK (by assumption) aCT⟩)
  |(apply qW;exact rfl)
  |(apply aIy;exact rfl)
  |apply sK
  |(have zq:=hr _ (Option.some.inj hm).symm;subst zq;have hm:=ho;clear hr ho;try dsimp only at hm)
  |obtain ⟨z,z,hm⟩:=aC hm
  |exact st_no hm
  |refine st_a (fun z z z=>?_)
  |refine st_s (fun z z=>?_)
  |refine st_x (fun z z z=>?_)
  |refine st_ba (by with_reducible assumption) (fun z z z=>?_)
  |refine st_b (T:=154) ([]:List UInt8) (fun z z z=>?_)
  |refine st_b (T:=25) ([]:List bL) (fun z z z=>?_)
  |refine st_b (T:=29) ([]:List Edge) (fun z z z=>?_)
  |refine st_b (T:=75) ([]:List Int) (fun z z z=>?_)
  |refine st_b (T:=84) ([]:List bO) (fun z z z=>?_)
  |refine st_b (T:=86) ([]:List dK) (fun z z z=>?_)
  |refine st_p (fun z z z z=>?_)
  |(apply st_q2;exact aAT;exact aAT;(first|assumption|(apply st_rK;assumption;exact aCT));assumption;exact st_M;assumption;exact st_S;exact st_u;exact st_e;exact rfl;exact rfl;exact rfl;exact rfl;intro z z z z)
  |(apply dL;intro z z)
  |refine st_k ?_
  |(apply bY)
  |(refine aLr ?_;first|(intro z z;repeat (first|(with_reducible refine aJg fun z=>?_)|with_reducible refine aKx ?_|(intro (zv:(_:Value)=_);subst zv)|intro z))|skip)
  |((first|(apply aEl;(with_reducible assumption);exact .head;(first|exact zR _|exact aCT);intro zK zh zr zs bk)|(apply aEn;(with_reducible assumption);exact .head;intro zK zh zr zs bk));refine aLr ?_;(first|(intro z z;repeat (first|(with_reducible refine aJg fun z=>?_)|with_reducible refine aKx ?_|(intro (zv:(_:Value)=_);subst zv)|intro z))|skip);(have z:=bk _ _ (by with_reducible assumption);clear bk))
  |((first|(apply aEl;(with_reducible assumption);exact zt1;(first|exact zR _|exact aCT);intro zK zh zr zs bk)|(apply aEn;(with_reducible assumption);exact zt1;intro zK zh zr zs bk));refine aLr ?_;(first|(intro z z;repeat (first|(with_reducible refine aJg fun z=>?_)|with_reducible refine aKx ?_|(intro (zv:(_:Value)=_);subst zv)|intro z))|skip);(have z:=bk _ _ (by with_reducible assumption);clear bk))
  |((first|(apply aEl;(with_reducible assumption);exact zt2;(first|exact zR _|exact aCT);intro zK zh zr zs bk)|(apply aEn;(with_reducible assumption);exact zt2;intro zK zh zr zs bk));refine aLr ?_;(first|(intro z z;repeat (first|(with_reducible refine aJg fun z=>?_)|with_reducible refine aKx ?_|(intro (zv:(_:Value)=_);subst zv)|intro z))|skip);(have z:=bk _ _ (by with_reducible assumption);clear bk))
  |((first|(apply aEl;(with_reducible assumption);exact zt3;(first|exact zR _|exact aCT);intro zK zh zr zs bk)|(apply aEn;(with_reducible assumption);exact zt3;intro zK zh zr zs bk));refine aLr ?_;(first|(intro z z;repeat (first|(with_reducible refine aJg fun z=>?_)|with_reducible refine aKx ?_|(intro (zv:(_:Value)=_);subst zv)|intro z))|skip);(have z:=bk _ _ (by with_reducible assumption);clear bk))
  |((first|(apply aEl;(with_reducible assumption);exact zt4;(first|exact zR _|exact aCT);intro zK zh zr zs bk)|(apply aEn;(with_reducible assumption);exact zt4;intro zK zh zr zs bk));refine aLr ?_;(first|(intro z z;repeat (first|(with_reducible refine aJg fun z=>?_)|with_reducible refine aKx ?_|(intro (zv:(_:Value)=_);subst zv)|intro z))|skip);(have z:=bk _ _ (by with_reducible assumption);clear bk))
  |((first|(apply aEl;(with_reducible assumption);exact .head;(first|exact zR _|exact aCT);intro zK zh zr zs bk)|(apply aEn;(with_reducible assumption);exact .head;intro zK zh zr zs bk));(first|(apply aEl;(with_reducible assumption);exact .head;(first|exact zR _|exact aCT);intro zK zh zr zs bk)|(apply aEn;(with_reducible assumption);exact .head;intro zK zh zr zs bk));refine aLr ?_;(first|(intro z z;repeat (first|(with_reducible refine aJg fun z=>?_)|with_reducible refine aKx ?_|(intro (zv:(_:Value)=_);subst zv)|intro z))|skip);(have z:=bk _ _ (by with_reducible assumption);clear bk);(have z:=bk _ _ (by with_reducible assumption);clear bk))
  |((first|(apply aEl;(with_reducible assumption);exact zt1;(first|exact zR _|exact aCT);intro zK zh zr zs bk)|(apply aEn;(with_reducible assumption);exact zt1;intro zK zh zr zs bk));(first|(apply aEl;(with_reducible assumption);exact zt1;(first|exact zR _|exact aCT);intro zK zh zr zs bk)|(apply aEn;(with_reducible assumption);exact zt1;intro zK zh zr zs bk));refine aLr ?_;(first|(intro z z;repeat (first|(with_reducible refine aJg fun z=>?_)|with_reducible refine aKx ?_|(intro (zv:(_:Value)=_);subst zv)|intro z))|skip);(have z:=bk _ _ (by with_reducible assumption);clear bk);(have z:=bk _ _ (by with_reducible assumption);clear bk))
  |((first|(apply aEl;(with_reducible assumption);exact zt1;(first|exact zR _|exact aCT);intro zK zh zr zs bk)|(apply aEn;(with_reducible assumption);exact zt1;intro zK zh zr zs bk));(first|(apply aEl;(with_reducible assumption);exact .head;(first|exact zR _|exact aCT);intro zK zh zr zs bk)|(apply aEn;(with_reducible assumption);exact .head;intro zK zh zr zs bk));refine aLr ?_;(first|(intro z z;repeat (first|(with_reducible refine aJg fun z=>?_)|with_reducible refine aKx ?_|(intro (zv:(_:Value)=_);subst zv)|intro z))|skip);(have z:=bk _ _ (by with_reducible assumption);clear bk);(have z:=bk _ _ (by with_reducible assumption);clear bk))
  |((first|(apply aEl;(with_reducible assumption);exact zt2;(first|exact zR _|exact aCT);intro zK zh zr zs bk)|(apply aEn;(with_reducible assumption);exact zt2;intro zK zh zr zs bk));(first|(apply aEl;(with_reducible assumption);exact zt1;(first|exact zR _|exact aCT);intro zK zh zr zs bk)|(apply aEn;(with_reducible assumption);exact zt1;intro zK zh zr zs bk));refine aLr ?_;(first|(intro z z;repeat (first|(with_reducible refine aJg fun z=>?_)|with_reducible refine aKx ?_|(intro (zv:(_:Value)=_);subst zv)|intro z))|skip);(have z:=bk _ _ (by with_reducible assumption);clear bk);(have z:=bk _ _ (by with_reducible assumption);clear bk))
  |((first|(apply aEl;(with_reducible assumption);exact zt2;(first|exact zR _|exact aCT);intro zK zh zr zs bk)|(apply aEn;(with_reducible assumption);exact zt2;intro zK zh zr zs bk));(first|(apply aEl;(with_reducible assumption);exact zt1;(first|exact zR _|exact aCT);intro zK zh zr zs bk)|(apply aEn;(with_reducible assumption);exact zt1;intro zK zh zr zs bk));(first|(apply aEl;(with_reducible assumption);exact zt1;(first|exact zR _|exact aCT);intro zK zh zr zs bk)|(apply aEn;(with_reducible assumption);exact zt1;intro zK zh zr zs bk));refine aLr ?_;(first|(intro z z;repeat (first|(with_reducible refine aJg fun z=>?_)|with_reducible refine aKx ?_|(intro (zv:(_:Value)=_);subst zv)|intro z))|skip);(have z:=bk _ _ (by with_reducible assumption);clear bk);(have z:=bk _ _ (by with_reducible assumption);clear bk);(have z:=bk _ _ (by with_reducible assumption);clear bk))
  |((first|(apply aEl;(with_reducible assumption);exact .head;(first|exact zR _|exact aCT);intro zK zh zr zs bk)|(apply aEn;(with_reducible assumption);exact .head;intro zK zh zr zs bk));(first|(apply aEl;(with_reducible assumption);exact .head;(first|exact zR _|exact aCT);intro zK zh zr zs bk)|(apply aEn;(with_reducible assumption);exact .head;intro zK zh zr zs bk));(first|(apply aEl;(with_reducible assumption);exact .head;(first|exact zR _|exact aCT);intro zK zh zr zs bk)|(apply aEn;(with_reducible assumption);exact .head;intro zK zh zr zs bk));refine aLr ?_;(first|(intro z z;repeat (first|(with_reducible refine aJg fun z=>?_)|with_reducible refine aKx ?_|(intro (zv:(_:Value)=_);subst zv)|intro z))|skip);(have z:=bk _ _ (by with_reducible assumption);clear bk);(have z:=bk _ _ (by with_reducible assumption);clear bk);(have z:=bk _ _ (by with_reducible assumption);clear bk))
  |((first|(apply aEl;(with_reducible assumption);exact zt1;(first|exact zR _|exact aCT);intro zK zh zr zs bk)|(apply aEn;(with_reducible assumption);exact zt1;intro zK zh zr zs bk));(first|(apply aEl;(with_reducible assumption);exact zt1;(first|exact zR _|exact aCT);intro zK zh zr zs bk)|(apply aEn;(with_reducible assumption);exact zt1;intro zK zh zr zs bk));(first|(apply aEl;(with_reducible assumption);exact zt1;(first|exact zR _|exact aCT);intro zK zh zr zs bk)|(apply aEn;(with_reducible assumption);exact zt1;intro zK zh zr zs bk));refine aLr ?_;(first|(intro z z;repeat (first|(with_reducible refine aJg fun z=>?_)|with_reducible refine aKx ?_|(intro (zv:(_:Value)=_);subst zv)|intro z))|skip);(have z:=bk _ _ (by with_reducible assumption);clear bk);(have z:=bk _ _ (by with_reducible assumption);clear bk);(have z:=bk _ _ (by with_reducible assumption);clear bk))
  |((first|(apply aEl;(with_reducible assumption);exact zt3;(first|exact zR _|exact aCT);intro zK zh zr zs bk)|(apply aEn;(with_reducible assumption);exact zt3;intro zK zh zr zs bk));(first|(apply aEl;(with_reducible assumption);exact zt2;(first|exact zR _|exact aCT);intro zK zh zr zs bk)|(apply aEn;(with_reducible assumption);exact zt2;intro zK zh zr zs bk));(first|(apply aEl;(with_reducible assumption);exact zt2;(first|exact zR _|exact aCT);intro zK zh zr zs bk)|(apply aEn;(with_reducible assumption);exact zt2;intro zK zh zr zs bk));refine aLr ?_;(first|(intro z z;repeat (first|(with_reducible refine aJg fun z=>?_)|with_reducible refine aKx ?_|(intro (zv:(_:Value)=_);subst zv)|intro z))|skip);(have z:=bk _ _ (by with_reducible assumption);clear bk);(have z:=bk _ _ (by with_reducible assumption);clear bk);(have z:=bk _ _ (by with_reducible assumption);clear bk))
  |((first|(apply aEl;(with_reducible assumption);exact .head;(first|exact zR _|exact aCT);intro zK zh zr zs bk)|(apply aEn;(with_reducible assumption);exact .head;intro zK zh zr zs bk));(first|(apply aEl;(with_reducible assumption);exact .head;(first|exact zR _|exact aCT);intro zK zh zr zs bk)|(apply aEn;(with_reducible assumption);exact .head;intro zK zh zr zs bk));(first|(apply aEl;(with_reducible assumption);exact .head;(first|exact zR _|exact aCT);intro zK zh zr zs bk)|(apply aEn;(with_reducible assumption);exact .head;intro zK zh zr zs bk));(first|(apply aEl;(with_reducible assumption);exact .head;(first|exact zR _|exact aCT);intro zK zh zr zs bk)|(apply aEn;(with_reducible assumption);exact .head;intro zK zh zr zs bk));refine aLr ?_;(first|(intro z z;repeat (first|(with_reducible refine aJg fun z=>?_)|with_reducible refine aKx ?_|(intro (zv:(_:Value)=_);subst zv)|intro z))|skip);(have z:=bk _ _ (by with_reducible assumption);clear bk);(have z:=bk _ _ (by with_reducible assumption);clear bk);(have z:=bk _ _ (by with_reducible assumption);clear bk);(have z:=bk _ _ (by with_reducible assumption);clear bk))
  |((first|(with_reducible apply st_g0)|(with_reducible apply st_g1)|(with_reducible apply st_g2)|(with_reducible apply st_g3)|(apply st_g4;exact rfl));rcases aH hm with ⟨z,hm⟩|⟨z,hm⟩))):p:=h
end Gv
