/- Readings of the program's data; what is known of its types. -/
import Derived.Test.YtiipffjapfalhaaGreatDoorJYS
import Derived.Test.YtiipffjapfalhaaGreatDoorProg
set_option linter.all false
namespace Gv
open Go.Value renaming slice→zS
open Gv.Hp renaming le_trans→zL
open Go Go.Proofs Go.Proofs.Tryz
instance:eL aW where
 sz:=2
 enc d:=[i64 d.Kind,i64 d.Value]
 len _:=rfl
 one _ v h:=by simp at h;rcases h with rfl|rfl<;>rfl
 pos:=by decide
instance:El Part where
 sz:=4
 rd K cs d:=∃ (a0:Option Addr) (c0:Nat),cs=[i64 d.Kind,i64 d.Number,str d.Name,zS a0 d.Arguments.length c0]/\bK K a0 c0 d.Arguments
 mono:=fun h ⟨a0,c0,e,h0⟩=>⟨a0,c0,e,h0.mono h⟩
 len:=fun ⟨_,_,e,_⟩=>by rw [e];rfl
 one:=fun ⟨_,_,e,_⟩ v hv=>by rw [e] at hv;simp at hv;rcases hv with rfl|rfl|rfl|rfl<;>rfl
 pos:=by decide
instance:El Definition where
 sz:=3
 rd K cs d:=∃ (a0:Option Addr) (c0:Nat),cs=[str d.Name,i64 d.Parameters,zS a0 d.Body.length c0]/\bK K a0 c0 d.Body
 mono:=fun h ⟨a0,c0,e,h0⟩=>⟨a0,c0,e,h0.mono h⟩
 len:=fun ⟨_,_,e,_⟩=>by rw [e];rfl
 one:=fun ⟨_,_,e,_⟩ v hv=>by rw [e] at hv;simp at hv;rcases hv with rfl|rfl|rfl<;>rfl
 pos:=by decide
instance:El aY where
 sz:=2
 rd K cs d:=∃ (a0:Option Addr) (c0:Nat),cs=[i64 d.Definition,zS a0 d.Values.length c0]/\bK K a0 c0 d.Values
 mono:=fun h ⟨a0,c0,e,h0⟩=>⟨a0,c0,e,h0.mono h⟩
 len:=fun ⟨_,_,e,_⟩=>by rw [e];rfl
 one:=fun ⟨_,_,e,_⟩ v hv=>by rw [e] at hv;simp at hv;rcases hv with rfl|rfl<;>rfl
 pos:=by decide
instance:eL bB where
 sz:=3
 enc d:=[str d.Left,str d.Right,str d.Result]
 len _:=rfl
 one _ v h:=by simp at h;rcases h with rfl|rfl|rfl<;>rfl
 pos:=by decide
instance:El bE where
 sz:=5
 rd K cs d:=∃ (a0:Option Addr) (c0:Nat) (a1:Option Addr) (c1:Nat) (a2:Option Addr) (c2:Nat) (a3:Option Addr) (c3:Nat) (a4:Option Addr) (c4:Nat),cs=[zS a0 d.Definitions.length c0,zS a1 d.Components.length c1,zS a2 d.Meetings.length c2,zS a3 d.Allowed.length c3,zS a4 d.Hidden.length c4]/\bK K a0 c0 d.Definitions/\bK K a1 c1 d.Components/\bK K a2 c2 d.Meetings/\bK K a3 c3 d.Allowed/\bK K a4 c4 d.Hidden
 mono:=fun h ⟨a0,c0,a1,c1,a2,c2,a3,c3,a4,c4,e,h0,h1,h2,h3,h4⟩=>⟨a0,c0,a1,c1,a2,c2,a3,c3,a4,c4,e,h0.mono h,h1.mono h,h2.mono h,h3.mono h,h4.mono h⟩
 len:=fun ⟨_,_,_,_,_,_,_,_,_,_,e,_⟩=>by rw [e];rfl
 one:=fun ⟨_,_,_,_,_,_,_,_,_,_,e,_⟩ v hv=>by rw [e] at hv;simp at hv;rcases hv with rfl|rfl|rfl|rfl|rfl<;>rfl
 pos:=by decide
instance:El GPoint where
 sz:=3
 rd K cs d:=∃ (a0:Option Addr) (c0:Nat),cs=[i64 d.Definition,i64 d.Part,zS a0 d.Values.length c0]/\bK K a0 c0 d.Values
 mono:=fun h ⟨a0,c0,e,h0⟩=>⟨a0,c0,e,h0.mono h⟩
 len:=fun ⟨_,_,e,_⟩=>by rw [e];rfl
 one:=fun ⟨_,_,e,_⟩ v hv=>by rw [e] at hv;simp at hv;rcases hv with rfl|rfl|rfl<;>rfl
 pos:=by decide
instance:El bR where
 sz:=4
 rd K cs d:=∃ (a0:Option Addr) (c0:Nat),cs=[str d.B,i64 d.Next.Definition,i64 d.Next.Part,zS a0 d.Next.Values.length c0]/\bK K a0 c0 d.Next.Values
 mono:=fun h ⟨a0,c0,e,h0⟩=>⟨a0,c0,e,h0.mono h⟩
 len:=fun ⟨_,_,e,_⟩=>by rw [e];rfl
 one:=fun ⟨_,_,e,_⟩ v hv=>by rw [e] at hv;simp at hv;rcases hv with rfl|rfl|rfl|rfl<;>rfl
 pos:=by decide
instance:El bC where
 sz:=4
 rd K cs d:=∃ (a0:Option Addr) (c0:Nat),cs=[str d.B,i64 d.First,i64 d.Second,zS a0 d.State.length c0]/\bK K a0 c0 d.State
 mono:=fun h ⟨a0,c0,e,h0⟩=>⟨a0,c0,e,h0.mono h⟩
 len:=fun ⟨_,_,e,_⟩=>by rw [e];rfl
 one:=fun ⟨_,_,e,_⟩ v hv=>by rw [e] at hv;simp at hv;rcases hv with rfl|rfl|rfl|rfl<;>rfl
 pos:=by decide
instance:eL Edge where
 sz:=3
 enc d:=[i64 d.F,i64 d.B,i64 d.To]
 len _:=rfl
 one _ v h:=by simp at h;rcases h with rfl|rfl|rfl<;>rfl
 pos:=by decide
instance:El iZ where
 sz:=4
 rd K cs d:=∃ (a0:Option Addr) (c0:Nat) (a1:Option Addr) (c1:Nat),cs=[i64 d.N,i64 d.I,zS a0 d.L.length c0,zS a1 d.E.length c1]/\bK K a0 c0 d.L/\bK K a1 c1 d.E
 mono:=fun h ⟨a0,c0,a1,c1,e,h0,h1⟩=>⟨a0,c0,a1,c1,e,h0.mono h,h1.mono h⟩
 len:=fun ⟨_,_,_,_,e,_⟩=>by rw [e];rfl
 one:=fun ⟨_,_,_,_,e,_⟩ v hv=>by rw [e] at hv;simp at hv;rcases hv with rfl|rfl|rfl|rfl<;>rfl
 pos:=by decide
instance:eL dV where
 sz:=2
 enc d:=[i64 d.scope,Value.bool d.behind]
 len _:=rfl
 one _ v h:=by simp at h;rcases h with rfl|rfl<;>rfl
 pos:=by decide
instance:eL lS where
 sz:=3
 enc d:=[i64 d.from_,str d.label,i64 d.to_]
 len _:=rfl
 one _ v h:=by simp at h;rcases h with rfl|rfl|rfl<;>rfl
 pos:=by decide
instance:Dp Part where
 Hd:=((Option Addr × Nat) × List (Dp.Hd (List aW)))
 sz1:=3
 enc hd x:=[i64 x.Kind,i64 x.Number,str x.Name,.slice hd.1.1 x.Arguments.length hd.1.2]
 pcs tys hd x:=[aP (tys.headD 0) Hp.nil hd.1.1 hd.1.2 (aV hd.2 x.Arguments),aFo [(tys.tail.headD 0)] hd.2 x.Arguments]
 len _ _:=rfl
 one _ _ v h:=by simp at h;rcases h with rfl|rfl|rfl|rfl<;>rfl
instance:aOS Part where
 sz:=rfl
 rd:=fun {tys hd x h K} a hK=>by
  obtain ⟨p0,r0,b0,_,l0,m0,a⟩:=a
  obtain ⟨p1,r1,b1,_,l1,m1,a⟩:=a
  exact ⟨hd.1.1,hd.1.2,rfl,aSQ b0 b1 (zL l0 (hK)) (zL l1 (zL m0 (hK)))⟩
theorem aST (tys:List TypeId):fL (Dp.pcs tys (((none,0),[]):Dp.Hd Part) (⟨0,0,[],[]⟩:Part)) Hp.nil:=
 aUh _ _ (trivial)
theorem aVV {hd:Dp.Hd Part} {x:Part} {l:(List (List aW))} (h:x.Arguments.length=l.length):Dp.enc hd (⟨x.Kind,x.Number,x.Name,l⟩:Part)=Dp.enc hd x:=by
 simp only [Dp.enc,h]
instance:Dp Definition where
 Hd:=((Option Addr × Nat) × List (Dp.Hd Part))
 sz1:=2
 enc hd x:=[str x.Name,i64 x.Parameters,.slice hd.1.1 x.Body.length hd.1.2]
 pcs tys hd x:=[aP (tys.headD 0) Hp.nil hd.1.1 hd.1.2 (aV hd.2 x.Body),aFo [(tys.tail.headD 0),(tys.tail.tail.headD 0)] hd.2 x.Body]
 len _ _:=rfl
 one _ _ v h:=by simp at h;rcases h with rfl|rfl|rfl<;>rfl
instance:aOS Definition where
 sz:=rfl
 rd:=fun {tys hd x h K} a hK=>by
  obtain ⟨p0,r0,b0,_,l0,m0,a⟩:=a
  obtain ⟨p1,r1,b1,_,l1,m1,a⟩:=a
  exact ⟨hd.1.1,hd.1.2,rfl,aSQ b0 b1 (zL l0 (hK)) (zL l1 (zL m0 (hK)))⟩
theorem aLn (tys:List TypeId):fL (Dp.pcs tys (((none,0),[]):Dp.Hd Definition) (⟨[],0,[]⟩:Definition)) Hp.nil:=
 aUh _ _ (trivial)
theorem aNG {hd:Dp.Hd Definition} {x:Definition} {l:(List Part)} (h:x.Body.length=l.length):Dp.enc hd (⟨x.Name,x.Parameters,l⟩:Definition)=Dp.enc hd x:=by
 simp only [Dp.enc,h]
instance:Dp aY where
 Hd:=(Option Addr × Nat)
 sz1:=1
 enc hd x:=[i64 x.Definition,.slice hd.1 x.Values.length hd.2]
 pcs tys hd x:=[aP (tys.headD 0) Hp.nil hd.1 hd.2 x.Values]
 len _ _:=rfl
 one _ _ v h:=by simp at h;rcases h with rfl|rfl<;>rfl
instance:aOS aY where
 sz:=rfl
 rd:=fun {tys hd x h K} a hK=>by
  obtain ⟨p0,r0,b0,_,l0,m0,a⟩:=a
  exact ⟨hd.1,hd.2,rfl,aP.rd b0 (zL l0 (hK)) (Hp.nil_le _)⟩
theorem aMd (tys:List TypeId):fL (Dp.pcs tys ((none,0):Dp.Hd aY) (⟨0,[]⟩:aY)) Hp.nil:=
 ⟨Hp.nil,Hp.nil,aP.nil _ _ _,Hp.nil_dj _,Hp.nil_le _,Hp.nil_le _,trivial⟩
theorem aOU {hd:Dp.Hd aY} {x:aY} {l:(List Int)} (h:x.Values.length=l.length):Dp.enc hd (⟨x.Definition,l⟩:aY)=Dp.enc hd x:=by
 simp only [Dp.enc,h]
instance:Dp GPoint where
 Hd:=(Option Addr × Nat)
 sz1:=2
 enc hd x:=[i64 x.Definition,i64 x.Part,.slice hd.1 x.Values.length hd.2]
 pcs tys hd x:=[aP (tys.headD 0) Hp.nil hd.1 hd.2 x.Values]
 len _ _:=rfl
 one _ _ v h:=by simp at h;rcases h with rfl|rfl|rfl<;>rfl
instance:aOS GPoint where
 sz:=rfl
 rd:=fun {tys hd x h K} a hK=>by
  obtain ⟨p0,r0,b0,_,l0,m0,a⟩:=a
  exact ⟨hd.1,hd.2,rfl,aP.rd b0 (zL l0 (hK)) (Hp.nil_le _)⟩
theorem aUk {K:Hp} {hd:Dp.Hd GPoint} {x:GPoint} (h:El.rd K (Dp.enc hd x) x):bK K hd.1 hd.2 x.Values:=by
 obtain ⟨u0,v0,e,h0⟩:=h
 simp only [Dp.enc,List.cons.injEq,Value.slice.injEq,and_true,true_and] at e
 obtain ⟨e0,g0⟩:=e
 rw [e0,g0];exact h0
instance:Dp bC where
 Hd:=((Option Addr × Nat) × List (Dp.Hd GPoint))
 sz1:=3
 enc hd x:=[str x.B,i64 x.First,i64 x.Second,.slice hd.1.1 x.State.length hd.1.2]
 pcs tys hd x:=[aP (tys.headD 0) Hp.nil hd.1.1 hd.1.2 (aV hd.2 x.State),aFo [(tys.tail.headD 0)] hd.2 x.State]
 len _ _:=rfl
 one _ _ v h:=by simp at h;rcases h with rfl|rfl|rfl|rfl<;>rfl
instance:aOS bC where
 sz:=rfl
 rd:=fun {tys hd x h K} a hK=>by
  obtain ⟨p0,r0,b0,_,l0,m0,a⟩:=a
  obtain ⟨p1,r1,b1,_,l1,m1,a⟩:=a
  exact ⟨hd.1.1,hd.1.2,rfl,aSQ b0 b1 (zL l0 (hK)) (zL l1 (zL m0 (hK)))⟩
theorem fM:SLT prog 25 9 1:=⟨runUnderlying25,sizeOf9⟩
theorem pE:SC prog 9:=⟨isAgg9,sizeOf9⟩
theorem fZ:SLT prog 29 2 1:=⟨runUnderlying29,sizeOf2⟩
theorem aIG:EZ prog 2 [i64 0]:=⟨⟨_,zeroValue2,rfl⟩,⟨t2,typeInfo2,by show (8:Nat)<=128;decide,rfl,by kernel_rfl,_,rfl,rfl⟩⟩
theorem kQ:SC prog 2:=⟨isAgg2,sizeOf2⟩
theorem aKx:EZ prog 9 [str []]:=⟨⟨_,zeroValue9,rfl⟩,⟨t9,typeInfo9,by show (16:Nat)<=128;decide,rfl,by kernel_rfl,_,rfl,rfl⟩⟩
theorem aSU:SLT prog 277 319 2:=⟨runUnderlying277,sizeOf319⟩
theorem aPM:SLT prog 162 277 1:=⟨runUnderlying162,sizeOf277⟩
theorem sc_277:SC prog 277:=⟨isAgg277,sizeOf277⟩
theorem fa_164_2:FA prog 164 2 2:=⟨_,_,_,runUnderlying164,rfl,sizeOf9,rfl,rfl⟩
theorem fa_164_3:FA prog 164 3 3:=⟨_,_,_,runUnderlying164,rfl,sizeOf162,rfl,rfl⟩
theorem sc_162:SC prog 162:=⟨isAgg162,sizeOf162⟩
theorem sl_76:SLT prog 76 164 4:=⟨runUnderlying76,sizeOf164⟩
theorem ag_164:AG prog 164 4:=⟨isAgg164,sizeOf164⟩
theorem fa_78_0:FA prog 78 0 0:=⟨_,_,_,runUnderlying78,rfl,sizeOf9,rfl,rfl⟩
theorem fa_78_2:FA prog 78 2 2:=⟨_,_,_,runUnderlying78,rfl,sizeOf76,rfl,rfl⟩
theorem sc_76:SC prog 76:=⟨isAgg76,sizeOf76⟩
theorem sl_22:SLT prog 22 78 3:=⟨runUnderlying22,sizeOf78⟩
theorem ag_78:AG prog 78 3:=⟨isAgg78,sizeOf78⟩
theorem fa_81_1:FA prog 81 1 1:=⟨_,_,_,runUnderlying81,rfl,sizeOf29,rfl,rfl⟩
theorem aMe:SC prog 29:=⟨isAgg29,sizeOf29⟩
theorem sl_23:SLT prog 23 81 2:=⟨runUnderlying23,sizeOf81⟩
theorem ag_81:AG prog 81 2:=⟨isAgg81,sizeOf81⟩
theorem fa_84_0:FA prog 84 0 0:=⟨_,_,_,runUnderlying84,rfl,sizeOf9,rfl,rfl⟩
theorem fa_84_1:FA prog 84 1 1:=⟨_,_,_,runUnderlying84,rfl,sizeOf9,rfl,rfl⟩
theorem fa_84_2:FA prog 84 2 2:=⟨_,_,_,runUnderlying84,rfl,sizeOf9,rfl,rfl⟩
theorem sl_24:SLT prog 24 84 3:=⟨runUnderlying24,sizeOf84⟩
theorem ag_84:AG prog 84 3:=⟨isAgg84,sizeOf84⟩
theorem fa_27_0:FA prog 27 0 0:=⟨_,_,_,runUnderlying27,rfl,sizeOf22,rfl,rfl⟩
theorem sc_22:SC prog 22:=⟨isAgg22,sizeOf22⟩
theorem fa_27_1:FA prog 27 1 1:=⟨_,_,_,runUnderlying27,rfl,sizeOf23,rfl,rfl⟩
theorem sc_23:SC prog 23:=⟨isAgg23,sizeOf23⟩
theorem fa_27_2:FA prog 27 2 2:=⟨_,_,_,runUnderlying27,rfl,sizeOf24,rfl,rfl⟩
theorem sc_24:SC prog 24:=⟨isAgg24,sizeOf24⟩
theorem fa_27_3:FA prog 27 3 3:=⟨_,_,_,runUnderlying27,rfl,sizeOf25,rfl,rfl⟩
theorem aIH:SC prog 25:=⟨isAgg25,sizeOf25⟩
theorem fa_27_4:FA prog 27 4 4:=⟨_,_,_,runUnderlying27,rfl,sizeOf25,rfl,rfl⟩
theorem sB:FA prog 159 0 0:=⟨_,_,_,runUnderlying159,rfl,sizeOf2,rfl,rfl⟩
theorem yP:SLT prog 99 159 4:=⟨runUnderlying99,sizeOf159⟩
theorem aII:FA prog 159 1 1:=⟨_,_,_,runUnderlying159,rfl,sizeOf2,rfl,rfl⟩
theorem aMf:FA prog 159 2 2:=⟨_,_,_,runUnderlying159,rfl,sizeOf9,rfl,rfl⟩
theorem wB:FA prog 159 3 3:=⟨_,_,_,runUnderlying159,rfl,sizeOf157,rfl,rfl⟩
theorem aFV:SC prog 157:=⟨isAgg157,sizeOf157⟩
theorem aAd:SLT prog 157 225 1:=⟨runUnderlying157,sizeOf225⟩
theorem aMg:FA prog 101 1 1:=⟨_,_,_,runUnderlying101,rfl,sizeOf2,rfl,rfl⟩
theorem wC:FA prog 101 2 2:=⟨_,_,_,runUnderlying101,rfl,sizeOf99,rfl,rfl⟩
theorem aKH:SC prog 99:=⟨isAgg99,sizeOf99⟩
theorem aMh:FA prog 275 0 0:=⟨_,_,_,runUnderlying275,rfl,sizeOf2,rfl,rfl⟩
theorem aPN:FA prog 275 1 1:=⟨_,_,_,runUnderlying275,rfl,sizeOf2,rfl,rfl⟩
theorem vV:SLT prog 225 275 2:=⟨runUnderlying225,sizeOf275⟩
theorem aHf:AG prog 159 4:=⟨isAgg159,sizeOf159⟩
theorem yQ:SLT prog 32 101 3:=⟨runUnderlying32,sizeOf101⟩
theorem aPO:SC prog 225:=⟨isAgg225,sizeOf225⟩
theorem aMi:FA prog 101 0 0:=⟨_,_,_,runUnderlying101,rfl,sizeOf9,rfl,rfl⟩
theorem aBM:FA prog 36 1 1:=⟨_,_,_,runUnderlying36,rfl,sizeOf33,rfl,rfl⟩
theorem aMj:SC prog 33:=⟨isAgg33,sizeOf33⟩
theorem aCj:SLT prog 33 103 2:=⟨runUnderlying33,sizeOf103⟩
theorem aPP:AG prog 103 2:=⟨isAgg103,sizeOf103⟩
theorem aIJ:FA prog 103 0 0:=⟨_,_,_,runUnderlying103,rfl,sizeOf2,rfl,rfl⟩
theorem aHg:FA prog 36 0 0:=⟨_,_,_,runUnderlying36,rfl,sizeOf32,rfl,rfl⟩
theorem aPQ:SC prog 32:=⟨isAgg32,sizeOf32⟩
theorem aMk:FA prog 103 1 1:=⟨_,_,_,runUnderlying103,rfl,sizeOf29,rfl,rfl⟩
theorem yR:SLT prog 34 105 3:=⟨runUnderlying34,sizeOf105⟩
theorem aPR:AG prog 105 3:=⟨isAgg105,sizeOf105⟩
theorem aIK:FA prog 105 0 0:=⟨_,_,_,runUnderlying105,rfl,sizeOf9,rfl,rfl⟩
theorem aIL:FA prog 105 1 1:=⟨_,_,_,runUnderlying105,rfl,sizeOf9,rfl,rfl⟩
theorem aUp:FA prog 105 2 2:=⟨_,_,_,runUnderlying105,rfl,sizeOf9,rfl,rfl⟩
theorem aMl:FA prog 36 2 2:=⟨_,_,_,runUnderlying36,rfl,sizeOf34,rfl,rfl⟩
theorem sc_34:SC prog 34:=⟨isAgg34,sizeOf34⟩
theorem aPt:FA prog 36 3 3:=⟨_,_,_,runUnderlying36,rfl,sizeOf25,rfl,rfl⟩
theorem fa_36_4:FA prog 36 4 4:=⟨_,_,_,runUnderlying36,rfl,sizeOf25,rfl,rfl⟩
theorem aFp:FA prog 97 0 0:=⟨_,_,_,runUnderlying97,rfl,sizeOf2,rfl,rfl⟩
theorem aFq:FA prog 97 1 1:=⟨_,_,_,runUnderlying97,rfl,sizeOf2,rfl,rfl⟩
theorem aKb:FA prog 97 2 2:=⟨_,_,_,runUnderlying97,rfl,sizeOf29,rfl,rfl⟩
theorem gR:SLT prog 56 97 3:=⟨runUnderlying56,sizeOf97⟩
theorem aDb:EZ prog 97 [i64 0,i64 0,zS none 0 0]:=⟨⟨_,zeroValue97,rfl⟩,⟨t97,typeInfo97,by show (40:Nat)<=128;decide,rfl,by kernel_rfl,_,rfl,rfl⟩⟩
theorem aPS:BS prog 97 [(0,1),(1,1),(2,1)] [i64 0,i64 0,zS none 0 0]:=⟨⟨_,zeroValue97,rfl⟩,_,runUnderlying97,fun w=>by simp [sizeOf2,sizeOf29]⟩
theorem aPT:SLT prog 140 5 1:=⟨runUnderlying140,sizeOf5⟩
theorem ez_5:EZ prog 5 [Value.int .u8 0]:=⟨⟨_,zeroValue5,rfl⟩,⟨t5,typeInfo5,by show (1:Nat)<=128;decide,rfl,by kernel_rfl,_,rfl,rfl⟩⟩
theorem sc_5:SC prog 5:=⟨isAgg5,sizeOf5⟩
theorem mM:SLT prog 172 176 4:=⟨runUnderlying172,sizeOf176⟩
theorem aBh:AG prog 97 3:=⟨isAgg97,sizeOf97⟩
theorem bs_176:BS prog 176 [(0,1),(1,3)] [str [],i64 0,i64 0,zS none 0 0]:=⟨⟨_,zeroValue176,rfl⟩,_,runUnderlying176,fun w=>by simp [sizeOf9,sizeOf97]⟩
theorem aNH:EZ prog 176 [str [],i64 0,i64 0,zS none 0 0]:=⟨⟨_,zeroValue176,rfl⟩,⟨t176,typeInfo176,by show (56:Nat)<=128;decide,rfl,by kernel_rfl,_,rfl,rfl⟩⟩
theorem sC:FA prog 176 0 0:=⟨_,_,_,runUnderlying176,rfl,sizeOf9,rfl,rfl⟩
theorem wD:FA prog 176 1 1:=⟨_,_,_,runUnderlying176,rfl,sizeOf97,rfl,rfl⟩
theorem aLo:AG prog 176 4:=⟨isAgg176,sizeOf176⟩
theorem yI:SLT prog 123 127 4:=⟨runUnderlying123,sizeOf127⟩
theorem aSV:AG prog 127 4:=⟨isAgg127,sizeOf127⟩
theorem aPU:FA prog 127 0 0:=⟨_,_,_,runUnderlying127,rfl,sizeOf9,rfl,rfl⟩
theorem fa_127_1:FA prog 127 1 1:=⟨_,_,_,runUnderlying127,rfl,sizeOf2,rfl,rfl⟩
theorem fa_127_2:FA prog 127 2 2:=⟨_,_,_,runUnderlying127,rfl,sizeOf2,rfl,rfl⟩
theorem aPV:FA prog 127 3 3:=⟨_,_,_,runUnderlying127,rfl,sizeOf56,rfl,rfl⟩
theorem aHT:SC prog 56:=⟨isAgg56,sizeOf56⟩
theorem aNI:EZ prog 127 [str [],i64 0,i64 0,zS none 0 0]:=⟨⟨_,zeroValue127,rfl⟩,⟨t127,typeInfo127,by show (56:Nat)<=128;decide,rfl,by kernel_rfl,_,rfl,rfl⟩⟩
theorem vW:SLT prog 171 172 1:=⟨runUnderlying171,sizeOf172⟩
theorem aNJ:EZ prog 172 [zS none 0 0]:=⟨⟨_,zeroValue172,rfl⟩,⟨t172,typeInfo172,by show (24:Nat)<=128;decide,rfl,by kernel_rfl,_,rfl,rfl⟩⟩
theorem aCQ:SC prog 172:=⟨isAgg172,sizeOf172⟩
theorem aSW:BS prog 127 [(0,1),(1,1),(2,1),(3,1)] [str [],i64 0,i64 0,zS none 0 0]:=⟨⟨_,zeroValue127,rfl⟩,_,runUnderlying127,fun w=>by simp [sizeOf2,sizeOf56,sizeOf9]⟩
theorem qV:SLT prog 52 56 1:=⟨runUnderlying52,sizeOf56⟩
theorem aMm:EZ prog 56 [zS none 0 0]:=⟨⟨_,zeroValue56,rfl⟩,⟨t56,typeInfo56,by show (24:Nat)<=128;decide,rfl,by kernel_rfl,_,rfl,rfl⟩⟩
theorem aSX:FA prog 92 0 0:=⟨_,_,_,runUnderlying92,rfl,sizeOf2,rfl,rfl⟩
theorem aMn:FA prog 92 1 1:=⟨_,_,_,runUnderlying92,rfl,sizeOf2,rfl,rfl⟩
theorem aSY:FA prog 92 2 2:=⟨_,_,_,runUnderlying92,rfl,sizeOf2,rfl,rfl⟩
theorem mA:SLT prog 49 92 3:=⟨runUnderlying49,sizeOf92⟩
theorem aFr:AG prog 92 3:=⟨isAgg92,sizeOf92⟩
theorem bs_92:BS prog 92 [(0,1),(1,1),(2,1)] [i64 0,i64 0,i64 0]:=⟨⟨_,zeroValue92,rfl⟩,_,runUnderlying92,fun w=>by simp [sizeOf2]⟩
theorem aOB:EZ prog 92 [i64 0,i64 0,i64 0]:=⟨⟨_,zeroValue92,rfl⟩,⟨t92,typeInfo92,by show (24:Nat)<=128;decide,rfl,by kernel_rfl,_,rfl,rfl⟩⟩
theorem bs_51:BS prog 51 [(0,1),(1,1),(2,1),(3,1)] [i64 0,i64 0,zS none 0 0,zS none 0 0]:=⟨⟨_,zeroValue51,rfl⟩,_,runUnderlying51,fun w=>by simp [sizeOf2,sizeOf25,sizeOf49]⟩
theorem aHh:FA prog 51 2 2:=⟨_,_,_,runUnderlying51,rfl,sizeOf25,rfl,rfl⟩
theorem aMo:FA prog 51 3 3:=⟨_,_,_,runUnderlying51,rfl,sizeOf49,rfl,rfl⟩
theorem sc_49:SC prog 49:=⟨isAgg49,sizeOf49⟩
theorem ag_51:AG prog 51 4:=⟨isAgg51,sizeOf51⟩
theorem fa_319_0:FA prog 319 0 0:=⟨_,_,_,runUnderlying319,rfl,sizeOf2,rfl,rfl⟩
theorem fa_319_1:FA prog 319 1 1:=⟨_,_,_,runUnderlying319,rfl,sizeOf2,rfl,rfl⟩
theorem aSZ:AG prog 275 2:=⟨isAgg275,sizeOf275⟩
theorem ez_275:EZ prog 275 [i64 0,i64 0]:=⟨⟨_,zeroValue275,rfl⟩,⟨t275,typeInfo275,by show (16:Nat)<=128;decide,rfl,by kernel_rfl,_,rfl,rfl⟩⟩
theorem ag_319:AG prog 319 2:=⟨isAgg319,sizeOf319⟩
theorem ez_225:EZ prog 225 [zS none 0 0]:=⟨⟨_,zeroValue225,rfl⟩,⟨t225,typeInfo225,by show (24:Nat)<=128;decide,rfl,by kernel_rfl,_,rfl,rfl⟩⟩
theorem fa_164_0:FA prog 164 0 0:=⟨_,_,_,runUnderlying164,rfl,sizeOf2,rfl,rfl⟩
theorem fa_164_1:FA prog 164 1 1:=⟨_,_,_,runUnderlying164,rfl,sizeOf2,rfl,rfl⟩
theorem ez_159:EZ prog 159 [i64 0,i64 0,str [],zS none 0 0]:=⟨⟨_,zeroValue159,rfl⟩,⟨t159,typeInfo159,by show (56:Nat)<=128;decide,rfl,by kernel_rfl,_,rfl,rfl⟩⟩
theorem fa_78_1:FA prog 78 1 1:=⟨_,_,_,runUnderlying78,rfl,sizeOf2,rfl,rfl⟩
theorem aLp:AG prog 101 3:=⟨isAgg101,sizeOf101⟩
theorem ez_101:EZ prog 101 [str [],i64 0,zS none 0 0]:=⟨⟨_,zeroValue101,rfl⟩,⟨t101,typeInfo101,by show (48:Nat)<=128;decide,rfl,by kernel_rfl,_,rfl,rfl⟩⟩
theorem fa_81_0:FA prog 81 0 0:=⟨_,_,_,runUnderlying81,rfl,sizeOf2,rfl,rfl⟩
theorem ez_103:EZ prog 103 [i64 0,zS none 0 0]:=⟨⟨_,zeroValue103,rfl⟩,⟨t103,typeInfo103,by show (32:Nat)<=128;decide,rfl,by kernel_rfl,_,rfl,rfl⟩⟩
theorem ez_105:EZ prog 105 [str [],str [],str []]:=⟨⟨_,zeroValue105,rfl⟩,⟨t105,typeInfo105,by show (48:Nat)<=128;decide,rfl,by kernel_rfl,_,rfl,rfl⟩⟩
theorem aMp:AG prog 36 5:=⟨isAgg36,sizeOf36⟩
theorem sl_294:SLT prog 294 298 2:=⟨runUnderlying294,sizeOf298⟩
theorem ez_298:EZ prog 298 [i64 0,Value.bool false]:=⟨⟨_,zeroValue298,rfl⟩,⟨t298,typeInfo298,by show (16:Nat)<=128;decide,rfl,by kernel_rfl,_,rfl,rfl⟩⟩
theorem sc_321:SC prog 321:=⟨isAgg321,sizeOf321⟩
theorem bs_298:BS prog 298 [(0,1),(1,1)] [i64 0,Value.bool false]:=⟨⟨_,zeroValue298,rfl⟩,_,runUnderlying298,fun w=>by simp [sizeOf2,sizeOf4]⟩
theorem sc_294:SC prog 294:=⟨isAgg294,sizeOf294⟩
theorem ag_298:AG prog 298 2:=⟨isAgg298,sizeOf298⟩
theorem aUr:FA prog 298 0 0:=⟨_,_,_,runUnderlying298,rfl,sizeOf2,rfl,rfl⟩
theorem fa_298_1:FA prog 298 1 1:=⟨_,_,_,runUnderlying298,rfl,sizeOf4,rfl,rfl⟩
theorem sc_4:SC prog 4:=⟨isAgg4,sizeOf4⟩
theorem aTa:SLT prog 221 3 1:=⟨runUnderlying221,sizeOf3⟩
theorem ez_3:EZ prog 3 [i64 0]:=⟨⟨_,zeroValue3,rfl⟩,⟨t3,typeInfo3,by show (8:Nat)<=128;decide,rfl,by kernel_rfl,_,rfl,rfl⟩⟩
theorem sc_3:SC prog 3:=⟨isAgg3,sizeOf3⟩
theorem aFW:SLT prog 188 193 3:=⟨runUnderlying188,sizeOf193⟩
theorem ag_193:AG prog 193 3:=⟨isAgg193,sizeOf193⟩
theorem aUs:FA prog 193 0 0:=⟨_,_,_,runUnderlying193,rfl,sizeOf2,rfl,rfl⟩
theorem aUt:FA prog 193 1 1:=⟨_,_,_,runUnderlying193,rfl,sizeOf9,rfl,rfl⟩
theorem aUu:FA prog 193 2 2:=⟨_,_,_,runUnderlying193,rfl,sizeOf2,rfl,rfl⟩
theorem fa_51_0:FA prog 51 0 0:=⟨_,_,_,runUnderlying51,rfl,sizeOf2,rfl,rfl⟩
theorem fa_51_1:FA prog 51 1 1:=⟨_,_,_,runUnderlying51,rfl,sizeOf2,rfl,rfl⟩
theorem bs_360:BS prog 360 [(0,2),(2,1)] [i64 0,i64 0,zS none 0 0]:=⟨⟨_,zeroValue360,rfl⟩,_,runUnderlying360,fun w=>by simp [sizeOf275,sizeOf358]⟩
theorem aGl:FA prog 360 1 2:=⟨_,_,_,runUnderlying360,rfl,sizeOf358,rfl,rfl⟩
theorem aPW:SC prog 358:=⟨isAgg358,sizeOf358⟩
theorem aNK:SLT prog 358 336 1:=⟨runUnderlying358,sizeOf336⟩
theorem ez_336:EZ prog 336 [Value.pointer none]:=⟨⟨_,zeroValue336,rfl⟩,⟨t336,typeInfo336,by show (8:Nat)<=128;decide,rfl,by kernel_rfl,_,rfl,rfl⟩⟩
theorem aPX:FA prog 360 0 0:=⟨_,_,_,runUnderlying360,rfl,sizeOf275,rfl,rfl⟩
theorem aTb:SC prog 336:=⟨isAgg336,sizeOf336⟩
theorem bs_252:BS prog 252 [(0,1),(1,1),(2,1)] [zS none 0 0,zS none 0 0,Value.map none]:=⟨⟨_,zeroValue252,rfl⟩,_,runUnderlying252,fun w=>by simp [sizeOf172,sizeOf198,sizeOf32]⟩
theorem aUv:FA prog 252 0 0:=⟨_,_,_,runUnderlying252,rfl,sizeOf32,rfl,rfl⟩
theorem aPY:FA prog 252 2 2:=⟨_,_,_,runUnderlying252,rfl,sizeOf198,rfl,rfl⟩
theorem aPZ:SC prog 198:=⟨isAgg198,sizeOf198⟩
theorem ko_9:aOw prog 9 aO:=keyOk_str runUnderlying9
theorem aUw:FA prog 252 1 1:=⟨_,_,_,runUnderlying252,rfl,sizeOf172,rfl,rfl⟩
theorem bs_200:BS prog 200 [(0,5),(5,1),(6,1),(7,1)] [zS none 0 0,zS none 0 0,zS none 0 0,zS none 0 0,zS none 0 0,zS none 0 0,zS none 0 0,Value.map none]:=⟨⟨_,zeroValue200,rfl⟩,_,runUnderlying200,fun w=>by simp [sizeOf123,sizeOf198,sizeOf36,sizeOf56]⟩
theorem aMq:FA prog 200 0 0:=⟨_,_,_,runUnderlying200,rfl,sizeOf36,rfl,rfl⟩
theorem aUx:FA prog 200 1 5:=⟨_,_,_,runUnderlying200,rfl,sizeOf56,rfl,rfl⟩
theorem aQa:FA prog 200 3 7:=⟨_,_,_,runUnderlying200,rfl,sizeOf198,rfl,rfl⟩
theorem aQb:FA prog 200 2 6:=⟨_,_,_,runUnderlying200,rfl,sizeOf123,rfl,rfl⟩
theorem sc_123:SC prog 123:=⟨isAgg123,sizeOf123⟩
theorem bs_190:BS prog 190 [(0,1),(1,1),(2,1),(3,1)] [zS none 0 0,Value.map none,zS none 0 0,Value.nilFunc]:=⟨⟨_,zeroValue190,rfl⟩,_,runUnderlying190,fun w=>by simp [sizeOf188,sizeOf52,sizeOf65,sizeOf66]⟩
theorem aEs:SC prog 187:=⟨isAgg187,sizeOf187⟩
theorem aUy:FA prog 190 3 3:=⟨_,_,_,runUnderlying190,rfl,sizeOf66,rfl,rfl⟩
theorem sc_66:SC prog 66:=⟨isAgg66,sizeOf66⟩
theorem aQc:FA prog 190 1 1:=⟨_,_,_,runUnderlying190,rfl,sizeOf65,rfl,rfl⟩
theorem sc_65:SC prog 65:=⟨isAgg65,sizeOf65⟩
theorem aCk:FA prog 190 0 0:=⟨_,_,_,runUnderlying190,rfl,sizeOf52,rfl,rfl⟩
theorem aQd:SC prog 52:=⟨isAgg52,sizeOf52⟩
theorem aEt:FA prog 190 2 2:=⟨_,_,_,runUnderlying190,rfl,sizeOf188,rfl,rfl⟩
theorem aNL:SC prog 188:=⟨isAgg188,sizeOf188⟩
theorem bs_193:BS prog 193 [(0,1),(1,1),(2,1)] [i64 0,str [],i64 0]:=⟨⟨_,zeroValue193,rfl⟩,_,runUnderlying193,fun w=>by simp [sizeOf2,sizeOf9]⟩
theorem aLq:EZ prog 193 [i64 0,str [],i64 0]:=⟨⟨_,zeroValue193,rfl⟩,⟨t193,typeInfo193,by show (32:Nat)<=128;decide,rfl,by kernel_rfl,_,rfl,rfl⟩⟩
theorem ko_2:aOw prog 2 Int:=keyOk_int runUnderlying2
theorem aRV:AG prog 27 5:=⟨isAgg27,sizeOf27⟩
theorem st_92:prog.stoodInHeld 92=false:=by kernel_rfl
theorem eq_92 {x y:Edge}:EQT prog 92 [i64 x.F,i64 x.B,i64 x.To] [i64 y.F,i64 y.B,i64 y.To] (decide (x=y)):=by
 refine ⟨by kernel_rfl,fun w=>?_⟩
 have h2:∀ (a b:Int),(Op.equalIn 9999 2 (i64 a) (i64 b)).run prog w=.ok (a == b) w:=fun a b=>run_eqInI 9998 (runUnderlying2 w)
 have:Op.maxDepth=9999+1:=rfl
 unfold Op.equal
 rw [this]
 unfold Op.equalIn
 simp [runUnderlying92,st_92,part,h2,isAgg2]
 cases x;cases y
 simp
 repeat' split<;>simp_all
theorem Tryz_mixed:prog.follows .mixedOrders=true:=by kernel_rfl
abbrev zC (d:iZ) (a:Option Addr) (c:Nat) (b:Option Addr) (e:Nat):List Value:=[i64 d.N,i64 d.I,Value.slice a d.L.length c,Value.slice b d.E.length e]
abbrev zCa (d:iZ) (a:Option Addr) (c:Nat) (b:Option Addr) (e:Nat):Array Value:=#[i64 d.N,i64 d.I,Value.slice a d.L.length c,Value.slice b d.E.length e]
abbrev zG:List Value:=[i64 0,i64 0,Value.slice none 0 0,Value.slice none 0 0]
abbrev zGa:Array Value:=#[i64 0,i64 0,Value.slice none 0 0,Value.slice none 0 0]
abbrev zK:List Value:=[i64 0,i64 0,Value.slice none 0 0,Value.slice none 0 0,Value.slice none 0 0,Value.slice none 0 0]
abbrev zKa:Array Value:=#[i64 0,i64 0,Value.slice none 0 0,Value.slice none 0 0,Value.slice none 0 0,Value.slice none 0 0]
end Gv
namespace Gv
open Go.Value renaming slice→zS
open Gv.Hp renaming le_refl→zR
open Go Go.Proofs Go.Proofs.Tryz
theorem nU {p:Prop} (h:p:=by first|assumption|(apply st_cK;assumption;exact lR)):p:=h
theorem st_HR {p:Prop} (h:p:=by first|assumption|(apply st_rK;assumption;exact lR)):p:=h
theorem st_S {p:Prop} (h:p:=by with_reducible first|exact fM|exact fZ|exact aSU|exact aPM|exact sl_76|exact sl_22|exact sl_23|exact sl_24|exact yP|exact aAd|exact vV|exact yQ|exact aCj|exact yR|exact gR|exact aPT|exact mM|exact yI|exact vW|exact qV|exact mA|exact sl_294|exact aTa|exact aFW|exact aNK):p:=h
theorem yJ {p:Prop} (h:p:=by with_reducible first|exact pE|exact kQ|exact sc_277|exact sc_162|exact sc_76|exact aMe|exact sc_22|exact sc_23|exact sc_24|exact aIH|exact aFV|exact aKH|exact aPO|exact aMj|exact aPQ|exact sc_34|exact sc_5|exact aHT|exact aCQ|exact sc_49|exact sc_321|exact sc_294|exact sc_4|exact sc_3|exact aPW|exact aTb|exact aPZ|exact sc_123|exact aEs|exact sc_66|exact sc_65|exact aQd|exact aNL):p:=h
theorem aFX {p:Prop} (h:p:=by with_reducible first|exact ag_164|exact ag_78|exact ag_81|exact ag_84|exact aHf|exact aPP|exact aPR|exact aBh|exact aLo|exact aSV|exact aFr|exact ag_51|exact aSZ|exact ag_319|exact aLp|exact aMp|exact ag_298|exact ag_193|exact aRV):p:=h
theorem st_F {p:Prop} (h:p:=by with_reducible first|exact fa_164_2|exact fa_164_3|exact fa_78_0|exact fa_78_2|exact fa_81_1|exact fa_84_0|exact fa_84_1|exact fa_84_2|exact fa_27_0|exact fa_27_1|exact fa_27_2|exact fa_27_3|exact fa_27_4|exact sB|exact aII|exact aMf|exact wB|exact aMg|exact wC|exact aMh|exact aPN|exact aMi|exact aBM|exact aIJ|exact aHg|exact aMk|exact aIK|exact aIL|exact aUp|exact aMl|exact aPt|exact fa_36_4|exact aFp|exact aFq|exact aKb|exact sC|exact wD|exact aPU|exact fa_127_1|exact fa_127_2|exact aPV|exact aSX|exact aMn|exact aSY|exact aHh|exact aMo|exact fa_319_0|exact fa_319_1|exact fa_164_0|exact fa_164_1|exact fa_78_1|exact fa_81_0|exact aUr|exact fa_298_1|exact aUs|exact aUt|exact aUu|exact fa_51_0|exact fa_51_1|exact aGl|exact aPX|exact aUv|exact aPY|exact aUw|exact aMq|exact aUx|exact aQa|exact aQb|exact aUy|exact aQc|exact aCk|exact aEt):p:=h
theorem za_3:ZA prog 3 [i64 0]:=⟨_,zeroValue3,rfl⟩
theorem za_36:ZA prog 36 [zS none 0 0,zS none 0 0,zS none 0 0,zS none 0 0,zS none 0 0]:=⟨_,zeroValue36,rfl⟩
theorem za_51:ZA prog 51 [i64 0,i64 0,zS none 0 0,zS none 0 0]:=⟨_,zeroValue51,rfl⟩
theorem za_92:ZA prog 92 [i64 0,i64 0,i64 0]:=⟨_,zeroValue92,rfl⟩
theorem za_97:ZA prog 97 [i64 0,i64 0,zS none 0 0]:=⟨_,zeroValue97,rfl⟩
theorem za_101:ZA prog 101 [str ([]:aO),i64 0,zS none 0 0]:=⟨_,zeroValue101,rfl⟩
theorem za_103:ZA prog 103 [i64 0,zS none 0 0]:=⟨_,zeroValue103,rfl⟩
theorem za_105:ZA prog 105 [str ([]:aO),str ([]:aO),str ([]:aO)]:=⟨_,zeroValue105,rfl⟩
theorem za_127:ZA prog 127 [str ([]:aO),i64 0,i64 0,zS none 0 0]:=⟨_,zeroValue127,rfl⟩
theorem za_159:ZA prog 159 [i64 0,i64 0,str ([]:aO),zS none 0 0]:=⟨_,zeroValue159,rfl⟩
theorem za_176:ZA prog 176 [str ([]:aO),i64 0,i64 0,zS none 0 0]:=⟨_,zeroValue176,rfl⟩
theorem za_187:ZA prog 187 [Value.pointer none]:=⟨_,zeroValue187,rfl⟩
theorem za_193:ZA prog 193 [i64 0,str ([]:aO),i64 0]:=⟨_,zeroValue193,rfl⟩
theorem za_275:ZA prog 275 [i64 0,i64 0]:=⟨_,zeroValue275,rfl⟩
theorem za_294:ZA prog 294 [zS none 0 0]:=⟨_,zeroValue294,rfl⟩
theorem za_298:ZA prog 298 [i64 0,Value.bool false]:=⟨_,zeroValue298,rfl⟩
theorem za_321:ZA prog 321 [Value.nilFunc]:=⟨_,zeroValue321,rfl⟩
theorem st_r {p:Prop} (h:p:=by with_reducible first|exact runUnderlying113|exact runUnderlying198|exact runUnderlying2|exact runUnderlying3|exact runUnderlying4|exact runUnderlying5|exact runUnderlying65|exact runUnderlying9):p:=h
theorem st_h {p:Prop} (h:p:=by with_reducible first|exact aPS|exact bs_176|exact aSW|exact bs_92|exact bs_51|exact bs_298|exact bs_360|exact bs_252|exact bs_200|exact bs_190|exact bs_193):p:=h
theorem st_e {p:Prop} (h:p:=by with_reducible first|exact aIG|exact aKx|exact aDb|exact ez_5|exact aNH|exact aNI|exact aNJ|exact aMm|exact aOB|exact ez_275|exact ez_225|exact ez_159|exact ez_101|exact ez_103|exact ez_105|exact ez_298|exact ez_3|exact ez_336|exact aLq):p:=h
theorem st_u {p:Prop} (h:p:=by with_reducible first|exact underlying123|exact underlying140|exact underlying171|exact underlying172|exact underlying188|exact underlying25|exact underlying29|exact underlying358|exact underlying49|exact underlying5|exact underlying52|exact underlying56|exact underlying9):p:=h
theorem st_z {p:Prop} (h:p:=by with_reducible first|exact sizeOf101|exact sizeOf103|exact sizeOf105|exact sizeOf123|exact sizeOf127|exact sizeOf157|exact sizeOf159|exact sizeOf172|exact sizeOf176|exact sizeOf187|exact sizeOf188|exact sizeOf193|exact sizeOf2|exact sizeOf225|exact sizeOf25|exact sizeOf275|exact sizeOf29|exact sizeOf294|exact sizeOf298|exact sizeOf3|exact sizeOf32|exact sizeOf321|exact sizeOf33|exact sizeOf34|exact sizeOf358|exact sizeOf36|exact sizeOf49|exact sizeOf51|exact sizeOf52|exact sizeOf9|exact sizeOf92|exact sizeOf97|exact sizeOf99):p:=h
theorem st_y {p:Prop} (h:p:=by with_reducible first|exact za_3|exact za_36|exact za_51|exact za_92|exact za_97|exact za_101|exact za_103|exact za_105|exact za_127|exact za_159|exact za_176|exact za_187|exact za_193|exact za_275|exact za_294|exact za_298|exact za_321):p:=h
theorem aSK {p:Prop} (h:p:=by first|exact V_moveC|exact V_assignC|(apply V_B;first|(apply V_add;exact cJ;exact cJ)|(apply V_sub;exact cJ;exact cJ)|(apply V_mul;exact cJ;exact cJ)|(apply V_lss;exact cJ;exact cJ)|(apply V_leq;exact cJ;exact cJ)|(apply V_gtr;exact cJ;exact cJ)|(apply V_geq;exact cJ;exact cJ)|(apply V_eql;exact cJ;exact cJ)|(apply V_neq;exact cJ;exact cJ)|(apply V_eqlS;exact cJ;exact cJ)|(apply V_neqS;exact cJ;exact cJ)|(apply V_lssS;exact cJ;exact cJ)|(apply V_leqS;exact cJ;exact cJ)|(apply V_gtrS;exact cJ;exact cJ)|(apply V_geqS;exact cJ;exact cJ))|exact V_moveF|exact V_assignF|(apply V_move;exact cJ)|(apply V_assign;exact cJ)|(apply V_fldP;exact cJ;exact st_F)|(apply V_fldE;exact cJ;exact nU;exact st_F)|(apply V_fldO;exact cJ;exact eW;exact aLm;exact eW;exact st_F)|(apply V_L;first|(apply V_ldB;exact cJ;exact eW;exact aLm;exact rfl;exact yJ)|(apply V_ldBG;exact cJ;exact eW;exact aLm;exact aFX;exact st_D)|(apply aOx (t:=0);exact cJ;exact nU;exact eW;exact rfl;exact yJ)|(apply aOx (t:=1);exact cJ;exact nU;exact eW;exact rfl;exact yJ)|(apply aOx (t:=2);exact cJ;exact nU;exact eW;exact rfl;exact yJ)|(apply aOx (t:=3);exact cJ;exact nU;exact eW;exact rfl;exact yJ)|(apply aOx (t:=4);exact cJ;exact nU;exact eW;exact rfl;exact yJ)|(apply aOx (t:=5);exact cJ;exact nU;exact eW;exact rfl;exact yJ)|(apply aOx (t:=6);exact cJ;exact nU;exact eW;exact rfl;exact yJ)|(apply aOx (t:=7);exact cJ;exact nU;exact eW;exact rfl;exact yJ)|(apply aIF (t:=0);exact cJ;exact nU;exact eW;exact aFX;exact rfl;exact rfl)|(apply aIF (t:=1);exact cJ;exact nU;exact eW;exact aFX;exact rfl;exact rfl)|(apply aIF (t:=2);exact cJ;exact nU;exact eW;exact aFX;exact rfl;exact rfl)|(apply aIF (t:=3);exact cJ;exact nU;exact eW;exact aFX;exact rfl;exact rfl)|(apply aIF (t:=4);exact cJ;exact nU;exact eW;exact aFX;exact rfl;exact rfl)|(apply aIF (t:=5);exact cJ;exact nU;exact eW;exact aFX;exact rfl;exact rfl)|(apply aIF (t:=6);exact cJ;exact nU;exact eW;exact aFX;exact rfl;exact rfl)|(apply aIF (t:=7);exact cJ;exact nU;exact eW;exact aFX;exact rfl;exact rfl)|(apply V_ldO (t:=0);exact cJ;exact eW;exact aLm;exact eW;exact rfl;exact rfl;exact yJ)|(apply V_ldO (t:=1);exact cJ;exact eW;exact aLm;exact eW;exact rfl;exact rfl;exact yJ)|(apply V_ldO (t:=2);exact cJ;exact eW;exact aLm;exact eW;exact rfl;exact rfl;exact yJ)|(apply V_ldO (t:=3);exact cJ;exact eW;exact aLm;exact eW;exact rfl;exact rfl;exact yJ)|(apply V_ldO (t:=4);exact cJ;exact eW;exact aLm;exact eW;exact rfl;exact rfl;exact yJ)|(apply V_ldOG (t:=0);exact cJ;exact eW;exact aLm;exact eW;exact rfl;exact aFX;exact rfl;exact rfl)|(apply V_ldOG (t:=1);exact cJ;exact eW;exact aLm;exact eW;exact rfl;exact aFX;exact rfl;exact rfl)|(apply V_ldOG (t:=2);exact cJ;exact eW;exact aLm;exact eW;exact rfl;exact aFX;exact rfl;exact rfl)|(apply aOz (t:=0);exact cJ;exact eW;exact eW;exact lR;exact rfl;exact yJ)|(apply aOz (t:=1);exact cJ;exact eW;exact eW;exact lR;exact rfl;exact yJ)|(apply aOz (t:=2);exact cJ;exact eW;exact eW;exact lR;exact rfl;exact yJ)|(apply aOz (t:=3);exact cJ;exact eW;exact eW;exact lR;exact rfl;exact yJ)|(apply aOz (t:=4);exact cJ;exact eW;exact eW;exact lR;exact rfl;exact yJ)|(apply aOz (t:=5);exact cJ;exact eW;exact eW;exact lR;exact rfl;exact yJ)|(apply aOz (t:=6);exact cJ;exact eW;exact eW;exact lR;exact rfl;exact yJ)|(apply aOz (t:=7);exact cJ;exact eW;exact eW;exact lR;exact rfl;exact yJ)|(apply aSS (t:=0);exact cJ;exact eW;exact eW;exact lR;exact aFX;exact rfl;exact rfl)|(apply aSS (t:=1);exact cJ;exact eW;exact eW;exact lR;exact aFX;exact rfl;exact rfl)|(apply aSS (t:=2);exact cJ;exact eW;exact eW;exact lR;exact aFX;exact rfl;exact rfl)|(apply aSS (t:=3);exact cJ;exact eW;exact eW;exact lR;exact aFX;exact rfl;exact rfl)|(apply aOy (t:=0);exact eW;exact nU;exact cJ;exact rfl;exact yJ)|(apply aOy (t:=1);exact eW;exact nU;exact cJ;exact rfl;exact yJ)|(apply aOy (t:=2);exact eW;exact nU;exact cJ;exact rfl;exact yJ)|(apply aOy (t:=3);exact eW;exact nU;exact cJ;exact rfl;exact yJ)|(apply aOy (t:=4);exact eW;exact nU;exact cJ;exact rfl;exact yJ)|(apply aOy (t:=5);exact eW;exact nU;exact cJ;exact rfl;exact yJ)|(apply aOy (t:=6);exact eW;exact nU;exact cJ;exact rfl;exact yJ)|(apply aOy (t:=7);exact eW;exact nU;exact cJ;exact rfl;exact yJ)|(apply aSR (t:=0);exact eW;exact nU;exact cJ;exact aFX;exact rfl;exact rfl)|(apply aSR (t:=1);exact eW;exact nU;exact cJ;exact aFX;exact rfl;exact rfl)|(apply aSR (t:=2);exact eW;exact nU;exact cJ;exact aFX;exact rfl;exact rfl)|(apply aSR (t:=3);exact eW;exact nU;exact cJ;exact aFX;exact rfl;exact rfl))|(apply V_lenS;exact st_S;exact cJ)|(apply V_nilE;exact cJ;exact nU)|(apply V_nilP;exact cJ)|(apply V_nilO;exact cJ;exact eW;exact aLm;exact eW)|(apply V_ixE;exact cJ;exact cJ;exact st_HR;exact eW;exact rfl;exact st_S;exact rfl)|(apply V_ixO;exact cJ;exact cJ;exact eW;exact aLm;exact eW;exact rfl;exact st_S;exact rfl)|(apply V_extract;exact cJ;exact rfl)|(apply V_pickT;exact cJ;exact aOT;exact cJ)|(apply V_pickF;exact cJ;exact aOT;exact cJ)|(apply V_not;exact cJ)|(apply V_lenStr;exact st_r;exact cJ)|(apply V_ixS;exact st_r;exact cJ;exact cJ;exact eW)|(apply V_conv64;exact st_r;exact cJ;exact ⟨_,st_r⟩)|(apply V_convu8';exact st_r;exact cJ;exact ⟨_,st_r⟩)|(apply V_u8sub';exact cJ;exact cJ)|(apply V_neg;exact cJ)|(apply V_quo;exact cJ;exact cJ;exact eW)|(apply V_rem;exact cJ;exact cJ;exact eW)|(apply V_cat;exact cJ;exact cJ;exact eW)|(apply V_neqB;exact st_r;exact cJ;exact cJ)|(apply V_min;exact cJ;exact cJ)|(apply V_max;exact cJ;exact cJ)|(apply V_slSLH;exact st_r;exact cJ;exact cJ;exact cJ;exact eW)|(apply V_slSL;exact st_r;exact cJ;exact cJ;exact eW)|(apply V_slSH;exact st_r;exact cJ;exact cJ;exact eW)|(apply V_isNil;exact st_S;exact cJ;exact rfl)|(apply V_build;exact st_h;exact rfl;exact (by kernel_rfl))|(apply aVU;exact rfl)):p:=h
theorem aJK {P:Program} {n:Nat} {f:Nat->Value} {w:World} {ty:TypeId} {pos:String} {af:Array Go.Edge} {C:World->Prop} {R:(Nat->Value)->World->Prop} {os:List Oper} {d:Nat} {op:Op} {v:Value} {bs:List Nat} {m:Nat} {listed:Array Bool} (i:Nat) (h:WA P n os.toArray C bs R m (listed.setIfInBounds i true) (upd f d v) w) (hi:aGZ os i=some ⟨some d,op,ty,pos,af,none⟩:=by exact rfl) (hB:lookB os.toArray bs listed i=true:=by kernel_rfl) (hC:C w:=by first|exact ⟨_,by assumption⟩|exact ⟨_,aF.weakK (by assumption) lR⟩) (hr:∀ w,C w->EX P f op v d ty pos af w:=by rintro _ ⟨_,_⟩;exact aSK):WA P n os.toArray C bs R (m+1) listed f w:=V_WA hi hB hC hr h
theorem aBL {p q:Prop} (k:q) (h:Hd q->p:=by
 intro hk
 first
  |(apply VO;exact aSK)
  |(apply VQ;intro _ _;exact aSK)
  |(apply bN)
  |with_reducible apply aD
  |with_reducible apply bX
  |(apply aJ)
  |(apply aX)
  |(apply bA)
  |(apply tP)
  |(apply aUq;exact cJ;exact aOT)
  |(apply aUF;exact cJ;exact aOT)
  |with_reducible apply gF
  |with_reducible apply nF
  |(with_reducible apply aNx;exact rfl)
  |(apply V_onT;exact rfl;exact cJ;exact aOT)
  |(apply V_onF;exact rfl;exact cJ;exact aOT)
  |(apply V_offF;exact rfl;exact cJ;exact aOT)
  |(apply V_offT;exact rfl;exact cJ;exact aOT)
  |(apply Q_onT;exact rfl;exact cJ;exact aOT)
  |(apply Q_onF;exact rfl;exact cJ;exact aOT)
  |(apply Q_offF;exact rfl;exact cJ;exact aOT)
  |(apply Q_offT;exact rfl;exact cJ;exact aOT)
  |(apply aTd;exact rfl;exact cJ)
  |(apply aTx;exact rfl;exact cJ)
  |(apply V_WE;exact rfl;rintro _ ⟨_,_⟩;exact aSK)
  |(apply V_WT;exact rfl;intro _;exact aSK)
 exact hk.k):p:=h ⟨k⟩
theorem tD {p q:Prop} (k:q) (h:Hd q->p:=by
 intro hk
 repeat (first
  |(apply VO;exact aSK)
  |(apply VQ;intro _ _;exact aSK)
  |(apply bN)
  |with_reducible apply aD
  |with_reducible apply bX
  |(apply aJ)
  |(apply aX)
  |(apply bA)
  |(apply tP)
  |(apply aUq;exact cJ;exact aOT)
  |(apply aUF;exact cJ;exact aOT)
  |with_reducible apply gF
  |with_reducible apply nF
  |(with_reducible apply aNx;exact rfl)
  |(apply V_onT;exact rfl;exact cJ;exact aOT)
  |(apply V_onF;exact rfl;exact cJ;exact aOT)
  |(apply V_offF;exact rfl;exact cJ;exact aOT)
  |(apply V_offT;exact rfl;exact cJ;exact aOT)
  |(apply Q_onT;exact rfl;exact cJ;exact aOT)
  |(apply Q_onF;exact rfl;exact cJ;exact aOT)
  |(apply Q_offF;exact rfl;exact cJ;exact aOT)
  |(apply Q_offT;exact rfl;exact cJ;exact aOT)
  |(apply aTd;exact rfl;exact cJ)
  |(apply aTx;exact rfl;exact cJ)
  |(apply V_WE;exact rfl;rintro _ ⟨_,_⟩;exact aSK)
  |(apply V_WT;exact rfl;intro _;exact aSK))
 exact hk.k):p:=h ⟨k⟩
theorem st_call {p:Prop} (h:p:=by with_reducible first|exact call4|exact call5|exact call6|exact call7|exact call8|exact call9|exact call10|exact call11|exact call12|exact call13|exact call14|exact call15|exact call16|exact call17|exact call18|exact call19|exact call20|exact call21|exact call22|exact call23|exact call24|exact call25|exact call26|exact call27|exact call28|exact call29|exact call30|exact call31|exact call32|exact call33|exact call34|exact call35|exact call36|exact call37|exact call38|exact call39|exact call40|exact call41|exact call42|exact call43|exact call44|exact call45|exact call46|exact call47|exact call48|exact call49|exact call50|exact call51|exact call52|exact call53|exact call54|exact call55|exact call56|exact call57|exact call59|exact call60|exact call61|exact call62|exact call63|exact call64|exact call65|exact call66|exact call67|exact call68|exact call69|exact call70|exact call71|exact call72|exact call73|exact call74|exact call75|exact call76|exact call77|exact call78|exact call79|exact call80|exact call81|exact call82|exact call83|exact call84|exact call85|exact call89|exact call92|exact call93|exact call94|exact call95|exact call96|exact call97|exact call98|exact call99|exact call100|exact call101|exact call102|exact call103|exact call104|exact call105|exact call106|exact call107|exact call108|exact call109|exact call110|exact call111|exact call112|exact call113|exact call114|exact call115|exact call116|exact call117|exact call118|exact call119|exact call120|exact call121|exact call122|exact call123|exact call124|exact call125|exact call126|exact call127|exact call129|exact call142|exact call143|exact call144|exact call145|exact call146|exact call147|exact call148|exact call149|exact call150|exact call151|exact call152|exact call153|exact call154|exact call155|exact call156|exact call157|exact call158|exact call159|exact call160|exact call161|exact call162|exact call163|exact call164|exact call165|exact call166|exact call167|exact call169|exact call170|exact call171|exact call172|exact call173|exact call174|exact call175|exact call176|exact call177|exact call178|exact call179|exact call180|exact call181|exact call182|exact call183|exact call184|exact call186|exact call187|exact call195|exact call196|exact call197|exact call198|exact call199|exact call200|exact call201|exact call202|exact call203|exact call204|exact call205|exact call206|exact call207|exact call208|exact call209|exact call210|exact call211|exact call212|exact call213|exact call214|exact call215|exact call216|exact call217|exact call218|exact call219|exact call220|exact call221|exact call223|exact call225|exact call226|exact call227|exact call229|exact call231|exact call232|exact call237|exact call239|exact call240|exact call241|exact call242|exact call243|exact call244|exact call245|exact call246|exact call247|exact call248|exact call249|exact call250|exact call251|exact call252|exact call253|exact call271|exact call272|exact call279|exact call284|exact call285|exact call286|exact call287|exact call288|exact call289|exact call290|exact call291|exact call299|exact call300|exact call301):p:=h
theorem st_f {p:Prop} (h:p:=by with_reducible first|exact func3|exact func4|exact func5|exact func6|exact func7|exact func8|exact func9|exact func10|exact func11|exact func12|exact func13|exact func14|exact func15|exact func16|exact func17|exact func18|exact func19|exact func20|exact func21|exact func22|exact func23|exact func24|exact func25|exact func26|exact func27|exact func28|exact func29|exact func30|exact func31|exact func32|exact func33|exact func34|exact func35|exact func36|exact func37|exact func38|exact func39|exact func40|exact func41|exact func42|exact func43|exact func44|exact func45|exact func46|exact func47|exact func48|exact func49|exact func50|exact func51|exact func52|exact func53|exact func54|exact func56|exact func58|exact func59|exact func60|exact func61|exact func62|exact func63|exact func64|exact func65|exact func66|exact func67|exact func68|exact func69|exact func70|exact func71|exact func72|exact func73|exact func74|exact func75|exact func76|exact func77|exact func78|exact func79|exact func80|exact func81|exact func82|exact func83|exact func85|exact func89|exact func92|exact func93|exact func94|exact func95|exact func96|exact func97|exact func98|exact func99|exact func100|exact func101|exact func102|exact func103|exact func104|exact func105|exact func106|exact func107|exact func108|exact func109|exact func110|exact func111|exact func112|exact func113|exact func114|exact func115|exact func116|exact func117|exact func118|exact func119|exact func120|exact func121|exact func122|exact func123|exact func124|exact func125|exact func126|exact func127|exact func129|exact func142|exact func143|exact func144|exact func145|exact func146|exact func147|exact func148|exact func149|exact func150|exact func151|exact func152|exact func153|exact func154|exact func155|exact func156|exact func157|exact func158|exact func159|exact func160|exact func161|exact func162|exact func163|exact func164|exact func165|exact func166|exact func168|exact func169|exact func170|exact func172|exact func173|exact func174|exact func175|exact func176|exact func178|exact func180|exact func181|exact func182|exact func183|exact func184|exact func186|exact func187|exact func195|exact func196|exact func197|exact func198|exact func199|exact func200|exact func201|exact func202|exact func203|exact func204|exact func205|exact func206|exact func207|exact func208|exact func209|exact func210|exact func211|exact func212|exact func213|exact func214|exact func215|exact func216|exact func217|exact func218|exact func219|exact func220|exact func221|exact func225|exact func226|exact func227|exact func231|exact func232|exact func237|exact func239|exact func240|exact func241|exact func242|exact func243|exact func244|exact func245|exact func246|exact func247|exact func248|exact func249|exact func250|exact func251|exact func252|exact func253|exact func271|exact func272|exact func279|exact func284|exact func285|exact func286|exact func287|exact func288|exact func289|exact func290|exact func291|exact func299|exact func300|exact func301):p:=h
theorem aRW {p:Prop} (h:p:=by first|((with_reducible apply aPF);exact rfl;exact rfl)|((with_reducible apply V_rvG);exact cJ;exact eW;exact aLm;exact aFX;exact rfl;exact rfl)|((with_reducible apply V_rvB);exact cJ;exact eW;exact aLm;exact yJ;exact rfl)):p:=h
theorem st_X {p:Prop} (h:p:=by
 (repeat (first
  |exact bZ
  |(with_reducible apply Exists.intro)
  |((with_reducible apply And.intro);· first|exact bZ|(with_reducible assumption)|exact (Option.some.inj (by with_reducible assumption)).symm|exact rfl|assumption|exact zR _|exact lR|exact aFj _|(apply st_rK;assumption;exact lR)|(apply st_cK;assumption;exact lR)|exact bS (by assumption))
  |(with_reducible assumption)|exact aDq|exact rfl|assumption));first|done|fail):p:=h
theorem aEu {p q:Prop} (k:q) (h:Hd q->p:=by
 intro hk
 (first|apply st_ca|apply st_cb|apply st_cq);exact st_call;(first|(with_reducible intro z z)|skip);(first|((with_reducible first|apply zO|apply gE|apply mJ|apply aLw|apply uR|apply aCB|apply aDd|apply xC|apply aEM|apply uS|apply aLx|apply aKU|apply aQh|apply aDe|apply aNM|apply aQi|apply aKV|apply aOW|apply aRn|apply aAV|apply vN|apply uU|apply aFf|apply vO|apply aQj|apply aQk|apply aOX|apply aRo|apply aQl|apply aKy|apply aJm|apply aOY|apply aLy|apply aKz|apply aNN|apply aMN|apply aNO|apply aIc|apply aOZ|apply aId|apply aQm|apply aMO|apply aNP|apply aIe|apply aBl|apply lO|apply fQ|apply aLC|apply aLD|apply aGG|apply aRr|apply aPg|apply aNT|apply aIk|apply yF|apply qN|apply lP|apply mK|apply aHC|apply aCV|apply aLE|apply aIl|apply gK|apply aDl|apply aMP|apply aPb|apply aPc|apply aMQ|apply aJp|apply aDf|apply aEN|apply xD|apply aIg|apply sX|apply aAW|apply aRp|apply aQr|apply aJq|apply aPd|apply aKX|apply aTg|apply aJt|apply aEO|apply aGz|apply aFG|apply xE|apply aKY|apply aJC|apply aPe|apply aKZ|apply aQs|apply aDi|apply aCC|apply aPf|apply aER|apply aDj|apply aGE|apply aFI|apply aGF|apply sL|apply aAX|apply kC|apply aKA|apply vT|apply aAY|apply aES|apply aBj|apply xF|apply aTi|apply aDo|apply fK|apply pA|apply xK|apply rA|apply aIr|apply aCF|apply aGH|apply aRs|apply pJ|apply aCW|apply aRt|apply aJy|apply aJz|apply aRq|apply aJA|apply aGD|apply aMS|apply aFH|apply aEQ|apply aJB|apply aJu|apply pQ|apply aEP|apply aIh|apply aGA|apply aBD|apply aJw|apply aBE|apply aIi|apply aIj|apply aJx|apply aQv|apply aPi|apply aRu|apply aQw|apply aKB|apply aJD|apply aLF|apply aKC|apply aNU|apply aMY|apply aNV|apply aIn|apply lZ|apply aGI|apply aFL|apply aGJ|apply aBa|apply aBb|apply aBn|apply aDp|apply aEV|apply aFM|apply aFN|apply aET|apply aDk|apply aMT|apply aCD|apply aMU|apply aBk|apply nO|apply gU|apply aLA|apply aNS|apply zQ|apply aLB|apply aHB|apply aCE|apply gL|apply aMV|apply aQt|apply aUC|apply aTj|apply aQu|apply aIm|apply aEU|apply aHD|apply aMX|apply tL|apply aAZ|apply xI|apply aBm|apply iB|apply uV|apply yM|apply xJ|apply aJn|apply aKW|apply aIf|apply aQn|apply aPa|apply aTf|apply aNQ|apply aQo|apply aQp|apply aQq|apply aJo|apply aNR|apply aLz|apply pK);with_reducible assumption)|(with_reducible apply uT;with_reducible assumption)|(with_reducible apply sK;with_reducible assumption)|(with_reducible apply sM;with_reducible assumption)|(with_reducible apply qM;with_reducible assumption)|(with_reducible apply aFJ;with_reducible assumption)|(with_reducible apply aFK;with_reducible assumption)|(with_reducible apply aJr;with_reducible assumption)|(with_reducible apply aJs;with_reducible assumption)|(with_reducible apply aTh;with_reducible assumption)|(with_reducible apply aDg;with_reducible assumption)|(with_reducible apply aDh;with_reducible assumption)|(with_reducible apply aMR;with_reducible assumption)|(with_reducible apply kY;with_reducible assumption)|(with_reducible apply fH;with_reducible assumption)|(with_reducible apply qY;with_reducible assumption)|(with_reducible apply qZ;with_reducible assumption)|(with_reducible apply tK;with_reducible assumption)|(with_reducible apply aGB;with_reducible assumption)|(with_reducible apply aGC;with_reducible assumption)|(with_reducible apply aJv;with_reducible assumption)|(with_reducible apply mX;with_reducible assumption)|(with_reducible apply aPh;with_reducible assumption)|(with_reducible apply aDm;with_reducible assumption)|(with_reducible apply aDn;with_reducible assumption)|(with_reducible apply aMW;with_reducible assumption)|(with_reducible apply xG;with_reducible assumption)|(with_reducible apply xH;with_reducible assumption)|(with_reducible apply aHE;with_reducible assumption)|(with_reducible apply gM;with_reducible assumption)|(with_reducible apply lib_SortStr;all_goals (try with_reducible assumption))|(with_reducible apply lib_SortEdge;all_goals (try with_reducible assumption))|(with_reducible apply lib_SortPts;all_goals (try with_reducible assumption))|(with_reducible apply lib_Cut;all_goals (try with_reducible assumption))|(with_reducible apply lib_Split;all_goals (try with_reducible assumption))|(with_reducible apply aUz;all_goals (try with_reducible assumption))|(with_reducible apply lib_Join;all_goals (try with_reducible assumption))|(with_reducible apply aFF;all_goals (try with_reducible assumption))|(with_reducible apply aOV;all_goals (try with_reducible assumption)));(case hv=>exact rfl);(repeat (first|assumption|exact aDq|(apply st_rK;assumption;exact lR)|(apply st_cK;assumption;exact lR)|exact aFj _|exact lR|exact zR _|exact rfl|exact bS (by assumption)));exact hk.k;first|done|fail):p:=h ⟨k⟩
set_option maxRecDepth 100000 in
theorem aL {p:Prop} (h:p:=by
 repeat' (first
  |(apply st_i;exact cJ;exact cJ;exact eW;exact eW;exact rfl;exact st_S;exact rfl;intro z z zr;first|(have zr:=st_pd zr;subst zr)|obtain ⟨z,z,rfl,z⟩:=zr|obtain ⟨z,z,z,z,rfl,z,z⟩:=zr|obtain ⟨z,z,z,z,z,z,rfl,z,z,z⟩:=zr|obtain ⟨z,z,z,z,z,z,z,z,rfl,z,z,z,z⟩:=zr)
  |(apply st_iQ;exact cJ;exact cJ;exact eW;exact eW;exact rfl;exact st_S;exact rfl;intro z z zr;first|(have zr:=st_pd zr;subst zr)|obtain ⟨z,z,rfl,z⟩:=zr|obtain ⟨z,z,z,z,rfl,z,z⟩:=zr|obtain ⟨z,z,z,z,z,z,rfl,z,z,z⟩:=zr|obtain ⟨z,z,z,z,z,z,z,z,rfl,z,z,z,z⟩:=zr)
  |(apply st_iE;exact rfl;exact cJ;exact cJ;exact eW;exact eW;exact rfl;exact st_S;exact rfl;intro z z zr;first|(have zr:=st_pd zr;subst zr)|obtain ⟨z,z,rfl,z⟩:=zr|obtain ⟨z,z,z,z,rfl,z,z⟩:=zr|obtain ⟨z,z,z,z,z,z,rfl,z,z,z⟩:=zr|obtain ⟨z,z,z,z,z,z,z,z,rfl,z,z,z,z⟩:=zr)
  |(apply VO;exact aSK)
  |(apply VQ;intro _ _;exact aSK)
  |(apply bN)
  |with_reducible apply aD
  |with_reducible apply bX
  |(apply aJ)
  |(apply aX)
  |(apply bA)
  |(apply tP)
  |(apply aUq;exact cJ;exact aOT)
  |(apply aUF;exact cJ;exact aOT)
  |with_reducible apply gF
  |with_reducible apply nF
  |(with_reducible apply aNx;exact rfl)
  |(apply V_onT;exact rfl;exact cJ;exact aOT)
  |(apply V_onF;exact rfl;exact cJ;exact aOT)
  |(apply V_offF;exact rfl;exact cJ;exact aOT)
  |(apply V_offT;exact rfl;exact cJ;exact aOT)
  |(apply Q_onT;exact rfl;exact cJ;exact aOT)
  |(apply Q_onF;exact rfl;exact cJ;exact aOT)
  |(apply Q_offF;exact rfl;exact cJ;exact aOT)
  |(apply Q_offT;exact rfl;exact cJ;exact aOT)
  |(apply aTd;exact rfl;exact cJ)
  |(apply aTx;exact rfl;exact cJ)
  |(apply V_WE;exact rfl;rintro _ ⟨_,_⟩;exact aSK)
  |(apply V_WT;exact rfl;intro _;exact aSK)
  |apply aCe
  |with_reducible apply lT
  |with_reducible apply aCf
  |exact st_X
  |(apply aIw;exact rfl;exact rfl;refine aOA hm (fun z=>?_);subst z;exact st_X)
  |(apply aNy;exact rfl;exact rfl;exact rfl;refine aOA hm (fun z=>?_);subst z;exact st_X)
  |(apply retQ_3;exact rfl;exact rfl;exact rfl;exact rfl;refine aOA hm (fun z=>?_);subst z;exact st_X)
  |(apply retQ_m1;exact rfl;exact aRW;refine aOA hm (fun z=>?_);subst z;exact st_X)
  |(apply retQ_m2;exact rfl;exact aRW;exact aRW;refine aOA hm (fun z=>?_);subst z;exact st_X)
  |(apply aSL;exact rfl;exact aRW;exact aRW;exact aRW;refine aOA hm (fun z=>?_);subst z;exact st_X)
  |(apply retQ_0n;exact rfl;refine aOA hm (fun z=>?_);subst z;exact st_X)
  |(apply retQ_0;exact rfl;refine aOA hm (fun z=>?_);subst z;exact st_X)
  |(refine aBe st_f ?_)
  |intro (hm:(_:Option _)=some _)
  |intro (hr:∀ r',_=Sum.inr r'->_)
  |(with_reducible refine aCZ fun z=>?_)
  |(with_reducible refine aDa ?_)
  |(intro (zv:(_:Value)=_);subst zv)
  |intro z
  |((with_reducible apply st_we);first|exact ⟨_,by assumption⟩|exact ⟨_,aF.weakK (by assumption) lR⟩)
  |(apply nT;exact rfl)
  |(apply WE_s;exact rfl)
  |apply aCP
  |(have zq:=hr _ (Option.some.inj hm).symm;subst zq;have hm:=ho;clear hr ho;try dsimp only at hm)
  |obtain ⟨z,z,hm⟩:=aB hm
  |exact st_no hm
  |refine aGf (fun z z z=>?_)
  |refine aFe (fun z z=>?_)
  |refine aGh (fun z z z=>?_)
  |refine st_ba (by with_reducible assumption) (fun z z z=>?_)
  |refine aIs (T:=123) ([]:List bC) (fun z z z=>?_)
  |refine aIs (T:=140) ([]:List UInt8) (fun z z z=>?_)
  |refine aIs (T:=171) ([]:List (List bR)) (fun z z z=>?_)
  |refine aIs (T:=172) ([]:List bR) (fun z z z=>?_)
  |refine aIs (T:=25) ([]:List aO) (fun z z z=>?_)
  |refine aIs (T:=29) ([]:List Int) (fun z z z=>?_)
  |refine aIs (T:=49) ([]:List Edge) (fun z z z=>?_)
  |refine aIs (T:=52) ([]:List (List GPoint)) (fun z z z=>?_)
  |refine aIs (T:=56) ([]:List GPoint) (fun z z z=>?_)
  |refine st_p (fun z z z z=>?_)
  |(apply st_q2;exact cJ;exact cJ;(first|assumption|(apply st_rK;assumption;exact lR));assumption;exact st_M;assumption;exact st_S;exact st_u;exact st_e;exact rfl;exact rfl;exact rfl;exact rfl;intro z z z z)
  |(apply pU;intro z z)
  |refine aRj ?_
  |(apply bT)
  |(refine aEu ?_;first|(intro z z;repeat (first|(with_reducible refine aCZ fun z=>?_)|with_reducible refine aDa ?_|(intro (zv:(_:Value)=_);subst zv)|intro z))|skip)
  |((first|(apply oF;(with_reducible assumption);exact .head;(first|exact zR _|exact lR);intro zK zh zr zs bk)|(apply oG;(with_reducible assumption);exact .head;intro zK zh zr zs bk));refine aEu ?_;(first|(intro z z;repeat (first|(with_reducible refine aCZ fun z=>?_)|with_reducible refine aDa ?_|(intro (zv:(_:Value)=_);subst zv)|intro z))|skip);(have z:=bk _ _ (by with_reducible assumption);clear bk))
  |((first|(apply oF;(with_reducible assumption);exact zt1;(first|exact zR _|exact lR);intro zK zh zr zs bk)|(apply oG;(with_reducible assumption);exact zt1;intro zK zh zr zs bk));refine aEu ?_;(first|(intro z z;repeat (first|(with_reducible refine aCZ fun z=>?_)|with_reducible refine aDa ?_|(intro (zv:(_:Value)=_);subst zv)|intro z))|skip);(have z:=bk _ _ (by with_reducible assumption);clear bk))
  |((first|(apply oF;(with_reducible assumption);exact zt2;(first|exact zR _|exact lR);intro zK zh zr zs bk)|(apply oG;(with_reducible assumption);exact zt2;intro zK zh zr zs bk));refine aEu ?_;(first|(intro z z;repeat (first|(with_reducible refine aCZ fun z=>?_)|with_reducible refine aDa ?_|(intro (zv:(_:Value)=_);subst zv)|intro z))|skip);(have z:=bk _ _ (by with_reducible assumption);clear bk))
  |((first|(apply oF;(with_reducible assumption);exact zt3;(first|exact zR _|exact lR);intro zK zh zr zs bk)|(apply oG;(with_reducible assumption);exact zt3;intro zK zh zr zs bk));refine aEu ?_;(first|(intro z z;repeat (first|(with_reducible refine aCZ fun z=>?_)|with_reducible refine aDa ?_|(intro (zv:(_:Value)=_);subst zv)|intro z))|skip);(have z:=bk _ _ (by with_reducible assumption);clear bk))
  |((first|(apply oF;(with_reducible assumption);exact zt4;(first|exact zR _|exact lR);intro zK zh zr zs bk)|(apply oG;(with_reducible assumption);exact zt4;intro zK zh zr zs bk));refine aEu ?_;(first|(intro z z;repeat (first|(with_reducible refine aCZ fun z=>?_)|with_reducible refine aDa ?_|(intro (zv:(_:Value)=_);subst zv)|intro z))|skip);(have z:=bk _ _ (by with_reducible assumption);clear bk))
  |((first|(apply oF;(with_reducible assumption);exact .head;(first|exact zR _|exact lR);intro zK zh zr zs bk)|(apply oG;(with_reducible assumption);exact .head;intro zK zh zr zs bk));(first|(apply oF;(with_reducible assumption);exact .head;(first|exact zR _|exact lR);intro zK zh zr zs bk)|(apply oG;(with_reducible assumption);exact .head;intro zK zh zr zs bk));refine aEu ?_;(first|(intro z z;repeat (first|(with_reducible refine aCZ fun z=>?_)|with_reducible refine aDa ?_|(intro (zv:(_:Value)=_);subst zv)|intro z))|skip);(have z:=bk _ _ (by with_reducible assumption);clear bk);(have z:=bk _ _ (by with_reducible assumption);clear bk))
  |((first|(apply oF;(with_reducible assumption);exact zt1;(first|exact zR _|exact lR);intro zK zh zr zs bk)|(apply oG;(with_reducible assumption);exact zt1;intro zK zh zr zs bk));(first|(apply oF;(with_reducible assumption);exact zt1;(first|exact zR _|exact lR);intro zK zh zr zs bk)|(apply oG;(with_reducible assumption);exact zt1;intro zK zh zr zs bk));refine aEu ?_;(first|(intro z z;repeat (first|(with_reducible refine aCZ fun z=>?_)|with_reducible refine aDa ?_|(intro (zv:(_:Value)=_);subst zv)|intro z))|skip);(have z:=bk _ _ (by with_reducible assumption);clear bk);(have z:=bk _ _ (by with_reducible assumption);clear bk))
  |((first|(apply oF;(with_reducible assumption);exact zt1;(first|exact zR _|exact lR);intro zK zh zr zs bk)|(apply oG;(with_reducible assumption);exact zt1;intro zK zh zr zs bk));(first|(apply oF;(with_reducible assumption);exact .head;(first|exact zR _|exact lR);intro zK zh zr zs bk)|(apply oG;(with_reducible assumption);exact .head;intro zK zh zr zs bk));refine aEu ?_;(first|(intro z z;repeat (first|(with_reducible refine aCZ fun z=>?_)|with_reducible refine aDa ?_|(intro (zv:(_:Value)=_);subst zv)|intro z))|skip);(have z:=bk _ _ (by with_reducible assumption);clear bk);(have z:=bk _ _ (by with_reducible assumption);clear bk))
  |((first|(apply oF;(with_reducible assumption);exact zt2;(first|exact zR _|exact lR);intro zK zh zr zs bk)|(apply oG;(with_reducible assumption);exact zt2;intro zK zh zr zs bk));(first|(apply oF;(with_reducible assumption);exact zt1;(first|exact zR _|exact lR);intro zK zh zr zs bk)|(apply oG;(with_reducible assumption);exact zt1;intro zK zh zr zs bk));refine aEu ?_;(first|(intro z z;repeat (first|(with_reducible refine aCZ fun z=>?_)|with_reducible refine aDa ?_|(intro (zv:(_:Value)=_);subst zv)|intro z))|skip);(have z:=bk _ _ (by with_reducible assumption);clear bk);(have z:=bk _ _ (by with_reducible assumption);clear bk))
  |((first|(apply oF;(with_reducible assumption);exact zt2;(first|exact zR _|exact lR);intro zK zh zr zs bk)|(apply oG;(with_reducible assumption);exact zt2;intro zK zh zr zs bk));(first|(apply oF;(with_reducible assumption);exact zt1;(first|exact zR _|exact lR);intro zK zh zr zs bk)|(apply oG;(with_reducible assumption);exact zt1;intro zK zh zr zs bk));(first|(apply oF;(with_reducible assumption);exact zt1;(first|exact zR _|exact lR);intro zK zh zr zs bk)|(apply oG;(with_reducible assumption);exact zt1;intro zK zh zr zs bk));refine aEu ?_;(first|(intro z z;repeat (first|(with_reducible refine aCZ fun z=>?_)|with_reducible refine aDa ?_|(intro (zv:(_:Value)=_);subst zv)|intro z))|skip);(have z:=bk _ _ (by with_reducible assumption);clear bk);(have z:=bk _ _ (by with_reducible assumption);clear bk);(have z:=bk _ _ (by with_reducible assumption);clear bk))
  |((first|(apply oF;(with_reducible assumption);exact .head;(first|exact zR _|exact lR);intro zK zh zr zs bk)|(apply oG;(with_reducible assumption);exact .head;intro zK zh zr zs bk));(first|(apply oF;(with_reducible assumption);exact .head;(first|exact zR _|exact lR);intro zK zh zr zs bk)|(apply oG;(with_reducible assumption);exact .head;intro zK zh zr zs bk));(first|(apply oF;(with_reducible assumption);exact .head;(first|exact zR _|exact lR);intro zK zh zr zs bk)|(apply oG;(with_reducible assumption);exact .head;intro zK zh zr zs bk));refine aEu ?_;(first|(intro z z;repeat (first|(with_reducible refine aCZ fun z=>?_)|with_reducible refine aDa ?_|(intro (zv:(_:Value)=_);subst zv)|intro z))|skip);(have z:=bk _ _ (by with_reducible assumption);clear bk);(have z:=bk _ _ (by with_reducible assumption);clear bk);(have z:=bk _ _ (by with_reducible assumption);clear bk))
  |((first|(apply oF;(with_reducible assumption);exact zt1;(first|exact zR _|exact lR);intro zK zh zr zs bk)|(apply oG;(with_reducible assumption);exact zt1;intro zK zh zr zs bk));(first|(apply oF;(with_reducible assumption);exact zt1;(first|exact zR _|exact lR);intro zK zh zr zs bk)|(apply oG;(with_reducible assumption);exact zt1;intro zK zh zr zs bk));(first|(apply oF;(with_reducible assumption);exact zt1;(first|exact zR _|exact lR);intro zK zh zr zs bk)|(apply oG;(with_reducible assumption);exact zt1;intro zK zh zr zs bk));refine aEu ?_;(first|(intro z z;repeat (first|(with_reducible refine aCZ fun z=>?_)|with_reducible refine aDa ?_|(intro (zv:(_:Value)=_);subst zv)|intro z))|skip);(have z:=bk _ _ (by with_reducible assumption);clear bk);(have z:=bk _ _ (by with_reducible assumption);clear bk);(have z:=bk _ _ (by with_reducible assumption);clear bk))
  |((first|(apply oF;(with_reducible assumption);exact zt3;(first|exact zR _|exact lR);intro zK zh zr zs bk)|(apply oG;(with_reducible assumption);exact zt3;intro zK zh zr zs bk));(first|(apply oF;(with_reducible assumption);exact zt2;(first|exact zR _|exact lR);intro zK zh zr zs bk)|(apply oG;(with_reducible assumption);exact zt2;intro zK zh zr zs bk));(first|(apply oF;(with_reducible assumption);exact zt2;(first|exact zR _|exact lR);intro zK zh zr zs bk)|(apply oG;(with_reducible assumption);exact zt2;intro zK zh zr zs bk));refine aEu ?_;(first|(intro z z;repeat (first|(with_reducible refine aCZ fun z=>?_)|with_reducible refine aDa ?_|(intro (zv:(_:Value)=_);subst zv)|intro z))|skip);(have z:=bk _ _ (by with_reducible assumption);clear bk);(have z:=bk _ _ (by with_reducible assumption);clear bk);(have z:=bk _ _ (by with_reducible assumption);clear bk))
  |((first|(apply oF;(with_reducible assumption);exact .head;(first|exact zR _|exact lR);intro zK zh zr zs bk)|(apply oG;(with_reducible assumption);exact .head;intro zK zh zr zs bk));(first|(apply oF;(with_reducible assumption);exact .head;(first|exact zR _|exact lR);intro zK zh zr zs bk)|(apply oG;(with_reducible assumption);exact .head;intro zK zh zr zs bk));(first|(apply oF;(with_reducible assumption);exact .head;(first|exact zR _|exact lR);intro zK zh zr zs bk)|(apply oG;(with_reducible assumption);exact .head;intro zK zh zr zs bk));(first|(apply oF;(with_reducible assumption);exact .head;(first|exact zR _|exact lR);intro zK zh zr zs bk)|(apply oG;(with_reducible assumption);exact .head;intro zK zh zr zs bk));refine aEu ?_;(first|(intro z z;repeat (first|(with_reducible refine aCZ fun z=>?_)|with_reducible refine aDa ?_|(intro (zv:(_:Value)=_);subst zv)|intro z))|skip);(have z:=bk _ _ (by with_reducible assumption);clear bk);(have z:=bk _ _ (by with_reducible assumption);clear bk);(have z:=bk _ _ (by with_reducible assumption);clear bk);(have z:=bk _ _ (by with_reducible assumption);clear bk))
  |((first|(with_reducible apply st_g0)|(with_reducible apply st_g1)|(with_reducible apply st_g2)|(with_reducible apply st_g3)|(apply st_g4;exact rfl));rcases aM hm with ⟨z,hm⟩|⟨z,hm⟩))):p:=h
end Gv
