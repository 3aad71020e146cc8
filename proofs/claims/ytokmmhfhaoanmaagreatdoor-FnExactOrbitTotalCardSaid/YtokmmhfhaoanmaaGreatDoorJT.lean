/- Readings of the program's data; what is known of its types. -/
import Derived.Test.YtokmmhfhaoanmaaGreatDoorJYS
import Derived.Test.YtokmmhfhaoanmaaGreatDoorProg
set_option linter.all false
namespace Gv
open Go.Value renaming slice→zS
open Gv.Hp renaming le_trans→zL
open Go Go.Proofs Go.Proofs.Tryz
instance:dY aP where
 sz:=2
 enc d:=[i64 d.Kind,i64 d.Value]
 len _:=rfl
 one _ v h:=by simp at h;rcases h with rfl|rfl<;>rfl
 pos:=by decide
instance:El Part where
 sz:=4
 rd K cs d:=∃ (a0:Option Addr) (c0:Nat),cs=[i64 d.Kind,i64 d.Number,str d.Name,zS a0 d.Arguments.length c0]/\aW K a0 c0 d.Arguments
 mono:=fun h ⟨a0,c0,e,h0⟩=>⟨a0,c0,e,h0.mono h⟩
 len:=fun ⟨_,_,e,_⟩=>by rw [e];rfl
 one:=fun ⟨_,_,e,_⟩ v hv=>by rw [e] at hv;simp at hv;rcases hv with rfl|rfl|rfl|rfl<;>rfl
 pos:=by decide
instance:El Definition where
 sz:=3
 rd K cs d:=∃ (a0:Option Addr) (c0:Nat),cs=[str d.Name,i64 d.Parameters,zS a0 d.Body.length c0]/\aW K a0 c0 d.Body
 mono:=fun h ⟨a0,c0,e,h0⟩=>⟨a0,c0,e,h0.mono h⟩
 len:=fun ⟨_,_,e,_⟩=>by rw [e];rfl
 one:=fun ⟨_,_,e,_⟩ v hv=>by rw [e] at hv;simp at hv;rcases hv with rfl|rfl|rfl<;>rfl
 pos:=by decide
instance:El aZ where
 sz:=2
 rd K cs d:=∃ (a0:Option Addr) (c0:Nat),cs=[i64 d.Definition,zS a0 d.Values.length c0]/\aW K a0 c0 d.Values
 mono:=fun h ⟨a0,c0,e,h0⟩=>⟨a0,c0,e,h0.mono h⟩
 len:=fun ⟨_,_,e,_⟩=>by rw [e];rfl
 one:=fun ⟨_,_,e,_⟩ v hv=>by rw [e] at hv;simp at hv;rcases hv with rfl|rfl<;>rfl
 pos:=by decide
instance:dY aT where
 sz:=3
 enc d:=[str d.Left,str d.Right,str d.Result]
 len _:=rfl
 one _ v h:=by simp at h;rcases h with rfl|rfl|rfl<;>rfl
 pos:=by decide
instance:El aR where
 sz:=5
 rd K cs d:=∃ (a0:Option Addr) (c0:Nat) (a1:Option Addr) (c1:Nat) (a2:Option Addr) (c2:Nat) (a3:Option Addr) (c3:Nat) (a4:Option Addr) (c4:Nat),cs=[zS a0 d.Definitions.length c0,zS a1 d.Components.length c1,zS a2 d.Meetings.length c2,zS a3 d.Allowed.length c3,zS a4 d.Hidden.length c4]/\aW K a0 c0 d.Definitions/\aW K a1 c1 d.Components/\aW K a2 c2 d.Meetings/\aW K a3 c3 d.Allowed/\aW K a4 c4 d.Hidden
 mono:=fun h ⟨a0,c0,a1,c1,a2,c2,a3,c3,a4,c4,e,h0,h1,h2,h3,h4⟩=>⟨a0,c0,a1,c1,a2,c2,a3,c3,a4,c4,e,h0.mono h,h1.mono h,h2.mono h,h3.mono h,h4.mono h⟩
 len:=fun ⟨_,_,_,_,_,_,_,_,_,_,e,_⟩=>by rw [e];rfl
 one:=fun ⟨_,_,_,_,_,_,_,_,_,_,e,_⟩ v hv=>by rw [e] at hv;simp at hv;rcases hv with rfl|rfl|rfl|rfl|rfl<;>rfl
 pos:=by decide
instance:El GPoint where
 sz:=3
 rd K cs d:=∃ (a0:Option Addr) (c0:Nat),cs=[i64 d.Definition,i64 d.Part,zS a0 d.Values.length c0]/\aW K a0 c0 d.Values
 mono:=fun h ⟨a0,c0,e,h0⟩=>⟨a0,c0,e,h0.mono h⟩
 len:=fun ⟨_,_,e,_⟩=>by rw [e];rfl
 one:=fun ⟨_,_,e,_⟩ v hv=>by rw [e] at hv;simp at hv;rcases hv with rfl|rfl|rfl<;>rfl
 pos:=by decide
instance:El bF where
 sz:=4
 rd K cs d:=∃ (a0:Option Addr) (c0:Nat),cs=[str d.B,i64 d.Next.Definition,i64 d.Next.Part,zS a0 d.Next.Values.length c0]/\aW K a0 c0 d.Next.Values
 mono:=fun h ⟨a0,c0,e,h0⟩=>⟨a0,c0,e,h0.mono h⟩
 len:=fun ⟨_,_,e,_⟩=>by rw [e];rfl
 one:=fun ⟨_,_,e,_⟩ v hv=>by rw [e] at hv;simp at hv;rcases hv with rfl|rfl|rfl|rfl<;>rfl
 pos:=by decide
instance:El aN where
 sz:=4
 rd K cs d:=∃ (a0:Option Addr) (c0:Nat),cs=[str d.B,i64 d.First,i64 d.Second,zS a0 d.State.length c0]/\aW K a0 c0 d.State
 mono:=fun h ⟨a0,c0,e,h0⟩=>⟨a0,c0,e,h0.mono h⟩
 len:=fun ⟨_,_,e,_⟩=>by rw [e];rfl
 one:=fun ⟨_,_,e,_⟩ v hv=>by rw [e] at hv;simp at hv;rcases hv with rfl|rfl|rfl|rfl<;>rfl
 pos:=by decide
instance:dY Edge where
 sz:=3
 enc d:=[i64 d.F,i64 d.B,i64 d.To]
 len _:=rfl
 one _ v h:=by simp at h;rcases h with rfl|rfl|rfl<;>rfl
 pos:=by decide
instance:El iQ where
 sz:=4
 rd K cs d:=∃ (a0:Option Addr) (c0:Nat) (a1:Option Addr) (c1:Nat),cs=[i64 d.N,i64 d.I,zS a0 d.L.length c0,zS a1 d.E.length c1]/\aW K a0 c0 d.L/\aW K a1 c1 d.E
 mono:=fun h ⟨a0,c0,a1,c1,e,h0,h1⟩=>⟨a0,c0,a1,c1,e,h0.mono h,h1.mono h⟩
 len:=fun ⟨_,_,_,_,e,_⟩=>by rw [e];rfl
 one:=fun ⟨_,_,_,_,e,_⟩ v hv=>by rw [e] at hv;simp at hv;rcases hv with rfl|rfl|rfl|rfl<;>rfl
 pos:=by decide
instance:dY dJ where
 sz:=2
 enc d:=[i64 d.scope,Value.bool d.behind]
 len _:=rfl
 one _ v h:=by simp at h;rcases h with rfl|rfl<;>rfl
 pos:=by decide
instance:dY lN where
 sz:=3
 enc d:=[i64 d.from_,str d.label,i64 d.to_]
 len _:=rfl
 one _ v h:=by simp at h;rcases h with rfl|rfl|rfl<;>rfl
 pos:=by decide
instance:Dp Part where
 Hd:=((Option Addr × Nat) × List (Dp.Hd (List aP)))
 sz1:=3
 enc hd x:=[i64 x.Kind,i64 x.Number,str x.Name,.slice hd.1.1 x.Arguments.length hd.1.2]
 pcs tys hd x:=[aJ (tys.headD 0) Hp.nil hd.1.1 hd.1.2 (aO hd.2 x.Arguments),aLB [(tys.tail.headD 0)] hd.2 x.Arguments]
 len _ _:=rfl
 one _ _ v h:=by simp at h;rcases h with rfl|rfl|rfl|rfl<;>rfl
instance:aMV Part where
 sz:=rfl
 rd:=fun {tys hd x h K} a hK=>by
  obtain ⟨p0,r0,b0,_,l0,m0,a⟩:=a
  obtain ⟨p1,r1,b1,_,l1,m1,a⟩:=a
  exact ⟨hd.1.1,hd.1.2,rfl,aRU b0 b1 (zL l0 (hK)) (zL l1 (zL m0 (hK)))⟩
theorem aRZ (tys:List TypeId):fF (Dp.pcs tys (((none,0),[]):Dp.Hd Part) (⟨0,0,[],[]⟩:Part)) Hp.nil:=
 aTl _ _ (trivial)
instance:Dp Definition where
 Hd:=((Option Addr × Nat) × List (Dp.Hd Part))
 sz1:=2
 enc hd x:=[str x.Name,i64 x.Parameters,.slice hd.1.1 x.Body.length hd.1.2]
 pcs tys hd x:=[aJ (tys.headD 0) Hp.nil hd.1.1 hd.1.2 (aO hd.2 x.Body),aLB [(tys.tail.headD 0),(tys.tail.tail.headD 0)] hd.2 x.Body]
 len _ _:=rfl
 one _ _ v h:=by simp at h;rcases h with rfl|rfl|rfl<;>rfl
instance:aMV Definition where
 sz:=rfl
 rd:=fun {tys hd x h K} a hK=>by
  obtain ⟨p0,r0,b0,_,l0,m0,a⟩:=a
  obtain ⟨p1,r1,b1,_,l1,m1,a⟩:=a
  exact ⟨hd.1.1,hd.1.2,rfl,aRU b0 b1 (zL l0 (hK)) (zL l1 (zL m0 (hK)))⟩
theorem aKH (tys:List TypeId):fF (Dp.pcs tys (((none,0),[]):Dp.Hd Definition) (⟨[],0,[]⟩:Definition)) Hp.nil:=
 aTl _ _ (trivial)
instance:Dp aZ where
 Hd:=(Option Addr × Nat)
 sz1:=1
 enc hd x:=[i64 x.Definition,.slice hd.1 x.Values.length hd.2]
 pcs tys hd x:=[aJ (tys.headD 0) Hp.nil hd.1 hd.2 x.Values]
 len _ _:=rfl
 one _ _ v h:=by simp at h;rcases h with rfl|rfl<;>rfl
instance:aMV aZ where
 sz:=rfl
 rd:=fun {tys hd x h K} a hK=>by
  obtain ⟨p0,r0,b0,_,l0,m0,a⟩:=a
  exact ⟨hd.1,hd.2,rfl,aJ.rd b0 (zL l0 (hK)) (Hp.nil_le _)⟩
theorem aLC (tys:List TypeId):fF (Dp.pcs tys ((none,0):Dp.Hd aZ) (⟨0,[]⟩:aZ)) Hp.nil:=
 ⟨Hp.nil,Hp.nil,aJ.nil _ _ _,Hp.nil_dj _,Hp.nil_le _,Hp.nil_le _,trivial⟩
instance:Dp GPoint where
 Hd:=(Option Addr × Nat)
 sz1:=2
 enc hd x:=[i64 x.Definition,i64 x.Part,.slice hd.1 x.Values.length hd.2]
 pcs tys hd x:=[aJ (tys.headD 0) Hp.nil hd.1 hd.2 x.Values]
 len _ _:=rfl
 one _ _ v h:=by simp at h;rcases h with rfl|rfl|rfl<;>rfl
instance:aMV GPoint where
 sz:=rfl
 rd:=fun {tys hd x h K} a hK=>by
  obtain ⟨p0,r0,b0,_,l0,m0,a⟩:=a
  exact ⟨hd.1,hd.2,rfl,aJ.rd b0 (zL l0 (hK)) (Hp.nil_le _)⟩
theorem aTp {K:Hp} {hd:Dp.Hd GPoint} {x:GPoint} (h:El.rd K (Dp.enc hd x) x):aW K hd.1 hd.2 x.Values:=by
 obtain ⟨u0,v0,e,h0⟩:=h
 simp only [Dp.enc,List.cons.injEq,Value.slice.injEq,and_true,true_and] at e
 obtain ⟨e0,g0⟩:=e
 rw [e0,g0];exact h0
instance:Dp bF where
 Hd:=(Option Addr × Nat)
 sz1:=3
 enc hd x:=[str x.B,i64 x.Next.Definition,i64 x.Next.Part,.slice hd.1 x.Next.Values.length hd.2]
 pcs tys hd x:=[aJ (tys.headD 0) Hp.nil hd.1 hd.2 x.Next.Values]
 len _ _:=rfl
 one _ _ v h:=by simp at h;rcases h with rfl|rfl|rfl|rfl<;>rfl
instance:aMV bF where
 sz:=rfl
 rd:=fun {tys hd x h K} a hK=>by
  obtain ⟨p0,r0,b0,_,l0,m0,a⟩:=a
  exact ⟨hd.1,hd.2,rfl,aJ.rd b0 (zL l0 (hK)) (Hp.nil_le _)⟩
instance:Dp aN where
 Hd:=((Option Addr × Nat) × List (Dp.Hd GPoint))
 sz1:=3
 enc hd x:=[str x.B,i64 x.First,i64 x.Second,.slice hd.1.1 x.State.length hd.1.2]
 pcs tys hd x:=[aJ (tys.headD 0) Hp.nil hd.1.1 hd.1.2 (aO hd.2 x.State),aLB [(tys.tail.headD 0)] hd.2 x.State]
 len _ _:=rfl
 one _ _ v h:=by simp at h;rcases h with rfl|rfl|rfl|rfl<;>rfl
instance:aMV aN where
 sz:=rfl
 rd:=fun {tys hd x h K} a hK=>by
  obtain ⟨p0,r0,b0,_,l0,m0,a⟩:=a
  obtain ⟨p1,r1,b1,_,l1,m1,a⟩:=a
  exact ⟨hd.1.1,hd.1.2,rfl,aRU b0 b1 (zL l0 (hK)) (zL l1 (zL m0 (hK)))⟩
theorem rd_Move_0 {K:Hp} {hd:Dp.Hd aN} {x:aN} (h:El.rd K (Dp.enc hd x) x):aW K hd.1.1 hd.1.2 x.State:=by
 obtain ⟨u0,v0,e,h0⟩:=h
 simp only [Dp.enc,List.cons.injEq,Value.slice.injEq,and_true,true_and] at e
 obtain ⟨e0,g0⟩:=e
 rw [e0,g0];exact h0
theorem sP:yT prog 25 9 1:=⟨runUnderlying25,sizeOf9⟩
theorem sc_9:SC prog 9:=⟨isAgg9,sizeOf9⟩
theorem xU:yT prog 68 2 1:=⟨runUnderlying68,sizeOf2⟩
theorem ez_2:EZ prog 2 [i64 0]:=⟨⟨_,zeroValue2,rfl⟩,⟨t2,typeInfo2,by show (8:Nat)<=128;decide,rfl,by kernel_rfl,_,rfl,rfl⟩⟩
theorem aFu:SC prog 2:=⟨isAgg2,sizeOf2⟩
theorem ez_9:EZ prog 9 [str []]:=⟨⟨_,zeroValue9,rfl⟩,⟨t9,typeInfo9,by show (16:Nat)<=128;decide,rfl,by kernel_rfl,_,rfl,rfl⟩⟩
theorem sl_287:yT prog 287 341 2:=⟨runUnderlying287,sizeOf341⟩
theorem sl_169:yT prog 169 287 1:=⟨runUnderlying169,sizeOf287⟩
theorem sc_287:SC prog 287:=⟨isAgg287,sizeOf287⟩
theorem fa_171_2:FA prog 171 2 2:=⟨_,_,_,runUnderlying171,rfl,sizeOf9,rfl,rfl⟩
theorem fa_171_3:FA prog 171 3 3:=⟨_,_,_,runUnderlying171,rfl,sizeOf169,rfl,rfl⟩
theorem sc_169:SC prog 169:=⟨isAgg169,sizeOf169⟩
theorem sl_64:yT prog 64 171 4:=⟨runUnderlying64,sizeOf171⟩
theorem ag_171:AG prog 171 4:=⟨isAgg171,sizeOf171⟩
theorem fa_66_0:FA prog 66 0 0:=⟨_,_,_,runUnderlying66,rfl,sizeOf9,rfl,rfl⟩
theorem fa_66_2:FA prog 66 2 2:=⟨_,_,_,runUnderlying66,rfl,sizeOf64,rfl,rfl⟩
theorem sc_64:SC prog 64:=⟨isAgg64,sizeOf64⟩
theorem sl_22:yT prog 22 66 3:=⟨runUnderlying22,sizeOf66⟩
theorem ag_66:AG prog 66 3:=⟨isAgg66,sizeOf66⟩
theorem fa_70_1:FA prog 70 1 1:=⟨_,_,_,runUnderlying70,rfl,sizeOf68,rfl,rfl⟩
theorem sc_68:SC prog 68:=⟨isAgg68,sizeOf68⟩
theorem sl_23:yT prog 23 70 2:=⟨runUnderlying23,sizeOf70⟩
theorem ag_70:AG prog 70 2:=⟨isAgg70,sizeOf70⟩
theorem fa_73_0:FA prog 73 0 0:=⟨_,_,_,runUnderlying73,rfl,sizeOf9,rfl,rfl⟩
theorem fa_73_1:FA prog 73 1 1:=⟨_,_,_,runUnderlying73,rfl,sizeOf9,rfl,rfl⟩
theorem fa_73_2:FA prog 73 2 2:=⟨_,_,_,runUnderlying73,rfl,sizeOf9,rfl,rfl⟩
theorem sl_24:yT prog 24 73 3:=⟨runUnderlying24,sizeOf73⟩
theorem ag_73:AG prog 73 3:=⟨isAgg73,sizeOf73⟩
theorem fa_27_0:FA prog 27 0 0:=⟨_,_,_,runUnderlying27,rfl,sizeOf22,rfl,rfl⟩
theorem sc_22:SC prog 22:=⟨isAgg22,sizeOf22⟩
theorem fa_27_1:FA prog 27 1 1:=⟨_,_,_,runUnderlying27,rfl,sizeOf23,rfl,rfl⟩
theorem sc_23:SC prog 23:=⟨isAgg23,sizeOf23⟩
theorem fa_27_2:FA prog 27 2 2:=⟨_,_,_,runUnderlying27,rfl,sizeOf24,rfl,rfl⟩
theorem sc_24:SC prog 24:=⟨isAgg24,sizeOf24⟩
theorem fa_27_3:FA prog 27 3 3:=⟨_,_,_,runUnderlying27,rfl,sizeOf25,rfl,rfl⟩
theorem sc_25:SC prog 25:=⟨isAgg25,sizeOf25⟩
theorem fa_27_4:FA prog 27 4 4:=⟨_,_,_,runUnderlying27,rfl,sizeOf25,rfl,rfl⟩
theorem aIj:FA prog 186 0 0:=⟨_,_,_,runUnderlying186,rfl,sizeOf2,rfl,rfl⟩
theorem aLD:yT prog 88 186 4:=⟨runUnderlying88,sizeOf186⟩
theorem aLE:FA prog 186 1 1:=⟨_,_,_,runUnderlying186,rfl,sizeOf2,rfl,rfl⟩
theorem aPi:FA prog 186 2 2:=⟨_,_,_,runUnderlying186,rfl,sizeOf9,rfl,rfl⟩
theorem aFN:FA prog 186 3 3:=⟨_,_,_,runUnderlying186,rfl,sizeOf184,rfl,rfl⟩
theorem aNc:SC prog 184:=⟨isAgg184,sizeOf184⟩
theorem aPj:yT prog 184 274 1:=⟨runUnderlying184,sizeOf274⟩
theorem fa_90_1:FA prog 90 1 1:=⟨_,_,_,runUnderlying90,rfl,sizeOf2,rfl,rfl⟩
theorem aOH:FA prog 90 2 2:=⟨_,_,_,runUnderlying90,rfl,sizeOf88,rfl,rfl⟩
theorem sc_88:SC prog 88:=⟨isAgg88,sizeOf88⟩
theorem fa_337_0:FA prog 337 0 0:=⟨_,_,_,runUnderlying337,rfl,sizeOf2,rfl,rfl⟩
theorem fa_337_1:FA prog 337 1 1:=⟨_,_,_,runUnderlying337,rfl,sizeOf2,rfl,rfl⟩
theorem aSb:yT prog 274 337 2:=⟨runUnderlying274,sizeOf337⟩
theorem aSc:AG prog 186 4:=⟨isAgg186,sizeOf186⟩
theorem aRb:yT prog 31 90 3:=⟨runUnderlying31,sizeOf90⟩
theorem sc_274:SC prog 274:=⟨isAgg274,sizeOf274⟩
theorem fa_90_0:FA prog 90 0 0:=⟨_,_,_,runUnderlying90,rfl,sizeOf9,rfl,rfl⟩
theorem fa_35_1:FA prog 35 1 1:=⟨_,_,_,runUnderlying35,rfl,sizeOf32,rfl,rfl⟩
theorem sc_32:SC prog 32:=⟨isAgg32,sizeOf32⟩
theorem sl_32:yT prog 32 92 2:=⟨runUnderlying32,sizeOf92⟩
theorem ag_92:AG prog 92 2:=⟨isAgg92,sizeOf92⟩
theorem fa_92_0:FA prog 92 0 0:=⟨_,_,_,runUnderlying92,rfl,sizeOf2,rfl,rfl⟩
theorem fa_35_0:FA prog 35 0 0:=⟨_,_,_,runUnderlying35,rfl,sizeOf31,rfl,rfl⟩
theorem sc_31:SC prog 31:=⟨isAgg31,sizeOf31⟩
theorem fa_92_1:FA prog 92 1 1:=⟨_,_,_,runUnderlying92,rfl,sizeOf68,rfl,rfl⟩
theorem sl_33:yT prog 33 94 3:=⟨runUnderlying33,sizeOf94⟩
theorem ag_94:AG prog 94 3:=⟨isAgg94,sizeOf94⟩
theorem fa_94_0:FA prog 94 0 0:=⟨_,_,_,runUnderlying94,rfl,sizeOf9,rfl,rfl⟩
theorem fa_94_1:FA prog 94 1 1:=⟨_,_,_,runUnderlying94,rfl,sizeOf9,rfl,rfl⟩
theorem fa_94_2:FA prog 94 2 2:=⟨_,_,_,runUnderlying94,rfl,sizeOf9,rfl,rfl⟩
theorem fa_35_2:FA prog 35 2 2:=⟨_,_,_,runUnderlying35,rfl,sizeOf33,rfl,rfl⟩
theorem sc_33:SC prog 33:=⟨isAgg33,sizeOf33⟩
theorem fa_35_3:FA prog 35 3 3:=⟨_,_,_,runUnderlying35,rfl,sizeOf25,rfl,rfl⟩
theorem fa_35_4:FA prog 35 4 4:=⟨_,_,_,runUnderlying35,rfl,sizeOf25,rfl,rfl⟩
theorem jQ:yT prog 52 123 3:=⟨runUnderlying52,sizeOf123⟩
theorem oT:EZ prog 123 [i64 0,i64 0,zS none 0 0]:=⟨⟨_,zeroValue123,rfl⟩,⟨t123,typeInfo123,by show (40:Nat)<=128;decide,rfl,by kernel_rfl,_,rfl,rfl⟩⟩
theorem aPk:FA prog 123 0 0:=⟨_,_,_,runUnderlying123,rfl,sizeOf2,rfl,rfl⟩
theorem aPl:FA prog 123 1 1:=⟨_,_,_,runUnderlying123,rfl,sizeOf2,rfl,rfl⟩
theorem aPm:FA prog 123 2 2:=⟨_,_,_,runUnderlying123,rfl,sizeOf68,rfl,rfl⟩
theorem aIk:BS prog 123 [(0,1),(1,1),(2,1)] [i64 0,i64 0,zS none 0 0]:=⟨⟨_,zeroValue123,rfl⟩,_,runUnderlying123,fun w=>by simp [sizeOf2,sizeOf68]⟩
theorem xN:AG prog 123 3:=⟨isAgg123,sizeOf123⟩
theorem sl_206:yT prog 206 5 1:=⟨runUnderlying206,sizeOf5⟩
theorem ez_5:EZ prog 5 [Value.int .u8 0]:=⟨⟨_,zeroValue5,rfl⟩,⟨t5,typeInfo5,by show (1:Nat)<=128;decide,rfl,by kernel_rfl,_,rfl,rfl⟩⟩
theorem sc_5:SC prog 5:=⟨isAgg5,sizeOf5⟩
theorem aAQ:yT prog 151 155 4:=⟨runUnderlying151,sizeOf155⟩
theorem aLF:FA prog 155 0 0:=⟨_,_,_,runUnderlying155,rfl,sizeOf9,rfl,rfl⟩
theorem aLG:FA prog 155 1 1:=⟨_,_,_,runUnderlying155,rfl,sizeOf123,rfl,rfl⟩
theorem aSd:AG prog 155 4:=⟨isAgg155,sizeOf155⟩
theorem aNd:EZ prog 155 [str [],i64 0,i64 0,zS none 0 0]:=⟨⟨_,zeroValue155,rfl⟩,⟨t155,typeInfo155,by show (56:Nat)<=128;decide,rfl,by kernel_rfl,_,rfl,rfl⟩⟩
theorem bs_155:BS prog 155 [(0,1),(1,3)] [str [],i64 0,i64 0,zS none 0 0]:=⟨⟨_,zeroValue155,rfl⟩,_,runUnderlying155,fun w=>by simp [sizeOf123,sizeOf9]⟩
theorem aFv:yT prog 101 105 4:=⟨runUnderlying101,sizeOf105⟩
theorem ag_105:AG prog 105 4:=⟨isAgg105,sizeOf105⟩
theorem aTr:FA prog 105 0 0:=⟨_,_,_,runUnderlying105,rfl,sizeOf9,rfl,rfl⟩
theorem fa_105_1:FA prog 105 1 1:=⟨_,_,_,runUnderlying105,rfl,sizeOf2,rfl,rfl⟩
theorem fa_105_2:FA prog 105 2 2:=⟨_,_,_,runUnderlying105,rfl,sizeOf2,rfl,rfl⟩
theorem aTs:FA prog 105 3 3:=⟨_,_,_,runUnderlying105,rfl,sizeOf52,rfl,rfl⟩
theorem aFO:SC prog 52:=⟨isAgg52,sizeOf52⟩
theorem aNe:EZ prog 105 [str [],i64 0,i64 0,zS none 0 0]:=⟨⟨_,zeroValue105,rfl⟩,⟨t105,typeInfo105,by show (56:Nat)<=128;decide,rfl,by kernel_rfl,_,rfl,rfl⟩⟩
theorem vC:yT prog 150 151 1:=⟨runUnderlying150,sizeOf151⟩
theorem aNf:EZ prog 151 [zS none 0 0]:=⟨⟨_,zeroValue151,rfl⟩,⟨t151,typeInfo151,by show (24:Nat)<=128;decide,rfl,by kernel_rfl,_,rfl,rfl⟩⟩
theorem aKI:SC prog 151:=⟨isAgg151,sizeOf151⟩
theorem aSe:BS prog 105 [(0,1),(1,1),(2,1),(3,1)] [str [],i64 0,i64 0,zS none 0 0]:=⟨⟨_,zeroValue105,rfl⟩,_,runUnderlying105,fun w=>by simp [sizeOf2,sizeOf52,sizeOf9]⟩
theorem jD:yT prog 48 52 1:=⟨runUnderlying48,sizeOf52⟩
theorem aDI:EZ prog 52 [zS none 0 0]:=⟨⟨_,zeroValue52,rfl⟩,⟨t52,typeInfo52,by show (24:Nat)<=128;decide,rfl,by kernel_rfl,_,rfl,rfl⟩⟩
theorem aSf:FA prog 83 0 0:=⟨_,_,_,runUnderlying83,rfl,sizeOf2,rfl,rfl⟩
theorem aSg:FA prog 83 1 1:=⟨_,_,_,runUnderlying83,rfl,sizeOf2,rfl,rfl⟩
theorem aSh:FA prog 83 2 2:=⟨_,_,_,runUnderlying83,rfl,sizeOf2,rfl,rfl⟩
theorem yY:yT prog 45 83 3:=⟨runUnderlying45,sizeOf83⟩
theorem ag_83:AG prog 83 3:=⟨isAgg83,sizeOf83⟩
theorem bs_83:BS prog 83 [(0,1),(1,1),(2,1)] [i64 0,i64 0,i64 0]:=⟨⟨_,zeroValue83,rfl⟩,_,runUnderlying83,fun w=>by simp [sizeOf2]⟩
theorem ez_83:EZ prog 83 [i64 0,i64 0,i64 0]:=⟨⟨_,zeroValue83,rfl⟩,⟨t83,typeInfo83,by show (24:Nat)<=128;decide,rfl,by kernel_rfl,_,rfl,rfl⟩⟩
theorem bs_47:BS prog 47 [(0,1),(1,1),(2,1),(3,1)] [i64 0,i64 0,zS none 0 0,zS none 0 0]:=⟨⟨_,zeroValue47,rfl⟩,_,runUnderlying47,fun w=>by simp [sizeOf2,sizeOf25,sizeOf45]⟩
theorem fa_47_2:FA prog 47 2 2:=⟨_,_,_,runUnderlying47,rfl,sizeOf25,rfl,rfl⟩
theorem fa_47_3:FA prog 47 3 3:=⟨_,_,_,runUnderlying47,rfl,sizeOf45,rfl,rfl⟩
theorem sc_45:SC prog 45:=⟨isAgg45,sizeOf45⟩
theorem aPn:AG prog 47 4:=⟨isAgg47,sizeOf47⟩
theorem fa_341_0:FA prog 341 0 0:=⟨_,_,_,runUnderlying341,rfl,sizeOf2,rfl,rfl⟩
theorem fa_341_1:FA prog 341 1 1:=⟨_,_,_,runUnderlying341,rfl,sizeOf2,rfl,rfl⟩
theorem ag_337:AG prog 337 2:=⟨isAgg337,sizeOf337⟩
theorem ez_337:EZ prog 337 [i64 0,i64 0]:=⟨⟨_,zeroValue337,rfl⟩,⟨t337,typeInfo337,by show (16:Nat)<=128;decide,rfl,by kernel_rfl,_,rfl,rfl⟩⟩
theorem ag_341:AG prog 341 2:=⟨isAgg341,sizeOf341⟩
theorem ez_274:EZ prog 274 [zS none 0 0]:=⟨⟨_,zeroValue274,rfl⟩,⟨t274,typeInfo274,by show (24:Nat)<=128;decide,rfl,by kernel_rfl,_,rfl,rfl⟩⟩
theorem fa_171_0:FA prog 171 0 0:=⟨_,_,_,runUnderlying171,rfl,sizeOf2,rfl,rfl⟩
theorem fa_171_1:FA prog 171 1 1:=⟨_,_,_,runUnderlying171,rfl,sizeOf2,rfl,rfl⟩
theorem ez_186:EZ prog 186 [i64 0,i64 0,str [],zS none 0 0]:=⟨⟨_,zeroValue186,rfl⟩,⟨t186,typeInfo186,by show (56:Nat)<=128;decide,rfl,by kernel_rfl,_,rfl,rfl⟩⟩
theorem fa_66_1:FA prog 66 1 1:=⟨_,_,_,runUnderlying66,rfl,sizeOf2,rfl,rfl⟩
theorem ag_90:AG prog 90 3:=⟨isAgg90,sizeOf90⟩
theorem ez_90:EZ prog 90 [str [],i64 0,zS none 0 0]:=⟨⟨_,zeroValue90,rfl⟩,⟨t90,typeInfo90,by show (48:Nat)<=128;decide,rfl,by kernel_rfl,_,rfl,rfl⟩⟩
theorem fa_70_0:FA prog 70 0 0:=⟨_,_,_,runUnderlying70,rfl,sizeOf2,rfl,rfl⟩
theorem ez_92:EZ prog 92 [i64 0,zS none 0 0]:=⟨⟨_,zeroValue92,rfl⟩,⟨t92,typeInfo92,by show (32:Nat)<=128;decide,rfl,by kernel_rfl,_,rfl,rfl⟩⟩
theorem ez_94:EZ prog 94 [str [],str [],str []]:=⟨⟨_,zeroValue94,rfl⟩,⟨t94,typeInfo94,by show (48:Nat)<=128;decide,rfl,by kernel_rfl,_,rfl,rfl⟩⟩
theorem ag_35:AG prog 35 5:=⟨isAgg35,sizeOf35⟩
theorem sl_300:yT prog 300 304 2:=⟨runUnderlying300,sizeOf304⟩
theorem ez_304:EZ prog 304 [i64 0,Value.bool false]:=⟨⟨_,zeroValue304,rfl⟩,⟨t304,typeInfo304,by show (16:Nat)<=128;decide,rfl,by kernel_rfl,_,rfl,rfl⟩⟩
theorem sc_342:SC prog 342:=⟨isAgg342,sizeOf342⟩
theorem bs_304:BS prog 304 [(0,1),(1,1)] [i64 0,Value.bool false]:=⟨⟨_,zeroValue304,rfl⟩,_,runUnderlying304,fun w=>by simp [sizeOf2,sizeOf4]⟩
theorem sc_300:SC prog 300:=⟨isAgg300,sizeOf300⟩
theorem ag_304:AG prog 304 2:=⟨isAgg304,sizeOf304⟩
theorem fa_304_0:FA prog 304 0 0:=⟨_,_,_,runUnderlying304,rfl,sizeOf2,rfl,rfl⟩
theorem fa_304_1:FA prog 304 1 1:=⟨_,_,_,runUnderlying304,rfl,sizeOf4,rfl,rfl⟩
theorem sc_4:SC prog 4:=⟨isAgg4,sizeOf4⟩
theorem aSi:yT prog 266 3 1:=⟨runUnderlying266,sizeOf3⟩
theorem ez_3:EZ prog 3 [i64 0]:=⟨⟨_,zeroValue3,rfl⟩,⟨t3,typeInfo3,by show (8:Nat)<=128;decide,rfl,by kernel_rfl,_,rfl,rfl⟩⟩
theorem sc_3:SC prog 3:=⟨isAgg3,sizeOf3⟩
theorem sl_133:yT prog 133 138 3:=⟨runUnderlying133,sizeOf138⟩
theorem ag_138:AG prog 138 3:=⟨isAgg138,sizeOf138⟩
theorem fa_138_0:FA prog 138 0 0:=⟨_,_,_,runUnderlying138,rfl,sizeOf2,rfl,rfl⟩
theorem aTu:FA prog 138 1 1:=⟨_,_,_,runUnderlying138,rfl,sizeOf9,rfl,rfl⟩
theorem aTv:FA prog 138 2 2:=⟨_,_,_,runUnderlying138,rfl,sizeOf2,rfl,rfl⟩
theorem fa_47_0:FA prog 47 0 0:=⟨_,_,_,runUnderlying47,rfl,sizeOf2,rfl,rfl⟩
theorem fa_47_1:FA prog 47 1 1:=⟨_,_,_,runUnderlying47,rfl,sizeOf2,rfl,rfl⟩
theorem bs_361:BS prog 361 [(0,2),(2,1)] [i64 0,i64 0,zS none 0 0]:=⟨⟨_,zeroValue361,rfl⟩,_,runUnderlying361,fun w=>by simp [sizeOf337,sizeOf359]⟩
theorem fa_361_1:FA prog 361 1 2:=⟨_,_,_,runUnderlying361,rfl,sizeOf359,rfl,rfl⟩
theorem sc_359:SC prog 359:=⟨isAgg359,sizeOf359⟩
theorem sl_359:yT prog 359 323 1:=⟨runUnderlying359,sizeOf323⟩
theorem ez_323:EZ prog 323 [Value.pointer none]:=⟨⟨_,zeroValue323,rfl⟩,⟨t323,typeInfo323,by show (8:Nat)<=128;decide,rfl,by kernel_rfl,_,rfl,rfl⟩⟩
theorem fa_361_0:FA prog 361 0 0:=⟨_,_,_,runUnderlying361,rfl,sizeOf337,rfl,rfl⟩
theorem sc_323:SC prog 323:=⟨isAgg323,sizeOf323⟩
theorem bs_217:BS prog 217 [(0,1),(1,1),(2,1)] [zS none 0 0,zS none 0 0,Value.map none]:=⟨⟨_,zeroValue217,rfl⟩,_,runUnderlying217,fun w=>by simp [sizeOf147,sizeOf151,sizeOf31]⟩
theorem aTw:FA prog 217 0 0:=⟨_,_,_,runUnderlying217,rfl,sizeOf31,rfl,rfl⟩
theorem fa_217_2:FA prog 217 2 2:=⟨_,_,_,runUnderlying217,rfl,sizeOf147,rfl,rfl⟩
theorem sc_147:SC prog 147:=⟨isAgg147,sizeOf147⟩
theorem ko_9:aQY prog 9 aH:=keyOk_str runUnderlying9
theorem fa_217_1:FA prog 217 1 1:=⟨_,_,_,runUnderlying217,rfl,sizeOf151,rfl,rfl⟩
theorem bs_149:BS prog 149 [(0,5),(5,1),(6,1),(7,1)] [zS none 0 0,zS none 0 0,zS none 0 0,zS none 0 0,zS none 0 0,zS none 0 0,zS none 0 0,Value.map none]:=⟨⟨_,zeroValue149,rfl⟩,_,runUnderlying149,fun w=>by simp [sizeOf101,sizeOf147,sizeOf35,sizeOf52]⟩
theorem aLH:FA prog 149 0 0:=⟨_,_,_,runUnderlying149,rfl,sizeOf35,rfl,rfl⟩
theorem aTx:FA prog 149 1 5:=⟨_,_,_,runUnderlying149,rfl,sizeOf52,rfl,rfl⟩
theorem aPo:FA prog 149 3 7:=⟨_,_,_,runUnderlying149,rfl,sizeOf147,rfl,rfl⟩
theorem aPp:FA prog 149 2 6:=⟨_,_,_,runUnderlying149,rfl,sizeOf101,rfl,rfl⟩
theorem sc_101:SC prog 101:=⟨isAgg101,sizeOf101⟩
theorem bs_135:BS prog 135 [(0,1),(1,1),(2,1),(3,1)] [zS none 0 0,Value.map none,zS none 0 0,Value.nilFunc]:=⟨⟨_,zeroValue135,rfl⟩,_,runUnderlying135,fun w=>by simp [sizeOf132,sizeOf133,sizeOf48,sizeOf99]⟩
theorem sc_131:SC prog 131:=⟨isAgg131,sizeOf131⟩
theorem fa_135_3:FA prog 135 3 3:=⟨_,_,_,runUnderlying135,rfl,sizeOf99,rfl,rfl⟩
theorem sc_99:SC prog 99:=⟨isAgg99,sizeOf99⟩
theorem fa_135_1:FA prog 135 1 1:=⟨_,_,_,runUnderlying135,rfl,sizeOf132,rfl,rfl⟩
theorem sc_132:SC prog 132:=⟨isAgg132,sizeOf132⟩
theorem aTy:FA prog 135 0 0:=⟨_,_,_,runUnderlying135,rfl,sizeOf48,rfl,rfl⟩
theorem sc_48:SC prog 48:=⟨isAgg48,sizeOf48⟩
theorem fa_135_2:FA prog 135 2 2:=⟨_,_,_,runUnderlying135,rfl,sizeOf133,rfl,rfl⟩
theorem sc_133:SC prog 133:=⟨isAgg133,sizeOf133⟩
theorem bs_138:BS prog 138 [(0,1),(1,1),(2,1)] [i64 0,str [],i64 0]:=⟨⟨_,zeroValue138,rfl⟩,_,runUnderlying138,fun w=>by simp [sizeOf2,sizeOf9]⟩
theorem ez_138:EZ prog 138 [i64 0,str [],i64 0]:=⟨⟨_,zeroValue138,rfl⟩,⟨t138,typeInfo138,by show (32:Nat)<=128;decide,rfl,by kernel_rfl,_,rfl,rfl⟩⟩
theorem aKJ:yT prog 107 68 1:=⟨runUnderlying107,sizeOf68⟩
theorem ez_68:EZ prog 68 [zS none 0 0]:=⟨⟨_,zeroValue68,rfl⟩,⟨t68,typeInfo68,by show (24:Nat)<=128;decide,rfl,by kernel_rfl,_,rfl,rfl⟩⟩
theorem ag_27:AG prog 27 5:=⟨isAgg27,sizeOf27⟩
theorem st_83:prog.stoodInHeld 83=false:=by kernel_rfl
theorem eq_83 {x y:Edge}:EQT prog 83 [i64 x.F,i64 x.B,i64 x.To] [i64 y.F,i64 y.B,i64 y.To] (decide (x=y)):=by
 refine ⟨by kernel_rfl,fun w=>?_⟩
 have h2:∀ (a b:Int),(Op.equalIn 9999 2 (i64 a) (i64 b)).run prog w=.ok (a == b) w:=fun a b=>run_eqInI 9998 (runUnderlying2 w)
 have:Op.maxDepth=9999+1:=rfl
 unfold Op.equal
 rw [this]
 unfold Op.equalIn
 simp [runUnderlying83,st_83,part,h2,isAgg2]
 cases x;cases y
 simp
 repeat' split<;>simp_all
theorem Tryz_mixed:prog.follows .mixedOrders=true:=by kernel_rfl
abbrev zC (d:iQ) (a:Option Addr) (c:Nat) (b:Option Addr) (e:Nat):List Value:=[i64 d.N,i64 d.I,Value.slice a d.L.length c,Value.slice b d.E.length e]
abbrev zCa (d:iQ) (a:Option Addr) (c:Nat) (b:Option Addr) (e:Nat):Array Value:=#[i64 d.N,i64 d.I,Value.slice a d.L.length c,Value.slice b d.E.length e]
abbrev zG:List Value:=[i64 0,i64 0,Value.slice none 0 0,Value.slice none 0 0]
abbrev zGa:Array Value:=#[i64 0,i64 0,Value.slice none 0 0,Value.slice none 0 0]
abbrev zK:List Value:=[i64 0,i64 0,Value.slice none 0 0,Value.slice none 0 0,Value.slice none 0 0,Value.slice none 0 0]
abbrev zKa:Array Value:=#[i64 0,i64 0,Value.slice none 0 0,Value.slice none 0 0,Value.slice none 0 0,Value.slice none 0 0]
end Gv
namespace Gv
open Go.Value renaming slice→zS
open Gv.Hp renaming le_refl→zR
open Go Go.Proofs Go.Proofs.Tryz
theorem nD {p:Prop} (h:p:=by first|assumption|(apply st_cK;assumption;exact kT)):p:=h
theorem st_HR {p:Prop} (h:p:=by first|assumption|(apply st_rK;assumption;exact kT)):p:=h
theorem st_S {p:Prop} (h:p:=by with_reducible first|exact sP|exact xU|exact sl_287|exact sl_169|exact sl_64|exact sl_22|exact sl_23|exact sl_24|exact aLD|exact aPj|exact aSb|exact aRb|exact sl_32|exact sl_33|exact jQ|exact sl_206|exact aAQ|exact aFv|exact vC|exact jD|exact yY|exact sl_300|exact aSi|exact sl_133|exact sl_359|exact aKJ):p:=h
theorem xO {p:Prop} (h:p:=by with_reducible first|exact sc_9|exact aFu|exact sc_287|exact sc_169|exact sc_64|exact sc_68|exact sc_22|exact sc_23|exact sc_24|exact sc_25|exact aNc|exact sc_88|exact sc_274|exact sc_32|exact sc_31|exact sc_33|exact sc_5|exact aFO|exact aKI|exact sc_45|exact sc_342|exact sc_300|exact sc_4|exact sc_3|exact sc_359|exact sc_323|exact sc_147|exact sc_101|exact sc_131|exact sc_99|exact sc_132|exact sc_48|exact sc_133):p:=h
theorem aFw {p:Prop} (h:p:=by with_reducible first|exact ag_171|exact ag_66|exact ag_70|exact ag_73|exact aSc|exact ag_92|exact ag_94|exact xN|exact aSd|exact ag_105|exact ag_83|exact aPn|exact ag_337|exact ag_341|exact ag_90|exact ag_35|exact ag_304|exact ag_138|exact ag_27):p:=h
theorem st_F {p:Prop} (h:p:=by with_reducible first|exact fa_171_2|exact fa_171_3|exact fa_66_0|exact fa_66_2|exact fa_70_1|exact fa_73_0|exact fa_73_1|exact fa_73_2|exact fa_27_0|exact fa_27_1|exact fa_27_2|exact fa_27_3|exact fa_27_4|exact aIj|exact aLE|exact aPi|exact aFN|exact fa_90_1|exact aOH|exact fa_337_0|exact fa_337_1|exact fa_90_0|exact fa_35_1|exact fa_92_0|exact fa_35_0|exact fa_92_1|exact fa_94_0|exact fa_94_1|exact fa_94_2|exact fa_35_2|exact fa_35_3|exact fa_35_4|exact aPk|exact aPl|exact aPm|exact aLF|exact aLG|exact aTr|exact fa_105_1|exact fa_105_2|exact aTs|exact aSf|exact aSg|exact aSh|exact fa_47_2|exact fa_47_3|exact fa_341_0|exact fa_341_1|exact fa_171_0|exact fa_171_1|exact fa_66_1|exact fa_70_0|exact fa_304_0|exact fa_304_1|exact fa_138_0|exact aTu|exact aTv|exact fa_47_0|exact fa_47_1|exact fa_361_1|exact fa_361_0|exact aTw|exact fa_217_2|exact fa_217_1|exact aLH|exact aTx|exact aPo|exact aPp|exact fa_135_3|exact fa_135_1|exact aTy|exact fa_135_2):p:=h
theorem za_3:ZA prog 3 [i64 0]:=⟨_,zeroValue3,rfl⟩
theorem za_35:ZA prog 35 [zS none 0 0,zS none 0 0,zS none 0 0,zS none 0 0,zS none 0 0]:=⟨_,zeroValue35,rfl⟩
theorem za_47:ZA prog 47 [i64 0,i64 0,zS none 0 0,zS none 0 0]:=⟨_,zeroValue47,rfl⟩
theorem za_83:ZA prog 83 [i64 0,i64 0,i64 0]:=⟨_,zeroValue83,rfl⟩
theorem za_90:ZA prog 90 [str ([]:aH),i64 0,zS none 0 0]:=⟨_,zeroValue90,rfl⟩
theorem za_92:ZA prog 92 [i64 0,zS none 0 0]:=⟨_,zeroValue92,rfl⟩
theorem za_94:ZA prog 94 [str ([]:aH),str ([]:aH),str ([]:aH)]:=⟨_,zeroValue94,rfl⟩
theorem za_105:ZA prog 105 [str ([]:aH),i64 0,i64 0,zS none 0 0]:=⟨_,zeroValue105,rfl⟩
theorem za_123:ZA prog 123 [i64 0,i64 0,zS none 0 0]:=⟨_,zeroValue123,rfl⟩
theorem za_131:ZA prog 131 [Value.pointer none]:=⟨_,zeroValue131,rfl⟩
theorem za_138:ZA prog 138 [i64 0,str ([]:aH),i64 0]:=⟨_,zeroValue138,rfl⟩
theorem za_155:ZA prog 155 [str ([]:aH),i64 0,i64 0,zS none 0 0]:=⟨_,zeroValue155,rfl⟩
theorem za_186:ZA prog 186 [i64 0,i64 0,str ([]:aH),zS none 0 0]:=⟨_,zeroValue186,rfl⟩
theorem za_300:ZA prog 300 [zS none 0 0]:=⟨_,zeroValue300,rfl⟩
theorem za_304:ZA prog 304 [i64 0,Value.bool false]:=⟨_,zeroValue304,rfl⟩
theorem za_337:ZA prog 337 [i64 0,i64 0]:=⟨_,zeroValue337,rfl⟩
theorem za_342:ZA prog 342 [Value.nilFunc]:=⟨_,zeroValue342,rfl⟩
theorem st_r {p:Prop} (h:p:=by with_reducible first|exact runUnderlying132|exact runUnderlying147|exact runUnderlying2|exact runUnderlying4|exact runUnderlying5|exact runUnderlying9):p:=h
theorem st_h {p:Prop} (h:p:=by with_reducible first|exact aIk|exact bs_155|exact aSe|exact bs_83|exact bs_47|exact bs_304|exact bs_361|exact bs_217|exact bs_149|exact bs_135|exact bs_138):p:=h
theorem st_e {p:Prop} (h:p:=by with_reducible first|exact ez_2|exact ez_9|exact oT|exact ez_5|exact aNd|exact aNe|exact aNf|exact aDI|exact ez_83|exact ez_337|exact ez_274|exact ez_186|exact ez_90|exact ez_92|exact ez_94|exact ez_304|exact ez_3|exact ez_323|exact ez_138|exact ez_68):p:=h
theorem st_u {p:Prop} (h:p:=by with_reducible first|exact underlying101|exact underlying107|exact underlying133|exact underlying150|exact underlying151|exact underlying206|exact underlying25|exact underlying359|exact underlying45|exact underlying48|exact underlying5|exact underlying52|exact underlying68|exact underlying9):p:=h
theorem st_z {p:Prop} (h:p:=by with_reducible first|exact sizeOf101|exact sizeOf105|exact sizeOf123|exact sizeOf131|exact sizeOf133|exact sizeOf138|exact sizeOf151|exact sizeOf155|exact sizeOf184|exact sizeOf186|exact sizeOf2|exact sizeOf25|exact sizeOf274|exact sizeOf3|exact sizeOf300|exact sizeOf304|exact sizeOf31|exact sizeOf32|exact sizeOf33|exact sizeOf337|exact sizeOf342|exact sizeOf35|exact sizeOf359|exact sizeOf45|exact sizeOf47|exact sizeOf48|exact sizeOf52|exact sizeOf68|exact sizeOf83|exact sizeOf88|exact sizeOf9|exact sizeOf90|exact sizeOf92|exact sizeOf94):p:=h
theorem st_y {p:Prop} (h:p:=by with_reducible first|exact za_3|exact za_35|exact za_47|exact za_83|exact za_90|exact za_92|exact za_94|exact za_105|exact za_123|exact za_131|exact za_138|exact za_155|exact za_186|exact za_300|exact za_304|exact za_337|exact za_342):p:=h
theorem aNg {p:Prop} (h:p:=by first|exact V_moveC|exact V_assignC|(apply V_B;first|(apply V_add;exact bM;exact bM)|(apply V_sub;exact bM;exact bM)|(apply V_mul;exact bM;exact bM)|(apply V_lss;exact bM;exact bM)|(apply V_leq;exact bM;exact bM)|(apply V_gtr;exact bM;exact bM)|(apply V_geq;exact bM;exact bM)|(apply V_eql;exact bM;exact bM)|(apply V_neq;exact bM;exact bM)|(apply V_eqlS;exact bM;exact bM)|(apply V_neqS;exact bM;exact bM)|(apply V_lssS;exact bM;exact bM)|(apply V_leqS;exact bM;exact bM)|(apply V_gtrS;exact bM;exact bM)|(apply V_geqS;exact bM;exact bM))|exact V_moveF|exact V_assignF|(apply V_move;exact bM)|(apply V_assign;exact bM)|(apply V_fldP;exact bM;exact st_F)|(apply V_fldE;exact bM;exact nD;exact st_F)|(apply V_fldO;exact bM;exact eO;exact aKF;exact eO;exact st_F)|(apply V_L;first|(apply V_ldB;exact bM;exact eO;exact aKF;exact rfl;exact xO)|(apply V_ldBG;exact bM;exact eO;exact aKF;exact aFw;exact st_D)|(apply aNN (t:=0);exact bM;exact nD;exact eO;exact rfl;exact xO)|(apply aNN (t:=1);exact bM;exact nD;exact eO;exact rfl;exact xO)|(apply aNN (t:=2);exact bM;exact nD;exact eO;exact rfl;exact xO)|(apply aNN (t:=3);exact bM;exact nD;exact eO;exact rfl;exact xO)|(apply aNN (t:=4);exact bM;exact nD;exact eO;exact rfl;exact xO)|(apply aNN (t:=5);exact bM;exact nD;exact eO;exact rfl;exact xO)|(apply aNN (t:=6);exact bM;exact nD;exact eO;exact rfl;exact xO)|(apply aNN (t:=7);exact bM;exact nD;exact eO;exact rfl;exact xO)|(apply aIh (t:=0);exact bM;exact nD;exact eO;exact aFw;exact rfl;exact rfl)|(apply aIh (t:=1);exact bM;exact nD;exact eO;exact aFw;exact rfl;exact rfl)|(apply aIh (t:=2);exact bM;exact nD;exact eO;exact aFw;exact rfl;exact rfl)|(apply aIh (t:=3);exact bM;exact nD;exact eO;exact aFw;exact rfl;exact rfl)|(apply aIh (t:=4);exact bM;exact nD;exact eO;exact aFw;exact rfl;exact rfl)|(apply aIh (t:=5);exact bM;exact nD;exact eO;exact aFw;exact rfl;exact rfl)|(apply aIh (t:=6);exact bM;exact nD;exact eO;exact aFw;exact rfl;exact rfl)|(apply aIh (t:=7);exact bM;exact nD;exact eO;exact aFw;exact rfl;exact rfl)|(apply V_ldO (t:=0);exact bM;exact eO;exact aKF;exact eO;exact rfl;exact rfl;exact xO)|(apply V_ldO (t:=1);exact bM;exact eO;exact aKF;exact eO;exact rfl;exact rfl;exact xO)|(apply V_ldO (t:=2);exact bM;exact eO;exact aKF;exact eO;exact rfl;exact rfl;exact xO)|(apply V_ldO (t:=3);exact bM;exact eO;exact aKF;exact eO;exact rfl;exact rfl;exact xO)|(apply V_ldO (t:=4);exact bM;exact eO;exact aKF;exact eO;exact rfl;exact rfl;exact xO)|(apply V_ldOG (t:=0);exact bM;exact eO;exact aKF;exact eO;exact rfl;exact aFw;exact rfl;exact rfl)|(apply V_ldOG (t:=1);exact bM;exact eO;exact aKF;exact eO;exact rfl;exact aFw;exact rfl;exact rfl)|(apply V_ldOG (t:=2);exact bM;exact eO;exact aKF;exact eO;exact rfl;exact aFw;exact rfl;exact rfl)|(apply aNP (t:=0);exact bM;exact eO;exact eO;exact kT;exact rfl;exact xO)|(apply aNP (t:=1);exact bM;exact eO;exact eO;exact kT;exact rfl;exact xO)|(apply aNP (t:=2);exact bM;exact eO;exact eO;exact kT;exact rfl;exact xO)|(apply aNP (t:=3);exact bM;exact eO;exact eO;exact kT;exact rfl;exact xO)|(apply aNP (t:=4);exact bM;exact eO;exact eO;exact kT;exact rfl;exact xO)|(apply aNP (t:=5);exact bM;exact eO;exact eO;exact kT;exact rfl;exact xO)|(apply aNP (t:=6);exact bM;exact eO;exact eO;exact kT;exact rfl;exact xO)|(apply aNP (t:=7);exact bM;exact eO;exact eO;exact kT;exact rfl;exact xO)|(apply aRW (t:=0);exact bM;exact eO;exact eO;exact kT;exact aFw;exact rfl;exact rfl)|(apply aRW (t:=1);exact bM;exact eO;exact eO;exact kT;exact aFw;exact rfl;exact rfl)|(apply aRW (t:=2);exact bM;exact eO;exact eO;exact kT;exact aFw;exact rfl;exact rfl)|(apply aRW (t:=3);exact bM;exact eO;exact eO;exact kT;exact aFw;exact rfl;exact rfl)|(apply aNO (t:=0);exact eO;exact nD;exact bM;exact rfl;exact xO)|(apply aNO (t:=1);exact eO;exact nD;exact bM;exact rfl;exact xO)|(apply aNO (t:=2);exact eO;exact nD;exact bM;exact rfl;exact xO)|(apply aNO (t:=3);exact eO;exact nD;exact bM;exact rfl;exact xO)|(apply aNO (t:=4);exact eO;exact nD;exact bM;exact rfl;exact xO)|(apply aNO (t:=5);exact eO;exact nD;exact bM;exact rfl;exact xO)|(apply aNO (t:=6);exact eO;exact nD;exact bM;exact rfl;exact xO)|(apply aNO (t:=7);exact eO;exact nD;exact bM;exact rfl;exact xO)|(apply aRV (t:=0);exact eO;exact nD;exact bM;exact aFw;exact rfl;exact rfl)|(apply aRV (t:=1);exact eO;exact nD;exact bM;exact aFw;exact rfl;exact rfl)|(apply aRV (t:=2);exact eO;exact nD;exact bM;exact aFw;exact rfl;exact rfl)|(apply aRV (t:=3);exact eO;exact nD;exact bM;exact aFw;exact rfl;exact rfl))|(apply V_lenS;exact st_S;exact bM)|(apply V_nilE;exact bM;exact nD)|(apply V_nilP;exact bM)|(apply V_nilO;exact bM;exact eO;exact aKF;exact eO)|(apply V_ixE;exact bM;exact bM;exact st_HR;exact eO;exact rfl;exact st_S;exact rfl)|(apply V_ixO;exact bM;exact bM;exact eO;exact aKF;exact eO;exact rfl;exact st_S;exact rfl)|(apply V_extract;exact bM;exact rfl)|(apply V_pickT;exact bM;exact vI;exact bM)|(apply V_pickF;exact bM;exact vI;exact bM)|(apply V_not;exact bM)|(apply V_lenStr;exact st_r;exact bM)|(apply V_ixS;exact st_r;exact bM;exact bM;exact eO)|(apply V_conv64;exact st_r;exact bM;exact ⟨_,st_r⟩)|(apply V_convu8';exact st_r;exact bM;exact ⟨_,st_r⟩)|(apply V_u8sub';exact bM;exact bM)|(apply V_neg;exact bM)|(apply V_quo;exact bM;exact bM;exact eO)|(apply V_rem;exact bM;exact bM;exact eO)|(apply V_cat;exact bM;exact bM;exact eO)|(apply V_neqB;exact st_r;exact bM;exact bM)|(apply V_min;exact bM;exact bM)|(apply V_max;exact bM;exact bM)|(apply V_slSLH;exact st_r;exact bM;exact bM;exact bM;exact eO)|(apply V_slSL;exact st_r;exact bM;exact bM;exact eO)|(apply V_slSH;exact st_r;exact bM;exact bM;exact eO)|(apply V_isNil;exact st_S;exact bM;exact rfl)|(apply V_build;exact st_h;exact rfl;exact (by kernel_rfl))|(apply aUX;exact rfl)):p:=h
theorem yZ {P:Program} {n:Nat} {f:Nat->Value} {w:World} {ty:TypeId} {pos:String} {af:Array Go.Edge} {C:World->Prop} {R:(Nat->Value)->World->Prop} {os:List Oper} {d:Nat} {op:Op} {v:Value} {bs:List Nat} {m:Nat} {listed:Array Bool} (i:Nat) (h:WA P n os.toArray C bs R m (listed.setIfInBounds i true) (upd f d v) w) (hi:aFs os i=some ⟨some d,op,ty,pos,af,none⟩:=by exact rfl) (hB:lookB os.toArray bs listed i=true:=by kernel_rfl) (hC:C w:=by first|exact ⟨_,by assumption⟩|exact ⟨_,aD.weakK (by assumption) kT⟩) (hr:∀ w,C w->EX P f op v d ty pos af w:=by rintro _ ⟨_,_⟩;exact aNg):WA P n os.toArray C bs R (m+1) listed f w:=V_WA hi hB hC hr h
theorem cV {p q:Prop} (k:q) (h:Hd q->p:=by
 intro hk
 first
  |(apply VO;exact aNg)
  |(apply VQ;intro _ _;exact aNg)
  |(apply bQ)
  |with_reducible apply aM
  |with_reducible apply iU
  |(apply gG)
  |(apply eN)
  |(apply kB)
  |(apply aHY)
  |(apply aRX;exact bM;exact vI)
  |(apply aRY;exact bM;exact vI)
  |with_reducible apply uC
  |with_reducible apply aBH
  |(with_reducible apply aMS;exact rfl)
  |(apply V_onT;exact rfl;exact bM;exact vI)
  |(apply V_onF;exact rfl;exact bM;exact vI)
  |(apply V_offF;exact rfl;exact bM;exact vI)
  |(apply V_offT;exact rfl;exact bM;exact vI)
  |(apply Q_onT;exact rfl;exact bM;exact vI)
  |(apply Q_onF;exact rfl;exact bM;exact vI)
  |(apply Q_offF;exact rfl;exact bM;exact vI)
  |(apply Q_offT;exact rfl;exact bM;exact vI)
  |(apply aOS;exact rfl;exact bM)
  |(apply aOY;exact rfl;exact bM)
  |(apply V_WE;exact rfl;rintro _ ⟨_,_⟩;exact aNg)
  |(apply V_WT;exact rfl;intro _;exact aNg)
 exact hk.k):p:=h ⟨k⟩
theorem aC {p q:Prop} (k:q) (h:Hd q->p:=by
 intro hk
 repeat (first
  |(apply VO;exact aNg)
  |(apply VQ;intro _ _;exact aNg)
  |(apply bQ)
  |with_reducible apply aM
  |with_reducible apply iU
  |(apply gG)
  |(apply eN)
  |(apply kB)
  |(apply aHY)
  |(apply aRX;exact bM;exact vI)
  |(apply aRY;exact bM;exact vI)
  |with_reducible apply uC
  |with_reducible apply aBH
  |(with_reducible apply aMS;exact rfl)
  |(apply V_onT;exact rfl;exact bM;exact vI)
  |(apply V_onF;exact rfl;exact bM;exact vI)
  |(apply V_offF;exact rfl;exact bM;exact vI)
  |(apply V_offT;exact rfl;exact bM;exact vI)
  |(apply Q_onT;exact rfl;exact bM;exact vI)
  |(apply Q_onF;exact rfl;exact bM;exact vI)
  |(apply Q_offF;exact rfl;exact bM;exact vI)
  |(apply Q_offT;exact rfl;exact bM;exact vI)
  |(apply aOS;exact rfl;exact bM)
  |(apply aOY;exact rfl;exact bM)
  |(apply V_WE;exact rfl;rintro _ ⟨_,_⟩;exact aNg)
  |(apply V_WT;exact rfl;intro _;exact aNg))
 exact hk.k):p:=h ⟨k⟩
theorem st_call {p:Prop} (h:p:=by with_reducible first|exact call4|exact call5|exact call6|exact call7|exact call8|exact call9|exact call10|exact call11|exact call12|exact call13|exact call14|exact call15|exact call16|exact call17|exact call18|exact call19|exact call20|exact call21|exact call22|exact call23|exact call24|exact call25|exact call26|exact call27|exact call28|exact call29|exact call30|exact call31|exact call32|exact call33|exact call34|exact call35|exact call36|exact call37|exact call38|exact call39|exact call40|exact call41|exact call42|exact call43|exact call44|exact call45|exact call46|exact call47|exact call48|exact call49|exact call50|exact call51|exact call52|exact call53|exact call54|exact call55|exact call56|exact call57|exact call58|exact call59|exact call60|exact call61|exact call62|exact call63|exact call64|exact call65|exact call66|exact call67|exact call68|exact call69|exact call70|exact call71|exact call72|exact call73|exact call74|exact call75|exact call76|exact call77|exact call78|exact call79|exact call80|exact call81|exact call82|exact call83|exact call84|exact call85|exact call86|exact call87|exact call88|exact call89|exact call90|exact call91|exact call92|exact call95|exact call96|exact call97|exact call98|exact call99|exact call100|exact call101|exact call102|exact call103|exact call104|exact call105|exact call106|exact call107|exact call108|exact call109|exact call110|exact call111|exact call112|exact call113|exact call114|exact call115|exact call116|exact call117|exact call118|exact call119|exact call120|exact call121|exact call123|exact call124|exact call125|exact call126|exact call127|exact call128|exact call129|exact call130|exact call132|exact call133|exact call134|exact call135|exact call136|exact call140|exact call141|exact call142|exact call143|exact call144|exact call145|exact call146|exact call147|exact call148|exact call149|exact call160|exact call161|exact call162|exact call163|exact call164|exact call165|exact call166|exact call167|exact call168|exact call169|exact call170|exact call171|exact call172|exact call173|exact call174|exact call175|exact call176|exact call177|exact call178|exact call179|exact call180|exact call181|exact call183|exact call193|exact call195|exact call198|exact call199|exact call200|exact call201|exact call203|exact call205|exact call206|exact call207|exact call208|exact call214|exact call215|exact call216|exact call217|exact call218|exact call219|exact call220|exact call221|exact call222|exact call223|exact call224|exact call225|exact call226|exact call227|exact call228|exact call229|exact call230|exact call231|exact call232|exact call233|exact call234|exact call235|exact call236|exact call237|exact call238|exact call260|exact call263|exact call264|exact call265|exact call272|exact call274|exact call275|exact call276|exact call277|exact call278|exact call279|exact call280|exact call281|exact call282|exact call283|exact call284|exact call285|exact call286|exact call287|exact call300|exact call301|exact call302|exact call303|exact call314|exact call315|exact call316|exact call317|exact call318|exact call319|exact call320|exact call321):p:=h
theorem st_f {p:Prop} (h:p:=by with_reducible first|exact func3|exact func4|exact func5|exact func6|exact func7|exact func8|exact func9|exact func10|exact func11|exact func12|exact func13|exact func14|exact func15|exact func16|exact func17|exact func18|exact func19|exact func20|exact func21|exact func22|exact func23|exact func24|exact func25|exact func26|exact func27|exact func28|exact func29|exact func30|exact func31|exact func32|exact func33|exact func34|exact func35|exact func36|exact func37|exact func38|exact func39|exact func40|exact func41|exact func42|exact func43|exact func44|exact func45|exact func46|exact func47|exact func48|exact func49|exact func50|exact func51|exact func53|exact func54|exact func55|exact func56|exact func57|exact func58|exact func59|exact func60|exact func61|exact func62|exact func63|exact func64|exact func65|exact func66|exact func67|exact func68|exact func69|exact func70|exact func71|exact func72|exact func73|exact func74|exact func75|exact func76|exact func77|exact func78|exact func79|exact func80|exact func81|exact func83|exact func84|exact func85|exact func87|exact func88|exact func89|exact func90|exact func91|exact func92|exact func95|exact func96|exact func97|exact func98|exact func99|exact func100|exact func101|exact func102|exact func103|exact func104|exact func105|exact func106|exact func107|exact func108|exact func109|exact func110|exact func111|exact func112|exact func113|exact func114|exact func115|exact func116|exact func117|exact func118|exact func119|exact func120|exact func122|exact func123|exact func124|exact func126|exact func127|exact func128|exact func129|exact func130|exact func132|exact func133|exact func134|exact func136|exact func140|exact func142|exact func144|exact func145|exact func146|exact func147|exact func148|exact func149|exact func160|exact func161|exact func162|exact func163|exact func164|exact func165|exact func166|exact func167|exact func168|exact func169|exact func170|exact func171|exact func172|exact func173|exact func174|exact func175|exact func176|exact func177|exact func178|exact func179|exact func180|exact func181|exact func193|exact func195|exact func198|exact func199|exact func200|exact func201|exact func205|exact func206|exact func207|exact func208|exact func214|exact func215|exact func216|exact func217|exact func218|exact func219|exact func220|exact func221|exact func222|exact func223|exact func224|exact func225|exact func226|exact func227|exact func228|exact func229|exact func230|exact func231|exact func232|exact func233|exact func234|exact func235|exact func236|exact func237|exact func238|exact func260|exact func263|exact func264|exact func265|exact func272|exact func274|exact func275|exact func276|exact func277|exact func278|exact func279|exact func280|exact func281|exact func282|exact func283|exact func284|exact func285|exact func286|exact func287|exact func300|exact func301|exact func302|exact func303|exact func314|exact func315|exact func316|exact func317|exact func318|exact func319|exact func320|exact func321):p:=h
theorem aRc {p:Prop} (h:p:=by first|((with_reducible apply aGz);exact rfl;exact rfl)|((with_reducible apply V_rvG);exact bM;exact eO;exact aKF;exact aFw;exact rfl;exact rfl)|((with_reducible apply V_rvB);exact bM;exact eO;exact aKF;exact xO;exact rfl)):p:=h
theorem st_X {p:Prop} (h:p:=by
 (repeat (first
  |exact bO
  |(with_reducible apply Exists.intro)
  |((with_reducible apply And.intro);· first|exact bO|(with_reducible assumption)|exact (Option.some.inj (by with_reducible assumption)).symm|exact rfl|assumption|exact zR _|exact kT|exact wT _|(apply st_rK;assumption;exact kT)|(apply st_cK;assumption;exact kT)|exact fB (by assumption))
  |(with_reducible assumption)|exact nC|exact rfl|assumption));first|done|fail):p:=h
theorem aDJ {p q:Prop} (k:q) (h:Hd q->p:=by
 intro hk
 (first|apply st_ca|apply st_cb|apply st_cq);exact st_call;(first|(with_reducible intro z z)|skip);(first|((with_reducible first|apply fE|apply oN|apply yM|apply qR|apply aBY|apply xQ|apply lG|apply aKu|apply aHQ|apply aCl|apply gC|apply aMp|apply aFk|apply aQG|apply aPH|apply aHJ|apply aHK|apply aIW|apply aIX|apply aIY|apply aQE|apply aIZ|apply aMg|apply aOr|apply aOs|apply aMh|apply sE|apply sF|apply aMi|apply aFd|apply aEi|apply aHH|apply aAC|apply aQD|apply aPD|apply aIO|apply aOt|apply aKr|apply aSm|apply aIR|apply aEj|apply aIS|apply aCq|apply aGd|apply aFe|apply aIT|apply pI|apply aEk|apply aEl|apply aHI|apply aGe|apply aBf|apply aIV|apply aBg|apply aHg|apply aCj|apply aKX|apply aHN|apply eJ|apply oM|apply aAF|apply aBh|apply aCw|apply aGj|apply aQF|apply aOw|apply aNo|apply aHO|apply aCk|apply aTC|apply aSp|apply aPG|apply aHP|apply aEq|apply aHh|apply aKU|apply aNn|apply yL|apply aKV|apply aHf|apply aBX|apply fZ|apply aMm|apply aPF|apply aAO|apply lB|apply fK|apply aKW|apply aEp|apply qF|apply lC|apply lT|apply aKR|apply aKo|apply aPt|apply aCp|apply aNh|apply aPu|apply aKp|apply aOm|apply aQB|apply aAB|apply uT|apply tZ|apply aEE|apply uU|apply aPv|apply aPw|apply aOn|apply aQC|apply aPx|apply aJT|apply aIL|apply aOo|apply aKS|apply aJU|apply aNi|apply aMe|apply aNj|apply aHD|apply aOp|apply aHE|apply aPy|apply aMf|apply aNk|apply aHF|apply aOy|apply aQH|apply aPI|apply aJW|apply aJe|apply aOz|apply aKY|apply aJX|apply aNp|apply aMq|apply aNq|apply aHR|apply wP|apply aFf|apply aHL|apply aJa|apply aJb|apply aJc|apply aHM|apply aFg|apply aKs|apply aJd|apply aOu|apply aKt|apply aPE|apply aCt|apply aBV|apply aOv|apply aEm|apply aCu|apply aGh|apply aFh|apply aGi|apply xK|apply aAD|apply jP|apply aJV|apply uY|apply aAE|apply aEn|apply aAM|apply wK|apply aSo|apply aEo|apply aCv|apply aMk|apply aBW|apply aMl|apply aAN|apply mV|apply gJ|apply yK|apply fX|apply lS|apply aKQ|apply oL|apply iA|apply tW|apply aBU|apply aCo|apply wJ|apply aEh|apply tX|apply aMo|apply wN|apply aAP|apply gT|apply uA|apply xP|apply wO|apply aCz|apply aIM|apply aKq|apply aHG|apply aPz|apply aOq|apply aSl|apply aNl|apply aPA|apply aPB|apply aPC|apply aIN|apply aNm|apply aKT);with_reducible assumption)|(with_reducible apply aIP;with_reducible assumption)|(with_reducible apply aIQ;with_reducible assumption)|(with_reducible apply aSn;with_reducible assumption)|(with_reducible apply aCr;with_reducible assumption)|(with_reducible apply aCs;with_reducible assumption)|(with_reducible apply aMj;with_reducible assumption)|(with_reducible apply aGf;with_reducible assumption)|(with_reducible apply aGg;with_reducible assumption)|(with_reducible apply aIU;with_reducible assumption)|(with_reducible apply rW;with_reducible assumption)|(with_reducible apply qG;with_reducible assumption)|(with_reducible apply aFi;with_reducible assumption)|(with_reducible apply aFj;with_reducible assumption)|(with_reducible apply aOx;with_reducible assumption)|(with_reducible apply aCx;with_reducible assumption)|(with_reducible apply aCy;with_reducible assumption)|(with_reducible apply aMn;with_reducible assumption)|(with_reducible apply mB;with_reducible assumption)|(with_reducible apply tY;with_reducible assumption)|(with_reducible apply rV;with_reducible assumption)|(with_reducible apply kO;with_reducible assumption)|(with_reducible apply fA;with_reducible assumption)|(with_reducible apply qP;with_reducible assumption)|(with_reducible apply qQ;with_reducible assumption)|(with_reducible apply sY;with_reducible assumption)|(with_reducible apply wL;with_reducible assumption)|(with_reducible apply wM;with_reducible assumption)|(with_reducible apply aHi;with_reducible assumption)|(with_reducible apply gA;with_reducible assumption)|(with_reducible apply lib_Cut;all_goals (try with_reducible assumption))|(with_reducible apply lib_Split;all_goals (try with_reducible assumption))|(with_reducible apply aTz;all_goals (try with_reducible assumption))|(with_reducible apply lib_Join;all_goals (try with_reducible assumption))|(with_reducible apply aFc;all_goals (try with_reducible assumption))|(with_reducible apply aOl;all_goals (try with_reducible assumption))|(with_reducible apply lib_SortSts;all_goals (try with_reducible assumption))|(with_reducible apply lib_SortPts;all_goals (try with_reducible assumption))|(with_reducible apply lib_SortStr;all_goals (try with_reducible assumption))|(with_reducible apply lib_SortEdge;all_goals (try with_reducible assumption)));(case hv=>exact rfl);(repeat (first|assumption|exact nC|(apply st_rK;assumption;exact kT)|(apply st_cK;assumption;exact kT)|exact wT _|exact kT|exact zR _|exact rfl|exact fB (by assumption)));exact hk.k;first|done|fail):p:=h ⟨k⟩
set_option maxRecDepth 100000 in
theorem aF {p:Prop} (h:p:=by
 repeat' (first
  |(apply st_i;exact bM;exact bM;exact eO;exact eO;exact rfl;exact st_S;exact rfl;intro z z zr;first|(have zr:=st_pd zr;subst zr)|obtain ⟨z,z,rfl,z⟩:=zr|obtain ⟨z,z,z,z,rfl,z,z⟩:=zr|obtain ⟨z,z,z,z,z,z,rfl,z,z,z⟩:=zr|obtain ⟨z,z,z,z,z,z,z,z,rfl,z,z,z,z⟩:=zr)
  |(apply st_iQ;exact bM;exact bM;exact eO;exact eO;exact rfl;exact st_S;exact rfl;intro z z zr;first|(have zr:=st_pd zr;subst zr)|obtain ⟨z,z,rfl,z⟩:=zr|obtain ⟨z,z,z,z,rfl,z,z⟩:=zr|obtain ⟨z,z,z,z,z,z,rfl,z,z,z⟩:=zr|obtain ⟨z,z,z,z,z,z,z,z,rfl,z,z,z,z⟩:=zr)
  |(apply st_iE;exact rfl;exact bM;exact bM;exact eO;exact eO;exact rfl;exact st_S;exact rfl;intro z z zr;first|(have zr:=st_pd zr;subst zr)|obtain ⟨z,z,rfl,z⟩:=zr|obtain ⟨z,z,z,z,rfl,z,z⟩:=zr|obtain ⟨z,z,z,z,z,z,rfl,z,z,z⟩:=zr|obtain ⟨z,z,z,z,z,z,z,z,rfl,z,z,z,z⟩:=zr)
  |(apply VO;exact aNg)
  |(apply VQ;intro _ _;exact aNg)
  |(apply bQ)
  |with_reducible apply aM
  |with_reducible apply iU
  |(apply gG)
  |(apply eN)
  |(apply kB)
  |(apply aHY)
  |(apply aRX;exact bM;exact vI)
  |(apply aRY;exact bM;exact vI)
  |with_reducible apply uC
  |with_reducible apply aBH
  |(with_reducible apply aMS;exact rfl)
  |(apply V_onT;exact rfl;exact bM;exact vI)
  |(apply V_onF;exact rfl;exact bM;exact vI)
  |(apply V_offF;exact rfl;exact bM;exact vI)
  |(apply V_offT;exact rfl;exact bM;exact vI)
  |(apply Q_onT;exact rfl;exact bM;exact vI)
  |(apply Q_onF;exact rfl;exact bM;exact vI)
  |(apply Q_offF;exact rfl;exact bM;exact vI)
  |(apply Q_offT;exact rfl;exact bM;exact vI)
  |(apply aOS;exact rfl;exact bM)
  |(apply aOY;exact rfl;exact bM)
  |(apply V_WE;exact rfl;rintro _ ⟨_,_⟩;exact aNg)
  |(apply V_WT;exact rfl;intro _;exact aNg)
  |apply aDC
  |with_reducible apply dX
  |with_reducible apply kS
  |exact st_X
  |(apply aRJ;exact rfl;exact rfl;refine aNQ hm (fun z=>?_);subst z;exact st_X)
  |(apply aOQ;exact rfl;exact rfl;exact rfl;refine aNQ hm (fun z=>?_);subst z;exact st_X)
  |(apply retQ_3;exact rfl;exact rfl;exact rfl;exact rfl;refine aNQ hm (fun z=>?_);subst z;exact st_X)
  |(apply retQ_m1;exact rfl;exact aRc;refine aNQ hm (fun z=>?_);subst z;exact st_X)
  |(apply retQ_m2;exact rfl;exact aRc;exact aRc;refine aNQ hm (fun z=>?_);subst z;exact st_X)
  |(apply aLw;exact rfl;exact aRc;exact aRc;exact aRc;refine aNQ hm (fun z=>?_);subst z;exact st_X)
  |(apply retQ_0n;exact rfl;refine aNQ hm (fun z=>?_);subst z;exact st_X)
  |(apply retQ_0;exact rfl;refine aNQ hm (fun z=>?_);subst z;exact st_X)
  |(refine cC st_f ?_)
  |intro (hm:(_:Option _)=some _)
  |intro (hr:∀ r',_=Sum.inr r'->_)
  |(with_reducible refine aCm fun z=>?_)
  |(with_reducible refine aCn ?_)
  |(intro (zv:(_:Value)=_);subst zv)
  |intro z
  |((with_reducible apply st_we);first|exact ⟨_,by assumption⟩|exact ⟨_,aD.weakK (by assumption) kT⟩)
  |(apply lM;exact rfl)
  |(apply WE_s;exact rfl)
  |apply yX
  |(have zq:=hr _ (Option.some.inj hm).symm;subst zq;have hm:=ho;clear hr ho;try dsimp only at hm)
  |obtain ⟨z,z,hm⟩:=aB hm
  |exact st_no hm
  |refine pO (fun z z z=>?_)
  |refine nB (fun z z=>?_)
  |refine sL (fun z z z=>?_)
  |refine st_ba (by with_reducible assumption) (fun z z z=>?_)
  |refine vJ (T:=101) ([]:List aN) (fun z z z=>?_)
  |refine vJ (T:=150) ([]:List (List bF)) (fun z z z=>?_)
  |refine vJ (T:=151) ([]:List bF) (fun z z z=>?_)
  |refine vJ (T:=206) ([]:List UInt8) (fun z z z=>?_)
  |refine vJ (T:=25) ([]:List aH) (fun z z z=>?_)
  |refine vJ (T:=45) ([]:List Edge) (fun z z z=>?_)
  |refine vJ (T:=48) ([]:List (List GPoint)) (fun z z z=>?_)
  |refine vJ (T:=52) ([]:List GPoint) (fun z z z=>?_)
  |refine vJ (T:=68) ([]:List Int) (fun z z z=>?_)
  |refine st_p (fun z z z z=>?_)
  |(apply st_q2;exact bM;exact bM;(first|assumption|(apply st_rK;assumption;exact kT));assumption;exact st_M;assumption;exact st_S;exact st_u;exact st_e;exact rfl;exact rfl;exact rfl;exact rfl;intro z z z z)
  |(apply sJ;intro z z)
  |refine aIi ?_
  |(apply bI)
  |(refine aDJ ?_;first|(intro z z;repeat (first|(with_reducible refine aCm fun z=>?_)|with_reducible refine aCn ?_|(intro (zv:(_:Value)=_);subst zv)|intro z))|skip)
  |((first|(apply nR;(with_reducible assumption);exact .head;(first|exact zR _|exact kT);intro zK zh zr zs bk)|(apply nS;(with_reducible assumption);exact .head;intro zK zh zr zs bk));refine aDJ ?_;(first|(intro z z;repeat (first|(with_reducible refine aCm fun z=>?_)|with_reducible refine aCn ?_|(intro (zv:(_:Value)=_);subst zv)|intro z))|skip);(have z:=bk _ _ (by with_reducible assumption);clear bk))
  |((first|(apply nR;(with_reducible assumption);exact zt1;(first|exact zR _|exact kT);intro zK zh zr zs bk)|(apply nS;(with_reducible assumption);exact zt1;intro zK zh zr zs bk));refine aDJ ?_;(first|(intro z z;repeat (first|(with_reducible refine aCm fun z=>?_)|with_reducible refine aCn ?_|(intro (zv:(_:Value)=_);subst zv)|intro z))|skip);(have z:=bk _ _ (by with_reducible assumption);clear bk))
  |((first|(apply nR;(with_reducible assumption);exact zt2;(first|exact zR _|exact kT);intro zK zh zr zs bk)|(apply nS;(with_reducible assumption);exact zt2;intro zK zh zr zs bk));refine aDJ ?_;(first|(intro z z;repeat (first|(with_reducible refine aCm fun z=>?_)|with_reducible refine aCn ?_|(intro (zv:(_:Value)=_);subst zv)|intro z))|skip);(have z:=bk _ _ (by with_reducible assumption);clear bk))
  |((first|(apply nR;(with_reducible assumption);exact zt3;(first|exact zR _|exact kT);intro zK zh zr zs bk)|(apply nS;(with_reducible assumption);exact zt3;intro zK zh zr zs bk));refine aDJ ?_;(first|(intro z z;repeat (first|(with_reducible refine aCm fun z=>?_)|with_reducible refine aCn ?_|(intro (zv:(_:Value)=_);subst zv)|intro z))|skip);(have z:=bk _ _ (by with_reducible assumption);clear bk))
  |((first|(apply nR;(with_reducible assumption);exact zt4;(first|exact zR _|exact kT);intro zK zh zr zs bk)|(apply nS;(with_reducible assumption);exact zt4;intro zK zh zr zs bk));refine aDJ ?_;(first|(intro z z;repeat (first|(with_reducible refine aCm fun z=>?_)|with_reducible refine aCn ?_|(intro (zv:(_:Value)=_);subst zv)|intro z))|skip);(have z:=bk _ _ (by with_reducible assumption);clear bk))
  |((first|(apply nR;(with_reducible assumption);exact .head;(first|exact zR _|exact kT);intro zK zh zr zs bk)|(apply nS;(with_reducible assumption);exact .head;intro zK zh zr zs bk));(first|(apply nR;(with_reducible assumption);exact .head;(first|exact zR _|exact kT);intro zK zh zr zs bk)|(apply nS;(with_reducible assumption);exact .head;intro zK zh zr zs bk));refine aDJ ?_;(first|(intro z z;repeat (first|(with_reducible refine aCm fun z=>?_)|with_reducible refine aCn ?_|(intro (zv:(_:Value)=_);subst zv)|intro z))|skip);(have z:=bk _ _ (by with_reducible assumption);clear bk);(have z:=bk _ _ (by with_reducible assumption);clear bk))
  |((first|(apply nR;(with_reducible assumption);exact zt1;(first|exact zR _|exact kT);intro zK zh zr zs bk)|(apply nS;(with_reducible assumption);exact zt1;intro zK zh zr zs bk));(first|(apply nR;(with_reducible assumption);exact zt1;(first|exact zR _|exact kT);intro zK zh zr zs bk)|(apply nS;(with_reducible assumption);exact zt1;intro zK zh zr zs bk));refine aDJ ?_;(first|(intro z z;repeat (first|(with_reducible refine aCm fun z=>?_)|with_reducible refine aCn ?_|(intro (zv:(_:Value)=_);subst zv)|intro z))|skip);(have z:=bk _ _ (by with_reducible assumption);clear bk);(have z:=bk _ _ (by with_reducible assumption);clear bk))
  |((first|(apply nR;(with_reducible assumption);exact zt1;(first|exact zR _|exact kT);intro zK zh zr zs bk)|(apply nS;(with_reducible assumption);exact zt1;intro zK zh zr zs bk));(first|(apply nR;(with_reducible assumption);exact .head;(first|exact zR _|exact kT);intro zK zh zr zs bk)|(apply nS;(with_reducible assumption);exact .head;intro zK zh zr zs bk));refine aDJ ?_;(first|(intro z z;repeat (first|(with_reducible refine aCm fun z=>?_)|with_reducible refine aCn ?_|(intro (zv:(_:Value)=_);subst zv)|intro z))|skip);(have z:=bk _ _ (by with_reducible assumption);clear bk);(have z:=bk _ _ (by with_reducible assumption);clear bk))
  |((first|(apply nR;(with_reducible assumption);exact zt2;(first|exact zR _|exact kT);intro zK zh zr zs bk)|(apply nS;(with_reducible assumption);exact zt2;intro zK zh zr zs bk));(first|(apply nR;(with_reducible assumption);exact zt1;(first|exact zR _|exact kT);intro zK zh zr zs bk)|(apply nS;(with_reducible assumption);exact zt1;intro zK zh zr zs bk));refine aDJ ?_;(first|(intro z z;repeat (first|(with_reducible refine aCm fun z=>?_)|with_reducible refine aCn ?_|(intro (zv:(_:Value)=_);subst zv)|intro z))|skip);(have z:=bk _ _ (by with_reducible assumption);clear bk);(have z:=bk _ _ (by with_reducible assumption);clear bk))
  |((first|(apply nR;(with_reducible assumption);exact zt2;(first|exact zR _|exact kT);intro zK zh zr zs bk)|(apply nS;(with_reducible assumption);exact zt2;intro zK zh zr zs bk));(first|(apply nR;(with_reducible assumption);exact zt1;(first|exact zR _|exact kT);intro zK zh zr zs bk)|(apply nS;(with_reducible assumption);exact zt1;intro zK zh zr zs bk));(first|(apply nR;(with_reducible assumption);exact zt1;(first|exact zR _|exact kT);intro zK zh zr zs bk)|(apply nS;(with_reducible assumption);exact zt1;intro zK zh zr zs bk));refine aDJ ?_;(first|(intro z z;repeat (first|(with_reducible refine aCm fun z=>?_)|with_reducible refine aCn ?_|(intro (zv:(_:Value)=_);subst zv)|intro z))|skip);(have z:=bk _ _ (by with_reducible assumption);clear bk);(have z:=bk _ _ (by with_reducible assumption);clear bk);(have z:=bk _ _ (by with_reducible assumption);clear bk))
  |((first|(apply nR;(with_reducible assumption);exact .head;(first|exact zR _|exact kT);intro zK zh zr zs bk)|(apply nS;(with_reducible assumption);exact .head;intro zK zh zr zs bk));(first|(apply nR;(with_reducible assumption);exact .head;(first|exact zR _|exact kT);intro zK zh zr zs bk)|(apply nS;(with_reducible assumption);exact .head;intro zK zh zr zs bk));(first|(apply nR;(with_reducible assumption);exact .head;(first|exact zR _|exact kT);intro zK zh zr zs bk)|(apply nS;(with_reducible assumption);exact .head;intro zK zh zr zs bk));refine aDJ ?_;(first|(intro z z;repeat (first|(with_reducible refine aCm fun z=>?_)|with_reducible refine aCn ?_|(intro (zv:(_:Value)=_);subst zv)|intro z))|skip);(have z:=bk _ _ (by with_reducible assumption);clear bk);(have z:=bk _ _ (by with_reducible assumption);clear bk);(have z:=bk _ _ (by with_reducible assumption);clear bk))
  |((first|(apply nR;(with_reducible assumption);exact zt1;(first|exact zR _|exact kT);intro zK zh zr zs bk)|(apply nS;(with_reducible assumption);exact zt1;intro zK zh zr zs bk));(first|(apply nR;(with_reducible assumption);exact zt1;(first|exact zR _|exact kT);intro zK zh zr zs bk)|(apply nS;(with_reducible assumption);exact zt1;intro zK zh zr zs bk));(first|(apply nR;(with_reducible assumption);exact zt1;(first|exact zR _|exact kT);intro zK zh zr zs bk)|(apply nS;(with_reducible assumption);exact zt1;intro zK zh zr zs bk));refine aDJ ?_;(first|(intro z z;repeat (first|(with_reducible refine aCm fun z=>?_)|with_reducible refine aCn ?_|(intro (zv:(_:Value)=_);subst zv)|intro z))|skip);(have z:=bk _ _ (by with_reducible assumption);clear bk);(have z:=bk _ _ (by with_reducible assumption);clear bk);(have z:=bk _ _ (by with_reducible assumption);clear bk))
  |((first|(apply nR;(with_reducible assumption);exact zt3;(first|exact zR _|exact kT);intro zK zh zr zs bk)|(apply nS;(with_reducible assumption);exact zt3;intro zK zh zr zs bk));(first|(apply nR;(with_reducible assumption);exact zt2;(first|exact zR _|exact kT);intro zK zh zr zs bk)|(apply nS;(with_reducible assumption);exact zt2;intro zK zh zr zs bk));(first|(apply nR;(with_reducible assumption);exact zt2;(first|exact zR _|exact kT);intro zK zh zr zs bk)|(apply nS;(with_reducible assumption);exact zt2;intro zK zh zr zs bk));refine aDJ ?_;(first|(intro z z;repeat (first|(with_reducible refine aCm fun z=>?_)|with_reducible refine aCn ?_|(intro (zv:(_:Value)=_);subst zv)|intro z))|skip);(have z:=bk _ _ (by with_reducible assumption);clear bk);(have z:=bk _ _ (by with_reducible assumption);clear bk);(have z:=bk _ _ (by with_reducible assumption);clear bk))
  |((first|(apply nR;(with_reducible assumption);exact .head;(first|exact zR _|exact kT);intro zK zh zr zs bk)|(apply nS;(with_reducible assumption);exact .head;intro zK zh zr zs bk));(first|(apply nR;(with_reducible assumption);exact .head;(first|exact zR _|exact kT);intro zK zh zr zs bk)|(apply nS;(with_reducible assumption);exact .head;intro zK zh zr zs bk));(first|(apply nR;(with_reducible assumption);exact .head;(first|exact zR _|exact kT);intro zK zh zr zs bk)|(apply nS;(with_reducible assumption);exact .head;intro zK zh zr zs bk));(first|(apply nR;(with_reducible assumption);exact .head;(first|exact zR _|exact kT);intro zK zh zr zs bk)|(apply nS;(with_reducible assumption);exact .head;intro zK zh zr zs bk));refine aDJ ?_;(first|(intro z z;repeat (first|(with_reducible refine aCm fun z=>?_)|with_reducible refine aCn ?_|(intro (zv:(_:Value)=_);subst zv)|intro z))|skip);(have z:=bk _ _ (by with_reducible assumption);clear bk);(have z:=bk _ _ (by with_reducible assumption);clear bk);(have z:=bk _ _ (by with_reducible assumption);clear bk);(have z:=bk _ _ (by with_reducible assumption);clear bk))
  |((first|(with_reducible apply st_g0)|(with_reducible apply st_g1)|(with_reducible apply st_g2)|(with_reducible apply st_g3)|(apply st_g4;exact rfl));rcases aG hm with ⟨z,hm⟩|⟨z,hm⟩))):p:=h
end Gv
