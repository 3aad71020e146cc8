/- Readings of the program's data; what is known of its types. -/
import Derived.Test.YtnaggbljhaoimaaGreatDoorJYS
import Derived.Test.YtnaggbljhaoimaaGreatDoorProg
set_option linter.all false
namespace Gv
open Go.Value renaming slice→zS
open Go Go.Proofs Go.Proofs.Tryz
instance:dP Edge where
 sz:=3
 enc d:=[i64 d.F,i64 d.B,i64 d.To]
 len _:=rfl
 one _ v h:=by simp at h;rcases h with rfl|rfl|rfl<;>rfl
 pos:=by decide
instance:El aW where
 sz:=4
 rd K cs d:=∃ (a0:Option Addr) (c0:Nat) (a1:Option Addr) (c1:Nat),cs=[i64 d.N,i64 d.I,zS a0 d.L.length c0,zS a1 d.E.length c1]/\bK K a0 c0 d.L/\bK K a1 c1 d.E
 mono:=fun h ⟨a0,c0,a1,c1,e,h0,h1⟩=>⟨a0,c0,a1,c1,e,h0.mono h,h1.mono h⟩
 len:=fun ⟨_,_,_,_,e,_⟩=>by rw [e];rfl
 one:=fun ⟨_,_,_,_,e,_⟩ v hv=>by rw [e] at hv;simp at hv;rcases hv with rfl|rfl|rfl|rfl<;>rfl
 pos:=by decide
instance:dP aT where
 sz:=3
 enc d:=[str d.Left,str d.Right,str d.Result]
 len _:=rfl
 one _ v h:=by simp at h;rcases h with rfl|rfl|rfl<;>rfl
 pos:=by decide
instance:El bB where
 sz:=4
 rd K cs d:=∃ (a0:Option Addr) (c0:Nat) (a1:Option Addr) (c1:Nat) (a2:Option Addr) (c2:Nat) (a3:Option Addr) (c3:Nat),cs=[zS a0 d.Parts.length c0,zS a1 d.Meetings.length c1,zS a2 d.Allowed.length c2,zS a3 d.Hidden.length c3]/\bK K a0 c0 d.Parts/\bK K a1 c1 d.Meetings/\bK K a2 c2 d.Allowed/\bK K a3 c3 d.Hidden
 mono:=fun h ⟨a0,c0,a1,c1,a2,c2,a3,c3,e,h0,h1,h2,h3⟩=>⟨a0,c0,a1,c1,a2,c2,a3,c3,e,h0.mono h,h1.mono h,h2.mono h,h3.mono h⟩
 len:=fun ⟨_,_,_,_,_,_,_,_,e,_⟩=>by rw [e];rfl
 one:=fun ⟨_,_,_,_,_,_,_,_,e,_⟩ v hv=>by rw [e] at hv;simp at hv;rcases hv with rfl|rfl|rfl|rfl<;>rfl
 pos:=by decide
instance:Dp aW where
 Hd:=(Option Addr × Nat) × (Option Addr × Nat)
 sz1:=3
 enc hd x:=[i64 x.N,i64 x.I,.slice hd.1.1 x.L.length hd.1.2,.slice hd.2.1 x.E.length hd.2.2]
 pcs tys hd x:=[aM (tys.headD 0) Hp.nil hd.1.1 hd.1.2 x.L,aM (tys.tail.headD 0) Hp.nil hd.2.1 hd.2.2 x.E]
 len _ _:=rfl
 one _ _ v h:=by simp at h;rcases h with rfl|rfl|rfl|rfl<;>rfl
instance:DpEl aW where
 sz:=rfl
 rd:=fun {tys hd x h K} a hK=>by
  obtain ⟨p0,r0,b0,_,l0,m0,a⟩:=a
  obtain ⟨p1,r1,b1,_,l1,m1,a⟩:=a
  exact ⟨hd.1.1,hd.1.2,hd.2.1,hd.2.2,rfl,aM.rd b0 (Hp.le_trans l0 (hK)) (Hp.nil_le _),aM.rd b1 (Hp.le_trans l1 (Hp.le_trans m0 (hK))) (Hp.nil_le _)⟩
theorem aMp (tys:List TypeId):fN (Dp.pcs tys (((none,0),(none,0)):Dp.Hd aW) (⟨0,0,[],[]⟩:aW)) Hp.nil:=
 ⟨Hp.nil,Hp.nil,aM.nil _ _ _,Hp.nil_dj _,Hp.nil_le _,Hp.nil_le _,⟨Hp.nil,Hp.nil,aM.nil _ _ _,Hp.nil_dj _,Hp.nil_le _,Hp.nil_le _,trivial⟩⟩
theorem enc_Lts_0 {hd:Dp.Hd aW} {x:aW} {l:(List aV)} (h:x.L.length=l.length):Dp.enc hd (⟨x.N,x.I,l,x.E⟩:aW)=Dp.enc hd x:=by
 simp only [Dp.enc,h]
theorem enc_Lts_1 {hd:Dp.Hd aW} {x:aW} {l:(List Edge)} (h:x.E.length=l.length):Dp.enc hd (⟨x.N,x.I,x.L,l⟩:aW)=Dp.enc hd x:=by
 simp only [Dp.enc,h]
theorem gL:SLT prog 24 9 1:=⟨runUnderlying24,sizeOf9⟩
theorem aHb:SC prog 9:=⟨isAgg9,sizeOf9⟩
theorem bC:SLT prog 105 2 1:=⟨runUnderlying105,sizeOf2⟩
theorem vG:EZ prog 2 [i64 0]:=⟨⟨_,zeroValue2,rfl⟩,⟨t2,typeInfo2,by show (8:Nat)<=128;decide,rfl,by kernel_rfl,_,rfl,rfl⟩⟩
theorem eZ:SC prog 2:=⟨isAgg2,sizeOf2⟩
theorem aEo:EZ prog 9 [str []]:=⟨⟨_,zeroValue9,rfl⟩,⟨t9,typeInfo9,by show (16:Nat)<=128;decide,rfl,by kernel_rfl,_,rfl,rfl⟩⟩
theorem sl_56:SLT prog 56 110 3:=⟨runUnderlying56,sizeOf110⟩
theorem fa_58_2:FA prog 58 2 2:=⟨_,_,_,runUnderlying58,rfl,sizeOf24,rfl,rfl⟩
theorem aBU:SC prog 24:=⟨isAgg24,sizeOf24⟩
theorem fa_58_3:FA prog 58 3 3:=⟨_,_,_,runUnderlying58,rfl,sizeOf56,rfl,rfl⟩
theorem sc_56:SC prog 56:=⟨isAgg56,sizeOf56⟩
theorem sl_22:SLT prog 22 58 4:=⟨runUnderlying22,sizeOf58⟩
theorem ag_58:AG prog 58 4:=⟨isAgg58,sizeOf58⟩
theorem fa_61_0:FA prog 61 0 0:=⟨_,_,_,runUnderlying61,rfl,sizeOf9,rfl,rfl⟩
theorem fa_61_1:FA prog 61 1 1:=⟨_,_,_,runUnderlying61,rfl,sizeOf9,rfl,rfl⟩
theorem fa_61_2:FA prog 61 2 2:=⟨_,_,_,runUnderlying61,rfl,sizeOf9,rfl,rfl⟩
theorem sl_23:SLT prog 23 61 3:=⟨runUnderlying23,sizeOf61⟩
theorem ag_61:AG prog 61 3:=⟨isAgg61,sizeOf61⟩
theorem fa_26_0:FA prog 26 0 0:=⟨_,_,_,runUnderlying26,rfl,sizeOf22,rfl,rfl⟩
theorem sc_22:SC prog 22:=⟨isAgg22,sizeOf22⟩
theorem fa_26_1:FA prog 26 1 1:=⟨_,_,_,runUnderlying26,rfl,sizeOf23,rfl,rfl⟩
theorem sc_23:SC prog 23:=⟨isAgg23,sizeOf23⟩
theorem fa_26_2:FA prog 26 2 2:=⟨_,_,_,runUnderlying26,rfl,sizeOf24,rfl,rfl⟩
theorem fa_26_3:FA prog 26 3 3:=⟨_,_,_,runUnderlying26,rfl,sizeOf24,rfl,rfl⟩
theorem sV:SLT prog 29 73 3:=⟨runUnderlying29,sizeOf73⟩
theorem ag_73:AG prog 73 3:=⟨isAgg73,sizeOf73⟩
theorem aIr:FA prog 73 0 0:=⟨_,_,_,runUnderlying73,rfl,sizeOf9,rfl,rfl⟩
theorem aIs:FA prog 73 1 1:=⟨_,_,_,runUnderlying73,rfl,sizeOf9,rfl,rfl⟩
theorem fa_73_2:FA prog 73 2 2:=⟨_,_,_,runUnderlying73,rfl,sizeOf9,rfl,rfl⟩
theorem qK:FA prog 87 0 0:=⟨_,_,_,runUnderlying87,rfl,sizeOf2,rfl,rfl⟩
theorem aAo:FA prog 87 1 1:=⟨_,_,_,runUnderlying87,rfl,sizeOf2,rfl,rfl⟩
theorem qL:FA prog 87 2 2:=⟨_,_,_,runUnderlying87,rfl,sizeOf2,rfl,rfl⟩
theorem mL:FA prog 68 0 0:=⟨_,_,_,runUnderlying68,rfl,sizeOf2,rfl,rfl⟩
theorem aBV:FA prog 68 1 1:=⟨_,_,_,runUnderlying68,rfl,sizeOf2,rfl,rfl⟩
theorem aAp:FA prog 68 2 2:=⟨_,_,_,runUnderlying68,rfl,sizeOf24,rfl,rfl⟩
theorem eX:FA prog 68 3 3:=⟨_,_,_,runUnderlying68,rfl,sizeOf66,rfl,rfl⟩
theorem lX:SC prog 66:=⟨isAgg66,sizeOf66⟩
theorem cO:SLT prog 66 87 3:=⟨runUnderlying66,sizeOf87⟩
theorem nU:AG prog 87 3:=⟨isAgg87,sizeOf87⟩
theorem vJ:FA prog 31 0 0:=⟨_,_,_,runUnderlying31,rfl,sizeOf28,rfl,rfl⟩
theorem aGm:SC prog 28:=⟨isAgg28,sizeOf28⟩
theorem qM:SLT prog 28 68 4:=⟨runUnderlying28,sizeOf68⟩
theorem aEW:FA prog 31 1 1:=⟨_,_,_,runUnderlying31,rfl,sizeOf29,rfl,rfl⟩
theorem sc_29:SC prog 29:=⟨isAgg29,sizeOf29⟩
theorem aGn:FA prog 31 2 2:=⟨_,_,_,runUnderlying31,rfl,sizeOf24,rfl,rfl⟩
theorem aIt:FA prog 31 3 3:=⟨_,_,_,runUnderlying31,rfl,sizeOf24,rfl,rfl⟩
theorem aFq:BS prog 68 [(0,1),(1,1),(2,1),(3,1)] [i64 0,i64 0,zS none 0 0,zS none 0 0]:=⟨⟨_,zeroValue68,rfl⟩,_,runUnderlying68,fun w=>by simp [sizeOf2,sizeOf24,sizeOf66]⟩
theorem aAb:EZ prog 87 [i64 0,i64 0,i64 0]:=⟨⟨_,zeroValue87,rfl⟩,⟨t87,typeInfo87,by show (24:Nat)<=128;decide,rfl,by kernel_rfl,_,rfl,rfl⟩⟩
theorem vK:AG prog 68 4:=⟨isAgg68,sizeOf68⟩
theorem aIQ:EZ prog 68 [i64 0,i64 0,zS none 0 0,zS none 0 0]:=⟨⟨_,zeroValue68,rfl⟩,⟨t68,typeInfo68,by show (64:Nat)<=128;decide,rfl,by kernel_rfl,_,rfl,rfl⟩⟩
theorem aKD:BS prog 31 [(0,1),(1,1),(2,1),(3,1)] [zS none 0 0,zS none 0 0,zS none 0 0,zS none 0 0]:=⟨⟨_,zeroValue31,rfl⟩,_,runUnderlying31,fun w=>by simp [sizeOf24,sizeOf28,sizeOf29]⟩
theorem aKE:EZ prog 73 [str [],str [],str []]:=⟨⟨_,zeroValue73,rfl⟩,⟨t73,typeInfo73,by show (48:Nat)<=128;decide,rfl,by kernel_rfl,_,rfl,rfl⟩⟩
theorem qN:AG prog 31 4:=⟨isAgg31,sizeOf31⟩
theorem jG:SLT prog 128 4 1:=⟨runUnderlying128,sizeOf4⟩
theorem ez_4:EZ prog 4 [Value.bool false]:=⟨⟨_,zeroValue4,rfl⟩,⟨t4,typeInfo4,by show (1:Nat)<=128;decide,rfl,by kernel_rfl,_,rfl,rfl⟩⟩
theorem sc_4:SC prog 4:=⟨isAgg4,sizeOf4⟩
theorem bs_87:BS prog 87 [(0,1),(1,1),(2,1)] [i64 0,i64 0,i64 0]:=⟨⟨_,zeroValue87,rfl⟩,_,runUnderlying87,fun w=>by simp [sizeOf2]⟩
theorem mA:SLT prog 155 105 1:=⟨runUnderlying155,sizeOf105⟩
theorem aAU:EZ prog 105 [zS none 0 0]:=⟨⟨_,zeroValue105,rfl⟩,⟨t105,typeInfo105,by show (24:Nat)<=128;decide,rfl,by kernel_rfl,_,rfl,rfl⟩⟩
theorem zN:SC prog 105:=⟨isAgg105,sizeOf105⟩
theorem fa_110_0:FA prog 110 0 0:=⟨_,_,_,runUnderlying110,rfl,sizeOf2,rfl,rfl⟩
theorem fa_110_1:FA prog 110 1 1:=⟨_,_,_,runUnderlying110,rfl,sizeOf2,rfl,rfl⟩
theorem fa_110_2:FA prog 110 2 2:=⟨_,_,_,runUnderlying110,rfl,sizeOf2,rfl,rfl⟩
theorem ag_110:AG prog 110 3:=⟨isAgg110,sizeOf110⟩
theorem fa_58_0:FA prog 58 0 0:=⟨_,_,_,runUnderlying58,rfl,sizeOf2,rfl,rfl⟩
theorem fa_58_1:FA prog 58 1 1:=⟨_,_,_,runUnderlying58,rfl,sizeOf2,rfl,rfl⟩
theorem sl_143:SLT prog 143 3 1:=⟨runUnderlying143,sizeOf3⟩
theorem ez_3:EZ prog 3 [i64 0]:=⟨⟨_,zeroValue3,rfl⟩,⟨t3,typeInfo3,by show (8:Nat)<=128;decide,rfl,by kernel_rfl,_,rfl,rfl⟩⟩
theorem sc_3:SC prog 3:=⟨isAgg3,sizeOf3⟩
theorem sc_128:SC prog 128:=⟨isAgg128,sizeOf128⟩
theorem ko_2:KeyOk prog 2 Int:=keyOk_int runUnderlying2
theorem sl_103:SLT prog 103 5 1:=⟨runUnderlying103,sizeOf5⟩
theorem ez_5:EZ prog 5 [Value.int .u8 0]:=⟨⟨_,zeroValue5,rfl⟩,⟨t5,typeInfo5,by show (1:Nat)<=128;decide,rfl,by kernel_rfl,_,rfl,rfl⟩⟩
theorem aKF:AG prog 26 4:=⟨isAgg26,sizeOf26⟩
theorem st_87:prog.stoodInHeld 87=false:=by kernel_rfl
theorem eq_87 {x y:Edge}:EQT prog 87 [i64 x.F,i64 x.B,i64 x.To] [i64 y.F,i64 y.B,i64 y.To] (decide (x=y)):=by
 refine ⟨by kernel_rfl,fun w=>?_⟩
 have h2:∀ (a b:Int),(Op.equalIn 9999 2 (i64 a) (i64 b)).run prog w=.ok (a == b) w:=fun a b=>run_eqInI 9998 (runUnderlying2 w)
 have:Op.maxDepth=9999+1:=rfl
 unfold Op.equal
 rw [this]
 unfold Op.equalIn
 simp [runUnderlying87,st_87,part,h2,isAgg2]
 cases x;cases y
 simp
 repeat' split<;>simp_all
theorem Tryz_mixed:prog.follows .mixedOrders=true:=by kernel_rfl
abbrev zC (d:aW) (a:Option Addr) (c:Nat) (b:Option Addr) (e:Nat):List Value:=[i64 d.N,i64 d.I,Value.slice a d.L.length c,Value.slice b d.E.length e]
abbrev zCa (d:aW) (a:Option Addr) (c:Nat) (b:Option Addr) (e:Nat):Array Value:=#[i64 d.N,i64 d.I,Value.slice a d.L.length c,Value.slice b d.E.length e]
abbrev zG:List Value:=[i64 0,i64 0,Value.slice none 0 0,Value.slice none 0 0]
abbrev zGa:Array Value:=#[i64 0,i64 0,Value.slice none 0 0,Value.slice none 0 0]
abbrev zK:List Value:=[i64 0,i64 0,Value.slice none 0 0,Value.slice none 0 0,Value.slice none 0 0,Value.slice none 0 0]
abbrev zKa:Array Value:=#[i64 0,i64 0,Value.slice none 0 0,Value.slice none 0 0,Value.slice none 0 0,Value.slice none 0 0]
end Gv
namespace Gv
open Go.Value renaming slice→zS
open Gv.Hp renaming le_refl→zR
open Go Go.Proofs Go.Proofs.Tryz
theorem lY {p:Prop} (h:p:=by first|assumption|(apply st_cK;assumption;exact kD)):p:=h
theorem st_HR {p:Prop} (h:p:=by first|assumption|(apply st_rK;assumption;exact kD)):p:=h
theorem st_S {p:Prop} (h:p:=by with_reducible first|exact gL|exact bC|exact sl_56|exact sl_22|exact sl_23|exact sV|exact cO|exact qM|exact jG|exact mA|exact sl_143|exact sl_103):p:=h
theorem uG {p:Prop} (h:p:=by with_reducible first|exact aHb|exact eZ|exact aBU|exact sc_56|exact sc_22|exact sc_23|exact lX|exact aGm|exact sc_29|exact sc_4|exact zN|exact sc_3|exact sc_128):p:=h
theorem aCt {p:Prop} (h:p:=by with_reducible first|exact ag_58|exact ag_61|exact ag_73|exact nU|exact vK|exact qN|exact ag_110|exact aKF):p:=h
theorem st_F {p:Prop} (h:p:=by with_reducible first|exact fa_58_2|exact fa_58_3|exact fa_61_0|exact fa_61_1|exact fa_61_2|exact fa_26_0|exact fa_26_1|exact fa_26_2|exact fa_26_3|exact aIr|exact aIs|exact fa_73_2|exact qK|exact aAo|exact qL|exact mL|exact aBV|exact aAp|exact eX|exact vJ|exact aEW|exact aGn|exact aIt|exact fa_110_0|exact fa_110_1|exact fa_110_2|exact fa_58_0|exact fa_58_1):p:=h
theorem za_31:ZA prog 31 [zS none 0 0,zS none 0 0,zS none 0 0,zS none 0 0]:=⟨_,zeroValue31,rfl⟩
theorem za_68:ZA prog 68 [i64 0,i64 0,zS none 0 0,zS none 0 0]:=⟨_,zeroValue68,rfl⟩
theorem za_73:ZA prog 73 [str ([]:aV),str ([]:aV),str ([]:aV)]:=⟨_,zeroValue73,rfl⟩
theorem za_87:ZA prog 87 [i64 0,i64 0,i64 0]:=⟨_,zeroValue87,rfl⟩
theorem za_105:ZA prog 105 [zS none 0 0]:=⟨_,zeroValue105,rfl⟩
theorem za_128:ZA prog 128 [zS none 0 0]:=⟨_,zeroValue128,rfl⟩
theorem aHW {p:Prop} (h:p:=by with_reducible first|exact runUnderlying171|exact runUnderlying2|exact runUnderlying240|exact runUnderlying3|exact runUnderlying4|exact runUnderlying5|exact runUnderlying9):p:=h
theorem st_h {p:Prop} (h:p:=by with_reducible first|exact aFq|exact aKD|exact bs_87):p:=h
theorem st_e {p:Prop} (h:p:=by with_reducible first|exact vG|exact aEo|exact aAb|exact aIQ|exact aKE|exact ez_4|exact aAU|exact ez_3|exact ez_5):p:=h
theorem st_u {p:Prop} (h:p:=by with_reducible first|exact underlying103|exact underlying105|exact underlying155|exact underlying24|exact underlying28|exact underlying29|exact underlying5|exact underlying66|exact underlying9):p:=h
theorem st_z {p:Prop} (h:p:=by with_reducible first|exact sizeOf105|exact sizeOf128|exact sizeOf2|exact sizeOf24|exact sizeOf28|exact sizeOf29|exact sizeOf31|exact sizeOf4|exact sizeOf66|exact sizeOf68|exact sizeOf73|exact sizeOf87|exact sizeOf9):p:=h
theorem st_y {p:Prop} (h:p:=by with_reducible first|exact za_31|exact za_68|exact za_73|exact za_87|exact za_105|exact za_128):p:=h
theorem st_V {p:Prop} (h:p:=by first|exact V_moveC|exact V_assignC|(apply V_B;first|(apply V_add;exact bT;exact bT)|(apply V_sub;exact bT;exact bT)|(apply V_mul;exact bT;exact bT)|(apply V_lss;exact bT;exact bT)|(apply V_leq;exact bT;exact bT)|(apply V_gtr;exact bT;exact bT)|(apply V_geq;exact bT;exact bT)|(apply V_eql;exact bT;exact bT)|(apply V_neq;exact bT;exact bT)|(apply V_eqlS;exact bT;exact bT)|(apply V_neqS;exact bT;exact bT)|(apply V_lssS;exact bT;exact bT)|(apply V_leqS;exact bT;exact bT)|(apply V_gtrS;exact bT;exact bT)|(apply V_geqS;exact bT;exact bT))|exact V_moveF|exact V_assignF|(apply V_move;exact bT)|(apply V_assign;exact bT)|(apply V_fldP;exact bT;exact st_F)|(apply V_fldE;exact bT;exact lY;exact st_F)|(apply V_fldO;exact bT;exact dY;exact aFP;exact dY;exact st_F)|(apply V_L;first|(apply V_ldB;exact bT;exact dY;exact aFP;exact rfl;exact uG)|(apply V_ldBG;exact bT;exact dY;exact aFP;exact aCt;exact st_D)|(apply aHz (t:=0);exact bT;exact lY;exact dY;exact rfl;exact uG)|(apply aHz (t:=1);exact bT;exact lY;exact dY;exact rfl;exact uG)|(apply aHz (t:=2);exact bT;exact lY;exact dY;exact rfl;exact uG)|(apply aHz (t:=3);exact bT;exact lY;exact dY;exact rfl;exact uG)|(apply aHz (t:=4);exact bT;exact lY;exact dY;exact rfl;exact uG)|(apply aHz (t:=5);exact bT;exact lY;exact dY;exact rfl;exact uG)|(apply aHz (t:=6);exact bT;exact lY;exact dY;exact rfl;exact uG)|(apply aHz (t:=7);exact bT;exact lY;exact dY;exact rfl;exact uG)|(apply aEn (t:=0);exact bT;exact lY;exact dY;exact aCt;exact rfl;exact rfl)|(apply aEn (t:=1);exact bT;exact lY;exact dY;exact aCt;exact rfl;exact rfl)|(apply aEn (t:=2);exact bT;exact lY;exact dY;exact aCt;exact rfl;exact rfl)|(apply aEn (t:=3);exact bT;exact lY;exact dY;exact aCt;exact rfl;exact rfl)|(apply aEn (t:=4);exact bT;exact lY;exact dY;exact aCt;exact rfl;exact rfl)|(apply aEn (t:=5);exact bT;exact lY;exact dY;exact aCt;exact rfl;exact rfl)|(apply aEn (t:=6);exact bT;exact lY;exact dY;exact aCt;exact rfl;exact rfl)|(apply aEn (t:=7);exact bT;exact lY;exact dY;exact aCt;exact rfl;exact rfl)|(apply V_ldO (t:=0);exact bT;exact dY;exact aFP;exact dY;exact rfl;exact rfl;exact uG)|(apply V_ldO (t:=1);exact bT;exact dY;exact aFP;exact dY;exact rfl;exact rfl;exact uG)|(apply V_ldO (t:=2);exact bT;exact dY;exact aFP;exact dY;exact rfl;exact rfl;exact uG)|(apply V_ldO (t:=3);exact bT;exact dY;exact aFP;exact dY;exact rfl;exact rfl;exact uG)|(apply V_ldO (t:=4);exact bT;exact dY;exact aFP;exact dY;exact rfl;exact rfl;exact uG)|(apply V_ldOG (t:=0);exact bT;exact dY;exact aFP;exact dY;exact rfl;exact aCt;exact rfl;exact rfl)|(apply V_ldOG (t:=1);exact bT;exact dY;exact aFP;exact dY;exact rfl;exact aCt;exact rfl;exact rfl)|(apply V_ldOG (t:=2);exact bT;exact dY;exact aFP;exact dY;exact rfl;exact aCt;exact rfl;exact rfl)|(apply aHB (t:=0);exact bT;exact dY;exact dY;exact kD;exact rfl;exact uG)|(apply aHB (t:=1);exact bT;exact dY;exact dY;exact kD;exact rfl;exact uG)|(apply aHB (t:=2);exact bT;exact dY;exact dY;exact kD;exact rfl;exact uG)|(apply aHB (t:=3);exact bT;exact dY;exact dY;exact kD;exact rfl;exact uG)|(apply aHB (t:=4);exact bT;exact dY;exact dY;exact kD;exact rfl;exact uG)|(apply aHB (t:=5);exact bT;exact dY;exact dY;exact kD;exact rfl;exact uG)|(apply aHB (t:=6);exact bT;exact dY;exact dY;exact kD;exact rfl;exact uG)|(apply aHB (t:=7);exact bT;exact dY;exact dY;exact kD;exact rfl;exact uG)|(apply aLq (t:=0);exact bT;exact dY;exact dY;exact kD;exact aCt;exact rfl;exact rfl)|(apply aLq (t:=1);exact bT;exact dY;exact dY;exact kD;exact aCt;exact rfl;exact rfl)|(apply aLq (t:=2);exact bT;exact dY;exact dY;exact kD;exact aCt;exact rfl;exact rfl)|(apply aLq (t:=3);exact bT;exact dY;exact dY;exact kD;exact aCt;exact rfl;exact rfl)|(apply aHA (t:=0);exact dY;exact lY;exact bT;exact rfl;exact uG)|(apply aHA (t:=1);exact dY;exact lY;exact bT;exact rfl;exact uG)|(apply aHA (t:=2);exact dY;exact lY;exact bT;exact rfl;exact uG)|(apply aHA (t:=3);exact dY;exact lY;exact bT;exact rfl;exact uG)|(apply aHA (t:=4);exact dY;exact lY;exact bT;exact rfl;exact uG)|(apply aHA (t:=5);exact dY;exact lY;exact bT;exact rfl;exact uG)|(apply aHA (t:=6);exact dY;exact lY;exact bT;exact rfl;exact uG)|(apply aHA (t:=7);exact dY;exact lY;exact bT;exact rfl;exact uG)|(apply aLp (t:=0);exact dY;exact lY;exact bT;exact aCt;exact rfl;exact rfl)|(apply aLp (t:=1);exact dY;exact lY;exact bT;exact aCt;exact rfl;exact rfl)|(apply aLp (t:=2);exact dY;exact lY;exact bT;exact aCt;exact rfl;exact rfl)|(apply aLp (t:=3);exact dY;exact lY;exact bT;exact aCt;exact rfl;exact rfl))|(apply V_lenS;exact st_S;exact bT)|(apply V_nilE;exact bT;exact lY)|(apply V_nilP;exact bT)|(apply V_nilO;exact bT;exact dY;exact aFP;exact dY)|(apply V_ixE;exact bT;exact bT;exact st_HR;exact dY;exact rfl;exact st_S;exact rfl)|(apply V_ixO;exact bT;exact bT;exact dY;exact aFP;exact dY;exact rfl;exact st_S;exact rfl)|(apply V_extract;exact bT;exact rfl)|(apply V_pickT;exact bT;exact aHV;exact bT)|(apply V_pickF;exact bT;exact aHV;exact bT)|(apply V_not;exact bT)|(apply V_lenStr;exact aHW;exact bT)|(apply V_ixS;exact aHW;exact bT;exact bT;exact dY)|(apply V_conv64;exact aHW;exact bT;exact ⟨_,aHW⟩)|(apply V_convu64;exact aHW;exact bT;exact ⟨_,aHW⟩)|(apply V_convu8';exact aHW;exact bT;exact ⟨_,aHW⟩)|(apply V_u8sub';exact bT;exact bT)|(apply V_neg;exact bT)|(apply V_quo;exact bT;exact bT;exact dY)|(apply V_rem;exact bT;exact bT;exact dY)|(apply V_cat;exact bT;exact bT;exact dY)|(apply V_neqB;exact aHW;exact bT;exact bT)|(apply V_max;exact bT;exact bT)|(apply V_slSLH;exact aHW;exact bT;exact bT;exact bT;exact dY)|(apply V_slSL;exact aHW;exact bT;exact bT;exact dY)|(apply V_slSH;exact aHW;exact bT;exact bT;exact dY)|(apply V_isNil;exact st_S;exact bT;exact rfl)|(apply V_build;exact st_h;exact rfl;exact (by kernel_rfl))|(apply aNt;exact rfl)):p:=h
theorem st_call {p:Prop} (h:p:=by with_reducible first|exact call4|exact call5|exact call6|exact call7|exact call8|exact call9|exact call10|exact call11|exact call12|exact call13|exact call14|exact call15|exact call16|exact call17|exact call18|exact call19|exact call20|exact call21|exact call22|exact call23|exact call24|exact call25|exact call26|exact call27|exact call28|exact call29|exact call30|exact call31|exact call32|exact call33|exact call34|exact call35|exact call36|exact call37|exact call38|exact call39|exact call40|exact call41|exact call42|exact call43|exact call44|exact call45|exact call46|exact call47|exact call48|exact call49|exact call50|exact call51|exact call52|exact call53|exact call54|exact call55|exact call56|exact call57|exact call58|exact call59|exact call60|exact call61|exact call62|exact call63|exact call64|exact call65|exact call66|exact call67|exact call68|exact call69|exact call70|exact call71|exact call72|exact call73|exact call74|exact call75|exact call76|exact call77|exact call78|exact call79|exact call80|exact call81|exact call82|exact call83|exact call84|exact call85|exact call86|exact call87|exact call88|exact call89|exact call90|exact call91|exact call92|exact call93|exact call94|exact call95|exact call96|exact call97|exact call98|exact call99|exact call100|exact call101|exact call102|exact call103|exact call104|exact call105|exact call106|exact call107|exact call108|exact call109|exact call110|exact call111|exact call112|exact call113|exact call114|exact call115|exact call116|exact call117|exact call118|exact call119|exact call120|exact call121|exact call122|exact call123|exact call124|exact call125|exact call126|exact call127|exact call128|exact call129|exact call130|exact call131|exact call132|exact call133|exact call134|exact call135|exact call136|exact call137|exact call138|exact call139|exact call140|exact call142|exact call144|exact call145|exact call146|exact call147|exact call150|exact call151|exact call152|exact call153|exact call154|exact call155|exact call156|exact call157|exact call158|exact call159|exact call160|exact call161|exact call162|exact call163|exact call164|exact call165|exact call166|exact call167|exact call168|exact call169|exact call170|exact call174|exact call178|exact call179|exact call180|exact call181|exact call182|exact call193|exact call194|exact call195|exact call196|exact call198|exact call199|exact call200|exact call222):p:=h
theorem st_f {p:Prop} (h:p:=by with_reducible first|exact func3|exact func4|exact func5|exact func6|exact func7|exact func8|exact func9|exact func10|exact func11|exact func12|exact func13|exact func14|exact func15|exact func16|exact func17|exact func18|exact func19|exact func20|exact func21|exact func22|exact func23|exact func24|exact func25|exact func26|exact func27|exact func28|exact func29|exact func30|exact func31|exact func32|exact func33|exact func34|exact func35|exact func36|exact func37|exact func38|exact func39|exact func40|exact func41|exact func42|exact func43|exact func44|exact func45|exact func46|exact func47|exact func48|exact func49|exact func50|exact func51|exact func52|exact func53|exact func54|exact func55|exact func56|exact func57|exact func58|exact func59|exact func60|exact func61|exact func62|exact func63|exact func64|exact func65|exact func66|exact func67|exact func68|exact func69|exact func70|exact func71|exact func72|exact func73|exact func74|exact func75|exact func76|exact func77|exact func78|exact func79|exact func80|exact func81|exact func82|exact func83|exact func84|exact func85|exact func86|exact func87|exact func88|exact func89|exact func90|exact func91|exact func92|exact func93|exact func94|exact func95|exact func96|exact func97|exact func98|exact func99|exact func100|exact func101|exact func102|exact func103|exact func104|exact func105|exact func106|exact func107|exact func108|exact func110|exact func112|exact func113|exact func114|exact func115|exact func116|exact func117|exact func118|exact func120|exact func121|exact func122|exact func123|exact func124|exact func125|exact func126|exact func127|exact func128|exact func129|exact func130|exact func131|exact func132|exact func133|exact func134|exact func135|exact func136|exact func137|exact func138|exact func139|exact func140|exact func144|exact func145|exact func146|exact func147|exact func150|exact func151|exact func152|exact func153|exact func154|exact func155|exact func156|exact func157|exact func158|exact func159|exact func160|exact func161|exact func162|exact func163|exact func164|exact func166|exact func167|exact func168|exact func169|exact func170|exact func178|exact func179|exact func180|exact func181|exact func194|exact func195|exact func196|exact func198|exact func199|exact func200|exact func222):p:=h
theorem aKG {p:Prop} (h:p:=by first|((with_reducible apply aGT);exact rfl;exact rfl)|((with_reducible apply V_rvG);exact bT;exact dY;exact aFP;exact aCt;exact rfl;exact rfl)|((with_reducible apply V_rvB);exact bT;exact dY;exact aFP;exact uG;exact rfl)):p:=h
theorem st_X {p:Prop} (h:p:=by
 (repeat (first
  |exact bZ
  |(with_reducible apply Exists.intro)
  |((with_reducible apply And.intro);· first|exact bZ|(with_reducible assumption)|exact (Option.some.inj (by with_reducible assumption)).symm|exact rfl|assumption|exact zR _|exact kD|exact aIm _|(apply st_rK;assumption;exact kD)|(apply st_cK;assumption;exact kD)|exact bW (by assumption))
  |(with_reducible assumption)|exact st_c|exact rfl|assumption));first|done|fail):p:=h
theorem aAV {p q:Prop} (k:q) (h:Hd q->p:=by
 intro hk
 (first|apply st_ca|apply st_cb|apply st_cq);exact st_call;(first|(with_reducible intro z z)|skip);(first|((with_reducible first|apply qU|apply aIe|apply wR|apply aDv|apply yT|apply kV|apply fG|apply aGI|apply aJe|apply oF|apply mX|apply aAe|apply aBA|apply gO|apply bU|apply aFk|apply pC|apply aHk|apply uL|apply lU|apply uD|apply kY|apply iE|apply aDT|apply pN|apply aEK|apply wQ|apply aBw|apply aEL|apply aJW|apply aJc|apply aJX|apply aHj|apply aBx|apply aBy|apply aDU|apply aFU|apply nN|apply vC|apply zW|apply rT|apply aHl|apply aKa|apply aJf|apply aLy|apply aKb|apply aHm|apply aGJ|apply oI|apply pP|apply uM|apply aCY|apply aDX|apply aAh|apply uN|apply aFV|apply aHn|apply aIg|apply aFl|apply uO|apply yU|apply aHJ|apply oG|apply jT|apply rQ|apply oH|apply wS|apply wT|apply uY|apply aDW|apply rR|apply aEN|apply lZ|apply uZ|apply nK|apply gF|apply rS|apply nM|apply aAf|apply pO|apply aEO|apply aFG|apply kH|apply gS|apply aCm|apply aAg|apply vA|apply aDw|apply aJZ|apply lV|apply yV|apply iY|apply aCn|apply aBC|apply vB|apply aFH|apply yW|apply aAz|apply uX|apply jI|apply aFQ|apply aAc|apply tP|apply aBu|apply rN|apply aFR|apply aIX|apply aJS|apply aHY|apply aJT|apply aIY|apply aAd|apply pM|apply aHd|apply aJU|apply aEG|apply sP|apply rP|apply aBO|apply aHe|apply aIZ|apply aHf|apply aJa|apply aLu|apply aJV|apply aHg|apply aGE|apply aCS|apply aHZ|apply aDR|apply aJb|apply aHh|apply aFS|apply aGF|apply aIa|apply aLv|apply aJY|apply aCU|apply aCV|apply aEM|apply aId|apply aDV|apply aBz|apply yS|apply aCW|apply aFE|apply aJd|apply aGH|apply aFF|apply aCX|apply aCl|apply oE|apply aFT|apply aLx|apply aEH|apply aDS|apply aCT|apply aHi|apply aIb|apply aIc|apply aBv|apply aLw|apply aGG|apply aEI|apply aFC|apply aFD|apply uC|apply aEJ);with_reducible assumption)|(with_reducible apply jF;with_reducible assumption)|(with_reducible apply aIf;with_reducible assumption)|(with_reducible apply aBB;with_reducible assumption)|(with_reducible apply rO;with_reducible assumption)|(with_reducible apply lib_Cut;all_goals (try with_reducible assumption))|(with_reducible apply lib_Split;all_goals (try with_reducible assumption))|(with_reducible apply aLt;all_goals (try with_reducible assumption))|(with_reducible apply lib_Join;all_goals (try with_reducible assumption))|(with_reducible apply aCk;all_goals (try with_reducible assumption))|(with_reducible apply aHI;all_goals (try with_reducible assumption))|(with_reducible apply aHX;all_goals (try with_reducible assumption))|(with_reducible apply lib_SortEdge;all_goals (try with_reducible assumption)));(case hv=>exact rfl);(repeat (first|assumption|exact st_c|(apply st_rK;assumption;exact kD)|(apply st_cK;assumption;exact kD)|exact aIm _|exact kD|exact zR _|exact rfl|exact bW (by assumption)));exact hk.k;first|done|fail):p:=h ⟨k⟩
set_option maxRecDepth 100000 in
theorem aK {p:Prop} (h:p:=by
 repeat' (first
  |(apply st_i;exact bT;exact bT;exact dY;exact dY;exact rfl;exact st_S;exact rfl;intro z z zr;first|(have zr:=st_pd zr;subst zr)|obtain ⟨z,z,rfl,z⟩:=zr|obtain ⟨z,z,z,z,rfl,z,z⟩:=zr|obtain ⟨z,z,z,z,z,z,rfl,z,z,z⟩:=zr|obtain ⟨z,z,z,z,z,z,z,z,rfl,z,z,z,z⟩:=zr)
  |(apply st_iQ;exact bT;exact bT;exact dY;exact dY;exact rfl;exact st_S;exact rfl;intro z z zr;first|(have zr:=st_pd zr;subst zr)|obtain ⟨z,z,rfl,z⟩:=zr|obtain ⟨z,z,z,z,rfl,z,z⟩:=zr|obtain ⟨z,z,z,z,z,z,rfl,z,z,z⟩:=zr|obtain ⟨z,z,z,z,z,z,z,z,rfl,z,z,z,z⟩:=zr)
  |(apply st_iE;exact rfl;exact bT;exact bT;exact dY;exact dY;exact rfl;exact st_S;exact rfl;intro z z zr;first|(have zr:=st_pd zr;subst zr)|obtain ⟨z,z,rfl,z⟩:=zr|obtain ⟨z,z,z,z,rfl,z,z⟩:=zr|obtain ⟨z,z,z,z,z,z,rfl,z,z,z⟩:=zr|obtain ⟨z,z,z,z,z,z,z,z,rfl,z,z,z,z⟩:=zr)
  |(apply VO;exact st_V)
  |(apply VQ;intro _ _;exact st_V)
  |(apply bG)
  |with_reducible apply aC
  |with_reducible apply cU
  |(apply aJ)
  |(apply aU)
  |(apply aY)
  |(apply aIC)
  |(apply V_condT;exact bT;exact aHV)
  |(apply V_condF;exact bT;exact aHV)
  |with_reducible apply aAl
  |with_reducible apply aIE
  |(with_reducible apply blockQ_ne;exact rfl)
  |(apply V_onT;exact rfl;exact bT;exact aHV)
  |(apply V_onF;exact rfl;exact bT;exact aHV)
  |(apply V_offF;exact rfl;exact bT;exact aHV)
  |(apply V_offT;exact rfl;exact bT;exact aHV)
  |(apply Q_onT;exact rfl;exact bT;exact aHV)
  |(apply Q_onF;exact rfl;exact bT;exact aHV)
  |(apply Q_offF;exact rfl;exact bT;exact aHV)
  |(apply Q_offT;exact rfl;exact bT;exact aHV)
  |(apply WO_off_u;exact rfl;exact bT)
  |(apply pE;exact rfl;exact bT)
  |(apply V_WE;exact rfl;rintro _ ⟨_,_⟩;exact st_V)
  |(apply V_WT;exact rfl;intro _;exact st_V)
  |apply lC
  |with_reducible apply jU
  |with_reducible apply aAN
  |exact st_X
  |(apply nA;exact rfl;exact rfl;refine aHC hm (fun z=>?_);subst z;exact st_X)
  |(apply retQ_2;exact rfl;exact rfl;exact rfl;refine aHC hm (fun z=>?_);subst z;exact st_X)
  |(apply retQ_3;exact rfl;exact rfl;exact rfl;exact rfl;refine aHC hm (fun z=>?_);subst z;exact st_X)
  |(apply aIn;exact rfl;exact aKG;refine aHC hm (fun z=>?_);subst z;exact st_X)
  |(apply aER;exact rfl;exact aKG;exact aKG;refine aHC hm (fun z=>?_);subst z;exact st_X)
  |(apply retQ_m3;exact rfl;exact aKG;exact aKG;exact aKG;refine aHC hm (fun z=>?_);subst z;exact st_X)
  |(apply retQ_0n;exact rfl;refine aHC hm (fun z=>?_);subst z;exact st_X)
  |(apply retQ_0;exact rfl;refine aHC hm (fun z=>?_);subst z;exact st_X)
  |(refine st_I st_f ?_)
  |intro (hm:(_:Option _)=some _)
  |intro (hr:∀ r',_=Sum.inr r'->_)
  |(with_reducible refine zZ fun z=>?_)
  |(with_reducible refine aAa ?_)
  |(intro (zv:(_:Value)=_);subst zv)
  |intro z
  |((with_reducible apply st_we);first|exact ⟨_,by assumption⟩|exact ⟨_,aD.weakK (by assumption) kD⟩)
  |(apply qX;exact rfl)
  |(apply WE_s;exact rfl)
  |apply wY
  |(have zq:=hr _ (Option.some.inj hm).symm;subst zq;have hm:=ho;clear hr ho;try dsimp only at hm)
  |obtain ⟨z,z,hm⟩:=aB hm
  |exact st_no hm
  |refine st_a (fun z z z=>?_)
  |refine st_s (fun z z=>?_)
  |refine st_x (fun z z z=>?_)
  |refine st_ba (by with_reducible assumption) (fun z z z=>?_)
  |refine st_b (T:=105) ([]:List Int) (fun z z z=>?_)
  |refine st_b (T:=155) ([]:List (List Int)) (fun z z z=>?_)
  |refine st_b (T:=24) ([]:List aV) (fun z z z=>?_)
  |refine st_b (T:=28) ([]:List aW) (fun z z z=>?_)
  |refine st_b (T:=29) ([]:List aT) (fun z z z=>?_)
  |refine st_b (T:=66) ([]:List Edge) (fun z z z=>?_)
  |refine st_p (fun z z z z=>?_)
  |(apply st_q2;exact bT;exact bT;(first|assumption|(apply st_rK;assumption;exact kD));assumption;exact st_M;assumption;exact st_S;exact st_u;exact st_e;exact rfl;exact rfl;exact rfl;exact rfl;intro z z z z)
  |(apply zJ;intro z z)
  |refine st_k ?_
  |(apply cB)
  |(refine aAV ?_;first|(intro z z;repeat (first|(with_reducible refine zZ fun z=>?_)|with_reducible refine aAa ?_|(intro (zv:(_:Value)=_);subst zv)|intro z))|skip)
  |((first|(apply mJ;(with_reducible assumption);exact .head;(first|exact zR _|exact kD);intro zK zh zr zs bk)|(apply mK;(with_reducible assumption);exact .head;intro zK zh zr zs bk));refine aAV ?_;(first|(intro z z;repeat (first|(with_reducible refine zZ fun z=>?_)|with_reducible refine aAa ?_|(intro (zv:(_:Value)=_);subst zv)|intro z))|skip);(have z:=bk _ _ (by with_reducible assumption);clear bk))
  |((first|(apply mJ;(with_reducible assumption);exact zt1;(first|exact zR _|exact kD);intro zK zh zr zs bk)|(apply mK;(with_reducible assumption);exact zt1;intro zK zh zr zs bk));refine aAV ?_;(first|(intro z z;repeat (first|(with_reducible refine zZ fun z=>?_)|with_reducible refine aAa ?_|(intro (zv:(_:Value)=_);subst zv)|intro z))|skip);(have z:=bk _ _ (by with_reducible assumption);clear bk))
  |((first|(apply mJ;(with_reducible assumption);exact zt2;(first|exact zR _|exact kD);intro zK zh zr zs bk)|(apply mK;(with_reducible assumption);exact zt2;intro zK zh zr zs bk));refine aAV ?_;(first|(intro z z;repeat (first|(with_reducible refine zZ fun z=>?_)|with_reducible refine aAa ?_|(intro (zv:(_:Value)=_);subst zv)|intro z))|skip);(have z:=bk _ _ (by with_reducible assumption);clear bk))
  |((first|(apply mJ;(with_reducible assumption);exact zt3;(first|exact zR _|exact kD);intro zK zh zr zs bk)|(apply mK;(with_reducible assumption);exact zt3;intro zK zh zr zs bk));refine aAV ?_;(first|(intro z z;repeat (first|(with_reducible refine zZ fun z=>?_)|with_reducible refine aAa ?_|(intro (zv:(_:Value)=_);subst zv)|intro z))|skip);(have z:=bk _ _ (by with_reducible assumption);clear bk))
  |((first|(apply mJ;(with_reducible assumption);exact zt4;(first|exact zR _|exact kD);intro zK zh zr zs bk)|(apply mK;(with_reducible assumption);exact zt4;intro zK zh zr zs bk));refine aAV ?_;(first|(intro z z;repeat (first|(with_reducible refine zZ fun z=>?_)|with_reducible refine aAa ?_|(intro (zv:(_:Value)=_);subst zv)|intro z))|skip);(have z:=bk _ _ (by with_reducible assumption);clear bk))
  |((first|(apply mJ;(with_reducible assumption);exact .head;(first|exact zR _|exact kD);intro zK zh zr zs bk)|(apply mK;(with_reducible assumption);exact .head;intro zK zh zr zs bk));(first|(apply mJ;(with_reducible assumption);exact .head;(first|exact zR _|exact kD);intro zK zh zr zs bk)|(apply mK;(with_reducible assumption);exact .head;intro zK zh zr zs bk));refine aAV ?_;(first|(intro z z;repeat (first|(with_reducible refine zZ fun z=>?_)|with_reducible refine aAa ?_|(intro (zv:(_:Value)=_);subst zv)|intro z))|skip);(have z:=bk _ _ (by with_reducible assumption);clear bk);(have z:=bk _ _ (by with_reducible assumption);clear bk))
  |((first|(apply mJ;(with_reducible assumption);exact zt1;(first|exact zR _|exact kD);intro zK zh zr zs bk)|(apply mK;(with_reducible assumption);exact zt1;intro zK zh zr zs bk));(first|(apply mJ;(with_reducible assumption);exact zt1;(first|exact zR _|exact kD);intro zK zh zr zs bk)|(apply mK;(with_reducible assumption);exact zt1;intro zK zh zr zs bk));refine aAV ?_;(first|(intro z z;repeat (first|(with_reducible refine zZ fun z=>?_)|with_reducible refine aAa ?_|(intro (zv:(_:Value)=_);subst zv)|intro z))|skip);(have z:=bk _ _ (by with_reducible assumption);clear bk);(have z:=bk _ _ (by with_reducible assumption);clear bk))
  |((first|(apply mJ;(with_reducible assumption);exact zt1;(first|exact zR _|exact kD);intro zK zh zr zs bk)|(apply mK;(with_reducible assumption);exact zt1;intro zK zh zr zs bk));(first|(apply mJ;(with_reducible assumption);exact .head;(first|exact zR _|exact kD);intro zK zh zr zs bk)|(apply mK;(with_reducible assumption);exact .head;intro zK zh zr zs bk));refine aAV ?_;(first|(intro z z;repeat (first|(with_reducible refine zZ fun z=>?_)|with_reducible refine aAa ?_|(intro (zv:(_:Value)=_);subst zv)|intro z))|skip);(have z:=bk _ _ (by with_reducible assumption);clear bk);(have z:=bk _ _ (by with_reducible assumption);clear bk))
  |((first|(apply mJ;(with_reducible assumption);exact zt2;(first|exact zR _|exact kD);intro zK zh zr zs bk)|(apply mK;(with_reducible assumption);exact zt2;intro zK zh zr zs bk));(first|(apply mJ;(with_reducible assumption);exact zt1;(first|exact zR _|exact kD);intro zK zh zr zs bk)|(apply mK;(with_reducible assumption);exact zt1;intro zK zh zr zs bk));refine aAV ?_;(first|(intro z z;repeat (first|(with_reducible refine zZ fun z=>?_)|with_reducible refine aAa ?_|(intro (zv:(_:Value)=_);subst zv)|intro z))|skip);(have z:=bk _ _ (by with_reducible assumption);clear bk);(have z:=bk _ _ (by with_reducible assumption);clear bk))
  |((first|(apply mJ;(with_reducible assumption);exact zt2;(first|exact zR _|exact kD);intro zK zh zr zs bk)|(apply mK;(with_reducible assumption);exact zt2;intro zK zh zr zs bk));(first|(apply mJ;(with_reducible assumption);exact zt1;(first|exact zR _|exact kD);intro zK zh zr zs bk)|(apply mK;(with_reducible assumption);exact zt1;intro zK zh zr zs bk));(first|(apply mJ;(with_reducible assumption);exact zt1;(first|exact zR _|exact kD);intro zK zh zr zs bk)|(apply mK;(with_reducible assumption);exact zt1;intro zK zh zr zs bk));refine aAV ?_;(first|(intro z z;repeat (first|(with_reducible refine zZ fun z=>?_)|with_reducible refine aAa ?_|(intro (zv:(_:Value)=_);subst zv)|intro z))|skip);(have z:=bk _ _ (by with_reducible assumption);clear bk);(have z:=bk _ _ (by with_reducible assumption);clear bk);(have z:=bk _ _ (by with_reducible assumption);clear bk))
  |((first|(apply mJ;(with_reducible assumption);exact .head;(first|exact zR _|exact kD);intro zK zh zr zs bk)|(apply mK;(with_reducible assumption);exact .head;intro zK zh zr zs bk));(first|(apply mJ;(with_reducible assumption);exact .head;(first|exact zR _|exact kD);intro zK zh zr zs bk)|(apply mK;(with_reducible assumption);exact .head;intro zK zh zr zs bk));(first|(apply mJ;(with_reducible assumption);exact .head;(first|exact zR _|exact kD);intro zK zh zr zs bk)|(apply mK;(with_reducible assumption);exact .head;intro zK zh zr zs bk));refine aAV ?_;(first|(intro z z;repeat (first|(with_reducible refine zZ fun z=>?_)|with_reducible refine aAa ?_|(intro (zv:(_:Value)=_);subst zv)|intro z))|skip);(have z:=bk _ _ (by with_reducible assumption);clear bk);(have z:=bk _ _ (by with_reducible assumption);clear bk);(have z:=bk _ _ (by with_reducible assumption);clear bk))
  |((first|(apply mJ;(with_reducible assumption);exact zt1;(first|exact zR _|exact kD);intro zK zh zr zs bk)|(apply mK;(with_reducible assumption);exact zt1;intro zK zh zr zs bk));(first|(apply mJ;(with_reducible assumption);exact zt1;(first|exact zR _|exact kD);intro zK zh zr zs bk)|(apply mK;(with_reducible assumption);exact zt1;intro zK zh zr zs bk));(first|(apply mJ;(with_reducible assumption);exact zt1;(first|exact zR _|exact kD);intro zK zh zr zs bk)|(apply mK;(with_reducible assumption);exact zt1;intro zK zh zr zs bk));refine aAV ?_;(first|(intro z z;repeat (first|(with_reducible refine zZ fun z=>?_)|with_reducible refine aAa ?_|(intro (zv:(_:Value)=_);subst zv)|intro z))|skip);(have z:=bk _ _ (by with_reducible assumption);clear bk);(have z:=bk _ _ (by with_reducible assumption);clear bk);(have z:=bk _ _ (by with_reducible assumption);clear bk))
  |((first|(apply mJ;(with_reducible assumption);exact zt3;(first|exact zR _|exact kD);intro zK zh zr zs bk)|(apply mK;(with_reducible assumption);exact zt3;intro zK zh zr zs bk));(first|(apply mJ;(with_reducible assumption);exact zt2;(first|exact zR _|exact kD);intro zK zh zr zs bk)|(apply mK;(with_reducible assumption);exact zt2;intro zK zh zr zs bk));(first|(apply mJ;(with_reducible assumption);exact zt2;(first|exact zR _|exact kD);intro zK zh zr zs bk)|(apply mK;(with_reducible assumption);exact zt2;intro zK zh zr zs bk));refine aAV ?_;(first|(intro z z;repeat (first|(with_reducible refine zZ fun z=>?_)|with_reducible refine aAa ?_|(intro (zv:(_:Value)=_);subst zv)|intro z))|skip);(have z:=bk _ _ (by with_reducible assumption);clear bk);(have z:=bk _ _ (by with_reducible assumption);clear bk);(have z:=bk _ _ (by with_reducible assumption);clear bk))
  |((first|(apply mJ;(with_reducible assumption);exact .head;(first|exact zR _|exact kD);intro zK zh zr zs bk)|(apply mK;(with_reducible assumption);exact .head;intro zK zh zr zs bk));(first|(apply mJ;(with_reducible assumption);exact .head;(first|exact zR _|exact kD);intro zK zh zr zs bk)|(apply mK;(with_reducible assumption);exact .head;intro zK zh zr zs bk));(first|(apply mJ;(with_reducible assumption);exact .head;(first|exact zR _|exact kD);intro zK zh zr zs bk)|(apply mK;(with_reducible assumption);exact .head;intro zK zh zr zs bk));(first|(apply mJ;(with_reducible assumption);exact .head;(first|exact zR _|exact kD);intro zK zh zr zs bk)|(apply mK;(with_reducible assumption);exact .head;intro zK zh zr zs bk));refine aAV ?_;(first|(intro z z;repeat (first|(with_reducible refine zZ fun z=>?_)|with_reducible refine aAa ?_|(intro (zv:(_:Value)=_);subst zv)|intro z))|skip);(have z:=bk _ _ (by with_reducible assumption);clear bk);(have z:=bk _ _ (by with_reducible assumption);clear bk);(have z:=bk _ _ (by with_reducible assumption);clear bk);(have z:=bk _ _ (by with_reducible assumption);clear bk))
  |((first|(with_reducible apply st_g0)|(with_reducible apply st_g1)|(with_reducible apply st_g2)|(with_reducible apply st_g3)|(apply st_g4;exact rfl));rcases aP hm with ⟨z,hm⟩|⟨z,hm⟩))):p:=h
end Gv
