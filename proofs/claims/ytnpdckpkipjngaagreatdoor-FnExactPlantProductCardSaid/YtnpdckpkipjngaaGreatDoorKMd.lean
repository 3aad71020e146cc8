/- Models of the functions, printed by program off their code. Plain Lean. -/
import Derived.Test.YtnpdckpkipjngaaGreatDoorKLM
set_option linter.all false
namespace Gv
noncomputable section
def wW (left6:Int):Option Int:=
 some left6
def rP (a:(List aZ)) (left23:Int) (i24:Int):Option ((Int × Int) ⊕ (Int ⊕ Int)):=
 if (decide (i24 < (a.length:Int))) then (ob (ix a i24) fun e41=>
 if (decide (wr (left23 - (e41.length:Int)) < 0)) then (some (.inr (.inr (-1)))) else (some (.inl (wr (left23 - (e41.length:Int)),wr (i24+1))))) else (some (.inr (.inl left23)))
def rQ (a:(List aZ)) (left:Int):Option Int:=
 if (decide (wr (left - (a.length:Int)) < 0)) then (some (-1)) else (ob (loop (fun (s:(Int × Int))=>rP a s.1 s.2) (wr (left - (a.length:Int)),0)) fun r=>match r with|.inl r=>wW r|.inr r=>some r)
def aCR (a:(List Edge)) (left:Int):Option Int:=
 if (decide (wr (left - (a.length:Int)) < 0)) then (some (-1)) else (some (wr (left - (a.length:Int))))
def aDG (a:cH) (left:Int):Option Int:=
 ob (rQ a.L left) fun r10=>
 if (decide (r10 < 0)) then (some (-1)) else (ob (aCR a.E r10) fun r16=>
 if (decide (r16 < 0)) then (some (-1)) else (some r16))
def aDH (v1:Bool):Option Bool:=
 some v1
def wX (n:Int) (low:Int) (high:Int):Option Bool:=
 if (decide (low≤n)) then (aDH (decide (n≤high))) else (aDH false)
def zJ (v1:Bool):Option Bool:=
 some v1
def aBw (c:UInt8):Option Bool:=
 if (decide (97≤(c.toNat:Int))) then (zJ (decide ((c.toNat:Int)≤122))) else (zJ false)
def aHZ (v1:Bool):Option Bool:=
 some v1
def aBx (c:UInt8):Option Bool:=
 if (decide (48≤(c.toNat:Int))) then (aHZ (decide ((c.toNat:Int)≤57))) else (aHZ false)
def wY:Option Bool:=
 some true
def wZ (i20:Int) (v34:Bool):Option (Int ⊕ (Unit ⊕ Bool)):=
 if v34 then (some (.inr (.inr false))) else (some (.inl (wr (i20+1))))
def sW (s_:aZ) (i20:Int):Option (Int ⊕ (Unit ⊕ Bool)):=
 if (decide (i20 < (s_.length:Int))) then (ob (ix s_ i20) fun c43=>
 ob (aBw c43) fun r45=>
 if (!r45) then (ob (aBx c43) fun r50=>
 wZ i20 (!r50)) else (wZ i20 false)) else (some (.inr (.inl ())))
def pD (s_:aZ) (v1:Bool):Option Bool:=
 if v1 then (some false) else (ob (loop (fun (s:Int)=>sW s_ s) 0) fun r=>match r with|.inl r=>wY|.inr r=>some r)
def aBj (s_:aZ):Option Bool:=
 if (s_ == ([]:aZ)) then (pD s_ true) else (if (decide (10 < (s_.length:Int))) then (pD s_ true) else (ob (ix s_ 0) fun c60=>
 ob (aBw c60) fun r62=>
 pD s_ (!r62)))
def rR (v1:Bool):Option Bool:=
 some v1
def vS (s_:aZ):Option Bool:=
 ob (aBj s_) fun r6=>
 if r6 then (rR (!(s_ == ([116,97,117]:aZ)))) else (rR false)
def aAV (s_:aZ):Option Int:=
 some (s_.length:Int)
def sX (s_:aZ) (i14:Int):Option (Int ⊕ (Unit ⊕ Int)):=
 if (decide (i14 < (s_.length:Int))) then (ob (ix s_ i14) fun c28=>
 if ((c28.toNat:Int) == 40) then (some (.inr (.inr i14))) else (some (.inl (wr (i14+1))))) else (some (.inr (.inl ())))
def aCS (s_:aZ):Option Int:=
 ob (loop (fun (s:Int)=>sX s_ s) 0) fun r=>match r with|.inl r=>aAV s_|.inr r=>some r
def uE (s_:aZ) (out4:List aZ) (from7:Int):Option (List aZ):=
 ob (slc s_ from7 (s_.length:Int)) fun r13=>
 ob (vH out4 ([r13]:List aZ)) fun xs18=>
 some xs18
def qA (i48:Int) (out72:List aZ) (from75:Int):Option ((List aZ × Int × Int) ⊕ (List aZ × Int)):=
 some (.inl (out72,from75,wr (i48+1)))
def uF (s_:aZ) (by_:UInt8) (out44:List aZ) (from47:Int) (i48:Int):Option ((List aZ × Int × Int) ⊕ (List aZ × Int)):=
 if (decide (i48 < (s_.length:Int))) then (ob (ix s_ i48) fun c83=>
 if ((c83.toNat:Int) == (by_.toNat:Int)) then (ob (slc s_ from47 i48) fun r86=>
 ob (vH out44 ([r86]:List aZ)) fun xs91=>
 qA i48 xs91 (wr (i48+1))) else (qA i48 out44 from47)) else (some (.inr (out44,from47)))
def aBy (s_:aZ) (by_:UInt8):Option (List aZ):=
 ob (loop (fun (s:(List aZ × Int × Int))=>uF s_ by_ s.1 s.2.1 s.2.2) (([]:List aZ),0,0)) fun r=>uE s_ r.1 r.2
def xA (n19:Int):Option (Int × Bool):=
 some (n19,true)
def rS (at1:Int) (n14:Int):Option (Int × Bool):=
 if (at1 == 1) then (xA (wr (0 - n14))) else (xA n14)
def lT (s_:aZ) (n39:Int) (i40:Int):Option ((Int × Int) ⊕ (Int ⊕ (Int × Bool))):=
 if (decide (i40 < (s_.length:Int))) then (ob (ix s_ i40) fun c59=>
 ob (aBx c59) fun r61=>
 if (!r61) then (some (.inr (.inr (0,false)))) else (some (.inl (wr ((wr (10 * n39))+(wr ((c59 - (48:UInt8)).toNat:Int))),wr (i40+1))))) else (some (.inr (.inl n39)))
def kF (s_:aZ) (at1:Int) (v6:Bool):Option (Int × Bool):=
 if v6 then (some (0,false)) else (ob (loop (fun (s:(Int × Int))=>lT s_ s.1 s.2) (0,at1)) fun r=>match r with|.inl r=>rS at1 r|.inr r=>some r)
def oD (s_:aZ) (at1:Int):Option (Int × Bool):=
 if ((s_.length:Int) == at1) then (kF s_ at1 true) else (if (decide (18 < wr ((s_.length:Int) - at1))) then (kF s_ at1 true) else (ob (ix s_ at1) fun c74=>
 if ((c74.toNat:Int) == 48) then (kF s_ at1 (decide (1 < (s_.length:Int)))) else (kF s_ at1 false)))
def oE (s_:aZ) (v77:Bool):Option (Int × Bool):=
 if v77 then (oD s_ 1) else (oD s_ 0)
def vT (s_:aZ):Option (Int × Bool):=
 if (decide (0 < (s_.length:Int))) then (ob (ix s_ 0) fun c85=>
 oE s_ ((c85.toNat:Int) == 45)) else (oE s_ false)
def rT (out34:List Int):Option ((List Int) × Bool):=
 some (out34,decide ((out34.length:Int)≤2))
def rU (out55:List Int) (i58:Int) (r80:(Int × Bool)) (v84:Bool):Option ((List Int × Int) ⊕ (List Int ⊕ ((List Int) × Bool))):=
 if v84 then (some (.inr (.inr ([],false)))) else (ob (vH out55 ([r80.1]:List Int)) fun xs99=>
 some (.inl (xs99,wr (i58+1))))
def oF (r25:(List aZ)) (out55:List Int) (i58:Int):Option ((List Int × Int) ⊕ (List Int ⊕ ((List Int) × Bool))):=
 if (decide (i58 < (r25.length:Int))) then (ob (ix r25 i58) fun e77=>
 ob (vT e77) fun r80=>
 if (!r80.2) then (rU out55 i58 r80 true) else (ob (wX r80.1 0 63) fun r106=>
 rU out55 i58 r80 (!r106))) else (some (.inr (.inl out55)))
def oG (s_:aZ) (r1:Int) (v14:Bool):Option ((List Int) × Bool):=
 if v14 then (some ([],false)) else (ob (slc s_ (wr (r1+1)) (wr ((s_.length:Int) - 1))) fun r23=>
 ob (aBy r23 (44:UInt8)) fun r25=>
 ob (loop (fun (s:(List Int × Int))=>oF r25 s.1 s.2) (([]:List Int),0)) fun r=>match r with|.inl r=>rT r|.inr r=>some r)
def aCe (s_:aZ):Option ((List Int) × Bool):=
 ob (aCS s_) fun r1=>
 if (r1 == (s_.length:Int)) then (ob (aBj s_) fun r9=>
 some (([]:List Int),r9)) else (ob (slc s_ 0 r1) fun r113=>
 ob (vS r113) fun r115=>
 if (!r115) then (oG s_ r1 true) else (ob (ix s_ (wr ((s_.length:Int) - 1))) fun c120=>
 oG s_ r1 ((c120.toNat:Int) != 41)))
def yV (s_:aZ):Option Bool:=
 ob (aCe s_) fun r1=>
 some r1.2
def aBV:Option Bool:=
 some true
def nF (i23:Int) (v37:Bool):Option (Int ⊕ (Unit ⊕ Bool)):=
 if v37 then (some (.inr (.inr false))) else (some (.inl (wr (i23+1))))
def qB (list:(List aZ)) (i23:Int):Option (Int ⊕ (Unit ⊕ Bool)):=
 if (decide (i23 < (list.length:Int))) then (ob (ix list i23) fun e48=>
 ob (yV e48) fun r53=>
 if (!r53) then (nF i23 true) else (if (e48 == ([116,97,117]:aZ)) then (nF i23 true) else (if (decide (1 < i23)) then (ob (ix list (wr (i23 - 1))) fun e64=>
 nF i23 (!qW e64 e48)) else (nF i23 false)))) else (some (.inr (.inl ())))
def qC (list:(List aZ)) (v4:Bool):Option Bool:=
 if v4 then (some false) else (ob (loop (fun (s:Int)=>qB list s) 1) fun r=>match r with|.inl r=>aBV|.inr r=>some r)
def aBz (list:(List aZ)):Option Bool:=
 if ((list.length:Int) == 0) then (qC list true) else (if (decide (12 < (list.length:Int))) then (qC list true) else (ob (ix list 0) fun e79=>
 qC list (!(e79 == ([116,97,117]:aZ)))))
def aBk (a:Edge) (b:Edge):Option Bool:=
 if (a.F != b.F) then (some (decide (a.F < b.F))) else (if (a.B != b.B) then (some (decide (a.B < b.B))) else (some (decide (a.To < b.To))))
def aDI:Option Bool:=
 some true
def aBA (i29:Int) (v63:Bool):Option (Int ⊕ (Unit ⊕ Bool)):=
 if v63 then (some (.inr (.inr false))) else (some (.inl (wr (i29+1))))
def yW (t:cH) (i29:Int) (e43:Edge) (v53:Bool):Option (Int ⊕ (Unit ⊕ Bool)):=
 if v53 then (some (.inr (.inr false))) else (if (decide (0 < i29)) then (ob (ix t.E (wr (i29 - 1))) fun e73=>
 ob (aBk e73 e43) fun r83=>
 aBA i29 (!r83)) else (aBA i29 false))
def yX (t:cH) (i29:Int):Option (Int ⊕ (Unit ⊕ Bool)):=
 if (decide (i29 < (t.E.length:Int))) then (ob (ix t.E i29) fun e43=>
 ob (wX e43.F 0 (wr (t.N - 1))) fun r90=>
 if (!r90) then (yW t i29 e43 true) else (ob (wX e43.To 0 (wr (t.N - 1))) fun r97=>
 if (!r97) then (yW t i29 e43 true) else (ob (wX e43.B 0 (wr ((t.L.length:Int) - 1))) fun r104=>
 yW t i29 e43 (!r104)))) else (some (.inr (.inl ())))
def vJ (t:cH) (v10:Bool):Option Bool:=
 if v10 then (some false) else (ob (loop (fun (s:Int)=>yX t s) 0) fun r=>match r with|.inl r=>aDI|.inr r=>some r)
def aDJ (t:cH):Option Bool:=
 ob (wX t.N 1 40) fun r115=>
 if (!r115) then (vJ t true) else (ob (wX t.I 0 (wr (t.N - 1))) fun r122=>
 if (!r122) then (vJ t true) else (ob (aBz t.L) fun r129=>
 if (!r129) then (vJ t true) else (vJ t (decide (300 < (t.E.length:Int))))))
def xB:Option Bool:=
 some true
def lU (i22:Int) (v36:Bool):Option (Int ⊕ (Unit ⊕ Bool)):=
 if v36 then (some (.inr (.inr false))) else (some (.inl (wr (i22+1))))
def oH (t:cH) (i22:Int):Option (Int ⊕ (Unit ⊕ Bool)):=
 if (decide (i22 < (t.E.length:Int))) then (ob (ix t.E i22) fun e47=>
 if (e47.B == 0) then (lU i22 true) else (if (decide (0 < i22)) then (ob (ix t.E (wr (i22 - 1))) fun e56=>
 if (e47.F == e56.F) then (lU i22 (e47.B == e56.B)) else (lU i22 false)) else (lU i22 false))) else (some (.inr (.inl ())))
def vU (t:cH):Option Bool:=
 ob (loop (fun (s:Int)=>oH t s) 0) fun r=>match r with|.inl r=>xB|.inr r=>some r
def aCf (p:cH) (v19:Bool):Option Int:=
 if v19 then (some 1) else (ob (vU p) fun r26=>
 if (!r26) then (some 6) else (some 0))
def aNe (t:cH) (p:cH):Option Int:=
 ob (aDJ t) fun r33=>
 if (!r33) then (aCf p true) else (ob (aDJ p) fun r38=>
 aCf p (!r38))
def aIq:Option Bool:=
 some true
def aAK (i16:Int) (v30:Bool):Option (Int ⊕ (Unit ⊕ Bool)):=
 if v30 then (some (.inr (.inr false))) else (some (.inl (wr (i16+1))))
def uZ (trace:(List aZ)) (i16:Int):Option (Int ⊕ (Unit ⊕ Bool)):=
 if (decide (i16 < (trace.length:Int))) then (ob (ix trace i16) fun e39=>
 ob (yV e39) fun r44=>
 if (!r44) then (aAK i16 true) else (aAK i16 (e39 == ([116,97,117]:aZ)))) else (some (.inr (.inl ())))
def aDK (trace:(List aZ)):Option Bool:=
 ob (loop (fun (s:Int)=>uZ trace s) 0) fun r=>match r with|.inl r=>aIq|.inr r=>some r
def aEO (set:(List aZ)):Option Bool:=
 ob (aDK set) fun r7=>
 some r7
def aAo (set:(List aZ)) (i21:Int):Option (Int ⊕ (Unit ⊕ Bool)):=
 if (decide (i21 < (set.length:Int))) then (ob (ix set (wr (i21 - 1))) fun e37=>
 ob (ix set i21) fun e42=>
 if (!qW e37 e42) then (some (.inr (.inr false))) else (some (.inl (wr (i21+1))))) else (some (.inr (.inl ())))
def aJb (set:(List aZ)):Option Bool:=
 ob (loop (fun (s:Int)=>aAo set s) 1) fun r=>match r with|.inl r=>aEO set|.inr r=>some r
def aOs:Option Int:=
 some (-1)
def aGi (d:cH) (i26:Int) (v52:Bool):Option (Int ⊕ (Unit ⊕ Int)):=
 if v52 then (ob (ix d.E i26) fun e61=>
 some (.inr (.inr e61.To))) else (some (.inl (wr (i26+1))))
def aGj (d:cH) (state:Int) (label:aZ) (i26:Int) (v43:Bool):Option (Int ⊕ (Unit ⊕ Int)):=
 if v43 then (ob (ix d.E i26) fun e70=>
 if (e70.F == state) then (ob (ix d.L e70.B) fun e76=>
 aGi d i26 (e76 == label)) else (aGi d i26 false)) else (some (.inr (.inl ())))
def vK (d:cH) (state:Int) (label:aZ) (i26:Int):Option (Int ⊕ (Unit ⊕ Int)):=
 if (decide (i26 < (d.E.length:Int))) then (aGj d state label i26 (decide (0≤state))) else (aGj d state label i26 false)
def aII (d:cH) (state:Int) (label:aZ):Option Int:=
 ob (loop (fun (s:Int)=>vK d state label s) 0) fun r=>match r with|.inl r=>aOs|.inr r=>some r
def aIJ (t:cH) (p:cH) (e:Edge) (q:Int):Option Int:=
 if (e.B == 0) then (some q) else (ob (ix t.L e.B) fun e26=>
 ob (aII p q e26) fun r31=>
 some r31)
def aFS (out28:List Bool):Option (List Bool):=
 some out28
def aKn (out67:List Bool) (more68:Bool):Option ((List Bool × Bool) ⊕ (List Bool)):=
 some (.inl (out67,more68))
def aKo (out75:List Bool) (more76:Bool):Option ((List Bool × Bool) ⊕ (List Bool)):=
 aKn out75 more76
def aKp (i102:Int) (out124:List Bool) (more125:Bool):Option ((List Bool × Bool × Int) ⊕ (List Bool × Bool)):=
 some (.inl (out124,more125,wr (i102+1)))
def aKq (i102:Int) (out143:List Bool) (more144:Bool):Option ((List Bool × Bool × Int) ⊕ (List Bool × Bool)):=
 aKp i102 out143 more144
def qD (q175:Int) (out201:List Bool) (more202:Bool):Option ((List Bool × Bool × Int) ⊕ (List Bool × Bool)):=
 some (.inl (out201,more202,wr (q175+1)))
def aCM (p:cH) (e133:Edge) (out173:List Bool) (more174:Bool) (q175:Int) (v230:Bool):Option ((List Bool × Bool × Int) ⊕ (List Bool × Bool)):=
 if v230 then (ob (st out173 (wr ((wr (e133.F * p.N))+q175)) (true:Bool)) fun out245=>
 qD q175 out245 true) else (qD q175 out173 more174)
def uG (t:cH) (p:cH) (e133:Edge) (out173:List Bool) (more174:Bool) (q175:Int):Option ((List Bool × Bool × Int) ⊕ (List Bool × Bool)):=
 if (decide (q175 < p.N)) then (ob (ix out173 (wr ((wr (e133.F * p.N))+q175))) fun e216=>
 if e216 then (qD q175 out173 more174) else (ob (aIJ t p e133 q175) fun r225=>
 if (decide (r225 < 0)) then (aCM p e133 out173 more174 q175 true) else (ob (ix out173 (wr ((wr (e133.To * p.N))+r225))) fun e252=>
 aCM p e133 out173 more174 q175 e252))) else (some (.inr (out173,more174)))
def zN (t:cH) (p:cH) (out100:List Bool) (more101:Bool) (i102:Int):Option ((List Bool × Bool × Int) ⊕ (List Bool × Bool)):=
 if (decide (i102 < (t.E.length:Int))) then (ob (ix t.E i102) fun e133=>
 ob (loop (fun (s:(List Bool × Bool × Int))=>uG t p e133 s.1 s.2.1 s.2.2) (out100,more101,0)) fun r=>aKq i102 r.1 r.2) else (some (.inr (out100,more101)))
def aBB (t:cH) (p:cH) (out47:List Bool) (more48:Bool):Option ((List Bool × Bool) ⊕ (List Bool)):=
 if more48 then (ob (loop (fun (s:(List Bool × Bool × Int))=>zN t p s.1 s.2.1 s.2.2) (out47,false,0)) fun r=>aKo r.1 r.2) else (some (.inr out47))
def aGk (t:cH) (p:cH):Option (List Bool):=
 ob (mkz (wr (t.N * p.N)) (false:Bool)) fun xs23=>
 ob (loop (fun (s:(List Bool × Bool))=>aBB t p s.1 s.2) (xs23,true)) fun r=>aFS r
def aAp (out13:List Edge):Option (List Edge):=
 some out13
def aAq (i39:Int) (out60:List Edge):Option ((List Edge × Int) ⊕ (List Edge)):=
 some (.inl (out60,wr (i39+1)))
def vV (t:cH) (k:Int) (out36:List Edge) (i39:Int):Option ((List Edge × Int) ⊕ (List Edge)):=
 if (decide (i39 < (t.E.length:Int))) then (ob (ix t.E i39) fun e69=>
 if (e69.F == k) then (ob (vH out36 ([e69]:List Edge)) fun xs78=>
 aAq i39 xs78) else (aAq i39 out36)) else (some (.inr out36))
def aCT (t:cH) (k:Int):Option (List Edge):=
 ob (loop (fun (s:(List Edge × Int))=>vV t k s.1 s.2) (([]:List Edge),0)) fun r=>aAp r
def aGL (out34:List Bool):Option (List Bool):=
 some out34
def aLK (out73:List Bool) (more74:Bool):Option ((List Bool × Bool) ⊕ (List Bool)):=
 some (.inl (out73,more74))
def aLL (out81:List Bool) (more82:Bool):Option ((List Bool × Bool) ⊕ (List Bool)):=
 aLK out81 more82
def aLM (k108:Int) (out130:List Bool) (more131:Bool):Option ((List Bool × Bool × Int) ⊕ (List Bool × Bool)):=
 some (.inl (out130,more131,wr (k108+1)))
def aLN (k108:Int) (out145:List Bool) (more146:Bool):Option ((List Bool × Bool × Int) ⊕ (List Bool × Bool)):=
 aLM k108 out145 more146
def pE (q177:Int) (out203:List Bool) (more204:Bool):Option ((List Bool × Bool × Int) ⊕ (List Bool × Bool)):=
 some (.inl (out203,more204,wr (q177+1)))
def aGM (p:cH) (k108:Int) (out175:List Bool) (more176:Bool) (q177:Int) (goes227:Bool):Option ((List Bool × Bool × Int) ⊕ (List Bool × Bool)):=
 if (!goes227) then (ob (ix out175 (wr ((wr (k108 * p.N))+q177))) fun e240=>
 ob (st out175 (wr ((wr (k108 * p.N))+q177)) (false:Bool)) fun out245=>
 pE q177 out245 true) else (pE q177 out175 more176)
def aAW (i274:Int) (goes321:Bool):Option ((Bool × Int) ⊕ Bool):=
 some (.inl (goes321,wr (i274+1)))
def xC (t:cH) (p:cH) (r139:(List Edge)) (out175:List Bool) (q177:Int) (goes273:Bool) (i274:Int):Option ((Bool × Int) ⊕ Bool):=
 if (decide (i274 < (r139.length:Int))) then (ob (ix r139 i274) fun e305=>
 ob (aIJ t p e305 q177) fun r316=>
 if goes273 then (aAW i274 true) else (if (decide (0≤r316)) then (ob (ix out175 (wr ((wr (e305.To * p.N))+r316))) fun e340=>
 aAW i274 e340) else (aAW i274 false))) else (some (.inr goes273))
def zO (t:cH) (p:cH) (k108:Int) (r139:(List Edge)) (out175:List Bool) (more176:Bool) (q177:Int) (v214:Bool):Option ((List Bool × Bool × Int) ⊕ (List Bool × Bool)):=
 if v214 then (pE q177 out175 more176) else (ob (loop (fun (s:(Bool × Int))=>xC t p r139 out175 q177 s.1 s.2) (false,0)) fun r=>aGM p k108 out175 more176 q177 r)
def aEc (t:cH) (p:cH) (k108:Int) (r139:(List Edge)) (out175:List Bool) (more176:Bool) (q177:Int):Option ((List Bool × Bool × Int) ⊕ (List Bool × Bool)):=
 if (decide (q177 < p.N)) then (ob (ix out175 (wr ((wr (k108 * p.N))+q177))) fun e350=>
 if (!e350) then (zO t p k108 r139 out175 more176 q177 true) else (zO t p k108 r139 out175 more176 q177 ((r139.length:Int) == 0))) else (some (.inr (out175,more176)))
def uH (t:cH) (p:cH) (out106:List Bool) (more107:Bool) (k108:Int):Option ((List Bool × Bool × Int) ⊕ (List Bool × Bool)):=
 if (decide (k108 < t.N)) then (ob (aCT t k108) fun r139=>
 ob (loop (fun (s:(List Bool × Bool × Int))=>aEc t p k108 r139 s.1 s.2.1 s.2.2) (out106,more107,0)) fun r=>aLN k108 r.1 r.2) else (some (.inr (out106,more107)))
def aCC (t:cH) (p:cH) (out53:List Bool) (more54:Bool):Option ((List Bool × Bool) ⊕ (List Bool)):=
 if more54 then (ob (loop (fun (s:(List Bool × Bool × Int))=>uH t p s.1 s.2.1 s.2.2) (out53,false,0)) fun r=>aLL r.1 r.2) else (some (.inr out53))
def aFT (t:cH) (p:cH) (out28:List Bool):Option (List Bool):=
 ob (loop (fun (s:(List Bool × Bool))=>aCC t p s.1 s.2) (out28,true)) fun r=>aGL r
def zQ (out377:List Bool) (i378:Int):Option ((List Bool × Int) ⊕ (List Bool)):=
 if (decide (i378 < (out377.length:Int))) then (ob (ix out377 i378) fun e397=>
 ob (st out377 i378 (true:Bool)) fun out402=>
 some (.inl (out402,wr (i378+1)))) else (some (.inr out377))
def aHB (t:cH) (p:cH):Option (List Bool):=
 ob (mkz (wr (t.N * p.N)) (false:Bool)) fun xs23=>
 ob (loop (fun (s:(List Bool × Int))=>zQ s.1 s.2) (xs23,0)) fun r=>aFT t p r
def aKr (set18:List Bool):Option (List Bool):=
 some set18
def aCD (states:(List Int)) (set35:List Bool) (i36:Int):Option ((List Bool × Int) ⊕ (List Bool)):=
 if (decide (i36 < (states.length:Int))) then (ob (ix states i36) fun e53=>
 ob (ix set35 e53) fun e58=>
 ob (st set35 e53 (true:Bool)) fun set63=>
 some (.inl (set63,wr (i36+1)))) else (some (.inr set35))
def aGl (t:cH) (states:(List Int)):Option (List Bool):=
 ob (mkz t.N (false:Bool)) fun xs13=>
 ob (loop (fun (s:(List Bool × Int))=>aCD states s.1 s.2) (xs13,0)) fun r=>aKr r
def aKs (set12:List Bool):Option (List Bool):=
 some set12
def aKt (set50:List Bool) (more52:Bool):Option ((List Bool × Bool) ⊕ (List Bool)):=
 some (.inl (set50,more52))
def aKu (set58:List Bool) (more60:Bool):Option ((List Bool × Bool) ⊕ (List Bool)):=
 aKt set58 more60
def aCE (i86:Int) (set107:List Bool) (more109:Bool):Option ((List Bool × Bool × Int) ⊕ (List Bool × Bool)):=
 some (.inl (set107,more109,wr (i86+1)))
def aEn (set83:List Bool) (more85:Bool) (i86:Int) (e116:Edge) (v127:Bool):Option ((List Bool × Bool × Int) ⊕ (List Bool × Bool)):=
 if v127 then (ob (ix set83 e116.To) fun e137=>
 ob (st set83 e116.To (true:Bool)) fun set142=>
 aCE i86 set142 true) else (aCE i86 set83 more85)
def aEy (t:cH) (set83:List Bool) (more85:Bool) (i86:Int):Option ((List Bool × Bool × Int) ⊕ (List Bool × Bool)):=
 if (decide (i86 < (t.E.length:Int))) then (ob (ix t.E i86) fun e116=>
 if (e116.B == 0) then (ob (ix set83 e116.F) fun e145=>
 if e145 then (ob (ix set83 e116.To) fun e149=>
 aEn set83 more85 i86 e116 (!e149)) else (aEn set83 more85 i86 e116 false)) else (aEn set83 more85 i86 e116 false)) else (some (.inr (set83,more85)))
def aFN (t:cH) (set30:List Bool) (more32:Bool):Option ((List Bool × Bool) ⊕ (List Bool)):=
 if more32 then (ob (loop (fun (s:(List Bool × Bool × Int))=>aEy t s.1 s.2.1 s.2.2) (set30,false,0)) fun r=>aKu r.1 r.2) else (some (.inr set30))
def aDL (t:cH) (set:(List Bool)):Option (List Bool):=
 ob (loop (fun (s:(List Bool × Bool))=>aFN t s.1 s.2) (set,true)) fun r=>aKs r
def aLO (out7:List Int):Option (List Int):=
 some out7
def aGN (i31:Int) (out50:List Int):Option ((List Int × Int) ⊕ (List Int)):=
 some (.inl (out50,wr (i31+1)))
def aDM (row:(List Bool)) (out28:List Int) (i31:Int):Option ((List Int × Int) ⊕ (List Int)):=
 if (decide (i31 < (row.length:Int))) then (ob (ix row i31) fun e58=>
 if e58 then (ob (vH out28 ([i31]:List Int)) fun xs67=>
 aGN i31 xs67) else (aGN i31 out28)) else (some (.inr out28))
def aFu (row:(List Bool)):Option (List Int):=
 ob (loop (fun (s:(List Int × Int))=>aDM row s.1 s.2) (([]:List Int),0)) fun r=>aLO r
def aGm (t:cH):Option (List Int):=
 ob (aGl t ([t.I]:List Int)) fun r18=>
 ob (aDL t r18) fun r26=>
 ob (aFu r26) fun r36=>
 some r36
def aEo (leaves21:Bool) (stays22:Bool):Option Int:=
 if (!leaves21) then (some 1) else (if (!stays22) then (some 2) else (some 0))
def aEp (i57:Int) (leaves85:Bool) (stays96:Bool):Option ((Bool × Bool × Int) ⊕ (Bool × Bool)):=
 some (.inl (leaves85,stays96,wr (i57+1)))
def aAL (p:cH) (stay:(List Bool)) (states:(List Int)) (q:Int) (stays56:Bool) (i57:Int) (leaves85:Bool):Option ((Bool × Bool × Int) ⊕ (Bool × Bool)):=
 if stays56 then (aEp i57 leaves85 true) else (ob (ix states i57) fun e112=>
 ob (ix stay (wr ((wr (e112 * p.N))+q))) fun e117=>
 aEp i57 leaves85 e117)
def vA (p:cH) (leave:(List Bool)) (stay:(List Bool)) (states:(List Int)) (q:Int) (leaves55:Bool) (stays56:Bool) (i57:Int):Option ((Bool × Bool × Int) ⊕ (Bool × Bool)):=
 if (decide (i57 < (states.length:Int))) then (if leaves55 then (aAL p stay states q stays56 i57 true) else (ob (ix states i57) fun e129=>
 ob (ix leave (wr ((wr (e129 * p.N))+q))) fun e134=>
 aAL p stay states q stays56 i57 e134)) else (some (.inr (leaves55,stays56)))
def aDN (p:cH) (leave:(List Bool)) (stay:(List Bool)) (states:(List Int)) (q:Int):Option Int:=
 if (decide (q < 0)) then (some 2) else (ob (loop (fun (s:(Bool × Bool × Int))=>vA p leave stay states q s.1 s.2.1 s.2.2) (false,false,0)) fun r=>aEo r.1 r.2)
def aCg:Option Bool:=
 some false
def rV (list:(List Int)) (n:Int) (i18:Int):Option (Int ⊕ (Unit ⊕ Bool)):=
 if (decide (i18 < (list.length:Int))) then (ob (ix list i18) fun e34=>
 if (e34 == n) then (some (.inr (.inr true))) else (some (.inl (wr (i18+1))))) else (some (.inr (.inl ())))
def aAr (list:(List Int)) (n:Int):Option Bool:=
 ob (loop (fun (s:Int)=>rV list n s) 0) fun r=>match r with|.inl r=>aCg|.inr r=>some r
def aGO (t:cH) (set18:List Bool):Option (List Int):=
 ob (aDL t set18) fun r24=>
 ob (aFu r24) fun r34=>
 some r34
def aDO (i59:Int) (set80:List Bool):Option ((List Bool × Int) ⊕ (List Bool)):=
 some (.inl (set80,wr (i59+1)))
def aDP (t:cH) (set58:List Bool) (i59:Int) (v88:Bool):Option ((List Bool × Int) ⊕ (List Bool)):=
 if v88 then (ob (ix t.E i59) fun e98=>
 ob (ix set58 e98.To) fun e103=>
 ob (st set58 e98.To (true:Bool)) fun set108=>
 aDO i59 set108) else (aDO i59 set58)
def aAX (t:cH) (states:(List Int)) (label:Int) (set58:List Bool) (i59:Int):Option ((List Bool × Int) ⊕ (List Bool)):=
 if (decide (i59 < (t.E.length:Int))) then (ob (ix t.E i59) fun e110=>
 if (e110.B == label) then (ob (aAr states e110.F) fun r116=>
 aDP t set58 i59 r116) else (aDP t set58 i59 false)) else (some (.inr set58))
def aFv (t:cH) (states:(List Int)) (label:Int):Option (List Int):=
 ob (mkz t.N (false:Bool)) fun xs13=>
 ob (loop (fun (s:(List Bool × Int))=>aAX t states label s.1 s.2) (xs13,0)) fun r=>aGO t r
def aAY:Option Bool:=
 some true
def mP (a:(List Int)) (b:(List Int)) (i23:Int):Option (Int ⊕ (Unit ⊕ Bool)):=
 if (decide (i23 < (a.length:Int))) then (ob (ix a i23) fun e41=>
 ob (ix b i23) fun e46=>
 if (e41 != e46) then (some (.inr (.inr false))) else (some (.inl (wr (i23+1))))) else (some (.inr (.inl ())))
def vW (a:(List Int)) (b:(List Int)):Option Bool:=
 if ((a.length:Int) != (b.length:Int)) then (some false) else (ob (loop (fun (s:Int)=>mP a b s) 0) fun r=>match r with|.inl r=>aAY|.inr r=>some r)
def aGP (t:cH) (sets55:List (List Int)) (out60:List Int) (edges63:List Edge):Option (eZ × Bool):=
 ob (vH ([]:List aZ) t.L) fun xs76=>
 some (⟨⟨(sets55.length:Int),0,xs76,edges63⟩,out60⟩,true)
def aLP (i142:Int) (sets186:List (List Int)) (at191:List Int) (out194:List Int) (edges197:List Edge):Option ((List (List Int) × List Int × List Int × List Edge × Int) ⊕ ((List (List Int) × List Int × List Edge) ⊕ (eZ × Bool))):=
 some (.inl (sets186,at191,out194,edges197,wr (i142+1)))
def aLQ (i142:Int) (xs254:List Int) (sets262:List (List Int)) (at267:List Int) (edges270:List Edge):Option ((List (List Int) × List Int × List Int × List Edge × Int) ⊕ ((List (List Int) × List Int × List Edge) ⊕ (eZ × Bool))):=
 aLP i142 sets262 at267 xs254 edges270
def aDQ (k336:Int) (sets397:List (List Int)) (at402:List Int) (edges405:List Edge):Option ((List (List Int) × List Int × List Edge × Int) ⊕ ((List (List Int) × List Int × List Edge) ⊕ (eZ × Bool))):=
 some (.inl (sets397,at402,edges405,wr (k336+1)))
def aDR (k336:Int) (sets476:List (List Int)) (at481:List Int) (xs503:List Edge) (v509:Bool):Option ((List (List Int) × List Int × List Edge × Int) ⊕ ((List (List Int) × List Int × List Edge) ⊕ (eZ × Bool))):=
 if v509 then (some (.inr (.inr (⟨⟨0,0,[],[]⟩,[]⟩,false)))) else (aDQ k336 sets476 at481 xs503)
def aAZ (i142:Int) (edges333:List Edge) (k336:Int) (sets476:List (List Int)) (at481:List Int) (to484:Int):Option ((List (List Int) × List Int × List Edge × Int) ⊕ ((List (List Int) × List Int × List Edge) ⊕ (eZ × Bool))):=
 ob (vH edges333 ([⟨i142,k336,to484⟩]:List Edge)) fun xs503=>
 if (decide (40 < (sets476.length:Int))) then (aDR k336 sets476 at481 xs503 true) else (aDR k336 sets476 at481 xs503 (decide (300 < (xs503.length:Int))))
def aDS (i142:Int) (sets325:List (List Int)) (at330:List Int) (edges333:List Edge) (k336:Int) (r434:(List Int)) (r452:Int) (to458:Int):Option ((List (List Int) × List Int × List Edge × Int) ⊕ ((List (List Int) × List Int × List Edge) ⊕ (eZ × Bool))):=
 if (decide (to458 < 0)) then (ob (vH sets325 ([r434]:List (List Int))) fun xs541=>
 ob (vH at330 ([r452]:List Int)) fun xs550=>
 aAZ i142 edges333 k336 xs541 xs550 (sets325.length:Int)) else (aAZ i142 edges333 k336 sets325 at330 to458)
def aDT (m595:Int) (to638:Int):Option ((Int × Int) ⊕ Int):=
 some (.inl (to638,wr (m595+1)))
def aDU (to594:Int) (m595:Int) (v657:Bool):Option ((Int × Int) ⊕ Int):=
 if v657 then (aDT m595 m595) else (aDT m595 to594)
def uI (sets325:List (List Int)) (at330:List Int) (r434:(List Int)) (r452:Int) (to594:Int) (m595:Int):Option ((Int × Int) ⊕ Int):=
 if (decide (m595 < (sets325.length:Int))) then (ob (ix at330 m595) fun e678=>
 if (e678 == r452) then (ob (ix sets325 m595) fun e681=>
 ob (vW e681 r434) fun r697=>
 aDU to594 m595 r697) else (aDU to594 m595 false)) else (some (.inr to594))
def zU (t:cH) (p:cH) (i142:Int) (sets325:List (List Int)) (at330:List Int) (edges333:List Edge) (k336:Int) (v380:Bool):Option ((List (List Int) × List Int × List Edge × Int) ⊕ ((List (List Int) × List Int × List Edge) ⊕ (eZ × Bool))):=
 if v380 then (ob (ix sets325 i142) fun e422=>
 ob (aFv t e422 k336) fun r434=>
 if ((r434.length:Int) == 0) then (aDQ k336 sets325 at330 edges333) else (ob (ix at330 i142) fun e444=>
 ob (ix t.L k336) fun e447=>
 ob (aII p e444 e447) fun r452=>
 ob (loop (fun (s:(Int × Int))=>uI sets325 at330 r434 r452 s.1 s.2) ((-1),0)) fun r=>aDS i142 sets325 at330 edges333 k336 r434 r452 r)) else (some (.inr (.inl (sets325,at330,edges333))))
def lK (t:cH) (p:cH) (i142:Int) (r242:Int) (sets325:List (List Int)) (at330:List Int) (edges333:List Edge) (k336:Int):Option ((List (List Int) × List Int × List Edge × Int) ⊕ ((List (List Int) × List Int × List Edge) ⊕ (eZ × Bool))):=
 if (decide (k336 < (t.L.length:Int))) then (zU t p i142 sets325 at330 edges333 k336 (r242 == 0)) else (zU t p i142 sets325 at330 edges333 k336 false)
def zV (t:cH) (p:cH) (r22:(List Bool)) (r28:(List Bool)) (sets128:List (List Int)) (at133:List Int) (out136:List Int) (edges139:List Edge) (i142:Int):Option ((List (List Int) × List Int × List Int × List Edge × Int) ⊕ ((List (List Int) × List Int × List Edge) ⊕ (eZ × Bool))):=
 if (decide (i142 < (sets128.length:Int))) then (ob (ix sets128 i142) fun e230=>
 ob (ix at133 i142) fun e239=>
 ob (aDN p r22 r28 e230 e239) fun r242=>
 ob (vH out136 ([r242]:List Int)) fun xs254=>
 ob (loop (fun (s:(List (List Int) × List Int × List Edge × Int))=>lK t p i142 r242 s.1 s.2.1 s.2.2.1 s.2.2.2) (sets128,at133,edges139,1)) fun r=>match r with|.inl r=>aLQ i142 xs254 r.1 r.2.1 r.2.2|.inr r=>some (.inr (.inr r))) else (some (.inr (.inl (sets128,out136,edges139))))
def aHC (t:cH) (p:cH):Option (eZ × Bool):=
 ob (aGk t p) fun r22=>
 ob (aHB t p) fun r28=>
 ob (aGm t) fun r34=>
 ob (loop (fun (s:(List (List Int) × List Int × List Int × List Edge × Int))=>zV t p r22 r28 s.1 s.2.1 s.2.2.1 s.2.2.2.1 s.2.2.2.2) (([r34]:List (List Int)),([p.I]:List Int),[],([]:List Edge),0)) fun r=>match r with|.inl r=>aGP t r.1 r.2.1 r.2.2|.inr r=>some r
def aCh (p:cH) (xs54:List aZ) (t65:List Edge):Option (eZ × Int):=
 ob (aHC ⟨1,0,xs54,t65⟩ p) fun r93=>
 if (!r93.2) then (some (⟨⟨0,0,[],[]⟩,[]⟩,5)) else (some (r93.1,0))
def qZ (labels:(List aZ)) (t140:List Edge) (i143:Int):Option ((List Edge × Int) ⊕ (List Edge)):=
 if (decide (i143 < (labels.length:Int))) then (ob (vH t140 ([⟨0,wr (i143+1),0⟩]:List Edge)) fun xs169=>
 some (.inl (xs169,wr (i143+1)))) else (some (.inr t140))
def aBC (p:cH) (labels:(List aZ)):Option (eZ × Int):=
 ob (aNe p p) fun r21=>
 if (r21 != 0) then (some (⟨⟨0,0,[],[]⟩,[]⟩,r21)) else (ob (aJb labels) fun r33=>
 if (!r33) then (some (⟨⟨0,0,[],[]⟩,[]⟩,2)) else (if (decide (12≤(labels.length:Int))) then (some (⟨⟨0,0,[],[]⟩,[]⟩,5)) else (ob (vH ([([116,97,117]:aZ)]:List aZ) labels) fun xs54=>
 ob (loop (fun (s:(List Edge × Int))=>qZ labels s.1 s.2) ([],0)) fun r=>aCh p xs54 r)))
def xD (out9:List aZ):Option (List aZ):=
 some out9
def rW (a:(List aZ)) (out26:List aZ) (i27:Int):Option ((List aZ × Int) ⊕ (List aZ)):=
 if (decide (i27 < (a.length:Int))) then (ob (ix a i27) fun e44=>
 ob (ix out26 i27) fun e49=>
 ob (st out26 i27 (e44:aZ)) fun out54=>
 some (.inl (out54,wr (i27+1)))) else (some (.inr out26))
def kG (a:(List aZ)):Option (List aZ):=
 ob (mkz (a.length:Int) ([]:aZ)) fun xs4=>
 ob (loop (fun (s:(List aZ × Int))=>rW a s.1 s.2) (xs4,0)) fun r=>xD r
def aGQ (a:Edge):Option Edge:=
 some a
def aBa (out9:List Edge):Option (List Edge):=
 some out9
def xE (a:(List Edge)) (out26:List Edge) (i27:Int):Option ((List Edge × Int) ⊕ (List Edge)):=
 if (decide (i27 < (a.length:Int))) then (ob (ix a i27) fun e44=>
 ob (aGQ e44) fun r49=>
 ob (ix out26 i27) fun e53=>
 ob (st out26 i27 (⟨r49.F,r49.B,r49.To⟩:Edge)) fun out58=>
 some (.inl (out58,wr (i27+1)))) else (some (.inr out26))
def aCU (a:(List Edge)):Option (List Edge):=
 ob (mkz (a.length:Int) (⟨0,0,0⟩:Edge)) fun xs4=>
 ob (loop (fun (s:(List Edge × Int))=>xE a s.1 s.2) (xs4,0)) fun r=>aBa r
def sY (a:cH):Option cH:=
 ob (kG a.L) fun r20=>
 ob (aCU a.E) fun r28=>
 some ⟨a.N,a.I,r20,r28⟩
def aCi (v1:Bool):Option Bool:=
 some v1
def xF (n:Int) (low:Int) (high:Int):Option Bool:=
 if (decide (low≤n)) then (aCi (decide (n≤high))) else (aCi false)
def lL (t:cH) (k:Int):Option Bool:=
 ob (xF k 0 (wr (t.N - 1))) fun r10=>
 some r10
def sZ (out4:List Int):Option ((List Int) × Bool):=
 some (out4,true)
def lP (words:(List aZ)) (out27:List Int) (v30:Int):Option ((List Int × Int) ⊕ (List Int ⊕ ((List Int) × Bool))):=
 if (decide (v30 < (words.length:Int))) then (ob (ix words v30) fun e51=>
 ob (uB e51) fun r56=>
 if (!r56.2) then (some (.inr (.inr ([],false)))) else (ob (vH out27 ([r56.1]:List Int)) fun xs67=>
 some (.inl (xs67,wr (v30+1))))) else (some (.inr (.inl out27)))
def uJ (words:(List aZ)):Option ((List Int) × Bool):=
 ob (loop (fun (s:(List Int × Int))=>lP words s.1 s.2) ([],0)) fun r=>match r with|.inl r=>sZ r|.inr r=>some r
def aAs (sep:aZ) (words9:List aZ):Option aZ:=
 ob (aLG words9 sep) fun r19=>
 some r19
def vX (list:(List Int)) (words41:List aZ) (v42:Int):Option ((List aZ × Int) ⊕ (List aZ)):=
 if (decide (v42 < (list.length:Int))) then (ob (ix list v42) fun e63=>
 ob (vR e63) fun r68=>
 ob (ix words41 v42) fun e72=>
 ob (st words41 v42 (r68:aZ)) fun words77=>
 some (.inl (words77,wr (v42+1)))) else (some (.inr words41))
def aBD (list:(List Int)) (sep:aZ):Option aZ:=
 ob (mkz (list.length:Int) ([]:aZ)) fun xs4=>
 ob (loop (fun (s:(List aZ × Int))=>vX list s.1 s.2) (xs4,0)) fun r=>aAs sep r
def aBb (v1:Bool):Option Bool:=
 some v1
def aFw (c:UInt8):Option Bool:=
 if (decide (48≤(c.toNat:Int))) then (aBb (decide ((c.toNat:Int)≤57))) else (aBb false)
def aCj (v4:Bool):Option Bool:=
 some v4
def aAt (s_:aZ):Option Bool:=
 if (decide (1≤(s_.length:Int))) then (aCj (decide ((s_.length:Int)≤10))) else (aCj false)
def vY (v21:Int) (v45:Bool):Option (Int ⊕ (Unit ⊕ Bool)):=
 if v45 then (some (.inr (.inr false))) else (some (.inl (wr (v21+1))))
def pC (s_:aZ) (v21:Int) (letter37:Bool):Option (Int ⊕ (Unit ⊕ Bool)):=
 if (!letter37) then (if (v21 == 0) then (vY v21 true) else (ob (ix s_ v21) fun c57=>
 ob (aFw c57) fun r59=>
 vY v21 (!r59))) else (vY v21 false)
def rX (s_:aZ) (v21:Int):Option (Int ⊕ (Unit ⊕ Bool)):=
 if (decide (v21 < (s_.length:Int))) then (ob (ix s_ v21) fun c63=>
 if (decide (97≤(c63.toNat:Int))) then (pC s_ v21 (decide ((c63.toNat:Int)≤122))) else (pC s_ v21 false)) else (some (.inr (.inl ())))
def aEP (s_:aZ):Option Bool:=
 ob (loop (fun (s:Int)=>rX s_ s) 0) fun r=>match r with|.inl r=>aAt s_|.inr r=>some r
def uK (v1:Bool):Option Bool:=
 some v1
def yY (s_:aZ):Option Bool:=
 ob (aEP s_) fun r6=>
 if r6 then (uK (!(s_ == ([116,97,117]:aZ)))) else (uK false)
def aFx (n:Int):Option Bool:=
 ob (xF n 0 63) fun r1=>
 some r1
def xG (n:Int):Option Bool:=
 ob (aFx n) fun r1=>
 some (!r1)
def fH:Option Int:=
 some (-1)
def dJ (s_:(List Int)) (v20:Int):Option (Int ⊕ (Unit ⊕ Int)):=
 if (decide (v20 < (s_.length:Int))) then (ob (ix s_ v20) fun e38=>
 ob (xG e38) fun r43=>
 if r43 then (some (.inr (.inr v20))) else (some (.inl (wr (v20+1))))) else (some (.inr (.inl ())))
def gB (s_:(List Int)):Option Int:=
 ob (loop (fun (s:Int)=>dJ s_ s) 0) fun r=>match r with|.inl r=>fH|.inr r=>some r
def fI (s_:(List Int)):Option Bool:=
 ob (gB s_) fun r4=>
 some (decide (0≤r4))
def aAu (list:(List Int)):Option Bool:=
 ob (fI list) fun r4=>
 some (!r4)
def tA (name:aZ) (values:(List Int)) (v6:Bool):Option (aZ × Bool):=
 if v6 then (some (([]:aZ),false)) else (if ((values.length:Int) == 0) then (some (name,true)) else (ob (cat name ([40]:aZ)) fun s16=>
 ob (aBD values ([44]:aZ)) fun r18=>
 ob (cat s16 r18) fun s22=>
 ob (cat s22 ([41]:aZ)) fun s24=>
 some (s24,true)))
def aCV (name:aZ) (values:(List Int)):Option (aZ × Bool):=
 if (name == ([116,97,117]:aZ)) then (some (([116,97,117]:aZ),(values.length:Int) == 0)) else (ob (yY name) fun r27=>
 if (!r27) then (tA name values true) else (if (decide (2 < (values.length:Int))) then (tA name values true) else (ob (aAu values) fun r34=>
 tA name values (!r34))))
def eM (v1:Bool):Option Bool:=
 some v1
def gI (s_:aZ) (suffix:aZ):Option Bool:=
 if (decide ((suffix.length:Int)≤(s_.length:Int))) then (ob (slc s_ (wr ((s_.length:Int) - (suffix.length:Int))) (s_.length:Int)) fun r7=>
 eM (r7 == suffix)) else (eM false)
def gC (s_:aZ) (suffix:aZ):Option aZ:=
 ob (gI s_ suffix) fun r1=>
 if r1 then (ob (slc s_ 0 (wr ((s_.length:Int) - (suffix.length:Int)))) fun r6=>
 some r6) else (some s_)
def kH (s_:aZ) (suffix:aZ):Option aZ:=
 ob (gC s_ suffix) fun r1=>
 some r1
def oI (r1:(aZ × aZ × Bool)) (values5:List Int) (v23:Bool):Option (aZ × (List Int) × Bool):=
 if v23 then (some (([]:aZ),[],false)) else (some (r1.1,values5,true))
def oJ (s_:aZ) (r1:(aZ × aZ × Bool)) (values5:List Int):Option (aZ × (List Int) × Bool):=
 ob (aCV r1.1 values5) fun r18=>
 if (!r18.2) then (oI r1 values5 true) else (oI r1 values5 (!(r18.1 == s_)))
def aCk (s_:aZ):Option (aZ × (List Int) × Bool):=
 ob (l_Cut s_ ([40]:aZ)) fun r1=>
 if r1.2.2 then (ob (kH r1.2.1 ([41]:aZ)) fun r35=>
 ob (aGJ r35 ([44]:aZ)) fun r39=>
 ob (uJ r39) fun r50=>
 if (!r50.2) then (some (([]:aZ),[],false)) else (oJ s_ r1 r50.1)) else (oJ s_ r1 [])
def aBl (s_:aZ):Option Bool:=
 ob (aCk s_) fun r1=>
 some r1.2.2
def aGR (i:Int) (many:Int):Option Bool:=
 ob (xF i 0 (wr (many - 1))) fun r1=>
 some r1
def jR (x_:Int):Option Bool:=
 some (x_ != x_)
def eN (x_:Int) (y:Int):Option Int:=
 ob (jR x_) fun r1=>
 ob (jR y) fun r5=>
 if r1 then (if r5 then (some 0) else (some (-1))) else (if r5 then (some 1) else (if (decide (x_ < y)) then (some (-1)) else (if (decide (y < x_)) then (some 1) else (some 0))))
def oK:Option Int:=
 some 0
def gD (vals:(List Int)) (v21:Int):Option (Int ⊕ (Unit ⊕ Int)):=
 if (decide (v21 < (vals.length:Int))) then (ob (ix vals v21) fun e39=>
 if (e39 != 0) then (some (.inr (.inr e39))) else (some (.inl (wr (v21+1))))) else (some (.inr (.inl ())))
def uL (vals:(List Int)):Option Int:=
 ob (loop (fun (s:Int)=>gD vals s) 0) fun r=>match r with|.inl r=>oK|.inr r=>some r
def rY (a:Edge) (b:Edge):Option Int:=
 ob (eN a.F b.F) fun r21=>
 ob (eN a.B b.B) fun r25=>
 ob (eN a.To b.To) fun r29=>
 ob (uL ([r21,r25,r29]:List Int)) fun r41=>
 some r41
def zW:Option Bool:=
 some true
def lM (v36:Int) (v64:Bool):Option (Int ⊕ (Unit ⊕ Bool)):=
 if v64 then (some (.inr (.inr false))) else (some (.inl (wr (v36+1))))
def qE (t:cH) (v36:Int):Option (Int ⊕ (Unit ⊕ Bool)):=
 if (decide (v36 < (t.E.length:Int))) then (ob (ix t.E v36) fun e54=>
 ob (lL t e54.F) fun r77=>
 if (!r77) then (lM v36 true) else (ob (lL t e54.To) fun r84=>
 if (!r84) then (lM v36 true) else (ob (aGR e54.B (t.L.length:Int)) fun r91=>
 if (!r91) then (lM v36 true) else (if (decide (0 < v36)) then (ob (ix t.E (wr (v36 - 1))) fun e99=>
 ob (rY e99 e54) fun r104=>
 lM v36 (decide (0≤r104))) else (lM v36 false))))) else (some (.inr (.inl ())))
def uM (t:cH):Option Bool:=
 ob (loop (fun (s:Int)=>qE t s) 0) fun r=>match r with|.inl r=>zW|.inr r=>some r
def nG (v128:Int) (v151:Bool):Option (Int ⊕ (Unit ⊕ Bool)):=
 if v151 then (some (.inr (.inr false))) else (some (.inl (wr (v128+1))))
def qF (t:cH) (v128:Int):Option (Int ⊕ (Unit ⊕ Bool)):=
 if (decide (v128 < (t.L.length:Int))) then (ob (ix t.L v128) fun e146=>
 ob (aBl e146) fun r162=>
 if (!r162) then (nG v128 true) else (if ((e146 == ([116,97,117]:aZ)) != (v128 == 0)) then (nG v128 true) else (if (decide (1 < v128)) then (ob (ix t.L (wr (v128 - 1))) fun e170=>
 nG v128 (qW e146 e170||e146 == e170)) else (nG v128 false)))) else (some (.inr (.inl ())))
def nH (t:cH) (v10:Bool):Option Bool:=
 if v10 then (some false) else (ob (loop (fun (s:Int)=>qF t s) 0) fun r=>match r with|.inl r=>uM t|.inr r=>some r)
def nI (t:cH):Option Bool:=
 ob (xF t.N 1 40) fun r178=>
 if (!r178) then (nH t true) else (ob (lL t t.I) fun r184=>
 if (!r184) then (nH t true) else (ob (xF (t.L.length:Int) 1 12) fun r190=>
 if (!r190) then (nH t true) else (nH t (decide (300 < (t.E.length:Int))))))
def kL:Option Bool:=
 some true
def fM (v32:Int) (v60:Bool):Option (Int ⊕ (Unit ⊕ Bool)):=
 if v60 then (some (.inr (.inr false))) else (some (.inl (wr (v32+1))))
def gM (t:cH) (v32:Int):Option (Int ⊕ (Unit ⊕ Bool)):=
 if (decide (v32 < (t.E.length:Int))) then (ob (ix t.E v32) fun e50=>
 if (e50.B == 0) then (fM v32 true) else (if (decide (0 < v32)) then (ob (ix t.E (wr (v32 - 1))) fun e77=>
 if (e77.F == e50.F) then (fM v32 (e77.B == e50.B)) else (fM v32 false)) else (fM v32 false))) else (some (.inr (.inl ())))
def fQ (t:cH):Option Bool:=
 ob (nI t) fun r10=>
 if (!r10) then (some false) else (ob (loop (fun (s:Int)=>gM t s) 0) fun r=>match r with|.inl r=>kL|.inr r=>some r)
def aEQ (s_:aZ):Option Bool:=
 ob (aBl s_) fun r1=>
 some (!r1)
def rZ:Option Int:=
 some (-1)
def fA (s_:(List aZ)) (v20:Int):Option (Int ⊕ (Unit ⊕ Int)):=
 if (decide (v20 < (s_.length:Int))) then (ob (ix s_ v20) fun e38=>
 ob (aEQ e38) fun r43=>
 if r43 then (some (.inr (.inr v20))) else (some (.inl (wr (v20+1))))) else (some (.inr (.inl ())))
def lN (s_:(List aZ)):Option Int:=
 ob (loop (fun (s:Int)=>fA s_ s) 0) fun r=>match r with|.inl r=>rZ|.inr r=>some r
def kI (s_:(List aZ)):Option Bool:=
 ob (lN s_) fun r4=>
 some (decide (0≤r4))
def aER (labels:(List aZ)):Option Bool:=
 ob (kI labels) fun r4=>
 some (!r4)
def fU:Option Int:=
 some (-1)
def dQ (s_:(List aZ)) (v_:aZ) (v20:Int):Option (Int ⊕ (Unit ⊕ Int)):=
 if (decide (v20 < (s_.length:Int))) then (ob (ix s_ v20) fun e38=>
 if (v_ == e38) then (some (.inr (.inr v20))) else (some (.inl (wr (v20+1))))) else (some (.inr (.inl ())))
def eB (s_:(List aZ)) (v_:aZ):Option Int:=
 ob (loop (fun (s:Int)=>dQ s_ v_ s) 0) fun r=>match r with|.inl r=>fU|.inr r=>some r
def dR (s_:(List aZ)) (v_:aZ):Option Bool:=
 ob (eB s_ v_) fun r4=>
 some (decide (0≤r4))
def aEq (v4:Bool):Option Bool:=
 some v4
def aDV (trace:(List aZ)):Option Bool:=
 ob (aER trace) fun r9=>
 if r9 then (ob (dR trace ([116,97,117]:aZ)) fun r14=>
 aEq (!r14)) else (aEq false)
def aJc (set:(List aZ)):Option Bool:=
 ob (aDV set) fun r7=>
 some r7
def aGn (v25:Int) (v48:Bool):Option (Int ⊕ (Unit ⊕ Bool)):=
 if v48 then (some (.inr (.inr false))) else (some (.inl (wr (v25+1))))
def aDW (set:(List aZ)) (v25:Int):Option (Int ⊕ (Unit ⊕ Bool)):=
 if (decide (v25 < (set.length:Int))) then (ob (ix set v25) fun e43=>
 if (decide (0 < v25)) then (ob (ix set (wr (v25 - 1))) fun e60=>
 aGn v25 (qW e43 e60||e43 == e60)) else (aGn v25 false)) else (some (.inr (.inl ())))
def aLR (set:(List aZ)):Option Bool:=
 ob (loop (fun (s:Int)=>aDW set s) 0) fun r=>match r with|.inl r=>aJc set|.inr r=>some r
def vB (a:aZ) (b:aZ):Option Int:=
 if (a == b) then (some 0) else (if (a == ([116,97,117]:aZ)) then (some (-1)) else (if (b == ([116,97,117]:aZ)) then (some 1) else (ob (aLd a b) fun r7=>
 some r7)))
def eE (s_:(List Edge)):Option (List Edge):=
 some s_
def eF (k18:Int):Option (Int ⊕ (Unit ⊕ (List Edge))):=
 some (.inl (wr (k18+1)))
def eG (s52:List Edge) (k53:Int):Option (Int ⊕ (Unit ⊕ (List Edge))):=
 ob (slc s52 k53 (s52.length:Int)) fun r58=>
 ob (ovw s52 k53 (List.replicate r58.length (⟨0,0,0⟩:Edge))) fun xs64=>
 ob (slc xs64 0 k53) fun r68=>
 some (.inr (.inr r68))
def eH (k294:Int) (s114:List Edge) (k115:Int):Option ((List Edge × Int × Int) ⊕ (List Edge × Int)):=
 some (.inl (s114,k115,wr (k294+1)))
def fV (k18:Int) (r46:List Edge) (s92:List Edge) (k93:Int) (k294:Int):Option ((List Edge × Int × Int) ⊕ (List Edge × Int)):=
 if (decide (k294 < (r46.length:Int))) then (ob (ix r46 k294) fun e124=>
 ob (ix s92 (k18+k294)) fun e126=>
 ob (ix r46 (wr (k294 - 1))) fun e128=>
 ob (ix s92 (k18+(wr (k294 - 1)))) fun e130=>
 if (!decide ((e126:Edge)=e130)) then (ob (ix s92 k93) fun e135=>
 ob (st s92 k93 (⟨e126.F,e126.B,e126.To⟩:Edge)) fun s139=>
 eH k294 s139 (wr (k93+1))) else (eH k294 s92 k93)) else (some (.inr (s92,k93)))
def cX (s_:(List Edge)) (k18:Int):Option (Int ⊕ (Unit ⊕ (List Edge))):=
 if (decide (k18 < (s_.length:Int))) then (ob (ix s_ k18) fun e38=>
 ob (ix s_ (wr (k18 - 1))) fun e41=>
 if (decide ((e38:Edge)=e41)) then (ob (slc s_ k18 (s_.length:Int)) fun r46=>
 ob (loop (fun (s:(List Edge × Int × Int))=>fV k18 r46 s.1 s.2.1 s.2.2) (s_,k18,1)) fun r=>eG r.1 r.2) else (eF k18)) else (some (.inr (.inl ())))
def dT (s_:(List Edge)):Option (List Edge):=
 if (decide ((s_.length:Int) < 2)) then (some s_) else (ob (loop (fun (s:Int)=>cX s_ s) 1) fun r=>match r with|.inl r=>eE s_|.inr r=>some r)
def fJ (s_:(List aZ)):Option (List aZ):=
 some s_
def fK (k18:Int):Option (Int ⊕ (Unit ⊕ (List aZ))):=
 some (.inl (wr (k18+1)))
def dZ (s52:List aZ) (k53:Int):Option (Int ⊕ (Unit ⊕ (List aZ))):=
 ob (slc s52 k53 (s52.length:Int)) fun r58=>
 ob (ovw s52 k53 (List.replicate r58.length ([]:aZ))) fun xs64=>
 ob (slc xs64 0 k53) fun r68=>
 some (.inr (.inr r68))
def eA (k294:Int) (s114:List aZ) (k115:Int):Option ((List aZ × Int × Int) ⊕ (List aZ × Int)):=
 some (.inl (s114,k115,wr (k294+1)))
def dK (k18:Int) (r46:List aZ) (s92:List aZ) (k93:Int) (k294:Int):Option ((List aZ × Int × Int) ⊕ (List aZ × Int)):=
 if (decide (k294 < (r46.length:Int))) then (ob (ix r46 k294) fun e124=>
 ob (ix s92 (k18+k294)) fun e126=>
 ob (ix r46 (wr (k294 - 1))) fun e128=>
 ob (ix s92 (k18+(wr (k294 - 1)))) fun e130=>
 if (!(e126 == e130)) then (ob (ix s92 k93) fun e135=>
 ob (st s92 k93 (e126:aZ)) fun s139=>
 eA k294 s139 (wr (k93+1))) else (eA k294 s92 k93)) else (some (.inr (s92,k93)))
def dL (s_:(List aZ)) (k18:Int):Option (Int ⊕ (Unit ⊕ (List aZ))):=
 if (decide (k18 < (s_.length:Int))) then (ob (ix s_ k18) fun e38=>
 ob (ix s_ (wr (k18 - 1))) fun e41=>
 if (e38 == e41) then (ob (slc s_ k18 (s_.length:Int)) fun r46=>
 ob (loop (fun (s:(List aZ × Int × Int))=>dK k18 r46 s.1 s.2.1 s.2.2) (s_,k18,1)) fun r=>dZ r.1 r.2) else (fK k18)) else (some (.inr (.inl ())))
def eT (s_:(List aZ)):Option (List aZ):=
 if (decide ((s_.length:Int) < 2)) then (some s_) else (ob (loop (fun (s:Int)=>dL s_ s) 1) fun r=>match r with|.inl r=>fJ s_|.inr r=>some r)
def aES (states:Int) (initial:Int) (r32:(List aZ)) (out40:List Edge):Option cH:=
 ob (aBu out40) fun r48=>
 ob (dT r48) fun r55=>
 some ⟨states,initial,r32,r55⟩
def aCW (arcs:(List lS)) (r32:(List aZ)) (out84:List Edge) (v87:Int):Option ((List Edge × Int) ⊕ (List Edge)):=
 if (decide (v87 < (arcs.length:Int))) then (ob (ix arcs v87) fun e110=>
 ob (eB r32 e110.label) fun r139=>
 ob (vH out84 ([⟨e110.from_,r139,e110.to_⟩]:List Edge)) fun xs147=>
 some (.inl (xs147,wr (v87+1)))) else (some (.inr out84))
def aGS (states:Int) (initial:Int) (labels:(List aZ)) (arcs:(List lS)):Option cH:=
 ob (vH ([([116,97,117]:aZ)]:List aZ) labels) fun xs13=>
 ob (aCQ xs13) fun r25=>
 ob (eT r25) fun r32=>
 ob (loop (fun (s:(List Edge × Int))=>aCW arcs r32 s.1 s.2) ([],0)) fun r=>aES states initial r32 r
def xH (p:cH) (v19:Bool):Option Int:=
 if v19 then (some 1) else (ob (fQ p) fun r26=>
 if (!r26) then (some 6) else (some 0))
def aET (t:cH) (p:cH):Option Int:=
 ob (nI t) fun r33=>
 if (!r33) then (xH p true) else (ob (nI p) fun r38=>
 xH p (!r38))
def gJ:Option Int:=
 some (-1)
def dW (s_:(List Int)) (v_:Int) (v20:Int):Option (Int ⊕ (Unit ⊕ Int)):=
 if (decide (v20 < (s_.length:Int))) then (ob (ix s_ v20) fun e38=>
 if (v_ == e38) then (some (.inr (.inr v20))) else (some (.inl (wr (v20+1))))) else (some (.inr (.inl ())))
def fR (s_:(List Int)) (v_:Int):Option Int:=
 ob (loop (fun (s:Int)=>dW s_ v_ s) 0) fun r=>match r with|.inl r=>gJ|.inr r=>some r
def dI (s_:(List Int)) (v_:Int):Option Bool:=
 ob (fR s_ v_) fun r4=>
 some (decide (0≤r4))
def fW (s_:(List Int)):Option (List Int):=
 some s_
def iC (k18:Int):Option (Int ⊕ (Unit ⊕ (List Int))):=
 some (.inl (wr (k18+1)))
def fX (s52:List Int) (k53:Int):Option (Int ⊕ (Unit ⊕ (List Int))):=
 ob (slc s52 k53 (s52.length:Int)) fun r58=>
 ob (ovw s52 k53 (List.replicate r58.length (0:Int))) fun xs64=>
 ob (slc xs64 0 k53) fun r68=>
 some (.inr (.inr r68))
def fY (k294:Int) (s114:List Int) (k115:Int):Option ((List Int × Int × Int) ⊕ (List Int × Int)):=
 some (.inl (s114,k115,wr (k294+1)))
def iD (k18:Int) (r46:List Int) (s92:List Int) (k93:Int) (k294:Int):Option ((List Int × Int × Int) ⊕ (List Int × Int)):=
 if (decide (k294 < (r46.length:Int))) then (ob (ix r46 k294) fun e124=>
 ob (ix s92 (k18+k294)) fun e126=>
 ob (ix r46 (wr (k294 - 1))) fun e128=>
 ob (ix s92 (k18+(wr (k294 - 1)))) fun e130=>
 if (e126 != e130) then (ob (ix s92 k93) fun e135=>
 ob (st s92 k93 (e126:Int)) fun s139=>
 fY k294 s139 (wr (k93+1))) else (fY k294 s92 k93)) else (some (.inr (s92,k93)))
def iE (s_:(List Int)) (k18:Int):Option (Int ⊕ (Unit ⊕ (List Int))):=
 if (decide (k18 < (s_.length:Int))) then (ob (ix s_ k18) fun e38=>
 ob (ix s_ (wr (k18 - 1))) fun e41=>
 if (e38 == e41) then (ob (slc s_ k18 (s_.length:Int)) fun r46=>
 ob (loop (fun (s:(List Int × Int × Int))=>iD k18 r46 s.1 s.2.1 s.2.2) (s_,k18,1)) fun r=>fX r.1 r.2) else (iC k18)) else (some (.inr (.inl ())))
def fE (s_:(List Int)):Option (List Int):=
 if (decide ((s_.length:Int) < 2)) then (some s_) else (ob (loop (fun (s:Int)=>iE s_ s) 1) fun r=>match r with|.inl r=>fW s_|.inr r=>some r)
def pR (out13:List Int):Option (List Int):=
 ob (aBi out13) fun r20=>
 ob (fE r20) fun r26=>
 some r26
def pS (v58:Int) (out85:List Int):Option ((List Int × Int) ⊕ (List Int)):=
 some (.inl (out85,wr (v58+1)))
def pT (out55:List Int) (v58:Int) (e97:Edge) (v107:Bool):Option ((List Int × Int) ⊕ (List Int)):=
 if v107 then (ob (vH out55 ([e97.To]:List Int)) fun xs123=>
 pS v58 xs123) else (pS v58 out55)
def mG (t:cH) (states:(List Int)) (label:aZ) (out55:List Int) (v58:Int):Option ((List Int × Int) ⊕ (List Int)):=
 if (decide (v58 < (t.E.length:Int))) then (ob (ix t.E v58) fun e97=>
 ob (ix t.L e97.B) fun e129=>
 if (e129 == label) then (ob (dI states e97.F) fun r135=>
 pT out55 v58 e97 r135) else (pT out55 v58 e97 false)) else (some (.inr out55))
def mQ (t:cH) (states:(List Int)) (label:aZ):Option (List Int):=
 ob (loop (fun (s:(List Int × Int))=>mG t states label s.1 s.2) ([],0)) fun r=>pR r
def sA (t:cH) (k:Int) (label:aZ):Option Int:=
 if (decide (k < 0)) then (some (-1)) else (ob (mQ t ([k]:List Int) label) fun r20=>
 if (decide (0 < (r20.length:Int))) then (ob (ix r20 0) fun e28=>
 some e28) else (some (-1)))
def xI (out10:List Edge):Option (List Edge):=
 some out10
def xJ (v38:Int) (out61:List Edge):Option ((List Edge × Int) ⊕ (List Edge)):=
 some (.inl (out61,wr (v38+1)))
def tB (t:cH) (k:Int) (out35:List Edge) (v38:Int):Option ((List Edge × Int) ⊕ (List Edge)):=
 if (decide (v38 < (t.E.length:Int))) then (ob (ix t.E v38) fun e71=>
 if (e71.F == k) then (ob (vH out35 ([e71]:List Edge)) fun xs85=>
 xJ v38 xs85) else (xJ v38 out35)) else (some (.inr out35))
def tC (t:cH) (k:Int):Option (List Edge):=
 ob (loop (fun (s:(List Edge × Int))=>tB t k s.1 s.2) ([],0)) fun r=>xI r
def gP (newslice25:List Bool):Option (List Bool):=
 some newslice25
def fF (newslice41:List Bool) (n42:Int):Option ((List Bool × Int) ⊕ (List Bool)):=
 if (decide (n42 < (newslice41.length:Int))) then (ob (slc newslice41 n42 (newslice41.length:Int)) fun r61=>
 ob (slc newslice41 0 n42) fun r67=>
 ob (ovw newslice41 n42 (List.take (Nat.min r67.length r61.length) r67)) fun xs73=>
 some (.inl (xs73,wr (n42+((Nat.min r67.length r61.length):Int))))) else (some (.inr newslice41))
def gQ (x_:(List Bool)) (r8:(Int × Int)):Option (List Bool):=
 ob (mkz (wr r8.2) (false:Bool)) fun xs16=>
 ob (ovw xs16 0 (List.take (Nat.min x_.length xs16.length) x_)) fun xs21=>
 ob (loop (fun (s:(List Bool × Int))=>fF s.1 s.2) (xs21,((Nat.min x_.length xs16.length):Int))) fun r=>gP r
def fG (x_:(List Bool)) (r8:(Int × Int)) (v80:Bool):Option (List Bool):=
 if v80 then (none) else (gQ x_ r8)
def gR (x_:(List Bool)) (count:Int):Option (List Bool):=
 ob (l_Mul (aHt (x_.length:Int)) (aHt count)) fun r8=>
 if (decide (0 < r8.1)) then (fG x_ r8 true) else (fG x_ r8 (decide (9223372036854775807 < r8.2)))
def dX (x_:(List Bool)) (count:Int):Option (List Bool):=
 if (decide (count < 0)) then (none) else (gR x_ count)
def vZ (v7:Bool):Option Bool:=
 some v7
def mT (v_:Int) (w_:Int) (p:(List (List Bool))):Option Bool:=
 if (decide (0≤w_)) then (ob (ix p v_) fun e13=>
 ob (ix e13 w_) fun e21=>
 vZ e21) else (vZ false)
def tR (v10:Bool):Option Bool:=
 some v10
def xK (v_:Int) (w_:Int) (p_c0_:(List (List Bool))):Option Bool:=
 if (decide (w_ < 0)) then (tR true) else (ob (mT v_ w_ p_c0_) fun r16=>
 tR r16)
def aAv (p14:Bool):Option Bool:=
 some p14
def rA (v_:Int) (w_:Int) (p:Bool) (p_c0_c0_:(List (List Bool))):Option Bool:=
 if p then (aAv true) else (ob (xK v_ w_ p_c0_c0_) fun r21=>
 aAv r21)
def aFH (do_c035:Bool):Option Bool:=
 some do_c035
def tT (v58:Int) (do_c081:Bool):Option ((Bool × Int) ⊕ Bool):=
 some (.inl (do_c081,wr (v58+1)))
def nW (o:eL) (y:Int) (do_c1_c0_c0_:(List (List Bool))) (r29:(List Edge)) (do_c057:Bool) (v58:Int):Option ((Bool × Int) ⊕ Bool):=
 if (decide (v58 < (r29.length:Int))) then (ob (ix r29 v58) fun e90=>
 if (e90.B == 0) then (ob (rA e90.To y do_c057 do_c1_c0_c0_) fun r100=>
 tT v58 r100) else (ob (ix o.t.L e90.B) fun e118=>
 ob (sA o.p y e118) fun r123=>
 ob (rA e90.To r123 do_c057 do_c1_c0_c0_) fun r128=>
 tT v58 r128)) else (some (.inr do_c057))
def yZ (o:eL) (x_:Int) (y:Int) (do_c0_:Bool) (do_c1_c0_c0_:(List (List Bool))):Option Bool:=
 ob (tC o.t x_) fun r29=>
 ob (loop (fun (s:(Bool × Int))=>nW o y do_c1_c0_c0_ r29 s.1 s.2) (do_c0_,0)) fun r=>aFH r
def aEU (o:eL) (x_:Int) (y:Int) (is_c0_c0_:(List (List Bool))):Option Bool:=
 ob (yZ o x_ y false is_c0_c0_) fun r39=>
 some r39
def tU (x_:Int) (y:Int) (has_c0_:(List (List Bool))) (p:eL):Option Bool:=
 ob (aEU p x_ y has_c0_) fun r30=>
 some r30
def aAw (m49:List (List Bool)):Option (List (List Bool)):=
 some m49
def aEV (m100:List (List Bool)) (again103:Bool):Option ((List (List Bool) × Bool) ⊕ (List (List Bool))):=
 some (.inl (m100,again103))
def aEW (m111:List (List Bool)) (again114:Bool):Option ((List (List Bool) × Bool) ⊕ (List (List Bool))):=
 aEV m111 again114
def aEX (v149:Int) (m177:List (List Bool)) (again180:Bool):Option ((List (List Bool) × Bool × Int) ⊕ (List (List Bool) × Bool)):=
 some (.inl (m177,again180,wr (v149+1)))
def aEY (v149:Int) (m196:List (List Bool)) (again199:Bool):Option ((List (List Bool) × Bool × Int) ⊕ (List (List Bool) × Bool)):=
 aEX v149 m196 again199
def sB (v242:Int) (m276:List (List Bool)) (again279:Bool):Option ((List (List Bool) × Bool × Int) ⊕ (List (List Bool) × Bool)):=
 some (.inl (m276,again279,wr (v242+1)))
def sC (begin:Bool) (v149:Int) (m238:List (List Bool)) (again241:Bool) (v242:Int) (v292:Bool):Option ((List (List Bool) × Bool × Int) ⊕ (List (List Bool) × Bool)):=
 if v292 then (ob (ix m238 v149) fun e308=>
 ob (ix e308 v242) fun e313=>
 ob (st e308 v242 (!begin:Bool)) fun row318=>
 ob (st m238 v149 row318) fun m320=>
 sB v242 m320 true) else (sB v242 m238 again241)
def mU (begin:Bool) (change_c0_:eL) (v149:Int) (e190:(List Bool)) (m238:List (List Bool)) (again241:Bool) (v242:Int):Option ((List (List Bool) × Bool × Int) ⊕ (List (List Bool) × Bool)):=
 if (decide (v242 < (e190.length:Int))) then (ob (ix m238 v149) fun e325=>
 ob (ix e325 v242) fun e330=>
 if (e330 == begin) then (ob (tU v149 v242 m238 change_c0_) fun r345=>
 sC begin v149 m238 again241 v242 r345) else (sC begin v149 m238 again241 v242 false)) else (some (.inr (m238,again241)))
def mV (begin:Bool) (change_c0_:eL) (m74:List (List Bool)) (m145:List (List Bool)) (again148:Bool) (v149:Int):Option ((List (List Bool) × Bool × Int) ⊕ (List (List Bool) × Bool)):=
 if (decide (v149 < (m74.length:Int))) then (ob (ix m145 v149) fun e190=>
 ob (loop (fun (s:(List (List Bool) × Bool × Int))=>mU begin change_c0_ v149 e190 s.1 s.2.1 s.2.2) (m145,again148,0)) fun r=>aEY v149 r.1 r.2) else (some (.inr (m145,again148)))
def qS (begin:Bool) (change_c0_:eL) (m74:List (List Bool)) (again77:Bool):Option ((List (List Bool) × Bool) ⊕ (List (List Bool))):=
 if again77 then (ob (loop (fun (s:(List (List Bool) × Bool × Int))=>mV begin change_c0_ m74 s.1 s.2.1 s.2.2) (m74,false,0)) fun r=>aEW r.1 r.2) else (some (.inr m74))
def yP (begin:Bool) (change_c0_:eL) (m41:List (List Bool)):Option (List (List Bool)):=
 ob (loop (fun (s:(List (List Bool) × Bool))=>qS begin change_c0_ s.1 s.2) (m41,true)) fun r=>aAw r
def lZ (o:eL) (begin:Bool) (xs31:List (List Bool)) (m382:List (List Bool)) (v385:Int):Option ((List (List Bool) × Int) ⊕ (List (List Bool))):=
 if (decide (v385 < (xs31.length:Int))) then (ob (dX ([begin]:List Bool) o.p.N) fun r432=>
 ob (ix m382 v385) fun e439=>
 ob (st m382 v385 r432) fun m450=>
 some (.inl (m450,wr (v385+1)))) else (some (.inr m382))
def aCl (o:eL) (begin:Bool) (change_c0_:eL):Option (List (List Bool)):=
 ob (mkz o.t.N ([]:(List Bool))) fun xs31=>
 ob (loop (fun (s:(List (List Bool) × Int))=>lZ o begin xs31 s.1 s.2) (xs31,0)) fun r=>yP begin change_c0_ r
def aAj (o:eL):Option (List (List Bool)):=
 ob (aCl o false o) fun r21=>
 some r21
def wA (p11:Bool):Option Bool:=
 some p11
def mW (v_:Int) (w_:Int) (p:Bool) (p_c0_:(List (List Bool))):Option Bool:=
 if p then (wA true) else (ob (mT v_ w_ p_c0_) fun r18=>
 wA r18)
def aDX (do_c032:Bool):Option Bool:=
 some do_c032
def pF (v55:Int) (do_c078:Bool):Option ((Bool × Int) ⊕ Bool):=
 some (.inl (do_c078,wr (v55+1)))
def lG (o:eL) (y:Int) (do_c1_c0_:(List (List Bool))) (r26:(List Edge)) (do_c054:Bool) (v55:Int):Option ((Bool × Int) ⊕ Bool):=
 if (decide (v55 < (r26.length:Int))) then (ob (ix r26 v55) fun e87=>
 if (e87.B == 0) then (ob (mW e87.To y do_c054 do_c1_c0_) fun r97=>
 pF v55 r97) else (ob (ix o.t.L e87.B) fun e115=>
 ob (sA o.p y e115) fun r120=>
 ob (mW e87.To r120 do_c054 do_c1_c0_) fun r125=>
 pF v55 r125)) else (some (.inr do_c054))
def tV (o:eL) (x_:Int) (y:Int) (do_c0_:Bool) (do_c1_c0_:(List (List Bool))):Option Bool:=
 ob (tC o.t x_) fun r26=>
 ob (loop (fun (s:(Bool × Int))=>lG o y do_c1_c0_ r26 s.1 s.2) (do_c0_,0)) fun r=>aDX r
def aCm (o:eL) (x_:Int) (y:Int) (is_c0_:(List (List Bool))):Option Bool:=
 ob (tV o x_ y false is_c0_) fun r36=>
 some r36
def yQ (v22:Bool):Option Bool:=
 some v22
def vL (x_:Int) (y:Int) (has_c0_:(List (List Bool))) (p:eL):Option Bool:=
 ob (tC p.t x_) fun r27=>
 if (decide (0 < (r27.length:Int))) then (ob (aCm p x_ y has_c0_) fun r34=>
 yQ (!r34)) else (yQ false)
def wB (m49:List (List Bool)):Option (List (List Bool)):=
 some m49
def aCX (m100:List (List Bool)) (again103:Bool):Option ((List (List Bool) × Bool) ⊕ (List (List Bool))):=
 some (.inl (m100,again103))
def aCY (m111:List (List Bool)) (again114:Bool):Option ((List (List Bool) × Bool) ⊕ (List (List Bool))):=
 aCX m111 again114
def aCZ (v149:Int) (m177:List (List Bool)) (again180:Bool):Option ((List (List Bool) × Bool × Int) ⊕ (List (List Bool) × Bool)):=
 some (.inl (m177,again180,wr (v149+1)))
def aDa (v149:Int) (m196:List (List Bool)) (again199:Bool):Option ((List (List Bool) × Bool × Int) ⊕ (List (List Bool) × Bool)):=
 aCZ v149 m196 again199
def oL (v242:Int) (m276:List (List Bool)) (again279:Bool):Option ((List (List Bool) × Bool × Int) ⊕ (List (List Bool) × Bool)):=
 some (.inl (m276,again279,wr (v242+1)))
def oM (begin:Bool) (v149:Int) (m238:List (List Bool)) (again241:Bool) (v242:Int) (v292:Bool):Option ((List (List Bool) × Bool × Int) ⊕ (List (List Bool) × Bool)):=
 if v292 then (ob (ix m238 v149) fun e308=>
 ob (ix e308 v242) fun e313=>
 ob (st e308 v242 (!begin:Bool)) fun row318=>
 ob (st m238 v149 row318) fun m320=>
 oL v242 m320 true) else (oL v242 m238 again241)
def kM (begin:Bool) (change_c0_:eL) (v149:Int) (e190:(List Bool)) (m238:List (List Bool)) (again241:Bool) (v242:Int):Option ((List (List Bool) × Bool × Int) ⊕ (List (List Bool) × Bool)):=
 if (decide (v242 < (e190.length:Int))) then (ob (ix m238 v149) fun e325=>
 ob (ix e325 v242) fun e330=>
 if (e330 == begin) then (ob (vL v149 v242 m238 change_c0_) fun r345=>
 oM begin v149 m238 again241 v242 r345) else (oM begin v149 m238 again241 v242 false)) else (some (.inr (m238,again241)))
def kN (begin:Bool) (change_c0_:eL) (m74:List (List Bool)) (m145:List (List Bool)) (again148:Bool) (v149:Int):Option ((List (List Bool) × Bool × Int) ⊕ (List (List Bool) × Bool)):=
 if (decide (v149 < (m74.length:Int))) then (ob (ix m145 v149) fun e190=>
 ob (loop (fun (s:(List (List Bool) × Bool × Int))=>kM begin change_c0_ v149 e190 s.1 s.2.1 s.2.2) (m145,again148,0)) fun r=>aDa v149 r.1 r.2) else (some (.inr (m145,again148)))
def nJ (begin:Bool) (change_c0_:eL) (m74:List (List Bool)) (again77:Bool):Option ((List (List Bool) × Bool) ⊕ (List (List Bool))):=
 if again77 then (ob (loop (fun (s:(List (List Bool) × Bool × Int))=>kN begin change_c0_ m74 s.1 s.2.1 s.2.2) (m74,false,0)) fun r=>aCY r.1 r.2) else (some (.inr m74))
def uN (begin:Bool) (change_c0_:eL) (m41:List (List Bool)):Option (List (List Bool)):=
 ob (loop (fun (s:(List (List Bool) × Bool))=>nJ begin change_c0_ s.1 s.2) (m41,true)) fun r=>wB r
def jX (o:eL) (begin:Bool) (xs31:List (List Bool)) (m382:List (List Bool)) (v385:Int):Option ((List (List Bool) × Int) ⊕ (List (List Bool))):=
 if (decide (v385 < (xs31.length:Int))) then (ob (dX ([begin]:List Bool) o.p.N) fun r432=>
 ob (ix m382 v385) fun e439=>
 ob (st m382 v385 r432) fun m450=>
 some (.inl (m450,wr (v385+1)))) else (some (.inr m382))
def aAx (o:eL) (begin:Bool) (change_c0_:eL):Option (List (List Bool)):=
 ob (mkz o.t.N ([]:(List Bool))) fun xs31=>
 ob (loop (fun (s:(List (List Bool) × Int))=>jX o begin xs31 s.1 s.2) (xs31,0)) fun r=>uN begin change_c0_ r
def aAM (o:eL):Option (List (List Bool)):=
 ob (aAx o true o) fun r21=>
 some r21
def aDb (o:eL):Option yM:=
 ob (aAj o) fun r28=>
 ob (aAM o) fun r36=>
 some ⟨r28,r36⟩
def dV (s_:(List Int)):Option (List Int):=
 ob (vH ([]:List Int) s_) fun xs11=>
 some xs11
def aCn (out19:List Int):Option (List Int):=
 ob (aBi out19) fun r26=>
 some r26
def aCo (i49:Int) (out68:List Int):Option ((List Int × Int) ⊕ (List Int)):=
 some (.inl (out68,wr (i49+1)))
def aCp (i49:Int) (out113:List Int):Option ((List Int × Int) ⊕ (List Int)):=
 aCo i49 out113
def aCq (v144:Int) (out169:List Int):Option ((List Int × Int) ⊕ (List Int)):=
 some (.inl (out169,wr (v144+1)))
def aCr (r104:(List Int)) (out141:List Int) (v144:Int):Option ((List Int × Int) ⊕ (List Int)):=
 if (decide (v144 < (r104.length:Int))) then (ob (ix r104 v144) fun e180=>
 ob (dI out141 e180) fun r188=>
 if (!r188) then (ob (vH out141 ([e180]:List Int)) fun xs197=>
 aCq v144 xs197) else (aCq v144 out141)) else (some (.inr out141))
def rB (t:cH) (out46:List Int) (i49:Int):Option ((List Int × Int) ⊕ (List Int)):=
 if (decide (i49 < (out46.length:Int))) then (ob (ix out46 i49) fun e90=>
 ob (mQ t ([e90]:List Int) ([116,97,117]:aZ)) fun r104=>
 ob (loop (fun (s:(List Int × Int))=>aCr r104 s.1 s.2) (out46,0)) fun r=>aCp i49 r) else (some (.inr out46))
def xL (t:cH) (states:(List Int)):Option (List Int):=
 ob (dV states) fun r13=>
 ob (loop (fun (s:(List Int × Int))=>rB t s.1 s.2) (r13,0)) fun r=>aCn r
def qT (w_:dM):Option aZ:=
 ob (aBD w_.states ([44]:aZ)) fun r9=>
 ob (cat r9 ([32]:aZ)) fun s13=>
 ob (vR w_.y) fun r15=>
 ob (cat s13 r15) fun s19=>
 some s19
def aKv (out4:List aZ):Option (List aZ):=
 some out4
def zX (arcs:(List lS)) (out27:List aZ) (v30:Int):Option ((List aZ × Int) ⊕ (List aZ)):=
 if (decide (v30 < (arcs.length:Int))) then (ob (ix arcs v30) fun e51=>
 ob (vH out27 ([e51.label]:List aZ)) fun xs64=>
 some (.inl (xs64,wr (v30+1)))) else (some (.inr out27))
def aGo (arcs:(List lS)):Option (List aZ):=
 ob (loop (fun (s:(List aZ × Int))=>zX arcs s.1 s.2) ([],0)) fun r=>aKv r
def aBE (x_:Int) (p:yM) (p':Int):Option Bool:=
 ob (ix p.leave x_) fun e15=>
 ob (ix e15 p') fun e23=>
 some e23
def rL:Option Int:=
 some (-1)
def eU (s_:(List Int)) (f_c0_:yM) (f_c1_:Int) (v32:Int):Option (Int ⊕ (Unit ⊕ Int)):=
 if (decide (v32 < (s_.length:Int))) then (ob (ix s_ v32) fun e50=>
 ob (aBE e50 f_c0_ f_c1_) fun r55=>
 if r55 then (some (.inr (.inr v32))) else (some (.inl (wr (v32+1))))) else (some (.inr (.inl ())))
def kZ (s_:(List Int)) (f_c0_:yM) (f_c1_:Int):Option Int:=
 ob (loop (fun (s:Int)=>eU s_ f_c0_ f_c1_ s) 0) fun r=>match r with|.inl r=>rL|.inr r=>some r
def gK (s_:(List Int)) (f_c0_:yM) (f_c1_:Int):Option Bool:=
 ob (kZ s_ f_c0_ f_c1_) fun r16=>
 some (decide (0≤r16))
def aBF (x_:Int) (p:yM) (p':Int):Option Bool:=
 ob (ix p.stay x_) fun e15=>
 ob (ix e15 p') fun e23=>
 some e23
def rM:Option Int:=
 some (-1)
def eV (s_:(List Int)) (f_c0_:yM) (f_c1_:Int) (v32:Int):Option (Int ⊕ (Unit ⊕ Int)):=
 if (decide (v32 < (s_.length:Int))) then (ob (ix s_ v32) fun e50=>
 ob (aBF e50 f_c0_ f_c1_) fun r55=>
 if r55 then (some (.inr (.inr v32))) else (some (.inl (wr (v32+1))))) else (some (.inr (.inl ())))
def lA (s_:(List Int)) (f_c0_:yM) (f_c1_:Int):Option Int:=
 ob (loop (fun (s:Int)=>eV s_ f_c0_ f_c1_ s) 0) fun r=>match r with|.inl r=>rM|.inr r=>some r
def gL (s_:(List Int)) (f_c0_:yM) (f_c1_:Int):Option Bool:=
 ob (lA s_ f_c0_ f_c1_) fun r16=>
 some (decide (0≤r16))
def vC (j:yM) (states:(List Int)) (y:Int):Option Int:=
 if (decide (y < 0)) then (some 2) else (ob (gK states j y) fun r28=>
 if (!r28) then (some 1) else (ob (gL states j y) fun r46=>
 if (!r46) then (some 2) else (some 0)))
def zY (t:cH) (states:(List Int)) (label:aZ):Option (List Int):=
 ob (mQ t states label) fun r22=>
 ob (xL t r22) fun r33=>
 some r33
def aKw (out10:List lS):Option (List lS):=
 some out10
def zZ (t:cH) (out35:List lS) (v38:Int):Option ((List lS × Int) ⊕ (List lS)):=
 if (decide (v38 < (t.E.length:Int))) then (ob (ix t.E v38) fun e61=>
 ob (ix t.L e61.B) fun e85=>
 ob (vH out35 ([⟨e61.F,e85,e61.To⟩]:List lS)) fun xs93=>
 some (.inl (xs93,wr (v38+1)))) else (some (.inr out35))
def aDY (t:cH):Option (List lS):=
 ob (loop (fun (s:(List lS × Int))=>zZ t s.1 s.2) ([],0)) fun r=>aKw r
def iA (n33:Int) (x34:List dM) (x37:(List (aZ × Int))):Option (Int × (List dM) × (List (aZ × Int))):=
 some (n33,x34,x37)
def fB (x0_:(List dM)) (x1_M:(List (aZ × Int))) (x2_:(List lS)) (s_:dM):Option (Int × (List dM) × (List (aZ × Int))):=
 ob (qT s_) fun r27=>
 if (!((mF x1_M r27).isSome)) then (ob (some (aEz x1_M r27 (x0_.length:Int))) fun m43=>
 ob (vH x0_ ([s_]:List dM)) fun xs64=>
 iA (x0_.length:Int) xs64 m43) else (iA ((mF x1_M r27).getD 0) x0_ x1_M)
def oN (p17:List dM) (p20:(List (aZ × Int))) (p21:List lS):Option ((List dM) × (List (aZ × Int)) × (List lS)):=
 some (p17,p20,p21)
def rC (label:aZ) (next:dM) (p0_:(List dM)) (p1_M:(List (aZ × Int))) (p2_:(List lS)) (p:Int):Option ((List dM) × (List (aZ × Int)) × (List lS)):=
 ob (fB p0_ p1_M p2_ next) fun r41=>
 ob (vH p2_ ([⟨p,label,r41.1⟩]:List lS)) fun xs50=>
 oN r41.2.1 r41.2.2 xs50
def aCF (to_c056:List dM) (to_c059:(List (aZ × Int))) (to_c060:List lS):Option (Bool × (List dM) × (List (aZ × Int)) × (List lS)):=
 some (true,to_c056,to_c059,to_c060)
def nK (v101:Int) (to_c0134:List dM) (to_c0137:(List (aZ × Int))) (to_c0138:List lS):Option ((List dM × (List (aZ × Int)) × List lS × Int) ⊕ (List dM × (List (aZ × Int)) × List lS)):=
 some (.inl (to_c0134,to_c0137,to_c0138,wr (v101+1)))
def jY (w_:dM) (to_c1_:Int) (p:yM) (p':eL) (r48:List aZ) (to_c094:List dM) (to_c097:(List (aZ × Int))) (to_c098:List lS) (v101:Int):Option ((List dM × (List (aZ × Int)) × List lS × Int) ⊕ (List dM × (List (aZ × Int)) × List lS)):=
 if (decide (v101 < (r48.length:Int))) then (ob (ix r48 v101) fun e149=>
 ob (zY p'.t w_.states e149) fun r154=>
 if (decide (0 < (r154.length:Int))) then (ob (sA p'.p w_.y e149) fun r161=>
 ob (rC e149 ⟨r154,r161⟩ to_c094 to_c097 to_c098 to_c1_) fun r171=>
 nK v101 r171.1 r171.2.1 r171.2.2) else (nK v101 to_c094 to_c097 to_c098)) else (some (.inr (to_c094,to_c097,to_c098)))
def qU (w_:dM) (to_c00_:(List dM)) (to_c01_M:(List (aZ × Int))) (to_c02_:(List lS)) (to_c1_:Int) (p:yM) (p':eL):Option (Bool × (List dM) × (List (aZ × Int)) × (List lS)):=
 ob (vC p w_.states w_.y) fun r41=>
 if (r41 != 0) then (some (true,to_c00_,to_c01_M,to_c02_)) else (ob (slc p'.t.L 1 (p'.t.L.length:Int)) fun r48=>
 ob (loop (fun (s:(List dM × (List (aZ × Int)) × List lS × Int))=>jY w_ to_c1_ p p' r48 s.1 s.2.1 s.2.2.1 s.2.2.2) (to_c00_,to_c01_M,to_c02_,0)) fun r=>aCF r.1 r.2.1 r.2.2)
def rD (x61:List dM) (t73:Int) (t74:Int) (t75:List aZ) (t78:List Edge):Option (cH × (List dM) × Bool):=
 ob (nI ⟨t73,t74,t75,t78⟩) fun r115=>
 some (⟨t73,t74,t75,t78⟩,x61,r115)
def rE (x61:List dM) (x64:(List (aZ × Int))) (x65:List lS):Option (cH × (List dM) × Bool):=
 ob (aGo x65) fun r145=>
 ob (aGS (x61.length:Int) 0 r145 x65) fun r162=>
 rD x61 r162.N r162.I r162.L r162.E
def lH (i278:Int) (r328:(Bool × (List dM) × (List (aZ × Int)) × (List lS))) (v338:Bool):Option ((List dM × (List (aZ × Int)) × List lS × Int) ⊕ ((List dM × (List (aZ × Int)) × List lS) ⊕ (cH × (List dM) × Bool))):=
 if v338 then (some (.inr (.inr (⟨0,0,[],[]⟩,[],false)))) else (some (.inl (r328.2.1,r328.2.2.1,r328.2.2.2,wr (i278+1))))
def iP (moves_c0_:yM) (moves_c1_:eL) (x270:List dM) (x273:(List (aZ × Int))) (x274:List lS) (i278:Int):Option ((List dM × (List (aZ × Int)) × List lS × Int) ⊕ ((List dM × (List (aZ × Int)) × List lS) ⊕ (cH × (List dM) × Bool))):=
 if (decide (i278 < (x270.length:Int))) then (ob (ix x270 i278) fun e317=>
 ob (qU e317 x270 x273 x274 i278 moves_c0_ moves_c1_) fun r328=>
 if (!r328.1) then (lH i278 r328 true) else (lH i278 r328 (decide (40 < (r328.2.1.length:Int))))) else (some (.inr (.inl (x270,x273,x274))))
def nL (first:dM) (moves_c0_:yM) (moves_c1_:eL):Option (cH × (List dM) × Bool):=
 ob (fB [] ([]:(List (aZ × Int))) [] first) fun r48=>
 ob (loop (fun (s:(List dM × (List (aZ × Int)) × List lS × Int))=>iP moves_c0_ moves_c1_ s.1 s.2.1 s.2.2.1 s.2.2.2) (r48.2.1,r48.2.2,[],0)) fun r=>match r with|.inl r=>rE r.1 r.2.1 r.2.2|.inr r=>some r
def yR (m91:Int) (m92:Int) (m93:List aZ) (m96:List Edge) (m105:List Int):Option (eZ × Bool):=
 some (⟨⟨m91,m92,m93,m96⟩,m105⟩,true)
def mA (r19:yM) (r66:(cH × (List dM) × Bool)) (m135:List Int) (v138:Int):Option ((List Int × Int) ⊕ (List Int)):=
 if (decide (v138 < (r66.2.1.length:Int))) then (ob (ix r66.2.1 v138) fun e163=>
 ob (vC r19 e163.states e163.y) fun r191=>
 ob (vH m135 ([r191]:List Int)) fun xs198=>
 some (.inl (xs198,wr (v138+1)))) else (some (.inr m135))
def yS (r19:yM) (r66:(cH × (List dM) × Bool)) (m91:Int) (m92:Int) (m93:List aZ) (m96:List Edge):Option (eZ × Bool):=
 ob (loop (fun (s:(List Int × Int))=>mA r19 r66 s.1 s.2) ([],0)) fun r=>yR m91 m92 m93 m96 r
def yT (o:eL) (r19:yM) (first37:List Int):Option (eZ × Bool):=
 ob (nL ⟨first37,o.p.I⟩ r19 o) fun r66=>
 if (!r66.2.2) then (some (⟨⟨0,0,[],[]⟩,[]⟩,false)) else (ob (aDY r66.1) fun r230=>
 ob (aGS r66.1.N 0 o.t.L r230) fun r243=>
 yS r19 r66 r243.N r243.I r243.L r243.E)
def vM (o:eL):Option (eZ × Bool):=
 ob (aDb o) fun r19=>
 ob (xL o.t ([o.t.I]:List Int)) fun r332=>
 yT o r19 r332
def aFU (t:cH) (p:cH):Option (eZ × Int):=
 ob (aET t p) fun r22=>
 if (r22 != 0) then (some (⟨⟨0,0,[],[]⟩,[]⟩,r22)) else (ob (vM ⟨t,p⟩) fun r33=>
 if (!r33.2) then (some (⟨⟨0,0,[],[]⟩,[]⟩,5)) else (some (r33.1,0)))
def aCs (p:cH) (labels:(List aZ)) (arcs49:List lS):Option (eZ × Int):=
 ob (aGS 1 0 labels arcs49) fun r63=>
 ob (nI r63) fun r87=>
 if (!r87) then (some (⟨⟨0,0,[],[]⟩,[]⟩,5)) else (ob (aFU r63 p) fun r110=>
 some (r110.1,r110.2))
def rF (labels:(List aZ)) (arcs147:List lS) (v150:Int):Option ((List lS × Int) ⊕ (List lS)):=
 if (decide (v150 < (labels.length:Int))) then (ob (ix labels v150) fun e177=>
 ob (vH arcs147 ([⟨0,e177,0⟩]:List lS)) fun xs185=>
 some (.inl (xs185,wr (v150+1)))) else (some (.inr arcs147))
def xM (p:cH) (labels:(List aZ)):Option (eZ × Int):=
 ob (nI p) fun r16=>
 if (!r16) then (some (⟨⟨0,0,[],[]⟩,[]⟩,1)) else (ob (fQ p) fun r27=>
 if (!r27) then (some (⟨⟨0,0,[],[]⟩,[]⟩,6)) else (ob (aLR labels) fun r38=>
 if (!r38) then (some (⟨⟨0,0,[],[]⟩,[]⟩,2)) else (ob (loop (fun (s:(List lS × Int))=>rF labels s.1 s.2) ([],0)) fun r=>aCs p labels r)))
def xN:Option Bool:=
 some true
def oO (a:(List aZ)) (b:(List aZ)) (i23:Int):Option (Int ⊕ (Unit ⊕ Bool)):=
 if (decide (i23 < (a.length:Int))) then (ob (ix a i23) fun e41=>
 ob (ix b i23) fun e46=>
 if (!(e41 == e46)) then (some (.inr (.inr false))) else (some (.inl (wr (i23+1))))) else (some (.inr (.inl ())))
def sD (a:(List aZ)) (b:(List aZ)):Option Bool:=
 if ((a.length:Int) != (b.length:Int)) then (some false) else (ob (loop (fun (s:Int)=>oO a b s) 0) fun r=>match r with|.inl r=>xN|.inr r=>some r)
def aEZ (a:Edge) (b:Edge):Option Bool:=
 if (a.F != b.F) then (some false) else (if (a.B != b.B) then (some false) else (if (a.To != b.To) then (some false) else (some true)))
def aBc:Option Bool:=
 some true
def tD (a:(List Edge)) (b:(List Edge)) (i23:Int):Option (Int ⊕ (Unit ⊕ Bool)):=
 if (decide (i23 < (a.length:Int))) then (ob (ix a i23) fun e41=>
 ob (ix b i23) fun e46=>
 ob (aEZ e41 e46) fun r51=>
 if (!r51) then (some (.inr (.inr false))) else (some (.inl (wr (i23+1))))) else (some (.inr (.inl ())))
def aDc (a:(List Edge)) (b:(List Edge)):Option Bool:=
 if ((a.length:Int) != (b.length:Int)) then (some false) else (ob (loop (fun (s:Int)=>tD a b s) 0) fun r=>match r with|.inl r=>aBc|.inr r=>some r)
def aCt (a:cH) (b:cH):Option Bool:=
 if (a.N != b.N) then (some false) else (if (a.I != b.I) then (some false) else (ob (sD a.L b.L) fun r23=>
 if (!r23) then (some false) else (ob (aDc a.E b.E) fun r29=>
 if (!r29) then (some false) else (some true))))
def aAa:Option Bool:=
 some true
def qG (a:(List Int)) (b:(List Int)) (i23:Int):Option (Int ⊕ (Unit ⊕ Bool)):=
 if (decide (i23 < (a.length:Int))) then (ob (ix a i23) fun e41=>
 ob (ix b i23) fun e46=>
 if (e41 != e46) then (some (.inr (.inr false))) else (some (.inl (wr (i23+1))))) else (some (.inr (.inl ())))
def vN (a:(List Int)) (b:(List Int)):Option Bool:=
 if ((a.length:Int) != (b.length:Int)) then (some false) else (ob (loop (fun (s:Int)=>qG a b s) 0) fun r=>match r with|.inl r=>aAa|.inr r=>some r)
def aAy (a:eZ) (b:eZ):Option Bool:=
 ob (aCt a.S b.S) fun r25=>
 if (!r25) then (some false) else (ob (vN a.Verdicts b.Verdicts) fun r31=>
 if (!r31) then (some false) else (some true))
def uO (out3:aZ):Option aZ:=
 ob (cat ([109]:aZ) out3) fun s7=>
 some s7
def uP (k20:Int) (out21:aZ):Option ((Int × aZ) ⊕ aZ):=
 if (decide (0 < k20)) then (ob (rm k20 10) fun n36=>
 ob (cat ([(UInt8.ofInt (wr (48+n36)))]:List UInt8) out21) fun s41=>
 ob (qu k20 10) fun n43=>
 some (.inl (n43,s41))) else (some (.inr out21))
def sE (k:Int):Option aZ:=
 if (decide (k≤0)) then (some ([109,48]:aZ)) else (ob (loop (fun (s:(Int × aZ))=>uP s.1 s.2) (k,([]:aZ))) fun r=>uO r)
def oP (k3:Int) (a4:List aZ):Option (Int × (List aZ)):=
 some (k3,a4)
def oQ (a24:List aZ) (k26:Int) (i27:Int):Option ((List aZ × Int × Int) ⊕ (Int × List aZ)):=
 if (decide (i27 < (a24.length:Int))) then (ob (sE k26) fun r46=>
 ob (ix a24 i27) fun e50=>
 ob (st a24 i27 (r46:aZ)) fun a55=>
 some (.inl (a55,wr (k26+1),wr (i27+1)))) else (some (.inr (k26,a24)))
def nM (a:(List aZ)) (k:Int):Option (Int × (List aZ)):=
 ob (loop (fun (s:(List aZ × Int × Int))=>oQ s.1 s.2.1 s.2.2) (a,k,0)) fun r=>oP r.1 r.2
def sF (k3:Int) (a4:List Edge):Option (Int × (List Edge)):=
 some (k3,a4)
def sG (a24:List Edge) (k26:Int) (i27:Int):Option ((List Edge × Int × Int) ⊕ (Int × List Edge)):=
 if (decide (i27 < (a24.length:Int))) then (ob (ix a24 i27) fun e46=>
 ob (st a24 i27 (⟨k26,e46.B,e46.To⟩:Edge)) fun a51=>
 ob (ix a51 i27) fun e53=>
 ob (st a51 i27 (⟨e53.F,wr (k26+1),e53.To⟩:Edge)) fun a57=>
 ob (ix a57 i27) fun e59=>
 ob (st a57 i27 (⟨e59.F,e59.B,wr ((wr (k26+1))+1)⟩:Edge)) fun a63=>
 some (.inl (a63,wr ((wr ((wr (k26+1))+1))+1),wr (i27+1)))) else (some (.inr (k26,a24)))
def aAz (a:(List Edge)) (k:Int):Option (Int × (List Edge)):=
 ob (loop (fun (s:(List Edge × Int × Int))=>sG s.1 s.2.1 s.2.2) (a,k,0)) fun r=>sF r.1 r.2
def qH (a_States:Int) (a_Initial:Int) (a_Labels:(List aZ)) (a_Edges:(List Edge)) (k:Int):Option (Int × (List aZ) × (List Edge)):=
 ob (nM a_Labels k) fun r9=>
 ob (aAz a_Edges r9.1) fun r16=>
 some (r16.1,r9.2,r16.2)
def pU (k3:Int) (a4:List Int):Option (Int × (List Int)):=
 some (k3,a4)
def pV (a24:List Int) (k26:Int) (i27:Int):Option ((List Int × Int × Int) ⊕ (Int × List Int)):=
 if (decide (i27 < (a24.length:Int))) then (ob (ix a24 i27) fun e46=>
 ob (st a24 i27 (k26:Int)) fun a51=>
 some (.inl (a51,wr (k26+1),wr (i27+1)))) else (some (.inr (k26,a24)))
def pG (a:(List Int)) (k:Int):Option (Int × (List Int)):=
 ob (loop (fun (s:(List Int × Int × Int))=>pV s.1 s.2.1 s.2.2) (a,k,0)) fun r=>pU r.1 r.2
def aCG (a_System_States:Int) (a_System_Initial:Int) (a_System_Labels:(List aZ)) (a_System_Edges:(List Edge)) (a_Verdicts:(List Int)) (k:Int):Option (Int × (List aZ) × (List Edge) × (List Int)):=
 ob (qH a_System_States a_System_Initial a_System_Labels a_System_Edges k) fun r11=>
 ob (pG a_Verdicts r11.1) fun r20=>
 some (r20.1,r11.2.1,r11.2.2,r20.2)
def tE (k4:Int):Option Int:=
 some k4
def lQ (a:(List aZ)) (k21:Int) (i22:Int):Option ((Int × Int) ⊕ (Int ⊕ Int)):=
 if (decide (i22 < (a.length:Int))) then (ob (ix a i22) fun e41=>
 ob (sE k21) fun r46=>
 if (!(e41 == r46)) then (some (.inr (.inr (-1)))) else (some (.inl (wr (k21+1),wr (i22+1))))) else (some (.inr (.inl k21)))
def qI (a:(List aZ)) (k:Int):Option Int:=
 ob (loop (fun (s:(Int × Int))=>lQ a s.1 s.2) (k,0)) fun r=>match r with|.inl r=>tE r|.inr r=>some r
def xO (k4:Int):Option Int:=
 some k4
def oR (a:(List Edge)) (k21:Int) (i22:Int):Option ((Int × Int) ⊕ (Int ⊕ Int)):=
 if (decide (i22 < (a.length:Int))) then (ob (ix a i22) fun e39=>
 if (e39.F != k21) then (some (.inr (.inr (-1)))) else (if (e39.B != (wr (k21+1))) then (some (.inr (.inr (-1)))) else (if (e39.To != (wr ((wr (k21+1))+1))) then (some (.inr (.inr (-1)))) else (some (.inl (wr ((wr ((wr (k21+1))+1))+1),wr (i22+1))))))) else (some (.inr (.inl k21)))
def aAA (a:(List Edge)) (k:Int):Option Int:=
 ob (loop (fun (s:(Int × Int))=>oR a s.1 s.2) (k,0)) fun r=>match r with|.inl r=>xO r|.inr r=>some r
def aBm (a:cH) (k:Int):Option Int:=
 ob (qI a.L k) fun r10=>
 if (decide (r10 < 0)) then (some (-1)) else (ob (aAA a.E r10) fun r16=>
 if (decide (r16 < 0)) then (some (-1)) else (some r16))
def vD (k4:Int):Option Int:=
 some k4
def mH (a:(List Int)) (k21:Int) (i22:Int):Option ((Int × Int) ⊕ (Int ⊕ Int)):=
 if (decide (i22 < (a.length:Int))) then (ob (ix a i22) fun e39=>
 if (e39 != k21) then (some (.inr (.inr (-1)))) else (some (.inl (wr (k21+1),wr (i22+1))))) else (some (.inr (.inl k21)))
def pH (a:(List Int)) (k:Int):Option Int:=
 ob (loop (fun (s:(Int × Int))=>mH a s.1 s.2) (k,0)) fun r=>match r with|.inl r=>vD r|.inr r=>some r
def aAb (a:eZ) (k:Int):Option Int:=
 ob (aBm a.S k) fun r13=>
 if (decide (r13 < 0)) then (some (-1)) else (ob (pH a.Verdicts r13) fun r19=>
 if (decide (r19 < 0)) then (some (-1)) else (some r19))
def nN (r106:(eZ × Int)) (r243:(Int × (List aZ) × (List Edge) × (List Int))) (v326:Bool):Option Bool:=
 if v326 then (some false) else (ob (aAb ⟨⟨r106.1.S.N,r106.1.S.I,r243.2.1,r243.2.2.1⟩,r243.2.2.2⟩ 1) fun r349=>
 if (decide (r349 < 0)) then (some false) else (if (r349 != r243.1) then (some false) else (some true)))
def jZ (aP:cH) (aLabels:(List aZ)) (r54:(eZ × Int)) (r106:(eZ × Int)) (v231:Bool):Option Bool:=
 if v231 then (some false) else (ob (aCG r106.1.S.N r106.1.S.I r106.1.S.L r106.1.S.E r106.1.Verdicts 1) fun r243=>
 ob (aAb ⟨⟨r106.1.S.N,r106.1.S.I,r243.2.1,r243.2.2.1⟩,r243.2.2.2⟩ 1) fun r268=>
 if (decide (r268 < 0)) then (some false) else (if (r268 != r243.1) then (some false) else (ob (sY aP) fun r279=>
 ob (kG aLabels) fun r287=>
 ob (xM r279 r287) fun r308=>
 ob (aAy r308.1 r54.1) fun r391=>
 if (!r391) then (nN r106 r243 true) else (nN r106 r243 (r308.2 != r54.2)))))
def nO (aP:cH) (aLabels:(List aZ)) (r54:(eZ × Int)) (r72:cH) (r85:(List aZ)) (r106:(eZ × Int)) (v124:Bool):Option Bool:=
 if v124 then (some false) else (ob (sY aP) fun r152=>
 ob (aCt r72 r152) fun r180=>
 if (!r180) then (some false) else (ob (kG aLabels) fun r192=>
 ob (sD r85 r192) fun r208=>
 if (!r208) then (some false) else (ob (qH r72.N r72.I r72.L r72.E 1) fun r217=>
 ob (nM r85 r217.1) fun r226=>
 if (decide (r226.1 < 0)) then (jZ aP aLabels r54 r106 true) else (ob (aAy r106.1 r54.1) fun r434=>
 if (!r434) then (jZ aP aLabels r54 r106 true) else (jZ aP aLabels r54 r106 (r106.2 != r54.2))))))
def yU (aP:cH) (aLabels:(List aZ)):Option Bool:=
 ob (aDG aP 1048576) fun r13=>
 if (decide (r13 < 0)) then (some true) else (ob (rQ aLabels r13) fun r19=>
 if (decide (r19 < 0)) then (some true) else (ob (sY aP) fun r25=>
 ob (kG aLabels) fun r33=>
 ob (aBC r25 r33) fun r54=>
 ob (sY aP) fun r72=>
 ob (kG aLabels) fun r85=>
 ob (xM r72 r85) fun r106=>
 ob (aAy r106.1 r54.1) fun r475=>
 if (!r475) then (nO aP aLabels r54 r72 r85 r106 true) else (nO aP aLabels r54 r72 r85 r106 (r106.2 != r54.2))))
def aBG (a:(List Int)) (left:Int):Option Int:=
 if (decide (wr (left - (a.length:Int)) < 0)) then (some (-1)) else (some (wr (left - (a.length:Int))))
def aDd (a:cI) (left:Int):Option Int:=
 ob (aDG a.S left) fun r16=>
 if (decide (r16 < 0)) then (some (-1)) else (ob (aBG a.M r16) fun r22=>
 if (decide (r22 < 0)) then (some (-1)) else (ob (rQ a.C r22) fun r28=>
 if (decide (r28 < 0)) then (some (-1)) else (some r28)))
def xP (v10:Bool):Option Bool:=
 some v10
def aBn (t:cH):Option Bool:=
 ob (aDJ t) fun r15=>
 if r15 then (ob (vU t) fun r20=>
 xP r20) else (xP false)
def aAc:Option Bool:=
 some true
def qJ (i20:Int) (v38:Bool):Option (Int ⊕ (Unit ⊕ Bool)):=
 if v38 then (some (.inr (.inr false))) else (some (.inl (wr (i20+1))))
def qK (list:(List Int)) (low:Int) (high:Int) (i20:Int):Option (Int ⊕ (Unit ⊕ Bool)):=
 if (decide (i20 < (list.length:Int))) then (ob (ix list i20) fun e51=>
 ob (wX e51 low high) fun r56=>
 if (!r56) then (qJ i20 true) else (if (decide (0 < i20)) then (ob (ix list (wr (i20 - 1))) fun e64=>
 qJ i20 (decide (e51≤e64))) else (qJ i20 false))) else (some (.inr (.inl ())))
def aBH (list:(List Int)) (low:Int) (high:Int):Option Bool:=
 ob (loop (fun (s:Int)=>qK list low high s) 0) fun r=>match r with|.inl r=>aAc|.inr r=>some r
def vE:Option Bool:=
 some true
def mJ (list:(List aZ)) (i16:Int):Option (Int ⊕ (Unit ⊕ Bool)):=
 if (decide (i16 < (list.length:Int))) then (ob (ix list i16) fun e30=>
 ob (vS e30) fun r35=>
 if (!r35) then (some (.inr (.inr false))) else (some (.inl (wr (i16+1))))) else (some (.inr (.inl ())))
def xR (list:(List aZ)):Option Bool:=
 ob (loop (fun (s:Int)=>mJ list s) 0) fun r=>match r with|.inl r=>vE|.inr r=>some r
def aAd:Option Bool:=
 some true
def nP (list:(List aZ)) (i23:Int):Option (Int ⊕ (Unit ⊕ Bool)):=
 if (decide (i23 < (list.length:Int))) then (ob (ix list (wr (i23 - 1))) fun e39=>
 ob (ix list i23) fun e44=>
 if (!qW e39 e44) then (some (.inr (.inr false))) else (some (.inl (wr (i23+1))))) else (some (.inr (.inl ())))
def uQ (list:(List aZ)) (v4:Bool):Option Bool:=
 if v4 then (some false) else (ob (loop (fun (s:Int)=>nP list s) 1) fun r=>match r with|.inl r=>aAd|.inr r=>some r)
def aBI (list:(List aZ)):Option Bool:=
 if (decide (12 < (list.length:Int))) then (uQ list true) else (ob (xR list) fun r58=>
 uQ list (!r58))
def aAF (v16:Bool):Option Bool:=
 some v16
def aGT (p:cI):Option Bool:=
 ob (aBn p.S) fun r23=>
 if r23 then (ob (aBH p.M 0 (wr (p.S.N - 1))) fun r28=>
 if r28 then (ob (aBI p.C) fun r33=>
 aAF r33) else (aAF false)) else (aAF false)
def aBd:Option Int:=
 some (-1)
def tF (list:(List aZ)) (s_:aZ) (i18:Int):Option (Int ⊕ (Unit ⊕ Int)):=
 if (decide (i18 < (list.length:Int))) then (ob (ix list i18) fun e34=>
 if (e34 == s_) then (some (.inr (.inr i18))) else (some (.inl (wr (i18+1))))) else (some (.inr (.inl ())))
def wC (list:(List aZ)) (s_:aZ):Option Int:=
 ob (loop (fun (s:Int)=>tF list s_ s) 0) fun r=>match r with|.inl r=>aBd|.inr r=>some r
def xS (out13:List Int):Option (List Int):=
 some out13
def xT (i41:Int) (out64:List Int):Option ((List Int × Int) ⊕ (List Int)):=
 some (.inl (out64,wr (i41+1)))
def xU (t:cH) (out38:List Int) (i41:Int) (v74:Bool):Option ((List Int × Int) ⊕ (List Int)):=
 if v74 then (ob (ix t.E i41) fun e84=>
 ob (vH out38 ([e84.To]:List Int)) fun xs92=>
 xT i41 xs92) else (xT i41 out38)
def tG (t:cH) (k:Int) (label:Int) (out38:List Int) (i41:Int):Option ((List Int × Int) ⊕ (List Int)):=
 if (decide (i41 < (t.E.length:Int))) then (ob (ix t.E i41) fun e98=>
 if (e98.F == k) then (xU t out38 i41 (e98.B == label)) else (xU t out38 i41 false)) else (some (.inr out38))
def aDe (t:cH) (k:Int) (label:Int):Option (List Int):=
 ob (loop (fun (s:(List Int × Int))=>tG t k label s.1 s.2) (([]:List Int),0)) fun r=>xS r
def aGU (d:cH) (k:Int) (label:aZ):Option (Int × Bool):=
 ob (wC d.L label) fun r10=>
 if (decide (r10 < 0)) then (some (k,true)) else (ob (aDe d k r10) fun r16=>
 if ((r16.length:Int) == 0) then (some (0,false)) else (ob (ix r16 0) fun e24=>
 some (e24,true)))
def aCu:Option Int:=
 some (-1)
def wD (rows:(List (List Int))) (row:(List Int)) (i21:Int):Option (Int ⊕ (Unit ⊕ Int)):=
 if (decide (i21 < (rows.length:Int))) then (ob (ix rows i21) fun e37=>
 ob (vW e37 row) fun r45=>
 if r45 then (some (.inr (.inr i21))) else (some (.inl (wr (i21+1))))) else (some (.inr (.inl ())))
def xV (rows:(List (List Int))) (row:(List Int)):Option Int:=
 ob (loop (fun (s:Int)=>wD rows row s) 0) fun r=>match r with|.inl r=>aCu|.inr r=>some r
def uR (out44:List (List Int)) (out47:List Edge) (out53:Bool):Option ((List (List Int)) × (List Edge) × Bool):=
 some (out44,out47,out53)
def uS (out44:List (List Int)) (out47:List Edge):Option ((List (List Int)) × (List Edge) × Bool):=
 if (decide (40 < (out44.length:Int))) then (uR out44 out47 true) else (uR out44 out47 (decide (300 < (out47.length:Int))))
def aCH (at92:Int) (out120:List (List Int)) (out123:List Edge):Option ((List (List Int) × List Edge × Int) ⊕ (List (List Int) × List Edge)):=
 some (.inl (out120,out123,wr (at92+1)))
def aAe (at92:Int) (out170:List (List Int)) (out173:List Edge):Option ((List (List Int) × List Edge × Int) ⊕ (List (List Int) × List Edge)):=
 aCH at92 out170 out173
def nR (i215:Int) (out247:List (List Int)) (out250:List Edge):Option ((List (List Int) × List Edge × Int) ⊕ (List (List Int) × List Edge)):=
 some (.inl (out247,out250,wr (i215+1)))
def uT (at92:Int) (out212:List Edge) (i215:Int) (e282:Edge) (out319:List (List Int)) (to322:Int):Option ((List (List Int) × List Edge × Int) ⊕ (List (List Int) × List Edge)):=
 ob (vH out212 ([⟨at92,e282.B,to322⟩]:List Edge)) fun xs352=>
 nR i215 out319 xs352
def nS (p:cI) (d:cH) (at92:Int) (r160:(List Edge)) (out209:List (List Int)) (out212:List Edge) (i215:Int):Option ((List (List Int) × List Edge × Int) ⊕ (List (List Int) × List Edge)):=
 if (decide (i215 < (r160.length:Int))) then (ob (ix out209 at92) fun e268=>
 ob (ix e268 1) fun e277=>
 ob (ix r160 i215) fun e282=>
 ob (ix p.S.L e282.B) fun e285=>
 ob (aGU d e277 e285) fun r290=>
 if (!r290.2) then (nR i215 out209 out212) else (ob (xV out209 ([e282.To,r290.1]:List Int)) fun r311=>
 if (decide (r311 < 0)) then (ob (vH out209 ([([e282.To,r290.1]:List Int)]:List (List Int))) fun xs370=>
 uT at92 out212 i215 e282 xs370 (out209.length:Int)) else (uT at92 out212 i215 e282 out209 r311))) else (some (.inr (out209,out212)))
def qL (p:cI) (d:cH) (out86:List (List Int)) (out89:List Edge) (at92:Int):Option ((List (List Int) × List Edge × Int) ⊕ (List (List Int) × List Edge)):=
 if (decide (at92 < (out86.length:Int))) then (ob (ix out86 at92) fun e146=>
 ob (ix e146 0) fun e155=>
 ob (aCT p.S e155) fun r160=>
 ob (loop (fun (s:(List (List Int) × List Edge × Int))=>nS p d at92 r160 s.1 s.2.1 s.2.2) (out86,out89,0)) fun r=>aAe at92 r.1 r.2) else (some (.inr (out86,out89)))
def aBJ (p:cI) (d:cH):Option ((List (List Int)) × (List Edge) × Bool):=
 ob (loop (fun (s:(List (List Int) × List Edge × Int))=>qL p d s.1 s.2.1 s.2.2) (([([p.S.I,d.I]:List Int)]:List (List Int)),[],0)) fun r=>uS r.1 r.2
def pW (a:(List Int)) (b:(List Int)):Option Int:=
 if (decide ((a.length:Int) < (b.length:Int))) then (some (-1)) else (if (decide ((b.length:Int) < (a.length:Int))) then (some 1) else (some 0))
def mK (a:(List Int)) (b:(List Int)) (i27:Int) (v42:Bool):Option (Int ⊕ (Unit ⊕ Int)):=
 if v42 then (ob (ix a i27) fun e52=>
 ob (ix b i27) fun e57=>
 if (decide (e52 < e57)) then (some (.inr (.inr (-1)))) else (if (decide (e57 < e52)) then (some (.inr (.inr 1))) else (some (.inl (wr (i27+1)))))) else (some (.inr (.inl ())))
def jL (a:(List Int)) (b:(List Int)) (i27:Int):Option (Int ⊕ (Unit ⊕ Int)):=
 if (decide (i27 < (a.length:Int))) then (mK a b i27 (decide (i27 < (b.length:Int)))) else (mK a b i27 false)
def xW (a:(List Int)) (b:(List Int)):Option Int:=
 ob (loop (fun (s:Int)=>jL a b s) 0) fun r=>match r with|.inl r=>pW a b|.inr r=>some r
def sH (out19:List (List Int)):Option (List (List Int)):=
 some out19
def sI (row:(List Int)) (out10:List (List Int)) (done13:Bool):Option (List (List Int)):=
 if (!done13) then (ob (vH out10 ([row]:List (List Int))) fun xs30=>
 sH xs30) else (sH out10)
def iY (i59:Int) (e83:(List Int)) (out95:List (List Int)) (done98:Bool):Option ((List (List Int) × Bool × Int) ⊕ (List (List Int) × Bool)):=
 ob (vH out95 ([e83]:List (List Int))) fun xs109=>
 some (.inl (xs109,done98,wr (i59+1)))
def oS (row:(List Int)) (out55:List (List Int)) (done58:Bool) (i59:Int) (e83:(List Int)) (r91:Int) (v115:Bool):Option ((List (List Int) × Bool × Int) ⊕ (List (List Int) × Bool)):=
 if v115 then (if (decide (0 < r91)) then (ob (vH out55 ([row]:List (List Int))) fun xs130=>
 iY i59 e83 xs130 true) else (iY i59 e83 out55 true)) else (iY i59 e83 out55 done58)
def oT (rows:(List (List Int))) (row:(List Int)) (out55:List (List Int)) (done58:Bool) (i59:Int):Option ((List (List Int) × Bool × Int) ⊕ (List (List Int) × Bool)):=
 if (decide (i59 < (rows.length:Int))) then (ob (ix rows i59) fun e83=>
 ob (xW e83 row) fun r91=>
 if (!done58) then (oS row out55 done58 i59 e83 r91 (decide (0≤r91))) else (oS row out55 done58 i59 e83 r91 false)) else (some (.inr (out55,done58)))
def aAB (rows:(List (List Int))) (row:(List Int)):Option (List (List Int)):=
 ob (loop (fun (s:(List (List Int) × Bool × Int))=>oT rows row s.1 s.2.1 s.2.2) (([]:List (List Int)),false,0)) fun r=>sI row r.1 r.2
def aBe (out7:List aZ):Option (List aZ):=
 some out7
def tH (i31:Int) (out50:List aZ):Option ((List aZ × Int) ⊕ (List aZ)):=
 some (.inl (out50,wr (i31+1)))
def xX (i31:Int) (e58:aZ) (at74:Int) (out90:List aZ):Option ((List aZ × Int) ⊕ (List aZ)):=
 ob (ix out90 at74) fun e97=>
 ob (st out90 at74 (e58:aZ)) fun out102=>
 tH i31 out102
def xY (at74:Int) (out120:List aZ) (k121:Int):Option ((List aZ × Int) ⊕ (List aZ)):=
 if (decide (at74 < k121)) then (ob (ix out120 (wr (k121 - 1))) fun e142=>
 ob (ix out120 k121) fun e145=>
 ob (st out120 k121 (e142:aZ)) fun out149=>
 some (.inl (out149,wr (k121 - 1)))) else (some (.inr out120))
def xZ (out28:List aZ) (i31:Int) (e58:aZ) (at74:Int):Option ((List aZ × Int) ⊕ (List aZ)):=
 ob (vH out28 ([([]:aZ)]:List aZ)) fun xs84=>
 ob (loop (fun (s:(List aZ × Int))=>xY at74 s.1 s.2) (xs84,wr ((xs84.length:Int) - 1))) fun r=>xX i31 e58 at74 r
def yA (at167:Int) (v184:Bool):Option (Int ⊕ Int):=
 if v184 then (some (.inl (wr (at167+1)))) else (some (.inr at167))
def pI (out28:List aZ) (e58:aZ) (at167:Int):Option (Int ⊕ Int):=
 if (decide (at167 < (out28.length:Int))) then (ob (ix out28 at167) fun e197=>
 yA at167 (qW e197 e58)) else (yA at167 false)
def mX (list:(List aZ)) (out28:List aZ) (i31:Int):Option ((List aZ × Int) ⊕ (List aZ)):=
 if (decide (i31 < (list.length:Int))) then (ob (ix list i31) fun e58=>
 ob (wC out28 e58) fun r68=>
 if (decide (0≤r68)) then (tH i31 out28) else (ob (loop (fun (s:Int)=>pI out28 e58 s) 1) fun r=>xZ out28 i31 e58 r)) else (some (.inr out28))
def aDf (list:(List aZ)):Option (List aZ):=
 ob (loop (fun (s:(List aZ × Int))=>mX list s.1 s.2) (([([116,97,117]:aZ)]:List aZ),0)) fun r=>aBe r
def aAC (e:Edge) (at6:Int) (list30:List Edge):Option (List Edge):=
 ob (ix list30 at6) fun e36=>
 ob (st list30 at6 (⟨e.F,e.B,e.To⟩:Edge)) fun list41=>
 some list41
def wE (at6:Int) (list58:List Edge) (k59:Int):Option ((List Edge × Int) ⊕ (List Edge)):=
 if (decide (at6 < k59)) then (ob (ix list58 (wr (k59 - 1))) fun e78=>
 ob (ix list58 k59) fun e81=>
 ob (st list58 k59 (⟨e78.F,e78.B,e78.To⟩:Edge)) fun list85=>
 some (.inl (list85,wr (k59 - 1)))) else (some (.inr list58))
def wF (list:(List Edge)) (e:Edge) (at6:Int) (v12:Bool):Option (List Edge):=
 if v12 then (some list) else (ob (vH list ([⟨0,0,0⟩]:List Edge)) fun xs24=>
 ob (loop (fun (s:(List Edge × Int))=>wE at6 s.1 s.2) (xs24,wr ((xs24.length:Int) - 1))) fun r=>aAC e at6 r)
def aAD (list:(List Edge)) (e:Edge) (at6:Int):Option (List Edge):=
 if (decide (0 < at6)) then (ob (ix list (wr (at6 - 1))) fun e93=>
 wF list e at6 (decide ((e93:Edge)=e))) else (wF list e at6 false)
def wG (at111:Int) (v126:Bool):Option (Int ⊕ Int):=
 if v126 then (some (.inl (wr (at111 - 1)))) else (some (.inr at111))
def sJ (list:(List Edge)) (e:Edge) (at111:Int):Option (Int ⊕ Int):=
 if (decide (0 < at111)) then (ob (ix list (wr (at111 - 1))) fun e136=>
 ob (aBk e e136) fun r152=>
 wG at111 r152) else (wG at111 false)
def aFa (list:(List Edge)) (e:Edge):Option (List Edge):=
 ob (loop (fun (s:Int)=>sJ list e s) (list.length:Int)) fun r=>aAD list e r
def aBf (states:Int) (initial:Int) (r10:(List aZ)) (out24:List Edge):Option cH:=
 some ⟨states,initial,r10,out24⟩
def pJ (texts:(List aZ)) (edges:(List Edge)) (r10:(List aZ)) (out52:List Edge) (i55:Int):Option ((List Edge × Int) ⊕ (List Edge)):=
 if (decide (i55 < (edges.length:Int))) then (ob (ix edges i55) fun e78=>
 ob (ix texts e78.B) fun e102=>
 ob (wC r10 e102) fun r112=>
 ob (aFa out52 ⟨e78.F,r112,e78.To⟩) fun r122=>
 some (.inl (r122,wr (i55+1)))) else (some (.inr out52))
def aDg (states:Int) (initial:Int) (texts:(List aZ)) (edges:(List Edge)):Option cH:=
 ob (aDf texts) fun r10=>
 ob (loop (fun (s:(List Edge × Int))=>pJ texts edges r10 s.1 s.2) (([]:List Edge),0)) fun r=>aBf states initial r10 r
def aAf (out6:List Bool):Option (List Bool):=
 some out6
def qM (n:Int) (out23:List Bool) (i24:Int):Option ((List Bool × Int) ⊕ (List Bool)):=
 if (decide (i24 < n)) then (ob (ix out23 i24) fun e41=>
 ob (st out23 i24 (true:Bool)) fun out46=>
 some (.inl (out46,wr (i24+1)))) else (some (.inr out23))
def aBK (n:Int):Option (List Bool):=
 ob (mkz n (false:Bool)) fun xs1=>
 ob (loop (fun (s:(List Bool × Int))=>qM n s.1 s.2) (xs1,0)) fun r=>aAf r
def aFb (list:(List Int)):Option (List Int):=
 ob (vH ([]:List Int) list) fun xs7=>
 some xs7
def iZ (x0_:cI) (x2_:(List (List Int))) (order41:List (List Int)) (edges53:List Edge):Option (cH × (List (List Int))):=
 ob (ix x2_ 0) fun e76=>
 ob (xV order41 e76) fun r90=>
 ob (aDg (order41.length:Int) r90 x0_.S.L edges53) fun r100=>
 some (r100,order41)
def jA (i137:Int) (edges162:List Edge):Option ((List Edge × Int) ⊕ (List Edge)):=
 some (.inl (edges162,wr (i137+1)))
def jB (x2_:(List (List Int))) (order41:List (List Int)) (edges134:List Edge) (i137:Int) (e173:Edge) (v181:Bool):Option ((List Edge × Int) ⊕ (List Edge)):=
 if v181 then (ob (ix x2_ e173.F) fun e212=>
 ob (ix x2_ e173.To) fun e221=>
 ob (xV order41 e212) fun r234=>
 ob (xV order41 e221) fun r244=>
 ob (vH edges134 ([⟨r234,e173.B,r244⟩]:List Edge)) fun xs252=>
 jA i137 xs252) else (jA i137 edges134)
def fZ (x2_:(List (List Int))) (x3_:(List Edge)) (keep:(List Bool)) (order41:List (List Int)) (edges134:List Edge) (i137:Int):Option ((List Edge × Int) ⊕ (List Edge)):=
 if (decide (i137 < (x3_.length:Int))) then (ob (ix x3_ i137) fun e173=>
 ob (ix keep e173.F) fun e261=>
 if e261 then (ob (ix keep e173.To) fun e267=>
 jB x2_ order41 edges134 i137 e173 e267) else (jB x2_ order41 edges134 i137 e173 false)) else (some (.inr edges134))
def jC (x0_:cI) (x2_:(List (List Int))) (x3_:(List Edge)) (keep:(List Bool)) (order41:List (List Int)):Option (cH × (List (List Int))):=
 ob (loop (fun (s:(List Edge × Int))=>fZ x2_ x3_ keep order41 s.1 s.2) (([]:List Edge),0)) fun r=>iZ x0_ x2_ order41 r
def jD (i300:Int) (order327:List (List Int)):Option ((List (List Int) × Int) ⊕ (List (List Int))):=
 some (.inl (order327,wr (i300+1)))
def gA (x2_:(List (List Int))) (keep:(List Bool)) (order297:List (List Int)) (i300:Int):Option ((List (List Int) × Int) ⊕ (List (List Int))):=
 if (decide (i300 < (x2_.length:Int))) then (ob (ix keep i300) fun e337=>
 if e337 then (ob (ix x2_ i300) fun e343=>
 ob (aAB order297 e343) fun r356=>
 jD i300 r356) else (jD i300 order297)) else (some (.inr order297))
def lB (x0_:cI) (x1_:cH) (x2_:(List (List Int))) (x3_:(List Edge)) (x4_:Bool) (keep:(List Bool)):Option (cH × (List (List Int))):=
 ob (loop (fun (s:(List (List Int) × Int))=>gA x2_ keep s.1 s.2) (([]:List (List Int)),0)) fun r=>jC x0_ x2_ x3_ keep r
def rG (r84:(cH × (List (List Int)))) (out104:List aZ) (out118:List Int) (pairs121:List (List Int)):Option (cI × (List (List Int)) × Int):=
 some (⟨⟨r84.1.N,r84.1.I,r84.1.L,r84.1.E⟩,out118,out104⟩,pairs121,0)
def kO (r84:(cH × (List (List Int)))) (pairs162:List (List Int)) (i165:Int) (out195:List Int):Option ((List Int × List (List Int) × Int) ⊕ (List Int × List (List Int))):=
 ob (ix r84.2 i165) fun e206=>
 ob (aFb e206) fun r215=>
 ob (vH pairs162 ([r215]:List (List Int))) fun xs229=>
 some (.inl (out195,xs229,wr (i165+1)))
def jE (p:cI) (r84:(cH × (List (List Int)))) (out159:List Int) (pairs162:List (List Int)) (i165:Int):Option ((List Int × List (List Int) × Int) ⊕ (List Int × List (List Int))):=
 if (decide (i165 < (r84.2.length:Int))) then (ob (ix r84.2 i165) fun e242=>
 ob (ix e242 0) fun e251=>
 ob (aAr p.M e251) fun r256=>
 if r256 then (ob (vH out159 ([i165]:List Int)) fun xs267=>
 kO r84 pairs162 i165 xs267) else (kO r84 pairs162 i165 out159)) else (some (.inr (out159,pairs162)))
def rH (p:cI) (r84:(cH × (List (List Int)))) (out104:List aZ):Option (cI × (List (List Int)) × Int):=
 ob (loop (fun (s:(List Int × List (List Int) × Int))=>jE p r84 s.1 s.2.1 s.2.2) (([]:List Int),([]:List (List Int)),0)) fun r=>rG r84 out104 r.1 r.2
def mY (p:cI) (r_:cH) (v28:Bool):Option (cI × (List (List Int)) × Int):=
 if v28 then (some (⟨⟨0,0,[],[]⟩,[],[]⟩,[],1)) else (ob (aBJ p r_) fun r52=>
 if r52.2.2 then (some (⟨⟨0,0,[],[]⟩,[],[]⟩,[],5)) else (ob (aBK (r52.1.length:Int)) fun r72=>
 ob (lB p r_ r52.1 r52.2.1 r52.2.2 r72) fun r84=>
 ob (vH ([]:List aZ) p.C) fun xs292=>
 rH p r84 xs292))
def sK (p:cI) (r_:cH):Option (cI × (List (List Int)) × Int):=
 ob (aGT p) fun r462=>
 if (!r462) then (mY p r_ true) else (ob (aBn r_) fun r473=>
 mY p r_ (!r473))
def aAg (out9:List Int):Option (List Int):=
 some out9
def uU (a:(List Int)) (out26:List Int) (i27:Int):Option ((List Int × Int) ⊕ (List Int)):=
 if (decide (i27 < (a.length:Int))) then (ob (ix a i27) fun e44=>
 ob (ix out26 i27) fun e49=>
 ob (st out26 i27 (e44:Int)) fun out54=>
 some (.inl (out54,wr (i27+1)))) else (some (.inr out26))
def aBL (a:(List Int)):Option (List Int):=
 ob (mkz (a.length:Int) (0:Int)) fun xs4=>
 ob (loop (fun (s:(List Int × Int))=>uU a s.1 s.2) (xs4,0)) fun r=>aAg r
def wH (a:cI):Option cI:=
 ob (sY a.S) fun r22=>
 ob (aBL a.M) fun r32=>
 ob (kG a.C) fun r40=>
 some ⟨⟨r22.N,r22.I,r22.L,r22.E⟩,r32,r40⟩
def rI:Option Bool:=
 some true
def kQ (v31:Int) (v56:Bool):Option (Int ⊕ (Unit ⊕ Bool)):=
 if v56 then (some (.inr (.inr false))) else (some (.inl (wr (v31+1))))
def jF (t:cH) (list:(List Int)) (v31:Int):Option (Int ⊕ (Unit ⊕ Bool)):=
 if (decide (v31 < (list.length:Int))) then (ob (ix list v31) fun e51=>
 ob (lL t e51) fun r68=>
 if (!r68) then (kQ v31 true) else (if (decide (0 < v31)) then (ob (ix list (wr (v31 - 1))) fun e74=>
 kQ v31 (decide (e51≤e74))) else (kQ v31 false))) else (some (.inr (.inl ())))
def sL (t:cH) (list:(List Int)):Option Bool:=
 ob (loop (fun (s:Int)=>jF t list s) 0) fun r=>match r with|.inl r=>rI|.inr r=>some r
def yB (list:(List aZ)):Option Bool:=
 some (decide ((list.length:Int)≤12))
def tI (v21:Int) (v44:Bool):Option (Int ⊕ (Unit ⊕ Bool)):=
 if v44 then (some (.inr (.inr false))) else (some (.inl (wr (v21+1))))
def tJ (list:(List aZ)) (v21:Int):Option (Int ⊕ (Unit ⊕ Bool)):=
 if (decide (v21 < (list.length:Int))) then (ob (ix list v21) fun e39=>
 ob (yY e39) fun r55=>
 if (!r55) then (tI v21 true) else (if (decide (0 < v21)) then (ob (ix list (wr (v21 - 1))) fun e61=>
 tI v21 (qW e39 e61||e39 == e61)) else (tI v21 false))) else (some (.inr (.inl ())))
def aDh (list:(List aZ)):Option Bool:=
 ob (loop (fun (s:Int)=>tJ list s) 0) fun r=>match r with|.inl r=>yB list|.inr r=>some r
def mL (v16:Bool):Option Bool:=
 some v16
def tK (p:cI):Option Bool:=
 ob (fQ p.S) fun r21=>
 if r21 then (ob (sL p.S p.M) fun r26=>
 if r26 then (ob (aDh p.C) fun r31=>
 mL r31) else (mL false)) else (mL false)
def yC (t:cH):Option Bool:=
 ob (fQ t) fun r10=>
 some (!r10)
def eI:Option Int:=
 some (-1)
def eJ (s_:(List cH)) (v20:Int):Option (Int ⊕ (Unit ⊕ Int)):=
 if (decide (v20 < (s_.length:Int))) then (ob (ix s_ v20) fun e38=>
 ob (yC e38) fun r49=>
 if r49 then (some (.inr (.inr v20))) else (some (.inl (wr (v20+1))))) else (some (.inr (.inl ())))
def dU (s_:(List cH)):Option Int:=
 ob (loop (fun (s:Int)=>eJ s_ s) 0) fun r=>match r with|.inl r=>eI|.inr r=>some r
def eK (s_:(List cH)):Option Bool:=
 ob (dU s_) fun r4=>
 some (decide (0≤r4))
def sM (v19:Bool):Option Int:=
 if v19 then (some 1) else (some 0)
def aAE (p:cI) (list:(List cH)):Option Int:=
 ob (tK p) fun r26=>
 if (!r26) then (sM true) else (ob (eK list) fun r31=>
 sM r31)
def wI (t:cH) (k:Int) (label:aZ):Option (Int × Bool):=
 ob (dR t.L label) fun r10=>
 if (!r10) then (some (k,true)) else (ob (sA t k label) fun r16=>
 some (r16,decide (0≤r16)))
def kV (pair:(Int × Int)) (path:(List aZ)) (p0_:Int) (p1_:Int) (p2_:(List aZ)) (p3_:(List Edge)) (p4_:(List Int)) (p5_:(List aZ)) (p6_:Int) (p7_:Int) (p8_:(List aZ)) (p9_:(List Edge)) (p10_:(List (List Int))) (p11_M:(List ((Int × Int) × Int))) (p12_:(List (List aZ))):Option ((List (List Int)) × (List ((Int × Int) × Int)) × (List (List aZ))):=
 if (!((mF p11_M pair).isSome)) then (ob (some (aEz p11_M pair (p10_.length:Int))) fun m59=>
 ob (vH p10_ ([([pair.1,pair.2]:List Int)]:List (List Int))) fun xs78=>
 ob (vH p12_ ([path]:List (List aZ))) fun xs103=>
 some (xs78,m59,xs103)) else (some (p10_,p11_M,p12_))
def eC (s_:(List aZ)):Option (List aZ):=
 ob (vH ([]:List aZ) s_) fun xs11=>
 some xs11
def pK (p_c037:List (List Int)) (p_c040:(List ((Int × Int) × Int))) (p_c041:List (List aZ)):Option ((List (List Int)) × (List ((Int × Int) × Int)) × (List (List aZ))):=
 some (p_c037,p_c040,p_c041)
def vF (label:aZ) (to_:(Int × Int)) (p_c00_:Int) (p_c01_:Int) (p_c02_:(List aZ)) (p_c03_:(List Edge)) (p_c04_:(List Int)) (p_c05_:(List aZ)) (p_c06_:Int) (p_c07_:Int) (p_c08_:(List aZ)) (p_c09_:(List Edge)) (p_c010_:(List (List Int))) (p_c011_M:(List ((Int × Int) × Int))) (p_c012_:(List (List aZ))) (p:Int):Option ((List (List Int)) × (List ((Int × Int) × Int)) × (List (List aZ))):=
 ob (ix p_c012_ p) fun e54=>
 ob (eC e54) fun r63=>
 ob (vH r63 ([label]:List aZ)) fun xs72=>
 ob (kV to_ xs72 p_c00_ p_c01_ p_c02_ p_c03_ p_c04_ p_c05_ p_c06_ p_c07_ p_c08_ p_c09_ p_c010_ p_c011_M p_c012_) fun r85=>
 pK r85.1 r85.2.1 r85.2.2
def pL (x58:List (List Int)) (x61:(List ((Int × Int) × Int))) (x62:List (List aZ)):Option ((List (List Int)) × (List ((Int × Int) × Int)) × (List (List aZ))):=
 some (x58,x61,x62)
def jS (v103:Int) (x136:List (List Int)) (x139:(List ((Int × Int) × Int))) (x140:List (List aZ)):Option ((List (List Int) × (List ((Int × Int) × Int)) × List (List aZ) × Int) ⊕ (List (List Int) × (List ((Int × Int) × Int)) × List (List aZ))):=
 some (.inl (x136,x139,x140,wr (v103+1)))
def iF (x0_:Int) (x1_:Int) (x2_:(List aZ)) (x3_:(List Edge)) (x4_:(List Int)) (x5_:(List aZ)) (x6_:Int) (x7_:Int) (x8_:(List aZ)) (x9_:(List Edge)) (pair:(List Int)) (do_c2_:Int) (r49:(List Edge)) (x96:List (List Int)) (x99:(List ((Int × Int) × Int))) (x100:List (List aZ)) (v103:Int):Option ((List (List Int) × (List ((Int × Int) × Int)) × List (List aZ) × Int) ⊕ (List (List Int) × (List ((Int × Int) × Int)) × List (List aZ))):=
 if (decide (v103 < (r49.length:Int))) then (ob (ix r49 v103) fun e151=>
 ob (ix x2_ e151.B) fun e161=>
 ob (ix pair 1) fun e170=>
 ob (wI ⟨x6_,x7_,x8_,x9_⟩ e170 e161) fun r175=>
 if r175.2 then (ob (vF e161 ⟨e151.To,r175.1⟩ x0_ x1_ x2_ x3_ x4_ x5_ x6_ x7_ x8_ x9_ x96 x99 x100 do_c2_) fun r183=>
 jS v103 r183.1 r183.2.1 r183.2.2) else (jS v103 x96 x99 x100)) else (some (.inr (x96,x99,x100)))
def pX (x0_:Int) (x1_:Int) (x2_:(List aZ)) (x3_:(List Edge)) (x4_:(List Int)) (x5_:(List aZ)) (x6_:Int) (x7_:Int) (x8_:(List aZ)) (x9_:(List Edge)) (x10_:(List (List Int))) (x11_M:(List ((Int × Int) × Int))) (x12_:(List (List aZ))) (pair:(List Int)) (do_c2_:Int):Option ((List (List Int)) × (List ((Int × Int) × Int)) × (List (List aZ))):=
 ob (ix pair 0) fun e44=>
 ob (tC ⟨x0_,x1_,x2_,x3_⟩ e44) fun r49=>
 ob (loop (fun (s:(List (List Int) × (List ((Int × Int) × Int)) × List (List aZ) × Int))=>iF x0_ x1_ x2_ x3_ x4_ x5_ x6_ x7_ x8_ x9_ pair do_c2_ r49 s.1 s.2.1 s.2.2.1 s.2.2.2) (x10_,x11_M,x12_,0)) fun r=>pL r.1 r.2.1 r.2.2
def vG (x61:List (List Int)) (x64:(List ((Int × Int) × Int))) (x65:List (List aZ)):Option ((List (List Int)) × (List ((Int × Int) × Int)) × (List (List aZ))):=
 some (x61,x64,x65)
def aAN (i127:Int) (x159:List (List Int)) (x162:(List ((Int × Int) × Int))) (x163:List (List aZ)):Option ((List (List Int) × (List ((Int × Int) × Int)) × List (List aZ) × Int) ⊕ (List (List Int) × (List ((Int × Int) × Int)) × List (List aZ))):=
 some (.inl (x159,x162,x163,wr (i127+1)))
def mM (p:cI) (r_:cH) (x119:List (List Int)) (x122:(List ((Int × Int) × Int))) (x123:List (List aZ)) (i127:Int):Option ((List (List Int) × (List ((Int × Int) × Int)) × List (List aZ) × Int) ⊕ (List (List Int) × (List ((Int × Int) × Int)) × List (List aZ))):=
 if (decide (i127 < (x119.length:Int))) then (ob (ix x119 i127) fun e186=>
 ob (pX p.S.N p.S.I p.S.L p.S.E p.M p.C r_.N r_.I r_.L r_.E x119 x122 x123 e186 i127) fun r198=>
 aAN i127 r198.1 r198.2.1 r198.2.2) else (some (.inr (x119,x122,x123)))
def yD (p:cI) (r_:cH):Option ((List (List Int)) × (List ((Int × Int) × Int)) × (List (List aZ))):=
 ob (kV ⟨p.S.I,r_.I⟩ [] p.S.N p.S.I p.S.L p.S.E p.M p.C r_.N r_.I r_.L r_.E [] ([]:(List ((Int × Int) × Int))) []) fun r44=>
 ob (loop (fun (s:(List (List Int) × (List ((Int × Int) × Int)) × List (List aZ) × Int))=>mM p r_ s.1 s.2.1 s.2.2.1 s.2.2.2) (r44.1,r44.2.1,r44.2.2,0)) fun r=>vG r.1 r.2.1 r.2.2
def dS (s1_:(List Int)) (s2_:(List Int)):Option Int:=
 if (decide ((s1_.length:Int) < (s2_.length:Int))) then (some (-1)) else (some 0)
def cF (s1_:(List Int)) (s2_:(List Int)) (v29:Int):Option (Int ⊕ (Unit ⊕ Int)):=
 if (decide (v29 < (s1_.length:Int))) then (ob (ix s1_ v29) fun e49=>
 if (decide ((s2_.length:Int)≤v29)) then (some (.inr (.inr 1))) else (ob (ix s2_ v29) fun e57=>
 ob (eN e49 e57) fun r62=>
 if (r62 != 0) then (some (.inr (.inr r62))) else (some (.inl (wr (v29+1)))))) else (some (.inr (.inl ())))
def gS (s1_:(List Int)) (s2_:(List Int)):Option Int:=
 ob (loop (fun (s:Int)=>cF s1_ s2_ s) 0) fun r=>match r with|.inl r=>dS s1_ s2_|.inr r=>some r
def yE (p:cI) (k:Int):Option Bool:=
 ob (dI p.M k) fun r16=>
 some r16
def mZ (label:aZ) (to_:(Int × Int)) (pM:(List ((Int × Int) × Int))) (p:(List lS)) (p':Int):Option (List lS):=
 if ((mF pM to_).isSome) then (ob (vH p ([⟨p',label,((mF pM to_).getD 0)⟩]:List lS)) fun xs19=>
 some xs19) else (some p)
def mB (do_c160:List lS):Option (List lS):=
 some do_c160
def hX (v89:Int) (do_c1114:List lS):Option ((List lS × Int) ⊕ (List lS)):=
 some (.inl (do_c1114,wr (v89+1)))
def gH (x2_:(List aZ)) (x6_:Int) (x7_:Int) (x8_:(List aZ)) (x9_:(List Edge)) (pair:(List Int)) (do_c0M:(List ((Int × Int) × Int))) (do_c2_:Int) (r53:(List Edge)) (do_c186:List lS) (v89:Int):Option ((List lS × Int) ⊕ (List lS)):=
 if (decide (v89 < (r53.length:Int))) then (ob (ix r53 v89) fun e125=>
 ob (ix x2_ e125.B) fun e135=>
 ob (ix pair 1) fun e144=>
 ob (wI ⟨x6_,x7_,x8_,x9_⟩ e144 e135) fun r149=>
 if r149.2 then (ob (mZ e135 ⟨e125.To,r149.1⟩ do_c0M do_c186 do_c2_) fun r157=>
 hX v89 r157) else (hX v89 do_c186)) else (some (.inr do_c186))
def lV (x0_:Int) (x1_:Int) (x2_:(List aZ)) (x3_:(List Edge)) (x4_:(List Int)) (x5_:(List aZ)) (x6_:Int) (x7_:Int) (x8_:(List aZ)) (x9_:(List Edge)) (x10_:(List (List Int))) (x11_M:(List ((Int × Int) × Int))) (x12_:(List (List aZ))) (pair:(List Int)) (do_c0M:(List ((Int × Int) × Int))) (do_c1_:(List lS)) (do_c2_:Int):Option (List lS):=
 ob (ix pair 0) fun e48=>
 ob (tC ⟨x0_,x1_,x2_,x3_⟩ e48) fun r53=>
 ob (loop (fun (s:(List lS × Int))=>gH x2_ x6_ x7_ x8_ x9_ pair do_c0M do_c2_ r53 s.1 s.2) (do_c1_,0)) fun r=>mB r
def iH (x1_:Int) (x2_:(List aZ)) (x7_:Int) (r42:(List (List Int))) (number57:(List ((Int × Int) × Int))) (arcs67:List lS):Option (cH × (List (List Int))):=
 ob (aGS (r42.length:Int) ((mF number57 ⟨x1_,x7_⟩).getD 0) x2_ arcs67) fun r100=>
 some (r100,r42)
def fN (x0_:Int) (x1_:Int) (x2_:(List aZ)) (x3_:(List Edge)) (x4_:(List Int)) (x5_:(List aZ)) (x6_:Int) (x7_:Int) (x8_:(List aZ)) (x9_:(List Edge)) (x10_:(List (List Int))) (x11_M:(List ((Int × Int) × Int))) (x12_:(List (List aZ))) (r42:(List (List Int))) (number57:(List ((Int × Int) × Int))) (arcs138:List lS) (v141:Int):Option ((List lS × Int) ⊕ (List lS)):=
 if (decide (v141 < (r42.length:Int))) then (ob (ix r42 v141) fun e170=>
 ob (lV x0_ x1_ x2_ x3_ x4_ x5_ x6_ x7_ x8_ x9_ x10_ x11_M x12_ e170 number57 arcs138 v141) fun r203=>
 some (.inl (r203,wr (v141+1)))) else (some (.inr arcs138))
def iI (x0_:Int) (x1_:Int) (x2_:(List aZ)) (x3_:(List Edge)) (x4_:(List Int)) (x5_:(List aZ)) (x6_:Int) (x7_:Int) (x8_:(List aZ)) (x9_:(List Edge)) (x10_:(List (List Int))) (x11_M:(List ((Int × Int) × Int))) (x12_:(List (List aZ))) (r42:(List (List Int))) (number57:(List ((Int × Int) × Int))):Option (cH × (List (List Int))):=
 ob (loop (fun (s:(List lS × Int))=>fN x0_ x1_ x2_ x3_ x4_ x5_ x6_ x7_ x8_ x9_ x10_ x11_M x12_ r42 number57 s.1 s.2) ([],0)) fun r=>iH x1_ x2_ x7_ r42 number57 r
def fO (r42:(List (List Int))) (number237:(List ((Int × Int) × Int))) (v238:Int):Option (((List ((Int × Int) × Int)) × Int) ⊕ (List ((Int × Int) × Int))):=
 if (decide (v238 < (r42.length:Int))) then (ob (ix r42 v238) fun e263=>
 ob (ix e263 0) fun e284=>
 ob (ix e263 1) fun e290=>
 ob (some (aEz number237 ⟨e284,e290⟩ v238)) fun m297=>
 some (.inl (m297,wr (v238+1)))) else (some (.inr number237))
def iJ (x0_:Int) (x1_:Int) (x2_:(List aZ)) (x3_:(List Edge)) (x4_:(List Int)) (x5_:(List aZ)) (x6_:Int) (x7_:Int) (x8_:(List aZ)) (x9_:(List Edge)) (x10_:(List (List Int))) (x11_M:(List ((Int × Int) × Int))) (x12_:(List (List aZ))) (pairs31:List (List Int)):Option (cH × (List (List Int))):=
 ob (aBv pairs31) fun r42=>
 ob (loop (fun (s:((List ((Int × Int) × Int)) × Int))=>fO r42 s.1 s.2) (([]:(List ((Int × Int) × Int))),0)) fun r=>iI x0_ x1_ x2_ x3_ x4_ x5_ x6_ x7_ x8_ x9_ x10_ x11_M x12_ r42 r
def iK (v333:Int) (pairs362:List (List Int)):Option ((List (List Int) × Int) ⊕ (List (List Int))):=
 some (.inl (pairs362,wr (v333+1)))
def gN (x10_:(List (List Int))) (keep:(List Bool)) (pairs328:List (List Int)) (v333:Int):Option ((List (List Int) × Int) ⊕ (List (List Int))):=
 if (decide (v333 < (x10_.length:Int))) then (ob (ix x10_ v333) fun e376=>
 ob (ix keep v333) fun e385=>
 if e385 then (ob (dV e376) fun r391=>
 ob (vH pairs328 ([r391]:List (List Int))) fun xs401=>
 iK v333 xs401) else (iK v333 pairs328)) else (some (.inr pairs328))
def kJ (x0_:Int) (x1_:Int) (x2_:(List aZ)) (x3_:(List Edge)) (x4_:(List Int)) (x5_:(List aZ)) (x6_:Int) (x7_:Int) (x8_:(List aZ)) (x9_:(List Edge)) (x10_:(List (List Int))) (x11_M:(List ((Int × Int) × Int))) (x12_:(List (List aZ))) (keep:(List Bool)):Option (cH × (List (List Int))):=
 ob (loop (fun (s:(List (List Int) × Int))=>gN x10_ keep s.1 s.2) ([],0)) fun r=>iJ x0_ x1_ x2_ x3_ x4_ x5_ x6_ x7_ x8_ x9_ x10_ x11_M x12_ r
def nA (r83:(cH × (List (List Int)))) (out102:List aZ) (out111:List Int):Option (cI × (List (List Int)) × Int):=
 ob (tK ⟨⟨r83.1.N,r83.1.I,r83.1.L,r83.1.E⟩,out111,out102⟩) fun r139=>
 if (!r139) then (some (⟨⟨0,0,[],[]⟩,[],[]⟩,[],5)) else (some (⟨⟨r83.1.N,r83.1.I,r83.1.L,r83.1.E⟩,out111,out102⟩,r83.2,0))
def kR (v184:Int) (out211:List Int):Option ((List Int × Int) ⊕ (List Int)):=
 some (.inl (out211,wr (v184+1)))
def jG (p:cI) (r83:(cH × (List (List Int)))) (out181:List Int) (v184:Int):Option ((List Int × Int) ⊕ (List Int)):=
 if (decide (v184 < (r83.2.length:Int))) then (ob (ix r83.2 v184) fun e223=>
 ob (ix e223 0) fun e231=>
 ob (yE p e231) fun r234=>
 if r234 then (ob (vH out181 ([v184]:List Int)) fun xs244=>
 kR v184 xs244) else (kR v184 out181)) else (some (.inr out181))
def rJ (p:cI) (r83:(cH × (List (List Int)))) (out102:List aZ):Option (cI × (List (List Int)) × Int):=
 ob (loop (fun (s:(List Int × Int))=>jG p r83 s.1 s.2) ([],0)) fun r=>nA r83 out102 r
def oU (p:cI) (r_:cH):Option (cI × (List (List Int)) × Int):=
 ob (aAE p ([r_]:List cH)) fun r36=>
 if (r36 != 0) then (some (⟨⟨0,0,[],[]⟩,[],[]⟩,[],r36)) else (ob (yD p r_) fun r50=>
 ob (dX ([true]:List Bool) (r50.1.length:Int)) fun r70=>
 ob (kJ p.S.N p.S.I p.S.L p.S.E p.M p.C r_.N r_.I r_.L r_.E r50.1 r50.2.1 r50.2.2 r70) fun r83=>
 ob (eC p.C) fun r269=>
 rJ p r83 r269)
def wJ (a:cI) (b:cI):Option Bool:=
 ob (aCt a.S b.S) fun r31=>
 if (!r31) then (some false) else (ob (vN a.M b.M) fun r37=>
 if (!r37) then (some false) else (ob (sD a.C b.C) fun r43=>
 if (!r43) then (some false) else (some true)))
def sN:Option Bool:=
 some true
def oV (a:(List (List Int))) (b:(List (List Int))) (i23:Int):Option (Int ⊕ (Unit ⊕ Bool)):=
 if (decide (i23 < (a.length:Int))) then (ob (ix a i23) fun e41=>
 ob (ix b i23) fun e49=>
 ob (vN e41 e49) fun r57=>
 if (!r57) then (some (.inr (.inr false))) else (some (.inl (wr (i23+1))))) else (some (.inr (.inl ())))
def sO (a:(List (List Int))) (b:(List (List Int))):Option Bool:=
 if ((a.length:Int) != (b.length:Int)) then (some false) else (ob (loop (fun (s:Int)=>oV a b s) 0) fun r=>match r with|.inl r=>sN|.inr r=>some r)
def wK (a_System_States:Int) (a_System_Initial:Int) (a_System_Labels:(List aZ)) (a_System_Edges:(List Edge)) (a_Marked:(List Int)) (a_Controlled:(List aZ)) (k:Int):Option (Int × (List aZ) × (List Edge) × (List Int) × (List aZ)):=
 ob (qH a_System_States a_System_Initial a_System_Labels a_System_Edges k) fun r13=>
 ob (pG a_Marked r13.1) fun r22=>
 ob (nM a_Controlled r22.1) fun r29=>
 some (r29.1,r13.2.1,r13.2.2,r22.2,r29.2)
def tL (k5:Int) (a6:List (List Int)):Option (Int × (List (List Int))):=
 some (k5,a6)
def jT (a30:List (List Int)) (k34:Int) (i35:Int):Option ((List (List Int) × Int × Int) ⊕ (Int × List (List Int))):=
 if (decide (i35 < (a30.length:Int))) then (ob (ix a30 i35) fun e56=>
 ob (pG e56 k34) fun r64=>
 ob (st a30 i35 r64.2) fun a69=>
 some (.inl (a69,r64.1,wr (i35+1)))) else (some (.inr (k34,a30)))
def uV (a:(List (List Int))) (k:Int):Option (Int × (List (List Int))):=
 ob (loop (fun (s:(List (List Int) × Int × Int))=>jT s.1 s.2.1 s.2.2) (a,k,0)) fun r=>tL r.1 r.2
def wL (a:cI) (k:Int):Option Int:=
 ob (aBm a.S k) fun r16=>
 if (decide (r16 < 0)) then (some (-1)) else (ob (pH a.M r16) fun r22=>
 if (decide (r22 < 0)) then (some (-1)) else (ob (qI a.C r22) fun r28=>
 if (decide (r28 < 0)) then (some (-1)) else (some r28)))
def tM (k4:Int):Option Int:=
 some k4
def jU (a:(List (List Int))) (k21:Int) (i22:Int):Option ((Int × Int) ⊕ (Int ⊕ Int)):=
 if (decide (i22 < (a.length:Int))) then (ob (ix a i22) fun e39=>
 ob (pH e39 k21) fun r47=>
 if (decide (r47 < 0)) then (some (.inr (.inr (-1)))) else (some (.inl (r47,wr (i22+1))))) else (some (.inr (.inl k21)))
def qN (a:(List (List Int))) (k:Int):Option Int:=
 ob (loop (fun (s:(Int × Int))=>jU a s.1 s.2) (k,0)) fun r=>match r with|.inl r=>tM r|.inr r=>some r
def gE (r127:(cI × (List (List Int)) × Int)) (r330:(Int × (List aZ) × (List Edge) × (List Int) × (List aZ))) (r343:(Int × (List (List Int)))) (v427:Bool):Option Bool:=
 if v427 then (some false) else (ob (wL ⟨⟨r127.1.S.N,r127.1.S.I,r330.2.1,r330.2.2.1⟩,r330.2.2.2.1,r330.2.2.2.2⟩ 1) fun r456=>
 if (decide (r456 < 0)) then (some false) else (ob (qN r343.2 r456) fun r472=>
 if (decide (r472 < 0)) then (some false) else (if (r472 != r343.1) then (some false) else (some true))))
def kA (w042:Int) (w043:Int) (w044:List aZ) (w047:List Edge) (w050:List Int) (w053:List aZ) (w156:List (List Int)) (w259:Int) (r127:(cI × (List (List Int)) × Int)) (r330:(Int × (List aZ) × (List Edge) × (List Int) × (List aZ))) (r343:(Int × (List (List Int)))) (h0396:Int) (h0397:Int) (h0398:List aZ) (h0401:List Edge) (h0404:List Int) (h0407:List aZ) (h1410:List (List Int)) (h2415:Int):Option Bool:=
 ob (wJ ⟨⟨h0396,h0397,h0398,h0401⟩,h0404,h0407⟩ ⟨⟨w042,w043,w044,w047⟩,w050,w053⟩) fun r522=>
 if (!r522) then (gE r127 r330 r343 true) else (ob (sO h1410 w156) fun r547=>
 if (!r547) then (gE r127 r330 r343 true) else (gE r127 r330 r343 (h2415 != w259)))
def fD (aP:cI) (aR:cH) (w042:Int) (w043:Int) (w044:List aZ) (w047:List Edge) (w050:List Int) (w053:List aZ) (w156:List (List Int)) (w259:Int) (r127:(cI × (List (List Int)) × Int)) (v316:Bool):Option Bool:=
 if v316 then (some false) else (ob (wK r127.1.S.N r127.1.S.I r127.1.S.L r127.1.S.E r127.1.M r127.1.C 1) fun r330=>
 ob (uV r127.2.1 r330.1) fun r343=>
 ob (wL ⟨⟨r127.1.S.N,r127.1.S.I,r330.2.1,r330.2.2.1⟩,r330.2.2.2.1,r330.2.2.2.2⟩ 1) fun r370=>
 if (decide (r370 < 0)) then (some false) else (ob (qN r343.2 r370) fun r386=>
 if (decide (r386 < 0)) then (some false) else (if (r386 != r343.1) then (some false) else (ob (wH aP) fun r557=>
 ob (sY aR) fun r569=>
 ob (oU r557 r569) fun r607=>
 kA w042 w043 w044 w047 w050 w053 w156 w259 r127 r330 r343 r607.1.S.N r607.1.S.I r607.1.S.L r607.1.S.E r607.1.M r607.1.C r607.2.1 r607.2.2))))
def gF (aP:cI) (aR:cH) (w042:Int) (w043:Int) (w044:List aZ) (w047:List Edge) (w050:List Int) (w053:List aZ) (w156:List (List Int)) (w259:Int) (r67:cI) (r84:cH) (r127:(cI × (List (List Int)) × Int)) (v154:Bool):Option Bool:=
 if v154 then (some false) else (ob (wH aP) fun r179=>
 ob (wJ r67 r179) fun r231=>
 if (!r231) then (some false) else (ob (sY aR) fun r255=>
 ob (aCt r84 r255) fun r283=>
 if (!r283) then (some false) else (ob (wK r67.S.N r67.S.I r67.S.L r67.S.E r67.M r67.C 1) fun r295=>
 ob (qH r84.N r84.I r84.L r84.E r295.1) fun r308=>
 if (decide (r308.1 < 0)) then (fD aP aR w042 w043 w044 w047 w050 w053 w156 w259 r127 true) else (ob (wJ r127.1 ⟨⟨w042,w043,w044,w047⟩,w050,w053⟩) fun r875=>
 if (!r875) then (fD aP aR w042 w043 w044 w047 w050 w053 w156 w259 r127 true) else (ob (sO r127.2.1 w156) fun r900=>
 if (!r900) then (fD aP aR w042 w043 w044 w047 w050 w053 w156 w259 r127 true) else (fD aP aR w042 w043 w044 w047 w050 w053 w156 w259 r127 (r127.2.2 != w259)))))))
def kB (aP:cI) (aR:cH) (w042:Int) (w043:Int) (w044:List aZ) (w047:List Edge) (w050:List Int) (w053:List aZ) (w156:List (List Int)) (w259:Int):Option Bool:=
 ob (wH aP) fun r67=>
 ob (sY aR) fun r84=>
 ob (oU r67 r84) fun r127=>
 ob (wJ r127.1 ⟨⟨w042,w043,w044,w047⟩,w050,w053⟩) fun r947=>
 if (!r947) then (gF aP aR w042 w043 w044 w047 w050 w053 w156 w259 r67 r84 r127 true) else (ob (sO r127.2.1 w156) fun r972=>
 if (!r972) then (gF aP aR w042 w043 w044 w047 w050 w053 w156 w259 r67 r84 r127 true) else (gF aP aR w042 w043 w044 w047 w050 w053 w156 w259 r67 r84 r127 (r127.2.2 != w259)))
def mC (aP:cI) (aR:cH):Option Bool:=
 ob (aDd aP 1048576) fun r25=>
 if (decide (r25 < 0)) then (some true) else (ob (aDG aR r25) fun r31=>
 if (decide (r31 < 0)) then (some true) else (ob (wH aP) fun r990=>
 ob (sY aR) fun r1002=>
 ob (sK ⟨⟨r990.S.N,r990.S.I,r990.S.L,r990.S.E⟩,r990.M,r990.C⟩ ⟨r1002.N,r1002.I,r1002.L,r1002.E⟩) fun r1034=>
 kB aP aR r1034.1.S.N r1034.1.S.I r1034.1.S.L r1034.1.S.E r1034.1.M r1034.1.C r1034.2.1 r1034.2.2))
end
end Gv
