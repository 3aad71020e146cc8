/- Models of the functions, printed by program off their code. Plain Lean. -/
import Derived.Test.YtnpdckpkipjngaaGreatDoorRLM
set_option linter.all false
namespace Gv
noncomputable section
def tY (left6 : Int) : Option Int :=
 some left6
def qF (a : (List bF)) (left23 : Int) (i24 : Int) : Option ((Int × Int) ⊕ (Int ⊕ Int)) :=
 if (decide (i24 < (a.length : Int))) then (ob (ix a i24) fun e41 =>
 if (decide (wr (left23 - (e41.length : Int)) < 0)) then (some (.inr (.inr (-1)))) else (some (.inl (wr (left23 - (e41.length : Int)), wr (i24 + 1))))) else (some (.inr (.inl left23)))
def tJ (a : (List bF)) (left : Int) : Option Int :=
 if (decide (wr (left - (a.length : Int)) < 0)) then (some (-1)) else (ob (loop (fun (s : (Int × Int)) => qF a s.1 s.2) (wr (left - (a.length : Int)), 0)) fun r => match r with | .inl r => tY r | .inr r => some r)
def aAx (a : (List Edge)) (left : Int) : Option Int :=
 if (decide (wr (left - (a.length : Int)) < 0)) then (some (-1)) else (some (wr (left - (a.length : Int))))
def aDr (a : dC) (left : Int) : Option Int :=
 ob (tJ a.Labels left) fun r10 =>
 if (decide (r10 < 0)) then (some (-1)) else (ob (aAx a.Edges r10) fun r16 =>
 if (decide (r16 < 0)) then (some (-1)) else (some r16))
def aAZ (v1 : Bool) : Option Bool :=
 some v1
def vZ (n : Int) (low : Int) (high : Int) : Option Bool :=
 if (decide (low ≤ n)) then (aAZ (decide (n ≤ high))) else (aAZ false)
def wA (v1 : Bool) : Option Bool :=
 some v1
def yL (c : UInt8) : Option Bool :=
 if (decide (97 ≤ (c.toNat : Int))) then (wA (decide ((c.toNat : Int) ≤ 122))) else (wA false)
def wB (v1 : Bool) : Option Bool :=
 some v1
def yM (c : UInt8) : Option Bool :=
 if (decide (48 ≤ (c.toNat : Int))) then (wB (decide ((c.toNat : Int) ≤ 57))) else (wB false)
def tZ  : Option Bool :=
 some true
def uA (i20 : Int) (v34 : Bool) : Option (Int ⊕ (Unit ⊕ Bool)) :=
 if v34 then (some (.inr (.inr false))) else (some (.inl (wr (i20 + 1))))
def rD (s_ : bF) (i20 : Int) : Option (Int ⊕ (Unit ⊕ Bool)) :=
 if (decide (i20 < (s_.length : Int))) then (ob (ix s_ i20) fun c43 =>
 ob (yL c43) fun r45 =>
 if (!r45) then (ob (yM c43) fun r50 =>
 uA i20 (!r50)) else (uA i20 false)) else (some (.inr (.inl ())))
def oC (s_ : bF) (v1 : Bool) : Option Bool :=
 if v1 then (some false) else (ob (loop (fun (s : Int) => rD s_ s) 0) fun r => match r with | .inl r => tZ | .inr r => some r)
def yA (s_ : bF) : Option Bool :=
 if (s_ == ([] : bF)) then (oC s_ true) else (if (decide (10 < (s_.length : Int))) then (oC s_ true) else (ob (ix s_ 0) fun c60 =>
 ob (yL c60) fun r62 =>
 oC s_ (!r62)))
def qG (v1 : Bool) : Option Bool :=
 some v1
def wP (s_ : bF) : Option Bool :=
 ob (yA s_) fun r6 =>
 if r6 then (qG (!(s_ == ([116, 97, 117] : bF)))) else (qG false)
def xN (s_ : bF) : Option Int :=
 some (s_.length : Int)
def rE (s_ : bF) (i14 : Int) : Option (Int ⊕ (Unit ⊕ Int)) :=
 if (decide (i14 < (s_.length : Int))) then (ob (ix s_ i14) fun c28 =>
 if ((c28.toNat : Int) == 40) then (some (.inr (.inr i14))) else (some (.inl (wr (i14 + 1))))) else (some (.inr (.inl ())))
def aAy (s_ : bF) : Option Int :=
 ob (loop (fun (s : Int) => rE s_ s) 0) fun r => match r with | .inl r => xN s_ | .inr r => some r
def sD (s_ : bF) (out4 : List bF) (from7 : Int) : Option (List bF) :=
 ob (vY s_ from7 (s_.length : Int)) fun r13 =>
 ob (apd out4 ([r13] : List bF)) fun xs18 =>
 some xs18
def oX (i48 : Int) (out72 : List bF) (from75 : Int) : Option ((List bF × Int × Int) ⊕ (List bF × Int)) :=
 some (.inl (out72, from75, wr (i48 + 1)))
def sE (s_ : bF) (by_ : UInt8) (out44 : List bF) (from47 : Int) (i48 : Int) : Option ((List bF × Int × Int) ⊕ (List bF × Int)) :=
 if (decide (i48 < (s_.length : Int))) then (ob (ix s_ i48) fun c83 =>
 if ((c83.toNat : Int) == (by_.toNat : Int)) then (ob (vY s_ from47 i48) fun r86 =>
 ob (apd out44 ([r86] : List bF)) fun xs91 =>
 oX i48 xs91 (wr (i48 + 1))) else (oX i48 out44 from47)) else (some (.inr (out44, from47)))
def yN (s_ : bF) (by_ : UInt8) : Option (List bF) :=
 ob (loop (fun (s : (List bF × Int × Int)) => sE s_ by_ s.1 s.2.1 s.2.2) (([] : List bF), 0, 0)) fun r => sD s_ r.1 r.2
def uB (n19 : Int) : Option (Int × Bool) :=
 some (n19, true)
def qH (at1 : Int) (n14 : Int) : Option (Int × Bool) :=
 if (at1 == 1) then (uB (wr (0 - n14))) else (uB n14)
def kV (s_ : bF) (n39 : Int) (i40 : Int) : Option ((Int × Int) ⊕ (Int ⊕ (Int × Bool))) :=
 if (decide (i40 < (s_.length : Int))) then (ob (ix s_ i40) fun c59 =>
 ob (yM c59) fun r61 =>
 if (!r61) then (some (.inr (.inr (0, false)))) else (some (.inl (wr ((wr (10 * n39)) + (wr ((c59 - (48 : UInt8)).toNat : Int))), wr (i40 + 1))))) else (some (.inr (.inl n39)))
def jM (s_ : bF) (at1 : Int) (v6 : Bool) : Option (Int × Bool) :=
 if v6 then (some (0, false)) else (ob (loop (fun (s : (Int × Int)) => kV s_ s.1 s.2) (0, at1)) fun r => match r with | .inl r => qH at1 r | .inr r => some r)
def mX (s_ : bF) (at1 : Int) : Option (Int × Bool) :=
 if ((s_.length : Int) == at1) then (jM s_ at1 true) else (if (decide (18 < wr ((s_.length : Int) - at1))) then (jM s_ at1 true) else (ob (ix s_ at1) fun c74 =>
 if ((c74.toNat : Int) == 48) then (jM s_ at1 (decide (1 < (s_.length : Int)))) else (jM s_ at1 false)))
def mY (s_ : bF) (v77 : Bool) : Option (Int × Bool) :=
 if v77 then (mX s_ 1) else (mX s_ 0)
def tK (s_ : bF) : Option (Int × Bool) :=
 if (decide (0 < (s_.length : Int))) then (ob (ix s_ 0) fun c85 =>
 mY s_ ((c85.toNat : Int) == 45)) else (mY s_ false)
def qI (out34 : List Int) : Option ((List Int) × Bool) :=
 some (out34, decide ((out34.length : Int) ≤ 2))
def qJ (out55 : List Int) (i58 : Int) (r80 : (Int × Bool)) (v84 : Bool) : Option ((List Int × Int) ⊕ (List Int ⊕ ((List Int) × Bool))) :=
 if v84 then (some (.inr (.inr ([], false)))) else (ob (apd out55 ([r80.1] : List Int)) fun xs99 =>
 some (.inl (xs99, wr (i58 + 1))))
def mZ (r25 : (List bF)) (out55 : List Int) (i58 : Int) : Option ((List Int × Int) ⊕ (List Int ⊕ ((List Int) × Bool))) :=
 if (decide (i58 < (r25.length : Int))) then (ob (ix r25 i58) fun e77 =>
 ob (tK e77) fun r80 =>
 if (!r80.2) then (qJ out55 i58 r80 true) else (ob (vZ r80.1 0 63) fun r106 =>
 qJ out55 i58 r80 (!r106))) else (some (.inr (.inl out55)))
def nA (s_ : bF) (r1 : Int) (v14 : Bool) : Option ((List Int) × Bool) :=
 if v14 then (some ([], false)) else (ob (vY s_ (wr (r1 + 1)) (wr ((s_.length : Int) - 1))) fun r23 =>
 ob (yN r23 (44 : UInt8)) fun r25 =>
 ob (loop (fun (s : (List Int × Int)) => mZ r25 s.1 s.2) (([] : List Int), 0)) fun r => match r with | .inl r => qI r | .inr r => some r)
def zV (s_ : bF) : Option ((List Int) × Bool) :=
 ob (aAy s_) fun r1 =>
 if (r1 == (s_.length : Int)) then (ob (yA s_) fun r9 =>
 some (([] : List Int), r9)) else (ob (vY s_ 0 r1) fun r113 =>
 ob (wP r113) fun r115 =>
 if (!r115) then (nA s_ r1 true) else (ob (ix s_ (wr ((s_.length : Int) - 1))) fun c120 =>
 nA s_ r1 ((c120.toNat : Int) != 41)))
def vP (s_ : bF) : Option Bool :=
 ob (zV s_) fun r1 =>
 some r1.2
def wC  : Option Bool :=
 some true
def mJ (i23 : Int) (v37 : Bool) : Option (Int ⊕ (Unit ⊕ Bool)) :=
 if v37 then (some (.inr (.inr false))) else (some (.inl (wr (i23 + 1))))
def oY (list : (List bF)) (i23 : Int) : Option (Int ⊕ (Unit ⊕ Bool)) :=
 if (decide (i23 < (list.length : Int))) then (ob (ix list i23) fun e48 =>
 ob (vP e48) fun r53 =>
 if (!r53) then (mJ i23 true) else (if (e48 == ([116, 97, 117] : bF)) then (mJ i23 true) else (if (decide (1 < i23)) then (ob (ix list (wr (i23 - 1))) fun e64 =>
 mJ i23 (!vI e64 e48)) else (mJ i23 false)))) else (some (.inr (.inl ())))
def oZ (list : (List bF)) (v4 : Bool) : Option Bool :=
 if v4 then (some false) else (ob (loop (fun (s : Int) => oY list s) 1) fun r => match r with | .inl r => wC | .inr r => some r)
def yO (list : (List bF)) : Option Bool :=
 if ((list.length : Int) == 0) then (oZ list true) else (if (decide (12 < (list.length : Int))) then (oZ list true) else (ob (ix list 0) fun e79 =>
 oZ list (!(e79 == ([116, 97, 117] : bF)))))
def aAz (a : Edge) (b : Edge) : Option Bool :=
 if (a.From != b.From) then (some (decide (a.From < b.From))) else (if (a.Label != b.Label) then (some (decide (a.Label < b.Label))) else (some (decide (a.To < b.To))))
def aBa  : Option Bool :=
 some true
def yP (i29 : Int) (v63 : Bool) : Option (Int ⊕ (Unit ⊕ Bool)) :=
 if v63 then (some (.inr (.inr false))) else (some (.inl (wr (i29 + 1))))
def vQ (t : dC) (i29 : Int) (e43 : Edge) (v53 : Bool) : Option (Int ⊕ (Unit ⊕ Bool)) :=
 if v53 then (some (.inr (.inr false))) else (if (decide (0 < i29)) then (ob (ix t.Edges (wr (i29 - 1))) fun e73 =>
 ob (aAz e73 e43) fun r83 =>
 yP i29 (!r83)) else (yP i29 false))
def vR (t : dC) (i29 : Int) : Option (Int ⊕ (Unit ⊕ Bool)) :=
 if (decide (i29 < (t.Edges.length : Int))) then (ob (ix t.Edges i29) fun e43 =>
 ob (vZ e43.From 0 (wr (t.States - 1))) fun r90 =>
 if (!r90) then (vQ t i29 e43 true) else (ob (vZ e43.To 0 (wr (t.States - 1))) fun r97 =>
 if (!r97) then (vQ t i29 e43 true) else (ob (vZ e43.Label 0 (wr ((t.Labels.length : Int) - 1))) fun r104 =>
 vQ t i29 e43 (!r104)))) else (some (.inr (.inl ())))
def tB (t : dC) (v10 : Bool) : Option Bool :=
 if v10 then (some false) else (ob (loop (fun (s : Int) => vR t s) 0) fun r => match r with | .inl r => aBa | .inr r => some r)
def aCk (t : dC) : Option Bool :=
 ob (vZ t.States 1 40) fun r115 =>
 if (!r115) then (tB t true) else (ob (vZ t.Initial 0 (wr (t.States - 1))) fun r122 =>
 if (!r122) then (tB t true) else (ob (yO t.Labels) fun r129 =>
 if (!r129) then (tB t true) else (tB t (decide (300 < (t.Edges.length : Int))))))
def uC  : Option Bool :=
 some true
def kW (i22 : Int) (v36 : Bool) : Option (Int ⊕ (Unit ⊕ Bool)) :=
 if v36 then (some (.inr (.inr false))) else (some (.inl (wr (i22 + 1))))
def nB (t : dC) (i22 : Int) : Option (Int ⊕ (Unit ⊕ Bool)) :=
 if (decide (i22 < (t.Edges.length : Int))) then (ob (ix t.Edges i22) fun e47 =>
 if (e47.Label == 0) then (kW i22 true) else (if (decide (0 < i22)) then (ob (ix t.Edges (wr (i22 - 1))) fun e56 =>
 if (e47.From == e56.From) then (kW i22 (e47.Label == e56.Label)) else (kW i22 false)) else (kW i22 false))) else (some (.inr (.inl ())))
def wQ (t : dC) : Option Bool :=
 ob (loop (fun (s : Int) => nB t s) 0) fun r => match r with | .inl r => uC | .inr r => some r
def tL (p : dC) (v19 : Bool) : Option Int :=
 if v19 then (some 1) else (ob (wQ p) fun r26 =>
 if (!r26) then (some 6) else (some 0))
def aDs (t : dC) (p : dC) : Option Int :=
 ob (aCk t) fun r33 =>
 if (!r33) then (tL p true) else (ob (aCk p) fun r38 =>
 tL p (!r38))
def sV  : Option Bool :=
 some true
def oK (i16 : Int) (v30 : Bool) : Option (Int ⊕ (Unit ⊕ Bool)) :=
 if v30 then (some (.inr (.inr false))) else (some (.inl (wr (i16 + 1))))
def lM (trace : (List bF)) (i16 : Int) : Option (Int ⊕ (Unit ⊕ Bool)) :=
 if (decide (i16 < (trace.length : Int))) then (ob (ix trace i16) fun e39 =>
 ob (vP e39) fun r44 =>
 if (!r44) then (oK i16 true) else (oK i16 (e39 == ([116, 97, 117] : bF)))) else (some (.inr (.inl ())))
def uD (trace : (List bF)) : Option Bool :=
 ob (loop (fun (s : Int) => lM trace s) 0) fun r => match r with | .inl r => sV | .inr r => some r
def tM (set : (List bF)) : Option Bool :=
 ob (uD set) fun r7 =>
 some r7
def qK (set : (List bF)) (i21 : Int) : Option (Int ⊕ (Unit ⊕ Bool)) :=
 if (decide (i21 < (set.length : Int))) then (ob (ix set (wr (i21 - 1))) fun e37 =>
 ob (ix set i21) fun e42 =>
 if (!vI e37 e42) then (some (.inr (.inr false))) else (some (.inl (wr (i21 + 1))))) else (some (.inr (.inl ())))
def aBS (set : (List bF)) : Option Bool :=
 ob (loop (fun (s : Int) => qK set s) 1) fun r => match r with | .inl r => tM set | .inr r => some r
def aBb  : Option Int :=
 some (-1)
def yQ (d : dC) (i26 : Int) (v52 : Bool) : Option (Int ⊕ (Unit ⊕ Int)) :=
 if v52 then (ob (ix d.Edges i26) fun e61 =>
 some (.inr (.inr e61.To))) else (some (.inl (wr (i26 + 1))))
def yR (d : dC) (state : Int) (label : bF) (i26 : Int) (v43 : Bool) : Option (Int ⊕ (Unit ⊕ Int)) :=
 if v43 then (ob (ix d.Edges i26) fun e70 =>
 if (e70.From == state) then (ob (ix d.Labels e70.Label) fun e76 =>
 yQ d i26 (e76 == label)) else (yQ d i26 false)) else (some (.inr (.inl ())))
def oD (d : dC) (state : Int) (label : bF) (i26 : Int) : Option (Int ⊕ (Unit ⊕ Int)) :=
 if (decide (i26 < (d.Edges.length : Int))) then (yR d state label i26 (decide (0 ≤ state))) else (yR d state label i26 false)
def aCl (d : dC) (state : Int) (label : bF) : Option Int :=
 ob (loop (fun (s : Int) => oD d state label s) 0) fun r => match r with | .inl r => aBb | .inr r => some r
def aCm (t : dC) (p : dC) (e : Edge) (q : Int) : Option Int :=
 if (e.Label == 0) then (some q) else (ob (ix t.Labels e.Label) fun e26 =>
 ob (aCl p q e26) fun r31 =>
 some r31)
def sF (out28 : List Bool) : Option (List Bool) :=
 some out28
def aAi (out67 : List Bool) (more68 : Bool) : Option ((List Bool × Bool) ⊕ (List Bool)) :=
 some (.inl (out67, more68))
def wD (out75 : List Bool) (more76 : Bool) : Option ((List Bool × Bool) ⊕ (List Bool)) :=
 aAi out75 more76
def aAj (i102 : Int) (out124 : List Bool) (more125 : Bool) : Option ((List Bool × Bool × Int) ⊕ (List Bool × Bool)) :=
 some (.inl (out124, more125, wr (i102 + 1)))
def wE (i102 : Int) (out143 : List Bool) (more144 : Bool) : Option ((List Bool × Bool × Int) ⊕ (List Bool × Bool)) :=
 aAj i102 out143 more144
def kO (q175 : Int) (out201 : List Bool) (more202 : Bool) : Option ((List Bool × Bool × Int) ⊕ (List Bool × Bool)) :=
 some (.inl (out201, more202, wr (q175 + 1)))
def pA (p : dC) (e133 : Edge) (out173 : List Bool) (more174 : Bool) (q175 : Int) (v230 : Bool) : Option ((List Bool × Bool × Int) ⊕ (List Bool × Bool)) :=
 if v230 then (ob (st out173 (wr ((wr (e133.From * p.States)) + q175)) (true : Bool)) fun out245 =>
 kO q175 out245 true) else (kO q175 out173 more174)
def mK (t : dC) (p : dC) (e133 : Edge) (out173 : List Bool) (more174 : Bool) (q175 : Int) : Option ((List Bool × Bool × Int) ⊕ (List Bool × Bool)) :=
 if (decide (q175 < p.States)) then (ob (ix out173 (wr ((wr (e133.From * p.States)) + q175))) fun e216 =>
 if e216 then (kO q175 out173 more174) else (ob (aCm t p e133 q175) fun r225 =>
 if (decide (r225 < 0)) then (pA p e133 out173 more174 q175 true) else (ob (ix out173 (wr ((wr (e133.To * p.States)) + r225))) fun e252 =>
 pA p e133 out173 more174 q175 e252))) else (some (.inr (out173, more174)))
def pB (t : dC) (p : dC) (out100 : List Bool) (more101 : Bool) (i102 : Int) : Option ((List Bool × Bool × Int) ⊕ (List Bool × Bool)) :=
 if (decide (i102 < (t.Edges.length : Int))) then (ob (ix t.Edges i102) fun e133 =>
 ob (loop (fun (s : (List Bool × Bool × Int)) => mK t p e133 s.1 s.2.1 s.2.2) (out100, more101, 0)) fun r => wE i102 r.1 r.2) else (some (.inr (out100, more101)))
def qL (t : dC) (p : dC) (out47 : List Bool) (more48 : Bool) : Option ((List Bool × Bool) ⊕ (List Bool)) :=
 if more48 then (ob (loop (fun (s : (List Bool × Bool × Int)) => pB t p s.1 s.2.1 s.2.2) (out47, false, 0)) fun r => wD r.1 r.2) else (some (.inr out47))
def yS (t : dC) (p : dC) : Option (List Bool) :=
 ob (mkz (wr (t.States * p.States)) (false : Bool)) fun xs23 =>
 ob (loop (fun (s : (List Bool × Bool)) => qL t p s.1 s.2) (xs23, true)) fun r => sF r
def wR (out13 : List Edge) : Option (List Edge) :=
 some out13
def wS (i39 : Int) (out60 : List Edge) : Option ((List Edge × Int) ⊕ (List Edge)) :=
 some (.inl (out60, wr (i39 + 1)))
def tN (t : dC) (k : Int) (out36 : List Edge) (i39 : Int) : Option ((List Edge × Int) ⊕ (List Edge)) :=
 if (decide (i39 < (t.Edges.length : Int))) then (ob (ix t.Edges i39) fun e69 =>
 if (e69.From == k) then (ob (apd out36 ([e69] : List Edge)) fun xs78 =>
 wS i39 xs78) else (wS i39 out36)) else (some (.inr out36))
def aBT (t : dC) (k : Int) : Option (List Edge) :=
 ob (loop (fun (s : (List Edge × Int)) => tN t k s.1 s.2) (([] : List Edge), 0)) fun r => wR r
def uE (out34 : List Bool) : Option (List Bool) :=
 some out34
def aBc (out73 : List Bool) (more74 : Bool) : Option ((List Bool × Bool) ⊕ (List Bool)) :=
 some (.inl (out73, more74))
def xO (out81 : List Bool) (more82 : Bool) : Option ((List Bool × Bool) ⊕ (List Bool)) :=
 aBc out81 more82
def aBd (k108 : Int) (out130 : List Bool) (more131 : Bool) : Option ((List Bool × Bool × Int) ⊕ (List Bool × Bool)) :=
 some (.inl (out130, more131, wr (k108 + 1)))
def xP (k108 : Int) (out145 : List Bool) (more146 : Bool) : Option ((List Bool × Bool × Int) ⊕ (List Bool × Bool)) :=
 aBd k108 out145 more146
def kJ (q177 : Int) (out203 : List Bool) (more204 : Bool) : Option ((List Bool × Bool × Int) ⊕ (List Bool × Bool)) :=
 some (.inl (out203, more204, wr (q177 + 1)))
def uF (p : dC) (k108 : Int) (out175 : List Bool) (more176 : Bool) (q177 : Int) (goes227 : Bool) : Option ((List Bool × Bool × Int) ⊕ (List Bool × Bool)) :=
 if (!goes227) then (ob (ix out175 (wr ((wr (k108 * p.States)) + q177))) fun e240 =>
 ob (st out175 (wr ((wr (k108 * p.States)) + q177)) (false : Bool)) fun out245 =>
 kJ q177 out245 true) else (kJ q177 out175 more176)
def rF (i274 : Int) (goes321 : Bool) : Option ((Bool × Int) ⊕ Bool) :=
 some (.inl (goes321, wr (i274 + 1)))
def oE (t : dC) (p : dC) (r139 : (List Edge)) (out175 : List Bool) (q177 : Int) (goes273 : Bool) (i274 : Int) : Option ((Bool × Int) ⊕ Bool) :=
 if (decide (i274 < (r139.length : Int))) then (ob (ix r139 i274) fun e305 =>
 ob (aCm t p e305 q177) fun r316 =>
 if goes273 then (rF i274 true) else (if (decide (0 ≤ r316)) then (ob (ix out175 (wr ((wr (e305.To * p.States)) + r316))) fun e340 =>
 rF i274 e340) else (rF i274 false))) else (some (.inr goes273))
def pC (t : dC) (p : dC) (k108 : Int) (r139 : (List Edge)) (out175 : List Bool) (more176 : Bool) (q177 : Int) (v214 : Bool) : Option ((List Bool × Bool × Int) ⊕ (List Bool × Bool)) :=
 if v214 then (kJ q177 out175 more176) else (ob (loop (fun (s : (Bool × Int)) => oE t p r139 out175 q177 s.1 s.2) (false, 0)) fun r => uF p k108 out175 more176 q177 r)
def pD (t : dC) (p : dC) (k108 : Int) (r139 : (List Edge)) (out175 : List Bool) (more176 : Bool) (q177 : Int) : Option ((List Bool × Bool × Int) ⊕ (List Bool × Bool)) :=
 if (decide (q177 < p.States)) then (ob (ix out175 (wr ((wr (k108 * p.States)) + q177))) fun e350 =>
 if (!e350) then (pC t p k108 r139 out175 more176 q177 true) else (pC t p k108 r139 out175 more176 q177 ((r139.length : Int) == 0))) else (some (.inr (out175, more176)))
def mL (t : dC) (p : dC) (out106 : List Bool) (more107 : Bool) (k108 : Int) : Option ((List Bool × Bool × Int) ⊕ (List Bool × Bool)) :=
 if (decide (k108 < t.States)) then (ob (aBT t k108) fun r139 =>
 ob (loop (fun (s : (List Bool × Bool × Int)) => pD t p k108 r139 s.1 s.2.1 s.2.2) (out106, more107, 0)) fun r => xP k108 r.1 r.2) else (some (.inr (out106, more107)))
def sG (t : dC) (p : dC) (out53 : List Bool) (more54 : Bool) : Option ((List Bool × Bool) ⊕ (List Bool)) :=
 if more54 then (ob (loop (fun (s : (List Bool × Bool × Int)) => mL t p s.1 s.2.1 s.2.2) (out53, false, 0)) fun r => xO r.1 r.2) else (some (.inr out53))
def sH (t : dC) (p : dC) (out28 : List Bool) : Option (List Bool) :=
 ob (loop (fun (s : (List Bool × Bool)) => sG t p s.1 s.2) (out28, true)) fun r => uE r
def pE (out377 : List Bool) (i378 : Int) : Option ((List Bool × Int) ⊕ (List Bool)) :=
 if (decide (i378 < (out377.length : Int))) then (ob (ix out377 i378) fun e397 =>
 ob (st out377 i378 (true : Bool)) fun out402 =>
 some (.inl (out402, wr (i378 + 1)))) else (some (.inr out377))
def aAA (t : dC) (p : dC) : Option (List Bool) :=
 ob (mkz (wr (t.States * p.States)) (false : Bool)) fun xs23 =>
 ob (loop (fun (s : (List Bool × Int)) => pE s.1 s.2) (xs23, 0)) fun r => sH t p r
def wF (set18 : List Bool) : Option (List Bool) :=
 some set18
def sI (states : (List Int)) (set35 : List Bool) (i36 : Int) : Option ((List Bool × Int) ⊕ (List Bool)) :=
 if (decide (i36 < (states.length : Int))) then (ob (ix states i36) fun e53 =>
 ob (ix set35 e53) fun e58 =>
 ob (st set35 e53 (true : Bool)) fun set63 =>
 some (.inl (set63, wr (i36 + 1)))) else (some (.inr set35))
def yT (t : dC) (states : (List Int)) : Option (List Bool) :=
 ob (mkz t.States (false : Bool)) fun xs13 =>
 ob (loop (fun (s : (List Bool × Int)) => sI states s.1 s.2) (xs13, 0)) fun r => wF r
def wG (set12 : List Bool) : Option (List Bool) :=
 some set12
def aAk (set50 : List Bool) (more52 : Bool) : Option ((List Bool × Bool) ⊕ (List Bool)) :=
 some (.inl (set50, more52))
def wH (set58 : List Bool) (more60 : Bool) : Option ((List Bool × Bool) ⊕ (List Bool)) :=
 aAk set58 more60
def sJ (i86 : Int) (set107 : List Bool) (more109 : Bool) : Option ((List Bool × Bool × Int) ⊕ (List Bool × Bool)) :=
 some (.inl (set107, more109, wr (i86 + 1)))
def pF (set83 : List Bool) (more85 : Bool) (i86 : Int) (e116 : Edge) (v127 : Bool) : Option ((List Bool × Bool × Int) ⊕ (List Bool × Bool)) :=
 if v127 then (ob (ix set83 e116.To) fun e137 =>
 ob (st set83 e116.To (true : Bool)) fun set142 =>
 sJ i86 set142 true) else (sJ i86 set83 more85)
def pG (t : dC) (set83 : List Bool) (more85 : Bool) (i86 : Int) : Option ((List Bool × Bool × Int) ⊕ (List Bool × Bool)) :=
 if (decide (i86 < (t.Edges.length : Int))) then (ob (ix t.Edges i86) fun e116 =>
 if (e116.Label == 0) then (ob (ix set83 e116.From) fun e145 =>
 if e145 then (ob (ix set83 e116.To) fun e149 =>
 pF set83 more85 i86 e116 (!e149)) else (pF set83 more85 i86 e116 false)) else (pF set83 more85 i86 e116 false)) else (some (.inr (set83, more85)))
def pH (t : dC) (set30 : List Bool) (more32 : Bool) : Option ((List Bool × Bool) ⊕ (List Bool)) :=
 if more32 then (ob (loop (fun (s : (List Bool × Bool × Int)) => pG t s.1 s.2.1 s.2.2) (set30, false, 0)) fun r => wH r.1 r.2) else (some (.inr set30))
def vS (t : dC) (set : (List Bool)) : Option (List Bool) :=
 ob (loop (fun (s : (List Bool × Bool)) => pH t s.1 s.2) (set, true)) fun r => wG r
def xQ (out7 : List Int) : Option (List Int) :=
 some out7
def xR (i31 : Int) (out50 : List Int) : Option ((List Int × Int) ⊕ (List Int)) :=
 some (.inl (out50, wr (i31 + 1)))
def uG (row : (List Bool)) (out28 : List Int) (i31 : Int) : Option ((List Int × Int) ⊕ (List Int)) :=
 if (decide (i31 < (row.length : Int))) then (ob (ix row i31) fun e58 =>
 if e58 then (ob (apd out28 ([i31] : List Int)) fun xs67 =>
 xR i31 xs67) else (xR i31 out28)) else (some (.inr out28))
def yB (row : (List Bool)) : Option (List Int) :=
 ob (loop (fun (s : (List Int × Int)) => uG row s.1 s.2) (([] : List Int), 0)) fun r => xQ r
def yU (t : dC) : Option (List Int) :=
 ob (yT t ([t.Initial] : List Int)) fun r18 =>
 ob (vS t r18) fun r26 =>
 ob (yB r26) fun r36 =>
 some r36
def oL (leaves21 : Bool) (stays22 : Bool) : Option Int :=
 if (!leaves21) then (some 1) else (if (!stays22) then (some 2) else (some 0))
def sW (i57 : Int) (leaves85 : Bool) (stays96 : Bool) : Option ((Bool × Bool × Int) ⊕ (Bool × Bool)) :=
 some (.inl (leaves85, stays96, wr (i57 + 1)))
def oM (p : dC) (stay : (List Bool)) (states : (List Int)) (q : Int) (stays56 : Bool) (i57 : Int) (leaves85 : Bool) : Option ((Bool × Bool × Int) ⊕ (Bool × Bool)) :=
 if stays56 then (sW i57 leaves85 true) else (ob (ix states i57) fun e112 =>
 ob (ix stay (wr ((wr (e112 * p.States)) + q))) fun e117 =>
 sW i57 leaves85 e117)
def lN (p : dC) (leave : (List Bool)) (stay : (List Bool)) (states : (List Int)) (q : Int) (leaves55 : Bool) (stays56 : Bool) (i57 : Int) : Option ((Bool × Bool × Int) ⊕ (Bool × Bool)) :=
 if (decide (i57 < (states.length : Int))) then (if leaves55 then (oM p stay states q stays56 i57 true) else (ob (ix states i57) fun e129 =>
 ob (ix leave (wr ((wr (e129 * p.States)) + q))) fun e134 =>
 oM p stay states q stays56 i57 e134)) else (some (.inr (leaves55, stays56)))
def uH (p : dC) (leave : (List Bool)) (stay : (List Bool)) (states : (List Int)) (q : Int) : Option Int :=
 if (decide (q < 0)) then (some 2) else (ob (loop (fun (s : (Bool × Bool × Int)) => lN p leave stay states q s.1 s.2.1 s.2.2) (false, false, 0)) fun r => oL r.1 r.2)
def zW  : Option Bool :=
 some false
def zX (list : (List Int)) (n : Int) (i18 : Int) : Option (Int ⊕ (Unit ⊕ Bool)) :=
 if (decide (i18 < (list.length : Int))) then (ob (ix list i18) fun e34 =>
 if (e34 == n) then (some (.inr (.inr true))) else (some (.inl (wr (i18 + 1))))) else (some (.inr (.inl ())))
def aBU (list : (List Int)) (n : Int) : Option Bool :=
 ob (loop (fun (s : Int) => zX list n s) 0) fun r => match r with | .inl r => zW | .inr r => some r
def uI (t : dC) (set18 : List Bool) : Option (List Int) :=
 ob (vS t set18) fun r24 =>
 ob (yB r24) fun r34 =>
 some r34
def uJ (i59 : Int) (set80 : List Bool) : Option ((List Bool × Int) ⊕ (List Bool)) :=
 some (.inl (set80, wr (i59 + 1)))
def uK (t : dC) (set58 : List Bool) (i59 : Int) (v88 : Bool) : Option ((List Bool × Int) ⊕ (List Bool)) :=
 if v88 then (ob (ix t.Edges i59) fun e98 =>
 ob (ix set58 e98.To) fun e103 =>
 ob (st set58 e98.To (true : Bool)) fun set108 =>
 uJ i59 set108) else (uJ i59 set58)
def rG (t : dC) (states : (List Int)) (label : Int) (set58 : List Bool) (i59 : Int) : Option ((List Bool × Int) ⊕ (List Bool)) :=
 if (decide (i59 < (t.Edges.length : Int))) then (ob (ix t.Edges i59) fun e110 =>
 if (e110.Label == label) then (ob (aBU states e110.From) fun r116 =>
 uK t set58 i59 r116) else (uK t set58 i59 false)) else (some (.inr set58))
def yC (t : dC) (states : (List Int)) (label : Int) : Option (List Int) :=
 ob (mkz t.States (false : Bool)) fun xs13 =>
 ob (loop (fun (s : (List Bool × Int)) => rG t states label s.1 s.2) (xs13, 0)) fun r => uI t r
def xS  : Option Bool :=
 some true
def uL (a : (List Int)) (b : (List Int)) (i23 : Int) : Option (Int ⊕ (Unit ⊕ Bool)) :=
 if (decide (i23 < (a.length : Int))) then (ob (ix a i23) fun e41 =>
 ob (ix b i23) fun e46 =>
 if (e41 != e46) then (some (.inr (.inr false))) else (some (.inl (wr (i23 + 1))))) else (some (.inr (.inl ())))
def aAB (a : (List Int)) (b : (List Int)) : Option Bool :=
 if ((a.length : Int) != (b.length : Int)) then (some false) else (ob (loop (fun (s : Int) => uL a b s) 0) fun r => match r with | .inl r => xS | .inr r => some r)
def uM (t : dC) (sets55 : List (List Int)) (out60 : List Int) (edges63 : List Edge) : Option (dS × Bool) :=
 ob (apd ([] : List bF) t.Labels) fun xs76 =>
 some (⟨⟨(sets55.length : Int), 0, xs76, edges63⟩, out60⟩, true)
def aBe (i142 : Int) (sets186 : List (List Int)) (at191 : List Int) (out194 : List Int) (edges197 : List Edge) : Option ((List (List Int) × List Int × List Int × List Edge × Int) ⊕ ((List (List Int) × List Int × List Edge) ⊕ (dS × Bool))) :=
 some (.inl (sets186, at191, out194, edges197, wr (i142 + 1)))
def xT (i142 : Int) (xs254 : List Int) (sets262 : List (List Int)) (at267 : List Int) (edges270 : List Edge) : Option ((List (List Int) × List Int × List Int × List Edge × Int) ⊕ ((List (List Int) × List Int × List Edge) ⊕ (dS × Bool))) :=
 aBe i142 sets262 at267 xs254 edges270
def uN (k336 : Int) (sets397 : List (List Int)) (at402 : List Int) (edges405 : List Edge) : Option ((List (List Int) × List Int × List Edge × Int) ⊕ ((List (List Int) × List Int × List Edge) ⊕ (dS × Bool))) :=
 some (.inl (sets397, at402, edges405, wr (k336 + 1)))
def uO (k336 : Int) (sets476 : List (List Int)) (at481 : List Int) (xs503 : List Edge) (v509 : Bool) : Option ((List (List Int) × List Int × List Edge × Int) ⊕ ((List (List Int) × List Int × List Edge) ⊕ (dS × Bool))) :=
 if v509 then (some (.inr (.inr (⟨⟨0, 0, [], []⟩, []⟩, false)))) else (uN k336 sets476 at481 xs503)
def rH (i142 : Int) (edges333 : List Edge) (k336 : Int) (sets476 : List (List Int)) (at481 : List Int) (to484 : Int) : Option ((List (List Int) × List Int × List Edge × Int) ⊕ ((List (List Int) × List Int × List Edge) ⊕ (dS × Bool))) :=
 ob (apd edges333 ([⟨i142, k336, to484⟩] : List Edge)) fun xs503 =>
 if (decide (40 < (sets476.length : Int))) then (uO k336 sets476 at481 xs503 true) else (uO k336 sets476 at481 xs503 (decide (300 < (xs503.length : Int))))
def rI (i142 : Int) (sets325 : List (List Int)) (at330 : List Int) (edges333 : List Edge) (k336 : Int) (r434 : (List Int)) (r452 : Int) (to458 : Int) : Option ((List (List Int) × List Int × List Edge × Int) ⊕ ((List (List Int) × List Int × List Edge) ⊕ (dS × Bool))) :=
 if (decide (to458 < 0)) then (ob (apd sets325 ([r434] : List (List Int))) fun xs541 =>
 ob (apd at330 ([r452] : List Int)) fun xs550 =>
 rH i142 edges333 k336 xs541 xs550 (sets325.length : Int)) else (rH i142 edges333 k336 sets325 at330 to458)
def uP (m595 : Int) (to638 : Int) : Option ((Int × Int) ⊕ Int) :=
 some (.inl (to638, wr (m595 + 1)))
def uQ (to594 : Int) (m595 : Int) (v657 : Bool) : Option ((Int × Int) ⊕ Int) :=
 if v657 then (uP m595 m595) else (uP m595 to594)
def mM (sets325 : List (List Int)) (at330 : List Int) (r434 : (List Int)) (r452 : Int) (to594 : Int) (m595 : Int) : Option ((Int × Int) ⊕ Int) :=
 if (decide (m595 < (sets325.length : Int))) then (ob (ix at330 m595) fun e678 =>
 if (e678 == r452) then (ob (ix sets325 m595) fun e681 =>
 ob (aAB e681 r434) fun r697 =>
 uQ to594 m595 r697) else (uQ to594 m595 false)) else (some (.inr to594))
def pI (t : dC) (p : dC) (i142 : Int) (sets325 : List (List Int)) (at330 : List Int) (edges333 : List Edge) (k336 : Int) (v380 : Bool) : Option ((List (List Int) × List Int × List Edge × Int) ⊕ ((List (List Int) × List Int × List Edge) ⊕ (dS × Bool))) :=
 if v380 then (ob (ix sets325 i142) fun e422 =>
 ob (yC t e422 k336) fun r434 =>
 if ((r434.length : Int) == 0) then (uN k336 sets325 at330 edges333) else (ob (ix at330 i142) fun e444 =>
 ob (ix t.Labels k336) fun e447 =>
 ob (aCl p e444 e447) fun r452 =>
 ob (loop (fun (s : (Int × Int)) => mM sets325 at330 r434 r452 s.1 s.2) ((-1), 0)) fun r => rI i142 sets325 at330 edges333 k336 r434 r452 r)) else (some (.inr (.inl (sets325, at330, edges333))))
def iS (t : dC) (p : dC) (i142 : Int) (r242 : Int) (sets325 : List (List Int)) (at330 : List Int) (edges333 : List Edge) (k336 : Int) : Option ((List (List Int) × List Int × List Edge × Int) ⊕ ((List (List Int) × List Int × List Edge) ⊕ (dS × Bool))) :=
 if (decide (k336 < (t.Labels.length : Int))) then (pI t p i142 sets325 at330 edges333 k336 (r242 == 0)) else (pI t p i142 sets325 at330 edges333 k336 false)
def pJ (t : dC) (p : dC) (r22 : (List Bool)) (r28 : (List Bool)) (sets128 : List (List Int)) (at133 : List Int) (out136 : List Int) (edges139 : List Edge) (i142 : Int) : Option ((List (List Int) × List Int × List Int × List Edge × Int) ⊕ ((List (List Int) × List Int × List Edge) ⊕ (dS × Bool))) :=
 if (decide (i142 < (sets128.length : Int))) then (ob (ix sets128 i142) fun e230 =>
 ob (ix at133 i142) fun e239 =>
 ob (uH p r22 r28 e230 e239) fun r242 =>
 ob (apd out136 ([r242] : List Int)) fun xs254 =>
 ob (loop (fun (s : (List (List Int) × List Int × List Edge × Int)) => iS t p i142 r242 s.1 s.2.1 s.2.2.1 s.2.2.2) (sets128, at133, edges139, 1)) fun r => match r with | .inl r => xT i142 xs254 r.1 r.2.1 r.2.2 | .inr r => some (.inr (.inr r))) else (some (.inr (.inl (sets128, out136, edges139))))
def aAC (t : dC) (p : dC) : Option (dS × Bool) :=
 ob (yS t p) fun r22 =>
 ob (aAA t p) fun r28 =>
 ob (yU t) fun r34 =>
 ob (loop (fun (s : (List (List Int) × List Int × List Int × List Edge × Int)) => pJ t p r22 r28 s.1 s.2.1 s.2.2.1 s.2.2.2.1 s.2.2.2.2) (([r34] : List (List Int)), ([p.Initial] : List Int), [], ([] : List Edge), 0)) fun r => match r with | .inl r => uM t r.1 r.2.1 r.2.2 | .inr r => some r
def lV (p : dC) (xs54 : List bF) (t65 : List Edge) : Option (dS × Int) :=
 ob (aAC ⟨1, 0, xs54, t65⟩ p) fun r93 =>
 if (!r93.2) then (some (⟨⟨0, 0, [], []⟩, []⟩, 5)) else (some (r93.1, 0))
def jR (labels : (List bF)) (t140 : List Edge) (i143 : Int) : Option ((List Edge × Int) ⊕ (List Edge)) :=
 if (decide (i143 < (labels.length : Int))) then (ob (apd t140 ([⟨0, wr (i143 + 1), 0⟩] : List Edge)) fun xs169 =>
 some (.inl (xs169, wr (i143 + 1)))) else (some (.inr t140))
def qM (p : dC) (labels : (List bF)) : Option (dS × Int) :=
 ob (aDs p p) fun r21 =>
 if (r21 != 0) then (some (⟨⟨0, 0, [], []⟩, []⟩, r21)) else (ob (aBS labels) fun r33 =>
 if (!r33) then (some (⟨⟨0, 0, [], []⟩, []⟩, 2)) else (if (decide (12 ≤ (labels.length : Int))) then (some (⟨⟨0, 0, [], []⟩, []⟩, 5)) else (ob (apd ([([116, 97, 117] : bF)] : List bF) labels) fun xs54 =>
 ob (loop (fun (s : (List Edge × Int)) => jR labels s.1 s.2) ([], 0)) fun r => lV p xs54 r)))
def uR (out9 : List bF) : Option (List bF) :=
 some out9
def qN (a : (List bF)) (out26 : List bF) (i27 : Int) : Option ((List bF × Int) ⊕ (List bF)) :=
 if (decide (i27 < (a.length : Int))) then (ob (ix a i27) fun e44 =>
 ob (ix out26 i27) fun e49 =>
 ob (st out26 i27 (e44 : bF)) fun out54 =>
 some (.inl (out54, wr (i27 + 1)))) else (some (.inr out26))
def kP (a : (List bF)) : Option (List bF) :=
 ob (mkz (a.length : Int) ([] : bF)) fun xs4 =>
 ob (loop (fun (s : (List bF × Int)) => qN a s.1 s.2) (xs4, 0)) fun r => uR r
def aDt (a : Edge) : Option Edge :=
 some a
def xU (out9 : List Edge) : Option (List Edge) :=
 some out9
def uS (a : (List Edge)) (out26 : List Edge) (i27 : Int) : Option ((List Edge × Int) ⊕ (List Edge)) :=
 if (decide (i27 < (a.length : Int))) then (ob (ix a i27) fun e44 =>
 ob (aDt e44) fun r49 =>
 ob (ix out26 i27) fun e53 =>
 ob (st out26 i27 (⟨r49.From, r49.Label, r49.To⟩ : Edge)) fun out58 =>
 some (.inl (out58, wr (i27 + 1)))) else (some (.inr out26))
def aAD (a : (List Edge)) : Option (List Edge) :=
 ob (mkz (a.length : Int) (⟨0, 0, 0⟩ : Edge)) fun xs4 =>
 ob (loop (fun (s : (List Edge × Int)) => uS a s.1 s.2) (xs4, 0)) fun r => xU r
def zY (a : dC) : Option dC :=
 ob (kP a.Labels) fun r20 =>
 ob (aAD a.Edges) fun r28 =>
 some ⟨a.States, a.Initial, r20, r28⟩
def zZ (v1 : Bool) : Option Bool :=
 some v1
def uT (n : Int) (low : Int) (high : Int) : Option Bool :=
 if (decide (low ≤ n)) then (zZ (decide (n ≤ high))) else (zZ false)
def mN (t : dC) (k : Int) : Option Bool :=
 ob (uT k 0 (wr (t.States - 1))) fun r10 =>
 some r10
def rJ (out4 : List Int) : Option ((List Int) × Bool) :=
 some (out4, true)
def kR (words : (List bF)) (out27 : List Int) (v30 : Int) : Option ((List Int × Int) ⊕ (List Int ⊕ ((List Int) × Bool))) :=
 if (decide (v30 < (words.length : Int))) then (ob (ix words v30) fun e51 =>
 ob (sB e51) fun r56 =>
 if (!r56.2) then (some (.inr (.inr ([], false)))) else (ob (apd out27 ([r56.1] : List Int)) fun xs67 =>
 some (.inl (xs67, wr (v30 + 1))))) else (some (.inr (.inl out27)))
def sK (words : (List bF)) : Option ((List Int) × Bool) :=
 ob (loop (fun (s : (List Int × Int)) => kR words s.1 s.2) ([], 0)) fun r => match r with | .inl r => rJ r | .inr r => some r
def wT (sep : bF) (words9 : List bF) : Option bF :=
 ob (aGM words9 sep) fun r19 =>
 some r19
def tO (list : (List Int)) (words41 : List bF) (v42 : Int) : Option ((List bF × Int) ⊕ (List bF)) :=
 if (decide (v42 < (list.length : Int))) then (ob (ix list v42) fun e63 =>
 ob (tI e63) fun r68 =>
 ob (ix words41 v42) fun e72 =>
 ob (st words41 v42 (r68 : bF)) fun words77 =>
 some (.inl (words77, wr (v42 + 1)))) else (some (.inr words41))
def yV (list : (List Int)) (sep : bF) : Option bF :=
 ob (mkz (list.length : Int) ([] : bF)) fun xs4 =>
 ob (loop (fun (s : (List bF × Int)) => tO list s.1 s.2) (xs4, 0)) fun r => wT sep r
def xV (v1 : Bool) : Option Bool :=
 some v1
def aCn (c : UInt8) : Option Bool :=
 if (decide (48 ≤ (c.toNat : Int))) then (xV (decide ((c.toNat : Int) ≤ 57))) else (xV false)
def aAa (v4 : Bool) : Option Bool :=
 some v4
def wU (s_ : bF) : Option Bool :=
 if (decide (1 ≤ (s_.length : Int))) then (aAa (decide ((s_.length : Int) ≤ 10))) else (aAa false)
def tP (v21 : Int) (v45 : Bool) : Option (Int ⊕ (Unit ⊕ Bool)) :=
 if v45 then (some (.inr (.inr false))) else (some (.inl (wr (v21 + 1))))
def nZ (s_ : bF) (v21 : Int) (letter37 : Bool) : Option (Int ⊕ (Unit ⊕ Bool)) :=
 if (!letter37) then (if (v21 == 0) then (tP v21 true) else (ob (ix s_ v21) fun c57 =>
 ob (aCn c57) fun r59 =>
 tP v21 (!r59))) else (tP v21 false)
def qO (s_ : bF) (v21 : Int) : Option (Int ⊕ (Unit ⊕ Bool)) :=
 if (decide (v21 < (s_.length : Int))) then (ob (ix s_ v21) fun c63 =>
 if (decide (97 ≤ (c63.toNat : Int))) then (nZ s_ v21 (decide ((c63.toNat : Int) ≤ 122))) else (nZ s_ v21 false)) else (some (.inr (.inl ())))
def aBV (s_ : bF) : Option Bool :=
 ob (loop (fun (s : Int) => qO s_ s) 0) fun r => match r with | .inl r => wU s_ | .inr r => some r
def sL (v1 : Bool) : Option Bool :=
 some v1
def yW (s_ : bF) : Option Bool :=
 ob (aBV s_) fun r6 =>
 if r6 then (sL (!(s_ == ([116, 97, 117] : bF)))) else (sL false)
def aCo (n : Int) : Option Bool :=
 ob (uT n 0 63) fun r1 =>
 some r1
def uU (n : Int) : Option Bool :=
 ob (aCo n) fun r1 =>
 some (!r1)
def eX  : Option Int :=
 some (-1)
def dF (s_ : (List Int)) (v20 : Int) : Option (Int ⊕ (Unit ⊕ Int)) :=
 if (decide (v20 < (s_.length : Int))) then (ob (ix s_ v20) fun e38 =>
 ob (uU e38) fun r43 =>
 if r43 then (some (.inr (.inr v20))) else (some (.inl (wr (v20 + 1))))) else (some (.inr (.inl ())))
def fQ (s_ : (List Int)) : Option Int :=
 ob (loop (fun (s : Int) => dF s_ s) 0) fun r => match r with | .inl r => eX | .inr r => some r
def eY (s_ : (List Int)) : Option Bool :=
 ob (fQ s_) fun r4 =>
 some (decide (0 ≤ r4))
def wV (list : (List Int)) : Option Bool :=
 ob (eY list) fun r4 =>
 some (!r4)
def rK (name : bF) (values : (List Int)) (v6 : Bool) : Option (bF × Bool) :=
 if v6 then (some (([] : bF), false)) else (if ((values.length : Int) == 0) then (some (name, true)) else (ob (cat name ([40] : bF)) fun s16 =>
 ob (yV values ([44] : bF)) fun r18 =>
 ob (cat s16 r18) fun s22 =>
 ob (cat s22 ([41] : bF)) fun s24 =>
 some (s24, true)))
def aAE (name : bF) (values : (List Int)) : Option (bF × Bool) :=
 if (name == ([116, 97, 117] : bF)) then (some (([116, 97, 117] : bF), (values.length : Int) == 0)) else (ob (yW name) fun r27 =>
 if (!r27) then (rK name values true) else (if (decide (2 < (values.length : Int))) then (rK name values true) else (ob (wV values) fun r34 =>
 rK name values (!r34))))
def eF (v1 : Bool) : Option Bool :=
 some v1
def fY (s_ : bF) (suffix : bF) : Option Bool :=
 if (decide ((suffix.length : Int) ≤ (s_.length : Int))) then (ob (vY s_ (wr ((s_.length : Int) - (suffix.length : Int))) (s_.length : Int)) fun r7 =>
 eF (r7 == suffix)) else (eF false)
def fR (s_ : bF) (suffix : bF) : Option bF :=
 ob (fY s_ suffix) fun r1 =>
 if r1 then (ob (vY s_ 0 (wr ((s_.length : Int) - (suffix.length : Int)))) fun r6 =>
 some r6) else (some s_)
def jN (s_ : bF) (suffix : bF) : Option bF :=
 ob (fR s_ suffix) fun r1 =>
 some r1
def nC (r1 : (bF × bF × Bool)) (values5 : List Int) (v23 : Bool) : Option (bF × (List Int) × Bool) :=
 if v23 then (some (([] : bF), [], false)) else (some (r1.1, values5, true))
def nD (s_ : bF) (r1 : (bF × bF × Bool)) (values5 : List Int) : Option (bF × (List Int) × Bool) :=
 ob (aAE r1.1 values5) fun r18 =>
 if (!r18.2) then (nC r1 values5 true) else (nC r1 values5 (!(r18.1 == s_)))
def aAb (s_ : bF) : Option (bF × (List Int) × Bool) :=
 ob (l_Cut s_ ([40] : bF)) fun r1 =>
 if r1.2.2 then (ob (jN r1.2.1 ([41] : bF)) fun r35 =>
 ob (aDm r35 ([44] : bF)) fun r39 =>
 ob (sK r39) fun r50 =>
 if (!r50.2) then (some (([] : bF), [], false)) else (nD s_ r1 r50.1)) else (nD s_ r1 [])
def yD (s_ : bF) : Option Bool :=
 ob (aAb s_) fun r1 =>
 some r1.2.2
def aDu (i : Int) (many : Int) : Option Bool :=
 ob (uT i 0 (wr (many - 1))) fun r1 =>
 some r1
def kX (x_ : Int) : Option Bool :=
 some (x_ != x_)
def gM (x_ : Int) (y : Int) : Option Int :=
 ob (kX x_) fun r1 =>
 ob (kX y) fun r5 =>
 if r1 then (if r5 then (some 0) else (some (-1))) else (if r5 then (some 1) else (if (decide (x_ < y)) then (some (-1)) else (if (decide (y < x_)) then (some 1) else (some 0))))
def nE  : Option Int :=
 some 0
def fS (vals : (List Int)) (v21 : Int) : Option (Int ⊕ (Unit ⊕ Int)) :=
 if (decide (v21 < (vals.length : Int))) then (ob (ix vals v21) fun e39 =>
 if (e39 != 0) then (some (.inr (.inr e39))) else (some (.inl (wr (v21 + 1))))) else (some (.inr (.inl ())))
def sM (vals : (List Int)) : Option Int :=
 ob (loop (fun (s : Int) => fS vals s) 0) fun r => match r with | .inl r => nE | .inr r => some r
def qP (a : Edge) (b : Edge) : Option Int :=
 ob (gM a.From b.From) fun r21 =>
 ob (gM a.Label b.Label) fun r25 =>
 ob (gM a.To b.To) fun r29 =>
 ob (sM ([r21, r25, r29] : List Int)) fun r41 =>
 some r41
def wI  : Option Bool :=
 some true
def kQ (v36 : Int) (v64 : Bool) : Option (Int ⊕ (Unit ⊕ Bool)) :=
 if v64 then (some (.inr (.inr false))) else (some (.inl (wr (v36 + 1))))
def pK (t : dC) (v36 : Int) : Option (Int ⊕ (Unit ⊕ Bool)) :=
 if (decide (v36 < (t.Edges.length : Int))) then (ob (ix t.Edges v36) fun e54 =>
 ob (mN t e54.From) fun r77 =>
 if (!r77) then (kQ v36 true) else (ob (mN t e54.To) fun r84 =>
 if (!r84) then (kQ v36 true) else (ob (aDu e54.Label (t.Labels.length : Int)) fun r91 =>
 if (!r91) then (kQ v36 true) else (if (decide (0 < v36)) then (ob (ix t.Edges (wr (v36 - 1))) fun e99 =>
 ob (qP e99 e54) fun r104 =>
 kQ v36 (decide (0 ≤ r104))) else (kQ v36 false))))) else (some (.inr (.inl ())))
def sN (t : dC) : Option Bool :=
 ob (loop (fun (s : Int) => pK t s) 0) fun r => match r with | .inl r => wI | .inr r => some r
def mO (v128 : Int) (v151 : Bool) : Option (Int ⊕ (Unit ⊕ Bool)) :=
 if v151 then (some (.inr (.inr false))) else (some (.inl (wr (v128 + 1))))
def pL (t : dC) (v128 : Int) : Option (Int ⊕ (Unit ⊕ Bool)) :=
 if (decide (v128 < (t.Labels.length : Int))) then (ob (ix t.Labels v128) fun e146 =>
 ob (yD e146) fun r162 =>
 if (!r162) then (mO v128 true) else (if ((e146 == ([116, 97, 117] : bF)) != (v128 == 0)) then (mO v128 true) else (if (decide (1 < v128)) then (ob (ix t.Labels (wr (v128 - 1))) fun e170 =>
 mO v128 (vI e146 e170 || e146 == e170)) else (mO v128 false)))) else (some (.inr (.inl ())))
def mP (t : dC) (v10 : Bool) : Option Bool :=
 if v10 then (some false) else (ob (loop (fun (s : Int) => pL t s) 0) fun r => match r with | .inl r => sN t | .inr r => some r)
def mQ (t : dC) : Option Bool :=
 ob (uT t.States 1 40) fun r178 =>
 if (!r178) then (mP t true) else (ob (mN t t.Initial) fun r184 =>
 if (!r184) then (mP t true) else (ob (uT (t.Labels.length : Int) 1 12) fun r190 =>
 if (!r190) then (mP t true) else (mP t (decide (300 < (t.Edges.length : Int))))))
def jS  : Option Bool :=
 some true
def fE (v32 : Int) (v60 : Bool) : Option (Int ⊕ (Unit ⊕ Bool)) :=
 if v60 then (some (.inr (.inr false))) else (some (.inl (wr (v32 + 1))))
def gD (t : dC) (v32 : Int) : Option (Int ⊕ (Unit ⊕ Bool)) :=
 if (decide (v32 < (t.Edges.length : Int))) then (ob (ix t.Edges v32) fun e50 =>
 if (e50.Label == 0) then (fE v32 true) else (if (decide (0 < v32)) then (ob (ix t.Edges (wr (v32 - 1))) fun e77 =>
 if (e77.From == e50.From) then (fE v32 (e77.Label == e50.Label)) else (fE v32 false)) else (fE v32 false))) else (some (.inr (.inl ())))
def iH (t : dC) : Option Bool :=
 ob (mQ t) fun r10 =>
 if (!r10) then (some false) else (ob (loop (fun (s : Int) => gD t s) 0) fun r => match r with | .inl r => jS | .inr r => some r)
def uV (s_ : bF) : Option Bool :=
 ob (yD s_) fun r1 =>
 some (!r1)
def eP  : Option Int :=
 some (-1)
def dA (s_ : (List bF)) (v20 : Int) : Option (Int ⊕ (Unit ⊕ Int)) :=
 if (decide (v20 < (s_.length : Int))) then (ob (ix s_ v20) fun e38 =>
 ob (uV e38) fun r43 =>
 if r43 then (some (.inr (.inr v20))) else (some (.inl (wr (v20 + 1))))) else (some (.inr (.inl ())))
def fG (s_ : (List bF)) : Option Int :=
 ob (loop (fun (s : Int) => dA s_ s) 0) fun r => match r with | .inl r => eP | .inr r => some r
def eQ (s_ : (List bF)) : Option Bool :=
 ob (fG s_) fun r4 =>
 some (decide (0 ≤ r4))
def wW (labels : (List bF)) : Option Bool :=
 ob (eQ labels) fun r4 =>
 some (!r4)
def fI  : Option Int :=
 some (-1)
def dM (s_ : (List bF)) (v_ : bF) (v20 : Int) : Option (Int ⊕ (Unit ⊕ Int)) :=
 if (decide (v20 < (s_.length : Int))) then (ob (ix s_ v20) fun e38 =>
 if (v_ == e38) then (some (.inr (.inr v20))) else (some (.inl (wr (v20 + 1))))) else (some (.inr (.inl ())))
def dZ (s_ : (List bF)) (v_ : bF) : Option Int :=
 ob (loop (fun (s : Int) => dM s_ v_ s) 0) fun r => match r with | .inl r => fI | .inr r => some r
def eH (s_ : (List bF)) (v_ : bF) : Option Bool :=
 ob (dZ s_ v_) fun r4 =>
 some (decide (0 ≤ r4))
def sX (v4 : Bool) : Option Bool :=
 some v4
def uW (trace : (List bF)) : Option Bool :=
 ob (wW trace) fun r9 =>
 if r9 then (ob (eH trace ([116, 97, 117] : bF)) fun r14 =>
 sX (!r14)) else (sX false)
def yX (set : (List bF)) : Option Bool :=
 ob (uW set) fun r7 =>
 some r7
def yY (v25 : Int) (v48 : Bool) : Option (Int ⊕ (Unit ⊕ Bool)) :=
 if v48 then (some (.inr (.inr false))) else (some (.inl (wr (v25 + 1))))
def vT (set : (List bF)) (v25 : Int) : Option (Int ⊕ (Unit ⊕ Bool)) :=
 if (decide (v25 < (set.length : Int))) then (ob (ix set v25) fun e43 =>
 if (decide (0 < v25)) then (ob (ix set (wr (v25 - 1))) fun e60 =>
 yY v25 (vI e43 e60 || e43 == e60)) else (yY v25 false)) else (some (.inr (.inl ())))
def aDv (set : (List bF)) : Option Bool :=
 ob (loop (fun (s : Int) => vT set s) 0) fun r => match r with | .inl r => yX set | .inr r => some r
def sY (a : bF) (b : bF) : Option Int :=
 if (a == b) then (some 0) else (if (a == ([116, 97, 117] : bF)) then (some (-1)) else (if (b == ([116, 97, 117] : bF)) then (some 1) else (ob (aGr a b) fun r7 =>
 some r7)))
def eB (s_ : (List Edge)) : Option (List Edge) :=
 some s_
def eC (k18 : Int) : Option (Int ⊕ (Unit ⊕ (List Edge))) :=
 some (.inl (wr (k18 + 1)))
def eD (s52 : List Edge) (k53 : Int) : Option (Int ⊕ (Unit ⊕ (List Edge))) :=
 ob (vY s52 k53 (s52.length : Int)) fun r58 =>
 ob (ovw s52 k53 (List.replicate r58.length (⟨0, 0, 0⟩ : Edge))) fun xs64 =>
 ob (vY xs64 0 k53) fun r68 =>
 some (.inr (.inr r68))
def eE (k294 : Int) (s114 : List Edge) (k115 : Int) : Option ((List Edge × Int × Int) ⊕ (List Edge × Int)) :=
 some (.inl (s114, k115, wr (k294 + 1)))
def fJ (k18 : Int) (r46 : List Edge) (s92 : List Edge) (k93 : Int) (k294 : Int) : Option ((List Edge × Int × Int) ⊕ (List Edge × Int)) :=
 if (decide (k294 < (r46.length : Int))) then (ob (ix r46 k294) fun e124 =>
 ob (ix s92 (k18 + k294)) fun e126 =>
 ob (ix r46 (wr (k294 - 1))) fun e128 =>
 ob (ix s92 (k18 + (wr (k294 - 1)))) fun e130 =>
 if (!decide ((e126 : Edge) = e130)) then (ob (ix s92 k93) fun e135 =>
 ob (st s92 k93 (⟨e126.From, e126.Label, e126.To⟩ : Edge)) fun s139 =>
 eE k294 s139 (wr (k93 + 1))) else (eE k294 s92 k93)) else (some (.inr (s92, k93)))
def cP (s_ : (List Edge)) (k18 : Int) : Option (Int ⊕ (Unit ⊕ (List Edge))) :=
 if (decide (k18 < (s_.length : Int))) then (ob (ix s_ k18) fun e38 =>
 ob (ix s_ (wr (k18 - 1))) fun e41 =>
 if (decide ((e38 : Edge) = e41)) then (ob (vY s_ k18 (s_.length : Int)) fun r46 =>
 ob (loop (fun (s : (List Edge × Int × Int)) => fJ k18 r46 s.1 s.2.1 s.2.2) (s_, k18, 1)) fun r => eD r.1 r.2) else (eC k18)) else (some (.inr (.inl ())))
def dO (s_ : (List Edge)) : Option (List Edge) :=
 if (decide ((s_.length : Int) < 2)) then (some s_) else (ob (loop (fun (s : Int) => cP s_ s) 1) fun r => match r with | .inl r => eB s_ | .inr r => some r)
def eZ (s_ : (List bF)) : Option (List bF) :=
 some s_
def fA (k18 : Int) : Option (Int ⊕ (Unit ⊕ (List bF))) :=
 some (.inl (wr (k18 + 1)))
def dX (s52 : List bF) (k53 : Int) : Option (Int ⊕ (Unit ⊕ (List bF))) :=
 ob (vY s52 k53 (s52.length : Int)) fun r58 =>
 ob (ovw s52 k53 (List.replicate r58.length ([] : bF))) fun xs64 =>
 ob (vY xs64 0 k53) fun r68 =>
 some (.inr (.inr r68))
def dY (k294 : Int) (s114 : List bF) (k115 : Int) : Option ((List bF × Int × Int) ⊕ (List bF × Int)) :=
 some (.inl (s114, k115, wr (k294 + 1)))
def dG (k18 : Int) (r46 : List bF) (s92 : List bF) (k93 : Int) (k294 : Int) : Option ((List bF × Int × Int) ⊕ (List bF × Int)) :=
 if (decide (k294 < (r46.length : Int))) then (ob (ix r46 k294) fun e124 =>
 ob (ix s92 (k18 + k294)) fun e126 =>
 ob (ix r46 (wr (k294 - 1))) fun e128 =>
 ob (ix s92 (k18 + (wr (k294 - 1)))) fun e130 =>
 if (!(e126 == e130)) then (ob (ix s92 k93) fun e135 =>
 ob (st s92 k93 (e126 : bF)) fun s139 =>
 dY k294 s139 (wr (k93 + 1))) else (dY k294 s92 k93)) else (some (.inr (s92, k93)))
def dH (s_ : (List bF)) (k18 : Int) : Option (Int ⊕ (Unit ⊕ (List bF))) :=
 if (decide (k18 < (s_.length : Int))) then (ob (ix s_ k18) fun e38 =>
 ob (ix s_ (wr (k18 - 1))) fun e41 =>
 if (e38 == e41) then (ob (vY s_ k18 (s_.length : Int)) fun r46 =>
 ob (loop (fun (s : (List bF × Int × Int)) => dG k18 r46 s.1 s.2.1 s.2.2) (s_, k18, 1)) fun r => dX r.1 r.2) else (fA k18)) else (some (.inr (.inl ())))
def eI (s_ : (List bF)) : Option (List bF) :=
 if (decide ((s_.length : Int) < 2)) then (some s_) else (ob (loop (fun (s : Int) => dH s_ s) 1) fun r => match r with | .inl r => eZ s_ | .inr r => some r)
def aBW (states : Int) (initial : Int) (r32 : (List bF)) (out40 : List Edge) : Option dC :=
 ob (yJ out40) fun r48 =>
 ob (dO r48) fun r55 =>
 some ⟨states, initial, r32, r55⟩
def aAF (arcs : (List lL)) (r32 : (List bF)) (out84 : List Edge) (v87 : Int) : Option ((List Edge × Int) ⊕ (List Edge)) :=
 if (decide (v87 < (arcs.length : Int))) then (ob (ix arcs v87) fun e110 =>
 ob (dZ r32 e110.label) fun r139 =>
 ob (apd out84 ([⟨e110.from_, r139, e110.to_⟩] : List Edge)) fun xs147 =>
 some (.inl (xs147, wr (v87 + 1)))) else (some (.inr out84))
def aEt (states : Int) (initial : Int) (labels : (List bF)) (arcs : (List lL)) : Option dC :=
 ob (apd ([([116, 97, 117] : bF)] : List bF) labels) fun xs13 =>
 ob (aAt xs13) fun r25 =>
 ob (eI r25) fun r32 =>
 ob (loop (fun (s : (List Edge × Int)) => aAF arcs r32 s.1 s.2) ([], 0)) fun r => aBW states initial r32 r
def lW (p : dC) (v19 : Bool) : Option Int :=
 if v19 then (some 1) else (ob (iH p) fun r26 =>
 if (!r26) then (some 6) else (some 0))
def uX (t : dC) (p : dC) : Option Int :=
 ob (mQ t) fun r33 =>
 if (!r33) then (lW p true) else (ob (mQ p) fun r38 =>
 lW p (!r38))
def fZ  : Option Int :=
 some (-1)
def dV (s_ : (List Int)) (v_ : Int) (v20 : Int) : Option (Int ⊕ (Unit ⊕ Int)) :=
 if (decide (v20 < (s_.length : Int))) then (ob (ix s_ v20) fun e38 =>
 if (v_ == e38) then (some (.inr (.inr v20))) else (some (.inl (wr (v20 + 1))))) else (some (.inr (.inl ())))
def fH (s_ : (List Int)) (v_ : Int) : Option Int :=
 ob (loop (fun (s : Int) => dV s_ v_ s) 0) fun r => match r with | .inl r => fZ | .inr r => some r
def dW (s_ : (List Int)) (v_ : Int) : Option Bool :=
 ob (fH s_ v_) fun r4 =>
 some (decide (0 ≤ r4))
def fK (s_ : (List Int)) : Option (List Int) :=
 some s_
def iE (k18 : Int) : Option (Int ⊕ (Unit ⊕ (List Int))) :=
 some (.inl (wr (k18 + 1)))
def fL (s52 : List Int) (k53 : Int) : Option (Int ⊕ (Unit ⊕ (List Int))) :=
 ob (vY s52 k53 (s52.length : Int)) fun r58 =>
 ob (ovw s52 k53 (List.replicate r58.length (0 : Int))) fun xs64 =>
 ob (vY xs64 0 k53) fun r68 =>
 some (.inr (.inr r68))
def fM (k294 : Int) (s114 : List Int) (k115 : Int) : Option ((List Int × Int × Int) ⊕ (List Int × Int)) :=
 some (.inl (s114, k115, wr (k294 + 1)))
def iF (k18 : Int) (r46 : List Int) (s92 : List Int) (k93 : Int) (k294 : Int) : Option ((List Int × Int × Int) ⊕ (List Int × Int)) :=
 if (decide (k294 < (r46.length : Int))) then (ob (ix r46 k294) fun e124 =>
 ob (ix s92 (k18 + k294)) fun e126 =>
 ob (ix r46 (wr (k294 - 1))) fun e128 =>
 ob (ix s92 (k18 + (wr (k294 - 1)))) fun e130 =>
 if (e126 != e130) then (ob (ix s92 k93) fun e135 =>
 ob (st s92 k93 (e126 : Int)) fun s139 =>
 fM k294 s139 (wr (k93 + 1))) else (fM k294 s92 k93)) else (some (.inr (s92, k93)))
def iG (s_ : (List Int)) (k18 : Int) : Option (Int ⊕ (Unit ⊕ (List Int))) :=
 if (decide (k18 < (s_.length : Int))) then (ob (ix s_ k18) fun e38 =>
 ob (ix s_ (wr (k18 - 1))) fun e41 =>
 if (e38 == e41) then (ob (vY s_ k18 (s_.length : Int)) fun r46 =>
 ob (loop (fun (s : (List Int × Int × Int)) => iF k18 r46 s.1 s.2.1 s.2.2) (s_, k18, 1)) fun r => fL r.1 r.2) else (iE k18)) else (some (.inr (.inl ())))
def eU (s_ : (List Int)) : Option (List Int) :=
 if (decide ((s_.length : Int) < 2)) then (some s_) else (ob (loop (fun (s : Int) => iG s_ s) 1) fun r => match r with | .inl r => fK s_ | .inr r => some r)
def oN (out13 : List Int) : Option (List Int) :=
 ob (xZ out13) fun r20 =>
 ob (eU r20) fun r26 =>
 some r26
def oO (v58 : Int) (out85 : List Int) : Option ((List Int × Int) ⊕ (List Int)) :=
 some (.inl (out85, wr (v58 + 1)))
def oP (out55 : List Int) (v58 : Int) (e97 : Edge) (v107 : Bool) : Option ((List Int × Int) ⊕ (List Int)) :=
 if v107 then (ob (apd out55 ([e97.To] : List Int)) fun xs123 =>
 oO v58 xs123) else (oO v58 out55)
def lO (t : dC) (states : (List Int)) (label : bF) (out55 : List Int) (v58 : Int) : Option ((List Int × Int) ⊕ (List Int)) :=
 if (decide (v58 < (t.Edges.length : Int))) then (ob (ix t.Edges v58) fun e97 =>
 ob (ix t.Labels e97.Label) fun e129 =>
 if (e129 == label) then (ob (dW states e97.From) fun r135 =>
 oP out55 v58 e97 r135) else (oP out55 v58 e97 false)) else (some (.inr out55))
def lX (t : dC) (states : (List Int)) (label : bF) : Option (List Int) :=
 ob (loop (fun (s : (List Int × Int)) => lO t states label s.1 s.2) ([], 0)) fun r => oN r
def tC (t : dC) (k : Int) (label : bF) : Option Int :=
 if (decide (k < 0)) then (some (-1)) else (ob (lX t ([k] : List Int) label) fun r20 =>
 if (decide (0 < (r20.length : Int))) then (ob (ix r20 0) fun e28 =>
 some e28) else (some (-1)))
def uY (out10 : List Edge) : Option (List Edge) :=
 some out10
def uZ (v38 : Int) (out61 : List Edge) : Option ((List Edge × Int) ⊕ (List Edge)) :=
 some (.inl (out61, wr (v38 + 1)))
def rL (t : dC) (k : Int) (out35 : List Edge) (v38 : Int) : Option ((List Edge × Int) ⊕ (List Edge)) :=
 if (decide (v38 < (t.Edges.length : Int))) then (ob (ix t.Edges v38) fun e71 =>
 if (e71.From == k) then (ob (apd out35 ([e71] : List Edge)) fun xs85 =>
 uZ v38 xs85) else (uZ v38 out35)) else (some (.inr out35))
def vU (t : dC) (k : Int) : Option (List Edge) :=
 ob (loop (fun (s : (List Edge × Int)) => rL t k s.1 s.2) ([], 0)) fun r => uY r
def gG (newslice25 : List Bool) : Option (List Bool) :=
 some newslice25
def eV (newslice41 : List Bool) (n42 : Int) : Option ((List Bool × Int) ⊕ (List Bool)) :=
 if (decide (n42 < (newslice41.length : Int))) then (ob (vY newslice41 n42 (newslice41.length : Int)) fun r61 =>
 ob (vY newslice41 0 n42) fun r67 =>
 ob (ovw newslice41 n42 (List.take (Nat.min r67.length r61.length) r67)) fun xs73 =>
 some (.inl (xs73, wr (n42 + ((Nat.min r67.length r61.length) : Int))))) else (some (.inr newslice41))
def gH (x_ : (List Bool)) (r8 : (Int × Int)) : Option (List Bool) :=
 ob (mkz (wr r8.2) (false : Bool)) fun xs16 =>
 ob (ovw xs16 0 (List.take (Nat.min x_.length xs16.length) x_)) fun xs21 =>
 ob (loop (fun (s : (List Bool × Int)) => eV s.1 s.2) (xs21, ((Nat.min x_.length xs16.length) : Int))) fun r => gG r
def eW (x_ : (List Bool)) (r8 : (Int × Int)) (v80 : Bool) : Option (List Bool) :=
 if v80 then (none) else (gH x_ r8)
def gI (x_ : (List Bool)) (count : Int) : Option (List Bool) :=
 ob (l_Mul (aDO (x_.length : Int)) (aDO count)) fun r8 =>
 if (decide (0 < r8.1)) then (eW x_ r8 true) else (eW x_ r8 (decide (9223372036854775807 < r8.2)))
def eM (x_ : (List Bool)) (count : Int) : Option (List Bool) :=
 if (decide (count < 0)) then (none) else (gI x_ count)
def jT (v7 : Bool) : Option Bool :=
 some v7
def iI (v_ : Int) (w_ : Int) (p : (List (List Bool))) : Option Bool :=
 if (decide (0 ≤ w_)) then (ob (ix p v_) fun e13 =>
 ob (ix e13 w_) fun e21 =>
 jT e21) else (jT false)
def jA (v10 : Bool) : Option Bool :=
 some v10
def kK (v_ : Int) (w_ : Int) (p_c0_ : (List (List Bool))) : Option Bool :=
 if (decide (w_ < 0)) then (jA true) else (ob (iI v_ w_ p_c0_) fun r16 =>
 jA r16)
def lY (p14 : Bool) : Option Bool :=
 some p14
def jU (v_ : Int) (w_ : Int) (p : Bool) (p_c0_c0_ : (List (List Bool))) : Option Bool :=
 if p then (lY true) else (ob (kK v_ w_ p_c0_c0_) fun r21 =>
 lY r21)
def mV (do_c035 : Bool) : Option Bool :=
 some do_c035
def kF (v58 : Int) (do_c081 : Bool) : Option ((Bool × Int) ⊕ Bool) :=
 some (.inl (do_c081, wr (v58 + 1)))
def iY (o : cO) (y : Int) (do_c1_c0_c0_ : (List (List Bool))) (r29 : (List Edge)) (do_c057 : Bool) (v58 : Int) : Option ((Bool × Int) ⊕ Bool) :=
 if (decide (v58 < (r29.length : Int))) then (ob (ix r29 v58) fun e90 =>
 if (e90.Label == 0) then (ob (jU e90.To y do_c057 do_c1_c0_c0_) fun r100 =>
 kF v58 r100) else (ob (ix o.t.Labels e90.Label) fun e118 =>
 ob (tC o.p y e118) fun r123 =>
 ob (jU e90.To r123 do_c057 do_c1_c0_c0_) fun r128 =>
 kF v58 r128)) else (some (.inr do_c057))
def nF (o : cO) (x_ : Int) (y : Int) (do_c0_ : Bool) (do_c1_c0_c0_ : (List (List Bool))) : Option Bool :=
 ob (vU o.t x_) fun r29 =>
 ob (loop (fun (s : (Bool × Int)) => iY o y do_c1_c0_c0_ r29 s.1 s.2) (do_c0_, 0)) fun r => mV r
def vA (o : cO) (x_ : Int) (y : Int) (is_c0_c0_ : (List (List Bool))) : Option Bool :=
 ob (nF o x_ y false is_c0_c0_) fun r39 =>
 some r39
def kG (x_ : Int) (y : Int) (has_c0_ : (List (List Bool))) (p : cO) : Option Bool :=
 ob (vA p x_ y has_c0_) fun r30 =>
 some r30
def jO (m49 : List (List Bool)) : Option (List (List Bool)) :=
 some m49
def qQ (m100 : List (List Bool)) (again103 : Bool) : Option ((List (List Bool) × Bool) ⊕ (List (List Bool))) :=
 some (.inl (m100, again103))
def lZ (m111 : List (List Bool)) (again114 : Bool) : Option ((List (List Bool) × Bool) ⊕ (List (List Bool))) :=
 qQ m111 again114
def qR (v149 : Int) (m177 : List (List Bool)) (again180 : Bool) : Option ((List (List Bool) × Bool × Int) ⊕ (List (List Bool) × Bool)) :=
 some (.inl (m177, again180, wr (v149 + 1)))
def mA (v149 : Int) (m196 : List (List Bool)) (again199 : Bool) : Option ((List (List Bool) × Bool × Int) ⊕ (List (List Bool) × Bool)) :=
 qR v149 m196 again199
def jP (v242 : Int) (m276 : List (List Bool)) (again279 : Bool) : Option ((List (List Bool) × Bool × Int) ⊕ (List (List Bool) × Bool)) :=
 some (.inl (m276, again279, wr (v242 + 1)))
def jQ (begin : Bool) (v149 : Int) (m238 : List (List Bool)) (again241 : Bool) (v242 : Int) (v292 : Bool) : Option ((List (List Bool) × Bool × Int) ⊕ (List (List Bool) × Bool)) :=
 if v292 then (ob (ix m238 v149) fun e308 =>
 ob (ix e308 v242) fun e313 =>
 ob (st e308 v242 (!begin : Bool)) fun row318 =>
 ob (st m238 v149 row318) fun m320 =>
 jP v242 m320 true) else (jP v242 m238 again241)
def iJ (begin : Bool) (change_c0_ : cO) (v149 : Int) (e190 : (List Bool)) (m238 : List (List Bool)) (again241 : Bool) (v242 : Int) : Option ((List (List Bool) × Bool × Int) ⊕ (List (List Bool) × Bool)) :=
 if (decide (v242 < (e190.length : Int))) then (ob (ix m238 v149) fun e325 =>
 ob (ix e325 v242) fun e330 =>
 if (e330 == begin) then (ob (kG v149 v242 m238 change_c0_) fun r345 =>
 jQ begin v149 m238 again241 v242 r345) else (jQ begin v149 m238 again241 v242 false)) else (some (.inr (m238, again241)))
def iK (begin : Bool) (change_c0_ : cO) (m74 : List (List Bool)) (m145 : List (List Bool)) (again148 : Bool) (v149 : Int) : Option ((List (List Bool) × Bool × Int) ⊕ (List (List Bool) × Bool)) :=
 if (decide (v149 < (m74.length : Int))) then (ob (ix m145 v149) fun e190 =>
 ob (loop (fun (s : (List (List Bool) × Bool × Int)) => iJ begin change_c0_ v149 e190 s.1 s.2.1 s.2.2) (m145, again148, 0)) fun r => mA v149 r.1 r.2) else (some (.inr (m145, again148)))
def jC (begin : Bool) (change_c0_ : cO) (m74 : List (List Bool)) (again77 : Bool) : Option ((List (List Bool) × Bool) ⊕ (List (List Bool))) :=
 if again77 then (ob (loop (fun (s : (List (List Bool) × Bool × Int)) => iK begin change_c0_ m74 s.1 s.2.1 s.2.2) (m74, false, 0)) fun r => lZ r.1 r.2) else (some (.inr m74))
def jD (begin : Bool) (change_c0_ : cO) (m41 : List (List Bool)) : Option (List (List Bool)) :=
 ob (loop (fun (s : (List (List Bool) × Bool)) => jC begin change_c0_ s.1 s.2) (m41, true)) fun r => jO r
def gW (o : cO) (begin : Bool) (xs31 : List (List Bool)) (m382 : List (List Bool)) (v385 : Int) : Option ((List (List Bool) × Int) ⊕ (List (List Bool))) :=
 if (decide (v385 < (xs31.length : Int))) then (ob (eM ([begin] : List Bool) o.p.States) fun r432 =>
 ob (ix m382 v385) fun e439 =>
 ob (st m382 v385 r432) fun m450 =>
 some (.inl (m450, wr (v385 + 1)))) else (some (.inr m382))
def pV (o : cO) (begin : Bool) (change_c0_ : cO) : Option (List (List Bool)) :=
 ob (mkz o.t.States ([] : (List Bool))) fun xs31 =>
 ob (loop (fun (s : (List (List Bool) × Int)) => gW o begin xs31 s.1 s.2) (xs31, 0)) fun r => jD begin change_c0_ r
def nG (o : cO) : Option (List (List Bool)) :=
 ob (pV o false o) fun r21 =>
 some r21
def jV (p11 : Bool) : Option Bool :=
 some p11
def iL (v_ : Int) (w_ : Int) (p : Bool) (p_c0_ : (List (List Bool))) : Option Bool :=
 if p then (jV true) else (ob (iI v_ w_ p_c0_) fun r18 =>
 jV r18)
def kL (do_c032 : Bool) : Option Bool :=
 some do_c032
def iW (v55 : Int) (do_c078 : Bool) : Option ((Bool × Int) ⊕ Bool) :=
 some (.inl (do_c078, wr (v55 + 1)))
def gN (o : cO) (y : Int) (do_c1_c0_ : (List (List Bool))) (r26 : (List Edge)) (do_c054 : Bool) (v55 : Int) : Option ((Bool × Int) ⊕ Bool) :=
 if (decide (v55 < (r26.length : Int))) then (ob (ix r26 v55) fun e87 =>
 if (e87.Label == 0) then (ob (iL e87.To y do_c054 do_c1_c0_) fun r97 =>
 iW v55 r97) else (ob (ix o.t.Labels e87.Label) fun e115 =>
 ob (tC o.p y e115) fun r120 =>
 ob (iL e87.To r120 do_c054 do_c1_c0_) fun r125 =>
 iW v55 r125)) else (some (.inr do_c054))
def kH (o : cO) (x_ : Int) (y : Int) (do_c0_ : Bool) (do_c1_c0_ : (List (List Bool))) : Option Bool :=
 ob (vU o.t x_) fun r26 =>
 ob (loop (fun (s : (Bool × Int)) => gN o y do_c1_c0_ r26 s.1 s.2) (do_c0_, 0)) fun r => kL r
def pW (o : cO) (x_ : Int) (y : Int) (is_c0_ : (List (List Bool))) : Option Bool :=
 ob (kH o x_ y false is_c0_) fun r36 =>
 some r36
def lD (v22 : Bool) : Option Bool :=
 some v22
def kY (x_ : Int) (y : Int) (has_c0_ : (List (List Bool))) (p : cO) : Option Bool :=
 ob (vU p.t x_) fun r27 =>
 if (decide (0 < (r27.length : Int))) then (ob (pW p x_ y has_c0_) fun r34 =>
 lD (!r34)) else (lD false)
def iM (m49 : List (List Bool)) : Option (List (List Bool)) :=
 some m49
def nH (m100 : List (List Bool)) (again103 : Bool) : Option ((List (List Bool) × Bool) ⊕ (List (List Bool))) :=
 some (.inl (m100, again103))
def jW (m111 : List (List Bool)) (again114 : Bool) : Option ((List (List Bool) × Bool) ⊕ (List (List Bool))) :=
 nH m111 again114
def nI (v149 : Int) (m177 : List (List Bool)) (again180 : Bool) : Option ((List (List Bool) × Bool × Int) ⊕ (List (List Bool) × Bool)) :=
 some (.inl (m177, again180, wr (v149 + 1)))
def jX (v149 : Int) (m196 : List (List Bool)) (again199 : Bool) : Option ((List (List Bool) × Bool × Int) ⊕ (List (List Bool) × Bool)) :=
 nI v149 m196 again199
def iN (v242 : Int) (m276 : List (List Bool)) (again279 : Bool) : Option ((List (List Bool) × Bool × Int) ⊕ (List (List Bool) × Bool)) :=
 some (.inl (m276, again279, wr (v242 + 1)))
def iO (begin : Bool) (v149 : Int) (m238 : List (List Bool)) (again241 : Bool) (v242 : Int) (v292 : Bool) : Option ((List (List Bool) × Bool × Int) ⊕ (List (List Bool) × Bool)) :=
 if v292 then (ob (ix m238 v149) fun e308 =>
 ob (ix e308 v242) fun e313 =>
 ob (st e308 v242 (!begin : Bool)) fun row318 =>
 ob (st m238 v149 row318) fun m320 =>
 iN v242 m320 true) else (iN v242 m238 again241)
def gE (begin : Bool) (change_c0_ : cO) (v149 : Int) (e190 : (List Bool)) (m238 : List (List Bool)) (again241 : Bool) (v242 : Int) : Option ((List (List Bool) × Bool × Int) ⊕ (List (List Bool) × Bool)) :=
 if (decide (v242 < (e190.length : Int))) then (ob (ix m238 v149) fun e325 =>
 ob (ix e325 v242) fun e330 =>
 if (e330 == begin) then (ob (kY v149 v242 m238 change_c0_) fun r345 =>
 iO begin v149 m238 again241 v242 r345) else (iO begin v149 m238 again241 v242 false)) else (some (.inr (m238, again241)))
def gF (begin : Bool) (change_c0_ : cO) (m74 : List (List Bool)) (m145 : List (List Bool)) (again148 : Bool) (v149 : Int) : Option ((List (List Bool) × Bool × Int) ⊕ (List (List Bool) × Bool)) :=
 if (decide (v149 < (m74.length : Int))) then (ob (ix m145 v149) fun e190 =>
 ob (loop (fun (s : (List (List Bool) × Bool × Int)) => gE begin change_c0_ v149 e190 s.1 s.2.1 s.2.2) (m145, again148, 0)) fun r => jX v149 r.1 r.2) else (some (.inr (m145, again148)))
def gY (begin : Bool) (change_c0_ : cO) (m74 : List (List Bool)) (again77 : Bool) : Option ((List (List Bool) × Bool) ⊕ (List (List Bool))) :=
 if again77 then (ob (loop (fun (s : (List (List Bool) × Bool × Int)) => gF begin change_c0_ m74 s.1 s.2.1 s.2.2) (m74, false, 0)) fun r => jW r.1 r.2) else (some (.inr m74))
def gZ (begin : Bool) (change_c0_ : cO) (m41 : List (List Bool)) : Option (List (List Bool)) :=
 ob (loop (fun (s : (List (List Bool) × Bool)) => gY begin change_c0_ s.1 s.2) (m41, true)) fun r => iM r
def fT (o : cO) (begin : Bool) (xs31 : List (List Bool)) (m382 : List (List Bool)) (v385 : Int) : Option ((List (List Bool) × Int) ⊕ (List (List Bool))) :=
 if (decide (v385 < (xs31.length : Int))) then (ob (eM ([begin] : List Bool) o.p.States) fun r432 =>
 ob (ix m382 v385) fun e439 =>
 ob (st m382 v385 r432) fun m450 =>
 some (.inl (m450, wr (v385 + 1)))) else (some (.inr m382))
def mB (o : cO) (begin : Bool) (change_c0_ : cO) : Option (List (List Bool)) :=
 ob (mkz o.t.States ([] : (List Bool))) fun xs31 =>
 ob (loop (fun (s : (List (List Bool) × Int)) => fT o begin xs31 s.1 s.2) (xs31, 0)) fun r => gZ begin change_c0_ r
def oQ (o : cO) : Option (List (List Bool)) :=
 ob (mB o true o) fun r21 =>
 some r21
def rM (o : cO) : Option mR :=
 ob (nG o) fun r28 =>
 ob (oQ o) fun r36 =>
 some ⟨r28, r36⟩
def gU (s_ : (List Int)) : Option (List Int) :=
 ob (apd ([] : List Int) s_) fun xs11 =>
 some xs11
def mC (out19 : List Int) : Option (List Int) :=
 ob (xZ out19) fun r26 =>
 some r26
def pX (i49 : Int) (out68 : List Int) : Option ((List Int × Int) ⊕ (List Int)) :=
 some (.inl (out68, wr (i49 + 1)))
def mD (i49 : Int) (out113 : List Int) : Option ((List Int × Int) ⊕ (List Int)) :=
 pX i49 out113
def pY (v144 : Int) (out169 : List Int) : Option ((List Int × Int) ⊕ (List Int)) :=
 some (.inl (out169, wr (v144 + 1)))
def pZ (r104 : (List Int)) (out141 : List Int) (v144 : Int) : Option ((List Int × Int) ⊕ (List Int)) :=
 if (decide (v144 < (r104.length : Int))) then (ob (ix r104 v144) fun e180 =>
 ob (dW out141 e180) fun r188 =>
 if (!r188) then (ob (apd out141 ([e180] : List Int)) fun xs197 =>
 pY v144 xs197) else (pY v144 out141)) else (some (.inr out141))
def jY (t : dC) (out46 : List Int) (i49 : Int) : Option ((List Int × Int) ⊕ (List Int)) :=
 if (decide (i49 < (out46.length : Int))) then (ob (ix out46 i49) fun e90 =>
 ob (lX t ([e90] : List Int) ([116, 97, 117] : bF)) fun r104 =>
 ob (loop (fun (s : (List Int × Int)) => pZ r104 s.1 s.2) (out46, 0)) fun r => mD i49 r) else (some (.inr out46))
def nJ (t : dC) (states : (List Int)) : Option (List Int) :=
 ob (gU states) fun r13 =>
 ob (loop (fun (s : (List Int × Int)) => jY t s.1 s.2) (r13, 0)) fun r => mC r
def jE (w_ : cB) : Option bF :=
 ob (yV w_.states ([44] : bF)) fun r9 =>
 ob (cat r9 ([32] : bF)) fun s13 =>
 ob (tI w_.y) fun r15 =>
 ob (cat s13 r15) fun s19 =>
 some s19
def wJ (out4 : List bF) : Option (List bF) :=
 some out4
def pM (arcs : (List lL)) (out27 : List bF) (v30 : Int) : Option ((List bF × Int) ⊕ (List bF)) :=
 if (decide (v30 < (arcs.length : Int))) then (ob (ix arcs v30) fun e51 =>
 ob (apd out27 ([e51.label] : List bF)) fun xs64 =>
 some (.inl (xs64, wr (v30 + 1)))) else (some (.inr out27))
def yZ (arcs : (List lL)) : Option (List bF) :=
 ob (loop (fun (s : (List bF × Int)) => pM arcs s.1 s.2) ([], 0)) fun r => wJ r
def oF (x_ : Int) (p : mR) (p' : Int) : Option Bool :=
 ob (ix p.leave x_) fun e15 =>
 ob (ix e15 p') fun e23 =>
 some e23
def eJ  : Option Int :=
 some (-1)
def cX (s_ : (List Int)) (f_c0_ : mR) (f_c1_ : Int) (v32 : Int) : Option (Int ⊕ (Unit ⊕ Int)) :=
 if (decide (v32 < (s_.length : Int))) then (ob (ix s_ v32) fun e50 =>
 ob (oF e50 f_c0_ f_c1_) fun r55 =>
 if r55 then (some (.inr (.inr v32))) else (some (.inl (wr (v32 + 1))))) else (some (.inr (.inl ())))
def fB (s_ : (List Int)) (f_c0_ : mR) (f_c1_ : Int) : Option Int :=
 ob (loop (fun (s : Int) => cX s_ f_c0_ f_c1_ s) 0) fun r => match r with | .inl r => eJ | .inr r => some r
def dP (s_ : (List Int)) (f_c0_ : mR) (f_c1_ : Int) : Option Bool :=
 ob (fB s_ f_c0_ f_c1_) fun r16 =>
 some (decide (0 ≤ r16))
def oG (x_ : Int) (p : mR) (p' : Int) : Option Bool :=
 ob (ix p.stay x_) fun e15 =>
 ob (ix e15 p') fun e23 =>
 some e23
def eK  : Option Int :=
 some (-1)
def cY (s_ : (List Int)) (f_c0_ : mR) (f_c1_ : Int) (v32 : Int) : Option (Int ⊕ (Unit ⊕ Int)) :=
 if (decide (v32 < (s_.length : Int))) then (ob (ix s_ v32) fun e50 =>
 ob (oG e50 f_c0_ f_c1_) fun r55 =>
 if r55 then (some (.inr (.inr v32))) else (some (.inl (wr (v32 + 1))))) else (some (.inr (.inl ())))
def fC (s_ : (List Int)) (f_c0_ : mR) (f_c1_ : Int) : Option Int :=
 ob (loop (fun (s : Int) => cY s_ f_c0_ f_c1_ s) 0) fun r => match r with | .inl r => eK | .inr r => some r
def dQ (s_ : (List Int)) (f_c0_ : mR) (f_c1_ : Int) : Option Bool :=
 ob (fC s_ f_c0_ f_c1_) fun r16 =>
 some (decide (0 ≤ r16))
def lP (j : mR) (states : (List Int)) (y : Int) : Option Int :=
 if (decide (y < 0)) then (some 2) else (ob (dP states j y) fun r28 =>
 if (!r28) then (some 1) else (ob (dQ states j y) fun r46 =>
 if (!r46) then (some 2) else (some 0)))
def pN (t : dC) (states : (List Int)) (label : bF) : Option (List Int) :=
 ob (lX t states label) fun r22 =>
 ob (nJ t r22) fun r33 =>
 some r33
def wK (out10 : List lL) : Option (List lL) :=
 some out10
def pO (t : dC) (out35 : List lL) (v38 : Int) : Option ((List lL × Int) ⊕ (List lL)) :=
 if (decide (v38 < (t.Edges.length : Int))) then (ob (ix t.Edges v38) fun e61 =>
 ob (ix t.Labels e61.Label) fun e85 =>
 ob (apd out35 ([⟨e61.From, e85, e61.To⟩] : List lL)) fun xs93 =>
 some (.inl (xs93, wr (v38 + 1)))) else (some (.inr out35))
def vV (t : dC) : Option (List lL) :=
 ob (loop (fun (s : (List lL × Int)) => pO t s.1 s.2) ([], 0)) fun r => wK r
def eG (n33 : Int) (x34 : List cB) (x37 : (List (bF × Int))) : Option (Int × (List cB) × (List (bF × Int))) :=
 some (n33, x34, x37)
def dE (x0_ : (List cB)) (x1_M : (List (bF × Int))) (x2_ : (List lL)) (s_ : cB) : Option (Int × (List cB) × (List (bF × Int))) :=
 ob (jE s_) fun r27 =>
 if (!((aAo x1_M r27).isSome)) then (ob (some (mput x1_M r27 (x0_.length : Int))) fun m43 =>
 ob (apd x0_ ([s_] : List cB)) fun xs64 =>
 eG (x0_.length : Int) xs64 m43) else (eG ((aAo x1_M r27).getD 0) x0_ x1_M)
def gO (p17 : List cB) (p20 : (List (bF × Int))) (p21 : List lL) : Option ((List cB) × (List (bF × Int)) × (List lL)) :=
 some (p17, p20, p21)
def iQ (label : bF) (next : cB) (p0_ : (List cB)) (p1_M : (List (bF × Int))) (p2_ : (List lL)) (p : Int) : Option ((List cB) × (List (bF × Int)) × (List lL)) :=
 ob (dE p0_ p1_M p2_ next) fun r41 =>
 ob (apd p2_ ([⟨p, label, r41.1⟩] : List lL)) fun xs50 =>
 gO r41.2.1 r41.2.2 xs50
def jK (to_c056 : List cB) (to_c059 : (List (bF × Int))) (to_c060 : List lL) : Option (Bool × (List cB) × (List (bF × Int)) × (List lL)) :=
 some (true, to_c056, to_c059, to_c060)
def hJ (v101 : Int) (to_c0134 : List cB) (to_c0137 : (List (bF × Int))) (to_c0138 : List lL) : Option ((List cB × (List (bF × Int)) × List lL × Int) ⊕ (List cB × (List (bF × Int)) × List lL)) :=
 some (.inl (to_c0134, to_c0137, to_c0138, wr (v101 + 1)))
def fU (w_ : cB) (to_c1_ : Int) (p : mR) (p' : cO) (r48 : List bF) (to_c094 : List cB) (to_c097 : (List (bF × Int))) (to_c098 : List lL) (v101 : Int) : Option ((List cB × (List (bF × Int)) × List lL × Int) ⊕ (List cB × (List (bF × Int)) × List lL)) :=
 if (decide (v101 < (r48.length : Int))) then (ob (ix r48 v101) fun e149 =>
 ob (pN p'.t w_.states e149) fun r154 =>
 if (decide (0 < (r154.length : Int))) then (ob (tC p'.p w_.y e149) fun r161 =>
 ob (iQ e149 ⟨r154, r161⟩ to_c094 to_c097 to_c098 to_c1_) fun r171 =>
 hJ v101 r171.1 r171.2.1 r171.2.2) else (hJ v101 to_c094 to_c097 to_c098)) else (some (.inr (to_c094, to_c097, to_c098)))
def jF (w_ : cB) (to_c00_ : (List cB)) (to_c01_M : (List (bF × Int))) (to_c02_ : (List lL)) (to_c1_ : Int) (p : mR) (p' : cO) : Option (Bool × (List cB) × (List (bF × Int)) × (List lL)) :=
 ob (lP p w_.states w_.y) fun r41 =>
 if (r41 != 0) then (some (true, to_c00_, to_c01_M, to_c02_)) else (ob (vY p'.t.Labels 1 (p'.t.Labels.length : Int)) fun r48 =>
 ob (loop (fun (s : (List cB × (List (bF × Int)) × List lL × Int)) => fU w_ to_c1_ p p' r48 s.1 s.2.1 s.2.2.1 s.2.2.2) (to_c00_, to_c01_M, to_c02_, 0)) fun r => jK r.1 r.2.1 r.2.2)
def iR (x61 : List cB) (t73 : Int) (t74 : Int) (t75 : List bF) (t78 : List Edge) : Option (dC × (List cB) × Bool) :=
 ob (mQ ⟨t73, t74, t75, t78⟩) fun r115 =>
 some (⟨t73, t74, t75, t78⟩, x61, r115)
def gA (x61 : List cB) (x64 : (List (bF × Int))) (x65 : List lL) : Option (dC × (List cB) × Bool) :=
 ob (yZ x65) fun r145 =>
 ob (aEt (x61.length : Int) 0 r145 x65) fun r162 =>
 iR x61 r162.States r162.Initial r162.Labels r162.Edges
def gB (i278 : Int) (r328 : (Bool × (List cB) × (List (bF × Int)) × (List lL))) (v338 : Bool) : Option ((List cB × (List (bF × Int)) × List lL × Int) ⊕ ((List cB × (List (bF × Int)) × List lL) ⊕ (dC × (List cB) × Bool))) :=
 if v338 then (some (.inr (.inr (⟨0, 0, [], []⟩, [], false)))) else (some (.inl (r328.2.1, r328.2.2.1, r328.2.2.2, wr (i278 + 1))))
def eS (moves_c0_ : mR) (moves_c1_ : cO) (x270 : List cB) (x273 : (List (bF × Int))) (x274 : List lL) (i278 : Int) : Option ((List cB × (List (bF × Int)) × List lL × Int) ⊕ ((List cB × (List (bF × Int)) × List lL) ⊕ (dC × (List cB) × Bool))) :=
 if (decide (i278 < (x270.length : Int))) then (ob (ix x270 i278) fun e317 =>
 ob (jF e317 x270 x273 x274 i278 moves_c0_ moves_c1_) fun r328 =>
 if (!r328.1) then (gB i278 r328 true) else (gB i278 r328 (decide (40 < (r328.2.1.length : Int))))) else (some (.inr (.inl (x270, x273, x274))))
def hX (first : cB) (moves_c0_ : mR) (moves_c1_ : cO) : Option (dC × (List cB) × Bool) :=
 ob (dE [] ([] : (List (bF × Int))) [] first) fun r48 =>
 ob (loop (fun (s : (List cB × (List (bF × Int)) × List lL × Int)) => eS moves_c0_ moves_c1_ s.1 s.2.1 s.2.2.1 s.2.2.2) (r48.2.1, r48.2.2, [], 0)) fun r => match r with | .inl r => gA r.1 r.2.1 r.2.2 | .inr r => some r
def jG (m91 : Int) (m92 : Int) (m93 : List bF) (m96 : List Edge) (m105 : List Int) : Option (dS × Bool) :=
 some (⟨⟨m91, m92, m93, m96⟩, m105⟩, true)
def gX (r19 : mR) (r66 : (dC × (List cB) × Bool)) (m135 : List Int) (v138 : Int) : Option ((List Int × Int) ⊕ (List Int)) :=
 if (decide (v138 < (r66.2.1.length : Int))) then (ob (ix r66.2.1 v138) fun e163 =>
 ob (lP r19 e163.states e163.y) fun r191 =>
 ob (apd m135 ([r191] : List Int)) fun xs198 =>
 some (.inl (xs198, wr (v138 + 1)))) else (some (.inr m135))
def lE (r19 : mR) (r66 : (dC × (List cB) × Bool)) (m91 : Int) (m92 : Int) (m93 : List bF) (m96 : List Edge) : Option (dS × Bool) :=
 ob (loop (fun (s : (List Int × Int)) => gX r19 r66 s.1 s.2) ([], 0)) fun r => jG m91 m92 m93 m96 r
def lF (o : cO) (r19 : mR) (first37 : List Int) : Option (dS × Bool) :=
 ob (hX ⟨first37, o.p.Initial⟩ r19 o) fun r66 =>
 if (!r66.2.2) then (some (⟨⟨0, 0, [], []⟩, []⟩, false)) else (ob (vV r66.1) fun r230 =>
 ob (aEt r66.1.States 0 o.t.Labels r230) fun r243 =>
 lE r19 r66 r243.States r243.Initial r243.Labels r243.Edges)
def kZ (o : cO) : Option (dS × Bool) :=
 ob (rM o) fun r19 =>
 ob (nJ o.t ([o.t.Initial] : List Int)) fun r332 =>
 lF o r19 r332
def wL (t : dC) (p : dC) : Option (dS × Int) :=
 ob (uX t p) fun r22 =>
 if (r22 != 0) then (some (⟨⟨0, 0, [], []⟩, []⟩, r22)) else (ob (kZ ⟨t, p⟩) fun r33 =>
 if (!r33.2) then (some (⟨⟨0, 0, [], []⟩, []⟩, 5)) else (some (r33.1, 0)))
def mF (p : dC) (labels : (List bF)) (arcs49 : List lL) : Option (dS × Int) :=
 ob (aEt 1 0 labels arcs49) fun r63 =>
 ob (mQ r63) fun r87 =>
 if (!r87) then (some (⟨⟨0, 0, [], []⟩, []⟩, 5)) else (ob (wL r63 p) fun r110 =>
 some (r110.1, r110.2))
def jZ (labels : (List bF)) (arcs147 : List lL) (v150 : Int) : Option ((List lL × Int) ⊕ (List lL)) :=
 if (decide (v150 < (labels.length : Int))) then (ob (ix labels v150) fun e177 =>
 ob (apd arcs147 ([⟨0, e177, 0⟩] : List lL)) fun xs185 =>
 some (.inl (xs185, wr (v150 + 1)))) else (some (.inr arcs147))
def nK (p : dC) (labels : (List bF)) : Option (dS × Int) :=
 ob (mQ p) fun r16 =>
 if (!r16) then (some (⟨⟨0, 0, [], []⟩, []⟩, 1)) else (ob (iH p) fun r27 =>
 if (!r27) then (some (⟨⟨0, 0, [], []⟩, []⟩, 6)) else (ob (aDv labels) fun r38 =>
 if (!r38) then (some (⟨⟨0, 0, [], []⟩, []⟩, 2)) else (ob (loop (fun (s : (List lL × Int)) => jZ labels s.1 s.2) ([], 0)) fun r => mF p labels r)))
def vB  : Option Bool :=
 some true
def nL (a : (List bF)) (b : (List bF)) (i23 : Int) : Option (Int ⊕ (Unit ⊕ Bool)) :=
 if (decide (i23 < (a.length : Int))) then (ob (ix a i23) fun e41 =>
 ob (ix b i23) fun e46 =>
 if (!(e41 == e46)) then (some (.inr (.inr false))) else (some (.inl (wr (i23 + 1))))) else (some (.inr (.inl ())))
def tQ (a : (List bF)) (b : (List bF)) : Option Bool :=
 if ((a.length : Int) != (b.length : Int)) then (some false) else (ob (loop (fun (s : Int) => nL a b s) 0) fun r => match r with | .inl r => vB | .inr r => some r)
def aBX (a : Edge) (b : Edge) : Option Bool :=
 if (a.From != b.From) then (some false) else (if (a.Label != b.Label) then (some false) else (if (a.To != b.To) then (some false) else (some true)))
def xW  : Option Bool :=
 some true
def rN (a : (List Edge)) (b : (List Edge)) (i23 : Int) : Option (Int ⊕ (Unit ⊕ Bool)) :=
 if (decide (i23 < (a.length : Int))) then (ob (ix a i23) fun e41 =>
 ob (ix b i23) fun e46 =>
 ob (aBX e41 e46) fun r51 =>
 if (!r51) then (some (.inr (.inr false))) else (some (.inl (wr (i23 + 1))))) else (some (.inr (.inl ())))
def aAG (a : (List Edge)) (b : (List Edge)) : Option Bool :=
 if ((a.length : Int) != (b.length : Int)) then (some false) else (ob (loop (fun (s : Int) => rN a b s) 0) fun r => match r with | .inl r => xW | .inr r => some r)
def aCp (a : dC) (b : dC) : Option Bool :=
 if (a.States != b.States) then (some false) else (if (a.Initial != b.Initial) then (some false) else (ob (tQ a.Labels b.Labels) fun r23 =>
 if (!r23) then (some false) else (ob (aAG a.Edges b.Edges) fun r29 =>
 if (!r29) then (some false) else (some true))))
def wM  : Option Bool :=
 some true
def pP (a : (List Int)) (b : (List Int)) (i23 : Int) : Option (Int ⊕ (Unit ⊕ Bool)) :=
 if (decide (i23 < (a.length : Int))) then (ob (ix a i23) fun e41 =>
 ob (ix b i23) fun e46 =>
 if (e41 != e46) then (some (.inr (.inr false))) else (some (.inl (wr (i23 + 1))))) else (some (.inr (.inl ())))
def zA (a : (List Int)) (b : (List Int)) : Option Bool :=
 if ((a.length : Int) != (b.length : Int)) then (some false) else (ob (loop (fun (s : Int) => pP a b s) 0) fun r => match r with | .inl r => wM | .inr r => some r)
def qS (a : dS) (b : dS) : Option Bool :=
 ob (aCp a.System b.System) fun r25 =>
 if (!r25) then (some false) else (ob (zA a.Verdicts b.Verdicts) fun r31 =>
 if (!r31) then (some false) else (some true))
def sO (out3 : bF) : Option bF :=
 ob (cat ([109] : bF) out3) fun s7 =>
 some s7
def sP (k20 : Int) (out21 : bF) : Option ((Int × bF) ⊕ bF) :=
 if (decide (0 < k20)) then (ob (rm k20 10) fun n36 =>
 ob (cat ([(UInt8.ofInt (wr (48 + n36)))] : List UInt8) out21) fun s41 =>
 ob (qu k20 10) fun n43 =>
 some (.inl (n43, s41))) else (some (.inr out21))
def qT (k : Int) : Option bF :=
 if (decide (k ≤ 0)) then (some ([109, 48] : bF)) else (ob (loop (fun (s : (Int × bF)) => sP s.1 s.2) (k, ([] : bF))) fun r => sO r)
def nM (k3 : Int) (a4 : List bF) : Option (Int × (List bF)) :=
 some (k3, a4)
def nN (a24 : List bF) (k26 : Int) (i27 : Int) : Option ((List bF × Int × Int) ⊕ (Int × List bF)) :=
 if (decide (i27 < (a24.length : Int))) then (ob (qT k26) fun r46 =>
 ob (ix a24 i27) fun e50 =>
 ob (st a24 i27 (r46 : bF)) fun a55 =>
 some (.inl (a55, wr (k26 + 1), wr (i27 + 1)))) else (some (.inr (k26, a24)))
def pQ (a : (List bF)) (k : Int) : Option (Int × (List bF)) :=
 ob (loop (fun (s : (List bF × Int × Int)) => nN s.1 s.2.1 s.2.2) (a, k, 0)) fun r => nM r.1 r.2
def qU (k3 : Int) (a4 : List Edge) : Option (Int × (List Edge)) :=
 some (k3, a4)
def qV (a24 : List Edge) (k26 : Int) (i27 : Int) : Option ((List Edge × Int × Int) ⊕ (Int × List Edge)) :=
 if (decide (i27 < (a24.length : Int))) then (ob (ix a24 i27) fun e46 =>
 ob (st a24 i27 (⟨k26, e46.Label, e46.To⟩ : Edge)) fun a51 =>
 ob (ix a51 i27) fun e53 =>
 ob (st a51 i27 (⟨e53.From, wr (k26 + 1), e53.To⟩ : Edge)) fun a57 =>
 ob (ix a57 i27) fun e59 =>
 ob (st a57 i27 (⟨e59.From, e59.Label, wr ((wr (k26 + 1)) + 1)⟩ : Edge)) fun a63 =>
 some (.inl (a63, wr ((wr ((wr (k26 + 1)) + 1)) + 1), wr (i27 + 1)))) else (some (.inr (k26, a24)))
def wX (a : (List Edge)) (k : Int) : Option (Int × (List Edge)) :=
 ob (loop (fun (s : (List Edge × Int × Int)) => qV s.1 s.2.1 s.2.2) (a, k, 0)) fun r => qU r.1 r.2
def yE (a_States : Int) (a_Initial : Int) (a_Labels : (List bF)) (a_Edges : (List Edge)) (k : Int) : Option (Int × (List bF) × (List Edge)) :=
 ob (pQ a_Labels k) fun r9 =>
 ob (wX a_Edges r9.1) fun r16 =>
 some (r16.1, r9.2, r16.2)
def oR (k3 : Int) (a4 : List Int) : Option (Int × (List Int)) :=
 some (k3, a4)
def oS (a24 : List Int) (k26 : Int) (i27 : Int) : Option ((List Int × Int × Int) ⊕ (Int × List Int)) :=
 if (decide (i27 < (a24.length : Int))) then (ob (ix a24 i27) fun e46 =>
 ob (st a24 i27 (k26 : Int)) fun a51 =>
 some (.inl (a51, wr (k26 + 1), wr (i27 + 1)))) else (some (.inr (k26, a24)))
def vC (a : (List Int)) (k : Int) : Option (Int × (List Int)) :=
 ob (loop (fun (s : (List Int × Int × Int)) => oS s.1 s.2.1 s.2.2) (a, k, 0)) fun r => oR r.1 r.2
def sQ (a_System_States : Int) (a_System_Initial : Int) (a_System_Labels : (List bF)) (a_System_Edges : (List Edge)) (a_Verdicts : (List Int)) (k : Int) : Option (Int × (List bF) × (List Edge) × (List Int)) :=
 ob (yE a_System_States a_System_Initial a_System_Labels a_System_Edges k) fun r11 =>
 ob (vC a_Verdicts r11.1) fun r20 =>
 some (r20.1, r11.2.1, r11.2.2, r20.2)
def rO (k4 : Int) : Option Int :=
 some k4
def kS (a : (List bF)) (k21 : Int) (i22 : Int) : Option ((Int × Int) ⊕ (Int ⊕ Int)) :=
 if (decide (i22 < (a.length : Int))) then (ob (ix a i22) fun e41 =>
 ob (qT k21) fun r46 =>
 if (!(e41 == r46)) then (some (.inr (.inr (-1)))) else (some (.inl (wr (k21 + 1), wr (i22 + 1))))) else (some (.inr (.inl k21)))
def sR (a : (List bF)) (k : Int) : Option Int :=
 ob (loop (fun (s : (Int × Int)) => kS a s.1 s.2) (k, 0)) fun r => match r with | .inl r => rO r | .inr r => some r
def vD (k4 : Int) : Option Int :=
 some k4
def nO (a : (List Edge)) (k21 : Int) (i22 : Int) : Option ((Int × Int) ⊕ (Int ⊕ Int)) :=
 if (decide (i22 < (a.length : Int))) then (ob (ix a i22) fun e39 =>
 if (e39.From != k21) then (some (.inr (.inr (-1)))) else (if (e39.Label != (wr (k21 + 1))) then (some (.inr (.inr (-1)))) else (if (e39.To != (wr ((wr (k21 + 1)) + 1))) then (some (.inr (.inr (-1)))) else (some (.inl (wr ((wr ((wr (k21 + 1)) + 1)) + 1), wr (i22 + 1))))))) else (some (.inr (.inl k21)))
def wY (a : (List Edge)) (k : Int) : Option Int :=
 ob (loop (fun (s : (Int × Int)) => nO a s.1 s.2) (k, 0)) fun r => match r with | .inl r => vD r | .inr r => some r
def aCq (a : dC) (k : Int) : Option Int :=
 ob (sR a.Labels k) fun r10 =>
 if (decide (r10 < 0)) then (some (-1)) else (ob (wY a.Edges r10) fun r16 =>
 if (decide (r16 < 0)) then (some (-1)) else (some r16))
def sZ (k4 : Int) : Option Int :=
 some k4
def lQ (a : (List Int)) (k21 : Int) (i22 : Int) : Option ((Int × Int) ⊕ (Int ⊕ Int)) :=
 if (decide (i22 < (a.length : Int))) then (ob (ix a i22) fun e39 =>
 if (e39 != k21) then (some (.inr (.inr (-1)))) else (some (.inl (wr (k21 + 1), wr (i22 + 1))))) else (some (.inr (.inl k21)))
def vE (a : (List Int)) (k : Int) : Option Int :=
 ob (loop (fun (s : (Int × Int)) => lQ a s.1 s.2) (k, 0)) fun r => match r with | .inl r => sZ r | .inr r => some r
def pR (a : dS) (k : Int) : Option Int :=
 ob (aCq a.System k) fun r13 =>
 if (decide (r13 < 0)) then (some (-1)) else (ob (vE a.Verdicts r13) fun r19 =>
 if (decide (r19 < 0)) then (some (-1)) else (some r19))
def hY (r106 : (dS × Int)) (r243 : (Int × (List bF) × (List Edge) × (List Int))) (v326 : Bool) : Option Bool :=
 if v326 then (some false) else (ob (pR ⟨⟨r106.1.System.States, r106.1.System.Initial, r243.2.1, r243.2.2.1⟩, r243.2.2.2⟩ 1) fun r349 =>
 if (decide (r349 < 0)) then (some false) else (if (r349 != r243.1) then (some false) else (some true)))
def fV (aP : dC) (aLabels : (List bF)) (r54 : (dS × Int)) (r106 : (dS × Int)) (v231 : Bool) : Option Bool :=
 if v231 then (some false) else (ob (sQ r106.1.System.States r106.1.System.Initial r106.1.System.Labels r106.1.System.Edges r106.1.Verdicts 1) fun r243 =>
 ob (pR ⟨⟨r106.1.System.States, r106.1.System.Initial, r243.2.1, r243.2.2.1⟩, r243.2.2.2⟩ 1) fun r268 =>
 if (decide (r268 < 0)) then (some false) else (if (r268 != r243.1) then (some false) else (ob (zY aP) fun r279 =>
 ob (kP aLabels) fun r287 =>
 ob (nK r279 r287) fun r308 =>
 ob (qS r308.1 r54.1) fun r391 =>
 if (!r391) then (hY r106 r243 true) else (hY r106 r243 (r308.2 != r54.2)))))
def iA (aP : dC) (aLabels : (List bF)) (r54 : (dS × Int)) (r72 : dC) (r85 : (List bF)) (r106 : (dS × Int)) (v124 : Bool) : Option Bool :=
 if v124 then (some false) else (ob (zY aP) fun r152 =>
 ob (aCp r72 r152) fun r180 =>
 if (!r180) then (some false) else (ob (kP aLabels) fun r192 =>
 ob (tQ r85 r192) fun r208 =>
 if (!r208) then (some false) else (ob (yE r72.States r72.Initial r72.Labels r72.Edges 1) fun r217 =>
 ob (pQ r85 r217.1) fun r226 =>
 if (decide (r226.1 < 0)) then (fV aP aLabels r54 r106 true) else (ob (qS r106.1 r54.1) fun r434 =>
 if (!r434) then (fV aP aLabels r54 r106 true) else (fV aP aLabels r54 r106 (r106.2 != r54.2))))))
def lG (aP : dC) (aLabels : (List bF)) : Option Bool :=
 ob (aDr aP 1048576) fun r13 =>
 if (decide (r13 < 0)) then (some true) else (ob (tJ aLabels r13) fun r19 =>
 if (decide (r19 < 0)) then (some true) else (ob (zY aP) fun r25 =>
 ob (kP aLabels) fun r33 =>
 ob (qM r25 r33) fun r54 =>
 ob (zY aP) fun r72 =>
 ob (kP aLabels) fun r85 =>
 ob (nK r72 r85) fun r106 =>
 ob (qS r106.1 r54.1) fun r475 =>
 if (!r475) then (iA aP aLabels r54 r72 r85 r106 true) else (iA aP aLabels r54 r72 r85 r106 (r106.2 != r54.2))))
end
end Gv
