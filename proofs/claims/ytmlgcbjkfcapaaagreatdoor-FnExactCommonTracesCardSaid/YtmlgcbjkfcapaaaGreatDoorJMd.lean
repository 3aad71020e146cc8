/- Models of the functions, printed by program off their code. Plain Lean. -/
import Derived.Test.YtmlgcbjkfcapaaaGreatDoorJLM
set_option linter.all false
namespace Gv
noncomputable section
def sO (a:List Int):Option ((List Int) × Bool):=
 some (a,true)
def mI (b:(List bB)) (c:List Int) (a:Int):Option ((List Int × Int) ⊕ (List Int ⊕ ((List Int) × Bool))):=
 if (decide (a < (b.length:Int))) then (ob (ix b a) fun e=>
 ob (tV e) fun d=>
 if (!d.2) then (some (.inr (.inr ([],false)))) else (ob (tK c ([d.1]:List Int)) fun f=>
 some (.inl (f,wr (a+1))))) else (some (.inr (.inl c)))
def tW (b:(List bB)):Option ((List Int) × Bool):=
 ob (loop (fun (s:(List Int × Int))=>mI b s.1 s.2) ([],0)) fun r=>match r with|.inl r=>sO r|.inr r=>some r
def zU (a:bB) (b:List bB):Option bB:=
 ob (aJD b a) fun c=>
 some c
def vX (c:(List Int)) (b:List bB) (a:Int):Option ((List bB × Int) ⊕ (List bB)):=
 if (decide (a < (c.length:Int))) then (ob (ix c a) fun d=>
 ob (xZ d) fun e=>
 ob (ix b a) fun g=>
 ob (st b a (e:bB)) fun f=>
 some (.inl (f,wr (a+1)))) else (some (.inr b))
def aCj (a:(List Int)) (b:bB):Option bB:=
 ob (mkz (a.length:Int) ([]:bB)) fun c=>
 ob (loop (fun (s:(List bB × Int))=>vX a s.1 s.2) (c,0)) fun r=>zU b r
def aAz (a:Bool):Option Bool:=
 some a
def aDQ (c:UInt8):Option Bool:=
 if (decide (48≤(c.toNat:Int))) then (aAz (decide ((c.toNat:Int)≤57))) else (aAz false)
def aBL (a:Bool):Option Bool:=
 some a
def zV (a:bB):Option Bool:=
 if (decide (1≤(a.length:Int))) then (aBL (decide ((a.length:Int)≤10))) else (aBL false)
def vY (a:Int) (b:Bool):Option (Int ⊕ (Unit ⊕ Bool)):=
 if b then (some (.inr (.inr false))) else (some (.inl (wr (a+1))))
def pI (b:bB) (a:Int) (c:Bool):Option (Int ⊕ (Unit ⊕ Bool)):=
 if (!c) then (if (a == 0) then (vY a true) else (ob (ix b a) fun d=>
 ob (aDQ d) fun e=>
 vY a (!e))) else (vY a false)
def rL (a:bB) (b:Int):Option (Int ⊕ (Unit ⊕ Bool)):=
 if (decide (b < (a.length:Int))) then (ob (ix a b) fun c=>
 if (decide (97≤(c.toNat:Int))) then (pI a b (decide ((c.toNat:Int)≤122))) else (pI a b false)) else (some (.inr (.inl ())))
def aDu (b:bB):Option Bool:=
 ob (loop (fun (s:Int)=>rL b s) 0) fun r=>match r with|.inl r=>zV b|.inr r=>some r
def tX (a:Bool):Option Bool:=
 some a
def aBd (a:bB):Option Bool:=
 ob (aDu a) fun b=>
 if b then (tX (!(a == ([116,97,117]:bB)))) else (tX false)
def aBM (a:Bool):Option Bool:=
 some a
def wO (n low b:Int):Option Bool:=
 if (decide (low≤n)) then (aBM (decide (n≤b))) else (aBM false)
def aDR (n:Int):Option Bool:=
 ob (wO n 0 63) fun b=>
 some b
def wP (n:Int):Option Bool:=
 ob (aDR n) fun b=>
 some (!b)
def fT:Option Int:=
 some (-1)
def dS (b:(List Int)) (a:Int):Option (Int ⊕ (Unit ⊕ Int)):=
 if (decide (a < (b.length:Int))) then (ob (ix b a) fun c=>
 ob (wP c) fun d=>
 if d then (some (.inr (.inr a))) else (some (.inl (wr (a+1))))) else (some (.inr (.inl ())))
def gS (b:(List Int)):Option Int:=
 ob (loop (fun (s:Int)=>dS b s) 0) fun r=>match r with|.inl r=>fT|.inr r=>some r
def fU (a:(List Int)):Option Bool:=
 ob (gS a) fun b=>
 some (decide (0≤b))
def zW (a:(List Int)):Option Bool:=
 ob (fU a) fun b=>
 some (!b)
def sP (a:bB) (b:(List Int)) (c:Bool):Option (bB × Bool):=
 if c then (some (([]:bB),false)) else (if ((b.length:Int) == 0) then (some (a,true)) else (ob (cat a ([40]:bB)) fun d=>
 ob (aCj b ([44]:bB)) fun e=>
 ob (cat d e) fun f=>
 ob (cat f ([41]:bB)) fun g=>
 some (g,true)))
def aCk (b:bB) (a:(List Int)):Option (bB × Bool):=
 if (b == ([116,97,117]:bB)) then (some (([116,97,117]:bB),(a.length:Int) == 0)) else (ob (aBd b) fun c=>
 if (!c) then (sP b a true) else (if (decide (2 < (a.length:Int))) then (sP b a true) else (ob (zW a) fun d=>
 sP b a (!d))))
def eX (a:Bool):Option Bool:=
 some a
def gY (a b:bB):Option Bool:=
 if (decide ((b.length:Int)≤(a.length:Int))) then (ob (zH a (wr ((a.length:Int) - (b.length:Int))) (a.length:Int)) fun c=>
 eX (c == b)) else (eX false)
def gT (a b:bB):Option bB:=
 ob (gY a b) fun c=>
 if c then (ob (zH a 0 (wr ((a.length:Int) - (b.length:Int)))) fun d=>
 some d) else (some a)
def kV (a b:bB):Option bB:=
 ob (gT a b) fun c=>
 some c
def oR (a:(bB × bB × Bool)) (b:List Int) (c:Bool):Option (bB × (List Int) × Bool):=
 if c then (some (([]:bB),[],false)) else (some (a.1,b,true))
def oS (d:bB) (a:(bB × bB × Bool)) (b:List Int):Option (bB × (List Int) × Bool):=
 ob (aCk a.1 b) fun c=>
 if (!c.2) then (oR a b true) else (oR a b (!(c.1 == d)))
def aBN (b:bB):Option (bB × (List Int) × Bool):=
 ob (l_Cut b ([40]:bB)) fun a=>
 if a.2.2 then (ob (kV a.2.1 ([41]:bB)) fun d=>
 ob (aEV d ([44]:bB)) fun e=>
 ob (tW e) fun c=>
 if (!c.2) then (some (([]:bB),[],false)) else (oS b a c.1)) else (oS b a [])
def aCl (a:bB):Option Bool:=
 ob (aBN a) fun b=>
 some b.2.2
def wQ (a:Int):Option Int:=
 some a
def rM (a:(List bB)) (b c:Int):Option ((Int × Int) ⊕ (Int ⊕ Int)):=
 if (decide (c < (a.length:Int))) then (ob (ix a c) fun e=>
 if (decide (wr (b - (e.length:Int)) < 0)) then (some (.inr (.inr (-1)))) else (some (.inl (wr (b - (e.length:Int)),wr (c+1))))) else (some (.inr (.inl b)))
def zX (a:(List bB)) (d:Int):Option Int:=
 if (decide (wr (d - (a.length:Int)) < 0)) then (some (-1)) else (ob (loop (fun (s:(Int × Int))=>rM a s.1 s.2) (wr (d - (a.length:Int)),0)) fun r=>match r with|.inl r=>wQ r|.inr r=>some r)
def aCm (a:(List Edge)) (c:Int):Option Int:=
 if (decide (wr (c - (a.length:Int)) < 0)) then (some (-1)) else (some (wr (c - (a.length:Int))))
def aDS (a:cN) (e:Int):Option Int:=
 ob (zX a.L e) fun c=>
 if (decide (c < 0)) then (some (-1)) else (ob (aCm a.E c) fun d=>
 if (decide (d < 0)) then (some (-1)) else (some d))
def wR (a:List bB):Option (List bB):=
 some a
def rN (a:(List bB)) (c:List bB) (b:Int):Option ((List bB × Int) ⊕ (List bB)):=
 if (decide (b < (a.length:Int))) then (ob (ix a b) fun e=>
 ob (ix c b) fun g=>
 ob (st c b (e:bB)) fun f=>
 some (.inl (f,wr (b+1)))) else (some (.inr c))
def zY (a:(List bB)):Option (List bB):=
 ob (mkz (a.length:Int) ([]:bB)) fun c=>
 ob (loop (fun (s:(List bB × Int))=>rN a s.1 s.2) (c,0)) fun r=>wR r
def aEX (a:Edge):Option Edge:=
 some a
def aAA (a:List Edge):Option (List Edge):=
 some a
def wS (a:(List Edge)) (c:List Edge) (b:Int):Option ((List Edge × Int) ⊕ (List Edge)):=
 if (decide (b < (a.length:Int))) then (ob (ix a b) fun f=>
 ob (aEX f) fun d=>
 ob (ix c b) fun h=>
 ob (st c b (⟨d.F,d.B,d.To⟩:Edge)) fun g=>
 some (.inl (g,wr (b+1)))) else (some (.inr c))
def aCn (a:(List Edge)):Option (List Edge):=
 ob (mkz (a.length:Int) (⟨0,0,0⟩:Edge)) fun c=>
 ob (loop (fun (s:(List Edge × Int))=>wS a s.1 s.2) (c,0)) fun r=>aAA r
def uU (a:cN):Option cN:=
 ob (zY a.L) fun c=>
 ob (aCn a.E) fun d=>
 some ⟨a.N,a.I,c,d⟩
def wT:Option Bool:=
 some true
def oT (a b:(List bB)) (c:Int):Option (Int ⊕ (Unit ⊕ Bool)):=
 if (decide (c < (a.length:Int))) then (ob (ix a c) fun f=>
 ob (ix b c) fun g=>
 if (!(f == g)) then (some (.inr (.inr false))) else (some (.inl (wr (c+1))))) else (some (.inr (.inl ())))
def zZ (a b:(List bB)):Option Bool:=
 if ((a.length:Int) != (b.length:Int)) then (some false) else (ob (loop (fun (s:Int)=>oT a b s) 0) fun r=>match r with|.inl r=>wT|.inr r=>some r)
def aDv (a b:Edge):Option Bool:=
 if (a.F != b.F) then (some false) else (if (a.B != b.B) then (some false) else (if (a.To != b.To) then (some false) else (some true)))
def aAB:Option Bool:=
 some true
def sQ (a b:(List Edge)) (c:Int):Option (Int ⊕ (Unit ⊕ Bool)):=
 if (decide (c < (a.length:Int))) then (ob (ix a c) fun f=>
 ob (ix b c) fun g=>
 ob (aDv f g) fun h=>
 if (!h) then (some (.inr (.inr false))) else (some (.inl (wr (c+1))))) else (some (.inr (.inl ())))
def aCo (a b:(List Edge)):Option Bool:=
 if ((a.length:Int) != (b.length:Int)) then (some false) else (ob (loop (fun (s:Int)=>sQ a b s) 0) fun r=>match r with|.inl r=>aAB|.inr r=>some r)
def aAC (a b:cN):Option Bool:=
 if (a.N != b.N) then (some false) else (if (a.I != b.I) then (some false) else (ob (zZ a.L b.L) fun e=>
 if (!e) then (some false) else (ob (aCo a.E b.E) fun f=>
 if (!f) then (some false) else (some true))))
def tY (a:bB):Option bB:=
 ob (cat ([109]:bB) a) fun b=>
 some b
def tZ (a:Int) (b:bB):Option ((Int × bB) ⊕ bB):=
 if (decide (0 < a)) then (ob (rm a 10) fun c=>
 ob (cat ([(UInt8.ofInt (wr (48+c)))]:List UInt8) b) fun d=>
 ob (qu a 10) fun e=>
 some (.inl (e,d))) else (some (.inr b))
def rO (k:Int):Option bB:=
 if (decide (k≤0)) then (some ([109,48]:bB)) else (ob (loop (fun (s:(Int × bB))=>tZ s.1 s.2) (k,([]:bB))) fun r=>tY r)
def oU (a:Int) (b:List bB):Option (Int × (List bB)):=
 some (a,b)
def oV (a:List bB) (c b:Int):Option ((List bB × Int × Int) ⊕ (Int × List bB)):=
 if (decide (b < (a.length:Int))) then (ob (rO c) fun d=>
 ob (ix a b) fun f=>
 ob (st a b (d:bB)) fun e=>
 some (.inl (e,wr (c+1),wr (b+1)))) else (some (.inr (c,a)))
def uA (a:(List bB)) (k:Int):Option (Int × (List bB)):=
 ob (loop (fun (s:(List bB × Int × Int))=>oV s.1 s.2.1 s.2.2) (a,k,0)) fun r=>oU r.1 r.2
def rP (a:Int) (b:List Edge):Option (Int × (List Edge)):=
 some (a,b)
def rQ (c:List Edge) (b a:Int):Option ((List Edge × Int × Int) ⊕ (Int × List Edge)):=
 if (decide (a < (c.length:Int))) then (ob (ix c a) fun d=>
 ob (st c a (⟨b,d.B,d.To⟩:Edge)) fun e=>
 ob (ix e a) fun f=>
 ob (st e a (⟨f.F,wr (b+1),f.To⟩:Edge)) fun g=>
 ob (ix g a) fun h=>
 ob (st g a (⟨h.F,h.B,wr ((wr (b+1))+1)⟩:Edge)) fun i=>
 some (.inl (i,wr ((wr ((wr (b+1))+1))+1),wr (a+1)))) else (some (.inr (b,c)))
def aAa (a:(List Edge)) (k:Int):Option (Int × (List Edge)):=
 ob (loop (fun (s:(List Edge × Int × Int))=>rQ s.1 s.2.1 s.2.2) (a,k,0)) fun r=>rP r.1 r.2
def vZ (f g:Int) (c:(List bB)) (d:(List Edge)) (k:Int):Option (Int × (List bB) × (List Edge)):=
 ob (uA c k) fun a=>
 ob (aAa d a.1) fun b=>
 some (b.1,a.2,b.2)
def sR (a:Int):Option Int:=
 some a
def mJ (a:(List bB)) (b c:Int):Option ((Int × Int) ⊕ (Int ⊕ Int)):=
 if (decide (c < (a.length:Int))) then (ob (ix a c) fun e=>
 ob (rO b) fun f=>
 if (!(e == f)) then (some (.inr (.inr (-1)))) else (some (.inl (wr (b+1),wr (c+1))))) else (some (.inr (.inl b)))
def uB (a:(List bB)) (k:Int):Option Int:=
 ob (loop (fun (s:(Int × Int))=>mJ a s.1 s.2) (k,0)) fun r=>match r with|.inl r=>sR r|.inr r=>some r
def wU (a:Int):Option Int:=
 some a
def oW (a:(List Edge)) (b c:Int):Option ((Int × Int) ⊕ (Int ⊕ Int)):=
 if (decide (c < (a.length:Int))) then (ob (ix a c) fun d=>
 if (d.F != b) then (some (.inr (.inr (-1)))) else (if (d.B != (wr (b+1))) then (some (.inr (.inr (-1)))) else (if (d.To != (wr ((wr (b+1))+1))) then (some (.inr (.inr (-1)))) else (some (.inl (wr ((wr ((wr (b+1))+1))+1),wr (c+1))))))) else (some (.inr (.inl b)))
def aAb (a:(List Edge)) (k:Int):Option Int:=
 ob (loop (fun (s:(Int × Int))=>oW a s.1 s.2) (k,0)) fun r=>match r with|.inl r=>wU r|.inr r=>some r
def aAM (a:cN) (k:Int):Option Int:=
 ob (uB a.L k) fun c=>
 if (decide (c < 0)) then (some (-1)) else (ob (aAb a.E c) fun d=>
 if (decide (d < 0)) then (some (-1)) else (some d))
def aCK (a:Bool):Option Bool:=
 some a
def yQ (n low b:Int):Option Bool:=
 if (decide (low≤n)) then (aCK (decide (n≤b))) else (aCK false)
def aAD (a:bB):Option Int:=
 some (a.length:Int)
def sS (b:bB) (a:Int):Option (Int ⊕ (Unit ⊕ Int)):=
 if (decide (a < (b.length:Int))) then (ob (ix b a) fun c=>
 if ((c.toNat:Int) == 40) then (some (.inr (.inr a))) else (some (.inl (wr (a+1))))) else (some (.inr (.inl ())))
def aAN (b:bB):Option Int:=
 ob (loop (fun (s:Int)=>sS b s) 0) fun r=>match r with|.inl r=>aAD b|.inr r=>some r
def yR (a:Bool):Option Bool:=
 some a
def aBe (c:UInt8):Option Bool:=
 if (decide (97≤(c.toNat:Int))) then (yR (decide ((c.toNat:Int)≤122))) else (yR false)
def yS (a:Bool):Option Bool:=
 some a
def aBf (c:UInt8):Option Bool:=
 if (decide (48≤(c.toNat:Int))) then (yS (decide ((c.toNat:Int)≤57))) else (yS false)
def wV:Option Bool:=
 some true
def wW (a:Int) (b:Bool):Option (Int ⊕ (Unit ⊕ Bool)):=
 if b then (some (.inr (.inr false))) else (some (.inl (wr (a+1))))
def sT (b:bB) (a:Int):Option (Int ⊕ (Unit ⊕ Bool)):=
 if (decide (a < (b.length:Int))) then (ob (ix b a) fun c=>
 ob (aBe c) fun d=>
 if (!d) then (ob (aBf c) fun e=>
 wW a (!e)) else (wW a false)) else (some (.inr (.inl ())))
def pL (b:bB) (c:Bool):Option Bool:=
 if c then (some false) else (ob (loop (fun (s:Int)=>sT b s) 0) fun r=>match r with|.inl r=>wV|.inr r=>some r)
def aAO (a:bB):Option Bool:=
 if (a == ([]:bB)) then (pL a true) else (if (decide (10 < (a.length:Int))) then (pL a true) else (ob (ix a 0) fun b=>
 ob (aBe b) fun c=>
 pL a (!c)))
def rR (a:Bool):Option Bool:=
 some a
def aAc (a:bB):Option Bool:=
 ob (aAO a) fun b=>
 if b then (rR (!(a == ([116,97,117]:bB)))) else (rR false)
def uC (a:bB) (b:List bB) (c:Int):Option (List bB):=
 ob (zH a c (a.length:Int)) fun d=>
 ob (tK b ([d]:List bB)) fun e=>
 some e
def qO (a:Int) (b:List bB) (c:Int):Option ((List bB × Int × Int) ⊕ (List bB × Int)):=
 some (.inl (b,c,wr (a+1)))
def uD (b:bB) (e:UInt8) (c:List bB) (d a:Int):Option ((List bB × Int × Int) ⊕ (List bB × Int)):=
 if (decide (a < (b.length:Int))) then (ob (ix b a) fun f=>
 if ((f.toNat:Int) == (e.toNat:Int)) then (ob (zH b d a) fun g=>
 ob (tK c ([g]:List bB)) fun h=>
 qO a h (wr (a+1))) else (qO a c d)) else (some (.inr (c,d)))
def aBg (a:bB) (c:UInt8):Option (List bB):=
 ob (loop (fun (s:(List bB × Int × Int))=>uD a c s.1 s.2.1 s.2.2) (([]:List bB),0,0)) fun r=>uC a r.1 r.2
def wX (a:Int):Option (Int × Bool):=
 some (a,true)
def rS (b a:Int):Option (Int × Bool):=
 if (b == 1) then (wX (wr (0 - a))) else (wX a)
def mL (b:bB) (c a:Int):Option ((Int × Int) ⊕ (Int ⊕ (Int × Bool))):=
 if (decide (a < (b.length:Int))) then (ob (ix b a) fun d=>
 ob (aBf d) fun e=>
 if (!e) then (some (.inr (.inr (0,false)))) else (some (.inl (wr ((wr (10 * c))+(wr ((d - (48:UInt8)).toNat:Int))),wr (a+1))))) else (some (.inr (.inl c)))
def kW (c:bB) (b:Int) (d:Bool):Option (Int × Bool):=
 if d then (some (0,false)) else (ob (loop (fun (s:(Int × Int))=>mL c s.1 s.2) (0,b)) fun r=>match r with|.inl r=>rS b r|.inr r=>some r)
def oX (a:bB) (b:Int):Option (Int × Bool):=
 if ((a.length:Int) == b) then (kW a b true) else (if (decide (18 < wr ((a.length:Int) - b))) then (kW a b true) else (ob (ix a b) fun c=>
 if ((c.toNat:Int) == 48) then (kW a b (decide (1 < (a.length:Int)))) else (kW a b false)))
def oY (a:bB) (b:Bool):Option (Int × Bool):=
 if b then (oX a 1) else (oX a 0)
def wA (a:bB):Option (Int × Bool):=
 if (decide (0 < (a.length:Int))) then (ob (ix a 0) fun b=>
 oY a ((b.toNat:Int) == 45)) else (oY a false)
def rT (a:List Int):Option ((List Int) × Bool):=
 some (a,decide ((a.length:Int)≤2))
def rU (a:List Int) (b:Int) (c:(Int × Bool)) (d:Bool):Option ((List Int × Int) ⊕ (List Int ⊕ ((List Int) × Bool))):=
 if d then (some (.inr (.inr ([],false)))) else (ob (tK a ([c.1]:List Int)) fun e=>
 some (.inl (e,wr (b+1))))
def oZ (d:(List bB)) (c:List Int) (a:Int):Option ((List Int × Int) ⊕ (List Int ⊕ ((List Int) × Bool))):=
 if (decide (a < (d.length:Int))) then (ob (ix d a) fun e=>
 ob (wA e) fun b=>
 if (!b.2) then (rU c a b true) else (ob (yQ b.1 0 63) fun f=>
 rU c a b (!f))) else (some (.inr (.inl c)))
def pA (b:bB) (c:Int) (d:Bool):Option ((List Int) × Bool):=
 if d then (some ([],false)) else (ob (zH b (wr (c+1)) (wr ((b.length:Int) - 1))) fun e=>
 ob (aBg e (44:UInt8)) fun f=>
 ob (loop (fun (s:(List Int × Int))=>oZ f s.1 s.2) (([]:List Int),0)) fun r=>match r with|.inl r=>rT r|.inr r=>some r)
def aBO (a:bB):Option ((List Int) × Bool):=
 ob (aAN a) fun b=>
 if (b == (a.length:Int)) then (ob (aAO a) fun c=>
 some (([]:List Int),c)) else (ob (zH a 0 b) fun d=>
 ob (aAc d) fun e=>
 if (!e) then (pA a b true) else (ob (ix a (wr ((a.length:Int) - 1))) fun f=>
 pA a b ((f.toNat:Int) != 41)))
def aBh (a:bB):Option Bool:=
 ob (aBO a) fun b=>
 some b.2
def yT:Option Bool:=
 some true
def nZ (a:Int) (b:Bool):Option (Int ⊕ (Unit ⊕ Bool)):=
 if b then (some (.inr (.inr false))) else (some (.inl (wr (a+1))))
def qP (b:(List bB)) (a:Int):Option (Int ⊕ (Unit ⊕ Bool)):=
 if (decide (a < (b.length:Int))) then (ob (ix b a) fun c=>
 ob (aBh c) fun d=>
 if (!d) then (nZ a true) else (if (c == ([116,97,117]:bB)) then (nZ a true) else (if (decide (1 < a)) then (ob (ix b (wr (a - 1))) fun e=>
 nZ a (!vU e c)) else (nZ a false)))) else (some (.inr (.inl ())))
def qQ (b:(List bB)) (c:Bool):Option Bool:=
 if c then (some false) else (ob (loop (fun (s:Int)=>qP b s) 1) fun r=>match r with|.inl r=>yT|.inr r=>some r)
def aBi (a:(List bB)):Option Bool:=
 if ((a.length:Int) == 0) then (qQ a true) else (if (decide (12 < (a.length:Int))) then (qQ a true) else (ob (ix a 0) fun b=>
 qQ a (!(b == ([116,97,117]:bB)))))
def aAP (a b:Edge):Option Bool:=
 if (a.F != b.F) then (some (decide (a.F < b.F))) else (if (a.B != b.B) then (some (decide (a.B < b.B))) else (some (decide (a.To < b.To))))
def aCL:Option Bool:=
 some true
def aBj (a:Int) (b:Bool):Option (Int ⊕ (Unit ⊕ Bool)):=
 if b then (some (.inr (.inr false))) else (some (.inl (wr (a+1))))
def yC (t:cN) (a:Int) (c:Edge) (d:Bool):Option (Int ⊕ (Unit ⊕ Bool)):=
 if d then (some (.inr (.inr false))) else (if (decide (0 < a)) then (ob (ix t.E (wr (a - 1))) fun e=>
 ob (aAP e c) fun f=>
 aBj a (!f)) else (aBj a false))
def yD (t:cN) (c:Int):Option (Int ⊕ (Unit ⊕ Bool)):=
 if (decide (c < (t.E.length:Int))) then (ob (ix t.E c) fun b=>
 ob (yQ b.F 0 (wr (t.N - 1))) fun d=>
 if (!d) then (yC t c b true) else (ob (yQ b.To 0 (wr (t.N - 1))) fun e=>
 if (!e) then (yC t c b true) else (ob (yQ b.B 0 (wr ((t.L.length:Int) - 1))) fun f=>
 yC t c b (!f)))) else (some (.inr (.inl ())))
def vK (t:cN) (c:Bool):Option Bool:=
 if c then (some false) else (ob (loop (fun (s:Int)=>yD t s) 0) fun r=>match r with|.inl r=>aCL|.inr r=>some r)
def aDT (t:cN):Option Bool:=
 ob (yQ t.N 1 40) fun b=>
 if (!b) then (vK t true) else (ob (yQ t.I 0 (wr (t.N - 1))) fun c=>
 if (!c) then (vK t true) else (ob (aBi t.L) fun d=>
 if (!d) then (vK t true) else (vK t (decide (300 < (t.E.length:Int))))))
def yU (a:List Bool):Option (List Bool):=
 some a
def uE (c:(List Int)) (a:List Bool) (b:Int):Option ((List Bool × Int) ⊕ (List Bool)):=
 if (decide (b < (c.length:Int))) then (ob (ix c b) fun d=>
 ob (ix a d) fun f=>
 ob (st a d (true:Bool)) fun e=>
 some (.inl (e,wr (b+1)))) else (some (.inr a))
def aBk (t:cN) (b:(List Int)):Option (List Bool):=
 ob (mkz t.N (false:Bool)) fun c=>
 ob (loop (fun (s:(List Bool × Int))=>uE b s.1 s.2) (c,0)) fun r=>yU r
def yV (a:List Bool):Option (List Bool):=
 some a
def yW (a:List Bool) (b:Bool):Option ((List Bool × Bool) ⊕ (List Bool)):=
 some (.inl (a,b))
def uF (a:List Bool) (b:Bool):Option ((List Bool × Bool) ⊕ (List Bool)):=
 yW a b
def uG (a:Int) (b:List Bool) (c:Bool):Option ((List Bool × Bool × Int) ⊕ (List Bool × Bool)):=
 some (.inl (b,c,wr (a+1)))
def qR (a:List Bool) (d:Bool) (b:Int) (c:Edge) (e:Bool):Option ((List Bool × Bool × Int) ⊕ (List Bool × Bool)):=
 if e then (ob (ix a c.To) fun g=>
 ob (st a c.To (true:Bool)) fun f=>
 uG b f true) else (uG b a d)
def qS (t:cN) (a:List Bool) (d:Bool) (c:Int):Option ((List Bool × Bool × Int) ⊕ (List Bool × Bool)):=
 if (decide (c < (t.E.length:Int))) then (ob (ix t.E c) fun b=>
 if (b.B == 0) then (ob (ix a b.F) fun f=>
 if f then (ob (ix a b.To) fun g=>
 qR a d c b (!g)) else (qR a d c b false)) else (qR a d c b false)) else (some (.inr (a,d)))
def oA (t:cN) (a:List Bool) (d:Bool):Option ((List Bool × Bool) ⊕ (List Bool)):=
 if d then (ob (loop (fun (s:(List Bool × Bool × Int))=>qS t s.1 s.2.1 s.2.2) (a,false,0)) fun r=>uF r.1 r.2) else (some (.inr a))
def vL (t:cN) (b:(List Bool)):Option (List Bool):=
 ob (loop (fun (s:(List Bool × Bool))=>oA t s.1 s.2) (b,true)) fun r=>yV r
def aAE (a:List Int):Option (List Int):=
 some a
def wY (a:Int) (b:List Int):Option ((List Int × Int) ⊕ (List Int)):=
 some (.inl (b,wr (a+1)))
def sU (c:(List Bool)) (b:List Int) (a:Int):Option ((List Int × Int) ⊕ (List Int)):=
 if (decide (a < (c.length:Int))) then (ob (ix c a) fun d=>
 if d then (ob (tK b ([a]:List Int)) fun e=>
 wY a e) else (wY a b)) else (some (.inr b))
def yE (a:(List Bool)):Option (List Int):=
 ob (loop (fun (s:(List Int × Int))=>sU a s.1 s.2) (([]:List Int),0)) fun r=>aAE r
def rV (t:cN):Option (List Int):=
 ob (aBk t ([t.I]:List Int)) fun b=>
 ob (vL t b) fun c=>
 ob (yE c) fun d=>
 some d
def aBP:Option Bool:=
 some false
def aDw (b:(List Int)) (n a:Int):Option (Int ⊕ (Unit ⊕ Bool)):=
 if (decide (a < (b.length:Int))) then (ob (ix b a) fun d=>
 if (d == n) then (some (.inr (.inr true))) else (some (.inl (wr (a+1))))) else (some (.inr (.inl ())))
def aHf (b:(List Int)) (n:Int):Option Bool:=
 ob (loop (fun (s:Int)=>aDw b n s) 0) fun r=>match r with|.inl r=>aBP|.inr r=>some r
def wZ (t:cN) (b:List Bool):Option (List Int):=
 ob (vL t b) fun c=>
 ob (yE c) fun d=>
 some d
def xA (a:Int) (b:List Bool):Option ((List Bool × Int) ⊕ (List Bool)):=
 some (.inl (b,wr (a+1)))
def xB (t:cN) (a:List Bool) (b:Int) (e:Bool):Option ((List Bool × Int) ⊕ (List Bool)):=
 if e then (ob (ix t.E b) fun c=>
 ob (ix a c.To) fun g=>
 ob (st a c.To (true:Bool)) fun f=>
 xA b f) else (xA b a)
def pM (t:cN) (e:(List Int)) (f:Int) (c:List Bool) (b:Int):Option ((List Bool × Int) ⊕ (List Bool)):=
 if (decide (b < (t.E.length:Int))) then (ob (ix t.E b) fun d=>
 if (d.B == f) then (ob (aHf e d.F) fun g=>
 xB t c b g) else (xB t c b false)) else (some (.inr c))
def wB (t:cN) (b:(List Int)) (c:Int):Option (List Int):=
 ob (mkz t.N (false:Bool)) fun d=>
 ob (loop (fun (s:(List Bool × Int))=>pM t b c s.1 s.2) (d,0)) fun r=>wZ t r
def aAF:Option Bool:=
 some true
def sV (a b:(List Int)) (c:Int):Option (Int ⊕ (Unit ⊕ Bool)):=
 if (decide (c < (a.length:Int))) then (ob (ix a c) fun f=>
 ob (ix b c) fun g=>
 if (f != g) then (some (.inr (.inr false))) else (some (.inl (wr (c+1))))) else (some (.inr (.inl ())))
def aCp (a b:(List Int)):Option Bool:=
 if ((a.length:Int) != (b.length:Int)) then (some false) else (ob (loop (fun (s:Int)=>sV a b s) 0) fun r=>match r with|.inl r=>aAF|.inr r=>some r)
def sW (t:cN) (a:List (List Int)) (c:List Edge):Option (cN × (List (List Int)) × Bool):=
 ob (tK ([]:List bB) t.L) fun d=>
 some (⟨(a.length:Int),0,d,c⟩,a,true)
def aAG (a:Int) (b:List (List Int)) (c:List Edge):Option ((List (List Int) × List Edge × Int) ⊕ ((List (List Int) × List Edge) ⊕ (cN × (List (List Int)) × Bool))):=
 some (.inl (b,c,wr (a+1)))
def xC (a:Int) (b:List (List Int)) (c:List Edge):Option ((List (List Int) × List Edge × Int) ⊕ ((List (List Int) × List Edge) ⊕ (cN × (List (List Int)) × Bool))):=
 aAG a b c
def sX (a:Int) (b:List (List Int)) (c:List Edge):Option ((List (List Int) × List Edge × Int) ⊕ ((List (List Int) × List Edge) ⊕ (cN × (List (List Int)) × Bool))):=
 some (.inl (b,c,wr (a+1)))
def xD (c:Int) (a:List Edge) (b:Int) (d:List (List Int)) (e:Int):Option ((List (List Int) × List Edge × Int) ⊕ ((List (List Int) × List Edge) ⊕ (cN × (List (List Int)) × Bool))):=
 if ((a.length:Int) == 300) then (some (.inr (.inr (⟨0,0,[],[]⟩,[],false)))) else (ob (tK a ([⟨c,b,e⟩]:List Edge)) fun f=>
 sX b d f)
def pN (b:Int) (a:List (List Int)) (c:List Edge) (d:Int) (f:(List Int)) (e:Int):Option ((List (List Int) × List Edge × Int) ⊕ ((List (List Int) × List Edge) ⊕ (cN × (List (List Int)) × Bool))):=
 if (decide (e < 0)) then (if ((a.length:Int) == 40) then (some (.inr (.inr (⟨0,0,[],[]⟩,[],false)))) else (ob (tK a ([f]:List (List Int))) fun g=>
 xD b c d g (a.length:Int))) else (xD b c d a e)
def xE (a b:Int):Option ((Int × Int) ⊕ Int):=
 some (.inl (b,wr (a+1)))
def nG (b:List (List Int)) (d:(List Int)) (c a:Int):Option ((Int × Int) ⊕ Int):=
 if (decide (a < (b.length:Int))) then (ob (ix b a) fun e=>
 ob (aCp e d) fun f=>
 if f then (xE a a) else (xE a c)) else (some (.inr c))
def nH (t:cN) (f:Int) (a:List (List Int)) (c:List Edge) (b:Int):Option ((List (List Int) × List Edge × Int) ⊕ ((List (List Int) × List Edge) ⊕ (cN × (List (List Int)) × Bool))):=
 if (decide (b < (t.L.length:Int))) then (ob (ix a f) fun g=>
 ob (wB t g b) fun d=>
 if ((d.length:Int) == 0) then (sX b a c) else (ob (loop (fun (s:(Int × Int))=>nG a d s.1 s.2) ((-1),0)) fun r=>pN f a c b d r)) else (some (.inr (.inl (a,c))))
def iI (t:cN) (b:List (List Int)) (d:List Edge) (c:Int):Option ((List (List Int) × List Edge × Int) ⊕ ((List (List Int) × List Edge) ⊕ (cN × (List (List Int)) × Bool))):=
 if (decide (c < (b.length:Int))) then (ob (loop (fun (s:(List (List Int) × List Edge × Int))=>nH t c s.1 s.2.1 s.2.2) (b,d,1)) fun r=>match r with|.inl r=>xC c r.1 r.2|.inr r=>some (.inr (.inr r))) else (some (.inr (.inl (b,d))))
def yF (t:cN):Option (cN × (List (List Int)) × Bool):=
 ob (rV t) fun c=>
 ob (loop (fun (s:(List (List Int) × List Edge × Int))=>iI t s.1 s.2.1 s.2.2) (([c]:List (List Int)),([]:List Edge),0)) fun r=>match r with|.inl r=>sW t r.1 r.2|.inr r=>some r
def aAd (a b:(cN × (List (List Int)) × Bool)) (c:Bool):Option (cN × cN × Bool):=
 some (a.1,b.1,c)
def aEY (a b:cN):Option (cN × cN × Bool):=
 ob (yF a) fun c=>
 ob (yF b) fun d=>
 if c.2.2 then (aAd c d d.2.2) else (aAd c d false)
def yX:Option Int:=
 some (-1)
def aBZ (b:(List Int)) (n a:Int):Option (Int ⊕ (Unit ⊕ Int)):=
 if (decide (a < (b.length:Int))) then (ob (ix b a) fun d=>
 if (d == n) then (some (.inr (.inr a))) else (some (.inl (wr (a+1))))) else (some (.inr (.inl ())))
def oB (b:(List Int)) (n:Int):Option Int:=
 ob (loop (fun (s:Int)=>aBZ b n s) 0) fun r=>match r with|.inl r=>yX|.inr r=>some r
def aAH:Option Int:=
 some (-1)
def sY (b:(List bB)) (c:bB) (a:Int):Option (Int ⊕ (Unit ⊕ Int)):=
 if (decide (a < (b.length:Int))) then (ob (ix b a) fun d=>
 if (d == c) then (some (.inr (.inr a))) else (some (.inl (wr (a+1))))) else (some (.inr (.inl ())))
def mK (b:(List bB)) (c:bB):Option Int:=
 ob (loop (fun (s:Int)=>sY b c s) 0) fun r=>match r with|.inl r=>aAH|.inr r=>some r
def aAI (a:List bB):Option (List bB):=
 some a
def sZ (a:Int) (b:List bB):Option ((List bB × Int) ⊕ (List bB)):=
 some (.inl (b,wr (a+1)))
def xF (c:Int) (d:bB) (a:Int) (b:List bB):Option ((List bB × Int) ⊕ (List bB)):=
 ob (ix b a) fun f=>
 ob (st b a (d:bB)) fun e=>
 sZ c e
def tA (c:Int) (b:List bB) (a:Int):Option ((List bB × Int) ⊕ (List bB)):=
 if (decide (c < a)) then (ob (ix b (wr (a - 1))) fun d=>
 ob (ix b a) fun f=>
 ob (st b a (d:bB)) fun e=>
 some (.inl (e,wr (a - 1)))) else (some (.inr b))
def xG (c:List bB) (d:Int) (e:bB) (a:Int):Option ((List bB × Int) ⊕ (List bB)):=
 ob (tK c ([([]:bB)]:List bB)) fun b=>
 ob (loop (fun (s:(List bB × Int))=>tA a s.1 s.2) (b,wr ((b.length:Int) - 1))) fun r=>xF d e a r
def tB (a:Int) (b:Bool):Option (Int ⊕ Int):=
 if b then (some (.inl (wr (a+1)))) else (some (.inr a))
def pO (b:List bB) (c:bB) (a:Int):Option (Int ⊕ Int):=
 if (decide (a < (b.length:Int))) then (ob (ix b a) fun d=>
 tB a (vU d c)) else (tB a false)
def nI (d:(List bB)) (a:List bB) (b:Int):Option ((List bB × Int) ⊕ (List bB)):=
 if (decide (b < (d.length:Int))) then (ob (ix d b) fun c=>
 ob (mK a c) fun e=>
 if (decide (0≤e)) then (sZ b a) else (ob (loop (fun (s:Int)=>pO a c s) 1) fun r=>xG a b c r)) else (some (.inr a))
def qT (a:(List bB)):Option (List bB):=
 ob (loop (fun (s:(List bB × Int))=>nI a s.1 s.2) (([([116,97,117]:bB)]:List bB),0)) fun r=>aAI r
def kX (a:bB):Option bB:=
 ob (aAN a) fun b=>
 ob (zH a 0 b) fun c=>
 some c
def aAe (a:List Edge):Option (List Edge):=
 some a
def aAf (a:Int) (b:List Edge):Option ((List Edge × Int) ⊕ (List Edge)):=
 some (.inl (b,wr (a+1)))
def wC (t:cN) (k:Int) (b:List Edge) (a:Int):Option ((List Edge × Int) ⊕ (List Edge)):=
 if (decide (a < (t.E.length:Int))) then (ob (ix t.E a) fun d=>
 if (d.F == k) then (ob (tK b ([d]:List Edge)) fun f=>
 aAf a f) else (aAf a b)) else (some (.inr b))
def aAg (t:cN) (k:Int):Option (List Edge):=
 ob (loop (fun (s:(List Edge × Int))=>wC t k s.1 s.2) (([]:List Edge),0)) fun r=>aAe r
def uH (a:List Edge):Option (List Edge):=
 some a
def uI (a:Int) (b:List Edge):Option ((List Edge × Int) ⊕ (List Edge)):=
 some (.inl (b,wr (a+1)))
def oC (b:cN) (h i:(List bB)) (j k:Int) (e:(List Edge)) (c:List Edge) (a:Int):Option ((List Edge × Int) ⊕ (List Edge)):=
 if (decide (a < (e.length:Int))) then (ob (ix e a) fun f=>
 ob (ix b.L f.B) fun g=>
 ob (kX g) fun l=>
 ob (mK i l) fun m=>
 if (decide (m < 0)) then (ob (mK h g) fun n=>
 ob (tK c ([⟨j,n,wr ((wr (k * b.N))+f.To)⟩]:List Edge)) fun o=>
 uI a o) else (uI a c)) else (some (.inr c))
def uJ (b:cN) (c d:(List bB)) (e f:Int) (g:(List Edge)) (h:List Edge):Option (List Edge):=
 ob (loop (fun (s:(List Edge × Int))=>oC b c d e f g s.1 s.2) (h,0)) fun r=>uH r
def uK (a:Int) (b:List Edge):Option ((List Edge × Int) ⊕ (List Edge)):=
 some (.inl (b,wr (a+1)))
def uL (a:Int) (b:List Edge):Option ((List Edge × Int) ⊕ (List Edge)):=
 uK a b
def uM (a:Int) (b:List Edge):Option ((List Edge × Int) ⊕ (List Edge)):=
 some (.inl (b,wr (a+1)))
def qU (b:cN) (g:Int) (e:(List Edge)) (h:Edge) (i:bB) (j:Int) (c:List Edge) (a:Int):Option ((List Edge × Int) ⊕ (List Edge)):=
 if (decide (a < (e.length:Int))) then (ob (ix e a) fun f=>
 ob (ix b.L f.B) fun k=>
 if (k == i) then (ob (tK c ([⟨g,j,wr ((wr (h.To * b.N))+f.To)⟩]:List Edge)) fun l=>
 uM a l) else (uM a c)) else (some (.inr c))
def mF (a b:cN) (l m:(List bB)) (h n:Int) (i o:(List Edge)) (d:List Edge) (c:Int):Option ((List Edge × Int) ⊕ (List Edge)):=
 if (decide (c < (i.length:Int))) then (ob (ix i c) fun e=>
 ob (ix a.L e.B) fun f=>
 ob (mK l f) fun j=>
 ob (kX f) fun p=>
 ob (mK m p) fun q=>
 if (decide (q < 0)) then (ob (tK d ([⟨h,j,wr ((wr (e.To * b.N))+n)⟩]:List Edge)) fun t=>
 uK c t) else (ob (loop (fun (s:(List Edge × Int))=>qU b h o e f j s.1 s.2) (d,0)) fun r=>uL c r)) else (some (.inr d))
def aBl (a b:cN) (f g:(List bB)) (d:Int):Option (List Edge):=
 ob (qu d b.N) fun h=>
 ob (rm d b.N) fun i=>
 ob (aAg a h) fun k=>
 ob (aAg b i) fun j=>
 ob (loop (fun (s:(List Edge × Int))=>mF a b f g d i k j s.1 s.2) (([]:List Edge),0)) fun r=>uJ b f g d h j r
def aBQ (e:Edge) (b:Int) (c:List Edge):Option (List Edge):=
 ob (ix c b) fun f=>
 ob (st c b (⟨e.F,e.B,e.To⟩:Edge)) fun d=>
 some d
def aDx (d:Int) (b:List Edge) (a:Int):Option ((List Edge × Int) ⊕ (List Edge)):=
 if (decide (d < a)) then (ob (ix b (wr (a - 1))) fun c=>
 ob (ix b a) fun f=>
 ob (st b a (⟨c.F,c.B,c.To⟩:Edge)) fun e=>
 some (.inl (e,wr (a - 1)))) else (some (.inr b))
def aBR (a:(List Edge)) (e:Edge) (b:Int) (f:Bool):Option (List Edge):=
 if f then (some a) else (ob (tK a ([⟨0,0,0⟩]:List Edge)) fun c=>
 ob (loop (fun (s:(List Edge × Int))=>aDx b s.1 s.2) (c,wr ((c.length:Int) - 1))) fun r=>aBQ e b r)
def aBS (b:(List Edge)) (e:Edge) (a:Int):Option (List Edge):=
 if (decide (0 < a)) then (ob (ix b (wr (a - 1))) fun d=>
 aBR b e a (decide ((d:Edge)=e))) else (aBR b e a false)
def aBT (a:Int) (b:Bool):Option (Int ⊕ Int):=
 if b then (some (.inl (wr (a - 1)))) else (some (.inr a))
def aDy (b:(List Edge)) (e:Edge) (a:Int):Option (Int ⊕ Int):=
 if (decide (0 < a)) then (ob (ix b (wr (a - 1))) fun d=>
 ob (aAP e d) fun f=>
 aBT a f) else (aBT a false)
def aEZ (a:(List Edge)) (e:Edge):Option (List Edge):=
 ob (loop (fun (s:Int)=>aDy a e s) (a.length:Int)) fun r=>aBS a e r
def aAh (a:List Int):Option (List Int):=
 some a
def aAi (n:Int) (a:List Int) (c:Bool):Option (List Int):=
 if (!c) then (ob (tK a ([n]:List Int)) fun d=>
 aAh d) else (aAh a)
def wD (b:(List Int)) (a:Int) (c:List Int) (d:Bool):Option ((List Int × Bool × Int) ⊕ (List Int × Bool)):=
 ob (ix b a) fun e=>
 ob (tK c ([e]:List Int)) fun f=>
 some (.inl (f,d,wr (a+1)))
def aAj (a:(List Int)) (n:Int) (c:List Int) (e:Bool) (b:Int) (f:Bool):Option ((List Int × Bool × Int) ⊕ (List Int × Bool)):=
 if f then (ob (ix a b) fun g=>
 if (decide (n < g)) then (ob (tK c ([n]:List Int)) fun h=>
 wD a b h true) else (wD a b c true)) else (wD a b c e)
def nJ (a:(List Int)) (n:Int) (e:List Int) (b:Bool) (c:Int):Option ((List Int × Bool × Int) ⊕ (List Int × Bool)):=
 if (decide (c < (a.length:Int))) then (if (!b) then (ob (ix a c) fun f=>
 aAj a n e b c (decide (n≤f))) else (aAj a n e b c false)) else (some (.inr (e,b)))
def aDz (c:(List Int)) (n:Int):Option (List Int):=
 ob (loop (fun (s:(List Int × Bool × Int))=>nJ c n s.1 s.2.1 s.2.2) (([]:List Int),false,0)) fun r=>aAi n r.1 r.2
def pX (a:(List bB)) (b:List Int) (c:Int) (d:List Edge):Option (cN × Bool):=
 some (⟨(b.length:Int),c,a,d⟩,true)
def jA (c:List Edge) (d:List Int) (e:List Edge) (a:Int):Option ((List Edge × Int) ⊕ (List Edge)):=
 if (decide (a < (c.length:Int))) then (ob (ix c a) fun b=>
 ob (oB d b.F) fun f=>
 ob (oB d b.To) fun g=>
 ob (tK e ([⟨f,b.B,g⟩]:List Edge)) fun h=>
 some (.inl (h,wr (a+1)))) else (some (.inr e))
def pY (a b:cN) (f:(List bB)) (g:List Edge) (c:List Int):Option (cN × Bool):=
 ob (oB c (wr ((wr (a.I * b.N))+b.I))) fun h=>
 ob (loop (fun (s:(List Edge × Int))=>jA g c s.1 s.2) (([]:List Edge),0)) fun r=>pX f c h r
def jB (b c:List Int) (a:Int):Option ((List Int × Int) ⊕ (List Int)):=
 if (decide (a < (b.length:Int))) then (ob (ix b a) fun d=>
 ob (aDz c d) fun e=>
 some (.inl (e,wr (a+1)))) else (some (.inr c))
def pZ (a b:cN) (e:(List bB)) (f:List Int) (g:List Edge):Option (cN × Bool):=
 ob (loop (fun (s:(List Int × Int))=>jB f s.1 s.2) (([]:List Int),0)) fun r=>pY a b e g r
def uV (a:Int) (b:List Int) (c:List Edge):Option ((List Int × List Edge × Int) ⊕ ((List Int × List Edge) ⊕ (cN × Bool))):=
 some (.inl (b,c,wr (a+1)))
def qA (a:Int) (b:List Int) (c:List Edge) (d:Bool):Option ((List Int × List Edge × Int) ⊕ ((List Int × List Edge) ⊕ (cN × Bool))):=
 if d then (some (.inr (.inr (⟨0,0,[],[]⟩,false)))) else (uV a b c)
def qB (c:Int) (a:List Int) (b:List Edge):Option ((List Int × List Edge × Int) ⊕ ((List Int × List Edge) ⊕ (cN × Bool))):=
 if (decide (40 < (a.length:Int))) then (qA c a b true) else (qA c a b (decide (300 < (b.length:Int))))
def qC (a:Int) (b:List Int) (c:List Edge):Option ((List Int × List Edge × Int) ⊕ (List Int × List Edge)):=
 some (.inl (b,c,wr (a+1)))
def iN (d:(List Edge)) (a:List Int) (e:List Edge) (b:Int):Option ((List Int × List Edge × Int) ⊕ (List Int × List Edge)):=
 if (decide (b < (d.length:Int))) then (ob (ix d b) fun c=>
 ob (aEZ e c) fun f=>
 ob (oB a c.To) fun g=>
 if (decide (g < 0)) then (ob (tK a ([c.To]:List Int)) fun h=>
 qC b h f) else (qC b a f)) else (some (.inr (a,e)))
def fL (a b:cN) (i j:(List bB)) (c:List Int) (e:List Edge) (d:Int):Option ((List Int × List Edge × Int) ⊕ ((List Int × List Edge) ⊕ (cN × Bool))):=
 if (decide (d < (c.length:Int))) then (ob (ix c d) fun k=>
 ob (aBl a b j i k) fun l=>
 ob (loop (fun (s:(List Int × List Edge × Int))=>iN l s.1 s.2.1 s.2.2) (c,e,0)) fun r=>qB d r.1 r.2) else (some (.inr (.inl (c,e))))
def xH (a b:cN) (g:(List bB)):Option (cN × Bool):=
 ob (tK ([]:List bB) a.L) fun h=>
 ob (tK h b.L) fun i=>
 ob (qT i) fun f=>
 if (decide (12 < (f.length:Int))) then (some (⟨0,0,[],[]⟩,false)) else (ob (loop (fun (s:(List Int × List Edge × Int))=>fL a b g f s.1 s.2.1 s.2.2) (([wr ((wr (a.I * b.N))+b.I)]:List Int),([]:List Edge),0)) fun r=>match r with|.inl r=>pZ a b f r.1 r.2|.inr r=>some r)
def xI (a:List bB):Option (List bB):=
 some a
def rW (a:Int) (b:List bB):Option ((List bB × Int) ⊕ (List bB)):=
 some (.inl (b,wr (a+1)))
def mM (c:(List bB)) (a:List bB) (b:Int):Option ((List bB × Int) ⊕ (List bB)):=
 if (decide (b < (c.length:Int))) then (ob (ix c b) fun e=>
 ob (kX e) fun d=>
 ob (mK a d) fun f=>
 if (decide (f < 0)) then (ob (tK a ([d]:List bB)) fun g=>
 rW b g) else (rW b a)) else (some (.inr a))
def aAk (a b:cN):Option (List bB):=
 ob (tK ([]:List bB) a.L) fun e=>
 ob (tK e b.L) fun f=>
 ob (qT f) fun g=>
 ob (loop (fun (s:(List bB × Int))=>mM g s.1 s.2) (([]:List bB),1)) fun r=>xI r
def aCM:Option Int:=
 some (-1)
def aBm (d:cN) (a:Int) (c:Bool):Option (Int ⊕ (Unit ⊕ Int)):=
 if c then (ob (ix d.E a) fun e=>
 some (.inr (.inr e.To))) else (some (.inl (wr (a+1))))
def aBn (d:cN) (e:Int) (f:bB) (b:Int) (g:Bool):Option (Int ⊕ (Unit ⊕ Int)):=
 if g then (ob (ix d.E b) fun c=>
 if (c.F == e) then (ob (ix d.L c.B) fun h=>
 aBm d b (h == f)) else (aBm d b false)) else (some (.inr (.inl ())))
def pP (d:cN) (b:Int) (e:bB) (c:Int):Option (Int ⊕ (Unit ⊕ Int)):=
 if (decide (c < (d.E.length:Int))) then (aBn d b e c (decide (0≤b))) else (aBn d b e c false)
def aCN (d:cN) (c:Int) (e:bB):Option Int:=
 ob (loop (fun (s:Int)=>pP d c e s) 0) fun r=>match r with|.inl r=>aCM|.inr r=>some r
def aAJ (a:List Int):Option (List Int):=
 some a
def xJ (a:Int) (b:List Int) (c:Int):Option ((List Int × Int × Int) ⊕ (List Int)):=
 some (.inl (b,c,wr (a+1)))
def tC (b:List Int) (c a d:Int):Option ((List Int × Int × Int) ⊕ (List Int)):=
 if (decide (0≤d)) then (ob (ix b d) fun e=>
 ob (ix b a) fun h=>
 ob (st b a (e:Int)) fun f=>
 xJ a f c) else (ob (ix b a) fun i=>
 ob (st b a (c:Int)) fun g=>
 xJ a g (wr (c+1)))
def jC (b:(List Int)) (c a:Int):Option (Int ⊕ Int):=
 if (decide (a < c)) then (ob (ix b a) fun d=>
 ob (ix b c) fun e=>
 if (d == e) then (some (.inr a)) else (some (.inl (wr (a+1))))) else (some (.inr (-1)))
def lZ (b:(List Int)) (c:List Int) (d a:Int):Option ((List Int × Int × Int) ⊕ (List Int)):=
 if (decide (a < (b.length:Int))) then (ob (loop (fun (s:Int)=>jC b a s) 0) fun r=>tC c d a r) else (some (.inr c))
def aCq (a:(List Int)):Option (List Int):=
 ob (mkz (a.length:Int) (0:Int)) fun b=>
 ob (loop (fun (s:(List Int × Int × Int))=>lZ a s.1 s.2.1 s.2.2) (b,0,0)) fun r=>aAJ r
def uW (a:List Int):Option (List Int):=
 some a
def uX (a:Int) (b:List Int):Option ((List Int × Int) ⊕ (List Int)):=
 some (.inl (b,wr (a+1)))
def qD (a:Int) (b:List Int):Option ((List Int × Int) ⊕ (List Int)):=
 ob (aCq b) fun c=>
 uX a c
def uY (a:Int) (b:List Int):Option ((List Int × Int) ⊕ (List Int)):=
 some (.inl (b,wr (a+1)))
def mX (a:Int) (b:List Int):Option ((List Int × Int) ⊕ (List Int)):=
 uY a b
def uZ (a:Int):Option (Int ⊕ (List Int)):=
 some (.inl (wr (a+1)))
def qE (b:Int) (a:List Int) (c:Int) (d:Bool):Option (Int ⊕ (List Int)):=
 if d then (ob (ix a c) fun e=>
 ob (ix a b) fun g=>
 ob (st a b (e:Int)) fun f=>
 some (.inr f)) else (uZ c)
def iJ (a:Int) (b:Bool):Option ((Bool × Int) ⊕ Bool):=
 some (.inl (b,wr (a+1)))
def jD (d:cN) (e:List Int) (h i:Int) (j:Bool) (a:Int) (k:Bool):Option ((Bool × Int) ⊕ Bool):=
 if k then (ob (ix d.L a) fun g=>
 ob (aCN d h g) fun b=>
 ob (aCN d i g) fun c=>
 if (decide (b < 0)) then (if (decide (c < 0)) then (iJ a true) else (if (decide (0≤b)) then (if (decide (0≤c)) then (ob (ix e b) fun l=>
 ob (ix e c) fun m=>
 iJ a (l == m)) else (iJ a false)) else (iJ a false))) else (if (decide (0≤b)) then (if (decide (0≤c)) then (ob (ix e b) fun n=>
 ob (ix e c) fun o=>
 iJ a (n == o)) else (iJ a false)) else (iJ a false))) else (some (.inr j))
def iO (d:cN) (e:List Int) (f g:Int) (b:Bool) (c:Int):Option ((Bool × Int) ⊕ Bool):=
 if (decide (c < (d.L.length:Int))) then (jD d e f g b c b) else (jD d e f g b c false)
def gB (d:cN) (f:List Int) (a:Int) (c:List Int) (b:Int):Option (Int ⊕ (List Int)):=
 if (decide (b < a)) then (ob (loop (fun (s:(Bool × Int))=>iO d f a b s.1 s.2) (true,1)) fun r=>qE a c b r) else (some (.inr c))
def iP (d:cN) (e b:List Int) (a:Int):Option ((List Int × Int) ⊕ (List Int)):=
 if (decide (a < d.N)) then (ob (ix b a) fun h=>
 ob (st b a (a:Int)) fun f=>
 ob (loop (fun (s:Int)=>gB d e a f s) 0) fun r=>mX a r) else (some (.inr b))
def iQ (d:cN) (b:List Int) (c:Int):Option ((List Int × Int) ⊕ (List Int)):=
 if (decide (c < d.N)) then (ob (mkz d.N (0:Int)) fun e=>
 ob (loop (fun (s:(List Int × Int))=>iP d b s.1 s.2) (e,0)) fun r=>qD c r) else (some (.inr b))
def xK (d:cN):Option (List Int):=
 ob (mkz d.N (0:Int)) fun b=>
 ob (loop (fun (s:(List Int × Int))=>iQ d s.1 s.2) (b,0)) fun r=>uW r
def aAK (a b:Int) (c:(List bB)) (d:List Edge):Option cN:=
 some ⟨a,b,c,d⟩
def pQ (e:(List bB)) (c:(List Edge)) (f:(List bB)) (d:List Edge) (a:Int):Option ((List Edge × Int) ⊕ (List Edge)):=
 if (decide (a < (c.length:Int))) then (ob (ix c a) fun b=>
 ob (ix e b.B) fun g=>
 ob (mK f g) fun h=>
 ob (aEZ d ⟨b.F,h,b.To⟩) fun i=>
 some (.inl (i,wr (a+1)))) else (some (.inr d))
def aCr (c d:Int) (a:(List bB)) (e:(List Edge)):Option cN:=
 ob (qT a) fun b=>
 ob (loop (fun (s:(List Edge × Int))=>pQ a e b s.1 s.2) (([]:List Edge),0)) fun r=>aAK c d b r
def xL (t:cN) (b:List bB) (c:List Edge):Option cN:=
 ob (aCr t.N t.I b c) fun d=>
 some d
def mA (t:cN) (d:List bB) (e:List Edge) (b:Int):Option ((List bB × List Edge × Int) ⊕ (List bB × List Edge)):=
 if (decide (b < (t.E.length:Int))) then (ob (ix t.E b) fun c=>
 ob (ix t.L c.B) fun g=>
 ob (tK d ([g]:List bB)) fun f=>
 ob (tK e ([⟨c.F,wr ((f.length:Int) - 1),c.To⟩]:List Edge)) fun h=>
 some (.inl (f,h,wr (b+1)))) else (some (.inr (d,e)))
def aCs (t:cN):Option cN:=
 ob (loop (fun (s:(List bB × List Edge × Int))=>mA t s.1 s.2.1 s.2.2) (([([116,97,117]:bB)]:List bB),([]:List Edge),0)) fun r=>xL t r.1 r.2
def mY (d:cN) (b:List Int) (c:List Edge):Option cN:=
 ob (aCs ⟨(b.length:Int),0,d.L,c⟩) fun e=>
 some e
def vA (a:Int) (b c:List Int) (d:List Edge):Option ((List Int × List Int × List Edge × Int) ⊕ (List Int × List Edge)):=
 some (.inl (b,c,d,wr (a+1)))
def qF (a:Int) (b c:List Int) (d:List Edge):Option ((List Int × List Int × List Edge × Int) ⊕ (List Int × List Edge)):=
 vA a b c d
def mZ (a:Int) (b c:List Int) (d:List Edge):Option ((List Int × List Int × List Edge × Int) ⊕ (List Int × List Int × List Edge)):=
 some (.inl (b,c,d,wr (a+1)))
def lS (b:Int) (c:List Edge) (a:Int) (d e:List Int) (f:Int):Option ((List Int × List Int × List Edge × Int) ⊕ (List Int × List Int × List Edge)):=
 ob (tK c ([⟨b,a,f⟩]:List Edge)) fun g=>
 mZ a d e g
def jE (d:cN) (k:(List Int)) (g:Int) (a b:List Int) (e:List Edge) (c:Int):Option ((List Int × List Int × List Edge × Int) ⊕ (List Int × List Int × List Edge)):=
 if (decide (c < (d.L.length:Int))) then (ob (ix b g) fun l=>
 ob (ix d.L c) fun m=>
 ob (aCN d l m) fun h=>
 if (decide (h < 0)) then (mZ c a b e) else (ob (ix k h) fun i=>
 ob (oB a i) fun j=>
 if (decide (j < 0)) then (ob (tK a ([i]:List Int)) fun n=>
 ob (tK b ([h]:List Int)) fun o=>
 lS g e c n o (a.length:Int)) else (lS g e c a b j))) else (some (.inr (a,b,e)))
def gQ (d:cN) (g:(List Int)) (a h:List Int) (e:List Edge) (b:Int):Option ((List Int × List Int × List Edge × Int) ⊕ (List Int × List Edge)):=
 if (decide (b < (a.length:Int))) then (ob (loop (fun (s:(List Int × List Int × List Edge × Int))=>jE d g b s.1 s.2.1 s.2.2.1 s.2.2.2) (a,h,e,1)) fun r=>qF b r.1 r.2.1 r.2.2) else (some (.inr (a,e)))
def xM (d:cN):Option cN:=
 ob (xK d) fun b=>
 ob (ix b 0) fun e=>
 ob (loop (fun (s:(List Int × List Int × List Edge × Int))=>gQ d b s.1 s.2.1 s.2.2.1 s.2.2.2) (([e]:List Int),([0]:List Int),([]:List Edge),0)) fun r=>mY d r.1 r.2
def nK (a b:cN) (h:Bool):Option (cN × Int):=
 if h then (some (⟨0,0,[],[]⟩,1)) else (ob (aEY a b) fun c=>
 if (!c.2.2) then (some (⟨0,0,[],[]⟩,5)) else (ob (aAk c.1 c.2.1) fun i=>
 ob (xH c.1 c.2.1 i) fun d=>
 if (!d.2) then (some (⟨0,0,[],[]⟩,5)) else (ob (yF d.1) fun e=>
 if (!e.2.2) then (some (⟨0,0,[],[]⟩,5)) else (ob (xM e.1) fun j=>
 some (j,0)))))
def rX (a b:cN):Option (cN × Int):=
 ob (aDT a) fun e=>
 if (!e) then (nK a b true) else (ob (aDT b) fun f=>
 nK a b (!f))
def oD (t:cN) (k:Int):Option Bool:=
 ob (wO k 0 (wr (t.N - 1))) fun c=>
 some c
def aFa (i many:Int):Option Bool:=
 ob (wO i 0 (wr (many - 1))) fun b=>
 some b
def kJ (a:Int):Option Bool:=
 some (a != a)
def eY (a y:Int):Option Int:=
 ob (kJ a) fun d=>
 ob (kJ y) fun c=>
 if d then (if c then (some 0) else (some (-1))) else (if c then (some 1) else (if (decide (a < y)) then (some (-1)) else (if (decide (y < a)) then (some 1) else (some 0))))
def pB:Option Int:=
 some 0
def gU (b:(List Int)) (a:Int):Option (Int ⊕ (Unit ⊕ Int)):=
 if (decide (a < (b.length:Int))) then (ob (ix b a) fun c=>
 if (c != 0) then (some (.inr (.inr c))) else (some (.inl (wr (a+1))))) else (some (.inr (.inl ())))
def uN (b:(List Int)):Option Int:=
 ob (loop (fun (s:Int)=>gU b s) 0) fun r=>match r with|.inl r=>pB|.inr r=>some r
def rY (a b:Edge):Option Int:=
 ob (eY a.F b.F) fun e=>
 ob (eY a.B b.B) fun f=>
 ob (eY a.To b.To) fun g=>
 ob (uN ([e,f,g]:List Int)) fun h=>
 some h
def yY:Option Bool:=
 some true
def mG (a:Int) (b:Bool):Option (Int ⊕ (Unit ⊕ Bool)):=
 if b then (some (.inr (.inr false))) else (some (.inl (wr (a+1))))
def qV (t:cN) (a:Int):Option (Int ⊕ (Unit ⊕ Bool)):=
 if (decide (a < (t.E.length:Int))) then (ob (ix t.E a) fun c=>
 ob (oD t c.F) fun d=>
 if (!d) then (mG a true) else (ob (oD t c.To) fun e=>
 if (!e) then (mG a true) else (ob (aFa c.B (t.L.length:Int)) fun f=>
 if (!f) then (mG a true) else (if (decide (0 < a)) then (ob (ix t.E (wr (a - 1))) fun g=>
 ob (rY g c) fun h=>
 mG a (decide (0≤h))) else (mG a false))))) else (some (.inr (.inl ())))
def uO (t:cN):Option Bool:=
 ob (loop (fun (s:Int)=>qV t s) 0) fun r=>match r with|.inl r=>yY|.inr r=>some r
def oE (a:Int) (b:Bool):Option (Int ⊕ (Unit ⊕ Bool)):=
 if b then (some (.inr (.inr false))) else (some (.inl (wr (a+1))))
def qW (t:cN) (a:Int):Option (Int ⊕ (Unit ⊕ Bool)):=
 if (decide (a < (t.L.length:Int))) then (ob (ix t.L a) fun b=>
 ob (aCl b) fun e=>
 if (!e) then (oE a true) else (if ((b == ([116,97,117]:bB)) != (a == 0)) then (oE a true) else (if (decide (1 < a)) then (ob (ix t.L (wr (a - 1))) fun d=>
 oE a (vU b d||b == d)) else (oE a false)))) else (some (.inr (.inl ())))
def oF (t:cN) (c:Bool):Option Bool:=
 if c then (some false) else (ob (loop (fun (s:Int)=>qW t s) 0) fun r=>match r with|.inl r=>uO t|.inr r=>some r)
def oG (t:cN):Option Bool:=
 ob (wO t.N 1 40) fun b=>
 if (!b) then (oF t true) else (ob (oD t t.I) fun c=>
 if (!c) then (oF t true) else (ob (wO (t.L.length:Int) 1 12) fun d=>
 if (!d) then (oF t true) else (oF t (decide (300 < (t.E.length:Int))))))
def eS (a:(List Edge)):Option (List Edge):=
 some a
def eT (a:Int):Option (Int ⊕ (Unit ⊕ (List Edge))):=
 some (.inl (wr (a+1)))
def eU (a:List Edge) (b:Int):Option (Int ⊕ (Unit ⊕ (List Edge))):=
 ob (zH a b (a.length:Int)) fun c=>
 ob (ovw a b (List.replicate c.length (⟨0,0,0⟩:Edge))) fun d=>
 ob (zH d 0 b) fun e=>
 some (.inr (.inr e))
def eV (a:Int) (b:List Edge) (c:Int):Option ((List Edge × Int × Int) ⊕ (List Edge × Int)):=
 some (.inl (b,c,wr (a+1)))
def gJ (f:Int) (e b:List Edge) (c a:Int):Option ((List Edge × Int × Int) ⊕ (List Edge × Int)):=
 if (decide (a < (e.length:Int))) then (ob (ix e a) fun i=>
 ob (ix b (f+a)) fun d=>
 ob (ix e (wr (a - 1))) fun j=>
 ob (ix b (f+(wr (a - 1)))) fun g=>
 if (!decide ((d:Edge)=g)) then (ob (ix b c) fun k=>
 ob (st b c (⟨d.F,d.B,d.To⟩:Edge)) fun h=>
 eV a h (wr (c+1))) else (eV a b c)) else (some (.inr (b,c)))
def dG (b:(List Edge)) (a:Int):Option (Int ⊕ (Unit ⊕ (List Edge))):=
 if (decide (a < (b.length:Int))) then (ob (ix b a) fun d=>
 ob (ix b (wr (a - 1))) fun e=>
 if (decide ((d:Edge)=e)) then (ob (zH b a (b.length:Int)) fun f=>
 ob (loop (fun (s:(List Edge × Int × Int))=>gJ a f s.1 s.2.1 s.2.2) (b,a,1)) fun r=>eU r.1 r.2) else (eT a)) else (some (.inr (.inl ())))
def eE (a:(List Edge)):Option (List Edge):=
 if (decide ((a.length:Int) < 2)) then (some a) else (ob (loop (fun (s:Int)=>dG a s) 1) fun r=>match r with|.inl r=>eS a|.inr r=>some r)
def vB (a b:bB):Option Int:=
 if (a == b) then (some 0) else (if (a == ([116,97,117]:bB)) then (some (-1)) else (if (b == ([116,97,117]:bB)) then (some 1) else (ob (aIS a b) fun e=>
 some e)))
def fV (a:(List bB)):Option (List bB):=
 some a
def fW (a:Int):Option (Int ⊕ (Unit ⊕ (List bB))):=
 some (.inl (wr (a+1)))
def eP (a:List bB) (b:Int):Option (Int ⊕ (Unit ⊕ (List bB))):=
 ob (zH a b (a.length:Int)) fun c=>
 ob (ovw a b (List.replicate c.length ([]:bB))) fun d=>
 ob (zH d 0 b) fun e=>
 some (.inr (.inr e))
def eQ (a:Int) (b:List bB) (c:Int):Option ((List bB × Int × Int) ⊕ (List bB × Int)):=
 some (.inl (b,c,wr (a+1)))
def dU (e:Int) (d b:List bB) (c a:Int):Option ((List bB × Int × Int) ⊕ (List bB × Int)):=
 if (decide (a < (d.length:Int))) then (ob (ix d a) fun i=>
 ob (ix b (e+a)) fun f=>
 ob (ix d (wr (a - 1))) fun j=>
 ob (ix b (e+(wr (a - 1)))) fun g=>
 if (!(f == g)) then (ob (ix b c) fun k=>
 ob (st b c (f:bB)) fun h=>
 eQ a h (wr (c+1))) else (eQ a b c)) else (some (.inr (b,c)))
def dV (b:(List bB)) (a:Int):Option (Int ⊕ (Unit ⊕ (List bB))):=
 if (decide (a < (b.length:Int))) then (ob (ix b a) fun d=>
 ob (ix b (wr (a - 1))) fun e=>
 if (d == e) then (ob (zH b a (b.length:Int)) fun f=>
 ob (loop (fun (s:(List bB × Int × Int))=>dU a f s.1 s.2.1 s.2.2) (b,a,1)) fun r=>eP r.1 r.2) else (fW a)) else (some (.inr (.inl ())))
def fJ (a:(List bB)):Option (List bB):=
 if (decide ((a.length:Int) < 2)) then (some a) else (ob (loop (fun (s:Int)=>dV a s) 1) fun r=>match r with|.inl r=>fV a|.inr r=>some r)
def gK:Option Int:=
 some (-1)
def eA (b:(List bB)) (c:bB) (a:Int):Option (Int ⊕ (Unit ⊕ Int)):=
 if (decide (a < (b.length:Int))) then (ob (ix b a) fun d=>
 if (c == d) then (some (.inr (.inr a))) else (some (.inl (wr (a+1))))) else (some (.inr (.inl ())))
def fQ (b:(List bB)) (c:bB):Option Int:=
 ob (loop (fun (s:Int)=>eA b c s) 0) fun r=>match r with|.inl r=>gK|.inr r=>some r
def aCt (a b:Int) (c:(List bB)) (d:List Edge):Option cN:=
 ob (vI d) fun e=>
 ob (eE e) fun f=>
 some ⟨a,b,c,f⟩
def xN (c:(List iC)) (e:(List bB)) (d:List Edge) (a:Int):Option ((List Edge × Int) ⊕ (List Edge)):=
 if (decide (a < (c.length:Int))) then (ob (ix c a) fun b=>
 ob (fQ e b.label) fun f=>
 ob (tK d ([⟨b.from_,f,b.to_⟩]:List Edge)) fun g=>
 some (.inl (g,wr (a+1)))) else (some (.inr d))
def aDA (b c:Int) (d:(List bB)) (e:(List iC)):Option cN:=
 ob (tK ([([116,97,117]:bB)]:List bB) d) fun f=>
 ob (yA f) fun g=>
 ob (fJ g) fun a=>
 ob (loop (fun (s:(List Edge × Int))=>xN e a s.1 s.2) ([],0)) fun r=>aCt b c a r
def yZ (a:List bB):Option (List bB):=
 some a
def qX (b:(List iC)) (c:List bB) (a:Int):Option ((List bB × Int) ⊕ (List bB)):=
 if (decide (a < (b.length:Int))) then (ob (ix b a) fun d=>
 ob (tK c ([d.label]:List bB)) fun e=>
 some (.inl (e,wr (a+1)))) else (some (.inr c))
def yG (a:(List iC)):Option (List bB):=
 ob (loop (fun (s:(List bB × Int))=>qX a s.1 s.2) ([],0)) fun r=>yZ r
def gZ:Option Int:=
 some (-1)
def eJ (b:(List Int)) (c a:Int):Option (Int ⊕ (Unit ⊕ Int)):=
 if (decide (a < (b.length:Int))) then (ob (ix b a) fun d=>
 if (c == d) then (some (.inr (.inr a))) else (some (.inl (wr (a+1))))) else (some (.inr (.inl ())))
def gG (b:(List Int)) (c:Int):Option Int:=
 ob (loop (fun (s:Int)=>eJ b c s) 0) fun r=>match r with|.inl r=>gZ|.inr r=>some r
def eK (a:(List Int)) (b:Int):Option Bool:=
 ob (gG a b) fun c=>
 some (decide (0≤c))
def gL (a:(List Int)):Option (List Int):=
 some a
def gM (a:Int):Option (Int ⊕ (Unit ⊕ (List Int))):=
 some (.inl (wr (a+1)))
def fE (a:List Int) (b:Int):Option (Int ⊕ (Unit ⊕ (List Int))):=
 ob (zH a b (a.length:Int)) fun c=>
 ob (ovw a b (List.replicate c.length (0:Int))) fun d=>
 ob (zH d 0 b) fun e=>
 some (.inr (.inr e))
def fF (a:Int) (b:List Int) (c:Int):Option ((List Int × Int × Int) ⊕ (List Int × Int)):=
 some (.inl (b,c,wr (a+1)))
def eB (e:Int) (d b:List Int) (c a:Int):Option ((List Int × Int × Int) ⊕ (List Int × Int)):=
 if (decide (a < (d.length:Int))) then (ob (ix d a) fun i=>
 ob (ix b (e+a)) fun f=>
 ob (ix d (wr (a - 1))) fun j=>
 ob (ix b (e+(wr (a - 1)))) fun g=>
 if (f != g) then (ob (ix b c) fun k=>
 ob (st b c (f:Int)) fun h=>
 fF a h (wr (c+1))) else (fF a b c)) else (some (.inr (b,c)))
def eC (b:(List Int)) (a:Int):Option (Int ⊕ (Unit ⊕ (List Int))):=
 if (decide (a < (b.length:Int))) then (ob (ix b a) fun d=>
 ob (ix b (wr (a - 1))) fun e=>
 if (d == e) then (ob (zH b a (b.length:Int)) fun f=>
 ob (loop (fun (s:(List Int × Int × Int))=>eB a f s.1 s.2.1 s.2.2) (b,a,1)) fun r=>fE r.1 r.2) else (gM a)) else (some (.inr (.inl ())))
def dY (a:(List Int)):Option (List Int):=
 if (decide ((a.length:Int) < 2)) then (some a) else (ob (loop (fun (s:Int)=>eC a s) 1) fun r=>match r with|.inl r=>gL a|.inr r=>some r)
def nA (a:List Int):Option (List Int):=
 ob (vW a) fun b=>
 ob (dY b) fun c=>
 some c
def nB (a:Int) (b:List Int):Option ((List Int × Int) ⊕ (List Int)):=
 some (.inl (b,wr (a+1)))
def nC (a:List Int) (b:Int) (c:Edge) (d:Bool):Option ((List Int × Int) ⊕ (List Int)):=
 if d then (ob (tK a ([c.To]:List Int)) fun e=>
 nB b e) else (nB b a)
def jF (t:cN) (e:(List Int)) (f:bB) (d:List Int) (a:Int):Option ((List Int × Int) ⊕ (List Int)):=
 if (decide (a < (t.E.length:Int))) then (ob (ix t.E a) fun b=>
 ob (ix t.L b.B) fun g=>
 if (g == f) then (ob (eK e b.F) fun h=>
 nC d a b h) else (nC d a b false)) else (some (.inr d))
def kN (t:cN) (b:(List Int)) (c:bB):Option (List Int):=
 ob (loop (fun (s:(List Int × Int))=>jF t b c s.1 s.2) ([],0)) fun r=>nA r
def iU (a:(List Int)):Option (List Int):=
 ob (tK ([]:List Int) a) fun b=>
 some b
def nL (a:List Int):Option (List Int):=
 ob (vW a) fun b=>
 some b
def rD (a:Int) (b:List Int):Option ((List Int × Int) ⊕ (List Int)):=
 some (.inl (b,wr (a+1)))
def nM (a:Int) (b:List Int):Option ((List Int × Int) ⊕ (List Int)):=
 rD a b
def nN (a:Int) (b:List Int):Option ((List Int × Int) ⊕ (List Int)):=
 some (.inl (b,wr (a+1)))
def jT (c:(List Int)) (a:List Int) (b:Int):Option ((List Int × Int) ⊕ (List Int)):=
 if (decide (b < (c.length:Int))) then (ob (ix c b) fun d=>
 ob (eK a d) fun e=>
 if (!e) then (ob (tK a ([d]:List Int)) fun f=>
 nN b f) else (nN b a)) else (some (.inr a))
def lL (t:cN) (a:List Int) (b:Int):Option ((List Int × Int) ⊕ (List Int)):=
 if (decide (b < (a.length:Int))) then (ob (ix a b) fun d=>
 ob (kN t ([d]:List Int) ([116,97,117]:bB)) fun e=>
 ob (loop (fun (s:(List Int × Int))=>jT e s.1 s.2) (a,0)) fun r=>nM b r) else (some (.inr a))
def kY (t:cN) (b:(List Int)):Option (List Int):=
 ob (iU b) fun c=>
 ob (loop (fun (s:(List Int × Int))=>lL t s.1 s.2) (c,0)) fun r=>nL r
def kZ (a:(List Int)):Option bB:=
 ob (aCj a ([44]:bB)) fun b=>
 some b
def uP (t:cN) (b:(List Int)) (c:bB):Option (List Int):=
 ob (kN t b c) fun d=>
 ob (kY t d) fun e=>
 some e
def zD (a:List iC):Option (List iC):=
 some a
def qY (t:cN) (d:List iC) (b:Int):Option ((List iC × Int) ⊕ (List iC)):=
 if (decide (b < (t.E.length:Int))) then (ob (ix t.E b) fun c=>
 ob (ix t.L c.B) fun e=>
 ob (tK d ([⟨c.F,e,c.To⟩]:List iC)) fun f=>
 some (.inl (f,wr (b+1)))) else (some (.inr d))
def yH (t:cN):Option (List iC):=
 ob (loop (fun (s:(List iC × Int))=>qY t s.1 s.2) ([],0)) fun r=>zD r
def iR (a:Int) (b:List (List Int)) (c:(List (bB × Int))):Option (Int × (List (List Int)) × (List (bB × Int))):=
 some (a,b,c)
def eW (a:(List (List Int))) (b:(List (bB × Int))) (g:(List iC)) (d:(List Int)):Option (Int × (List (List Int)) × (List (bB × Int))):=
 ob (kZ d) fun c=>
 if (!((fS b c).isSome)) then (ob (some (rH b c (a.length:Int))) fun e=>
 ob (tK a ([d]:List (List Int))) fun f=>
 iR (a.length:Int) f e) else (iR ((fS b c).getD 0) a b)
def kH (a:List (List Int)) (b:(List (bB × Int))) (c:List iC):Option ((List (List Int)) × (List (bB × Int)) × (List iC)):=
 some (a,b,c)
def jU (c:bB) (d:(List Int)) (e:(List (List Int))) (f:(List (bB × Int))) (b:(List iC)) (p:Int):Option ((List (List Int)) × (List (bB × Int)) × (List iC)):=
 ob (eW e f b d) fun a=>
 ob (tK b ([⟨p,c,a.1⟩]:List iC)) fun h=>
 kH a.2.1 a.2.2 h
def jM (a:List (List Int)) (b:(List (bB × Int))) (c:List iC):Option (Bool × (List (List Int)) × (List (bB × Int)) × (List iC)):=
 some (true,a,b,c)
def iE (a:Int) (b:List (List Int)) (c:(List (bB × Int))) (d:List iC):Option ((List (List Int) × (List (bB × Int)) × List iC × Int) ⊕ (List (List Int) × (List (bB × Int)) × List iC)):=
 some (.inl (b,c,d,wr (a+1)))
def gC (i:(List Int)) (j:Int) (p:cN) (f:List bB) (b:List (List Int)) (c:(List (bB × Int))) (d:List iC) (a:Int):Option ((List (List Int) × (List (bB × Int)) × List iC × Int) ⊕ (List (List Int) × (List (bB × Int)) × List iC)):=
 if (decide (a < (f.length:Int))) then (ob (ix f a) fun g=>
 ob (uP p i g) fun h=>
 if (decide (0 < (h.length:Int))) then (ob (jU g h b c d j) fun e=>
 iE a e.1 e.2.1 e.2.2) else (iE a b c d)) else (some (.inr (b,c,d)))
def lA (c:(List Int)) (d:(List (List Int))) (e:(List (bB × Int))) (f:(List iC)) (g:Int) (p:cN):Option (Bool × (List (List Int)) × (List (bB × Int)) × (List iC)):=
 ob (zH p.L 1 (p.L.length:Int)) fun h=>
 ob (loop (fun (s:(List (List Int) × (List (bB × Int)) × List iC × Int))=>gC c g p h s.1 s.2.1 s.2.2.1 s.2.2.2) (d,e,f,0)) fun r=>jM r.1 r.2.1 r.2.2
def mB (e:List (List Int)) (a b:Int) (c:List bB) (d:List Edge):Option (cN × (List (List Int)) × Bool):=
 ob (oG ⟨a,b,c,d⟩) fun f=>
 some (⟨a,b,c,d⟩,e,f)
def iS (b:List (List Int)) (e:(List (bB × Int))) (c:List iC):Option (cN × (List (List Int)) × Bool):=
 ob (yG c) fun d=>
 ob (aDA (b.length:Int) 0 d c) fun a=>
 mB b a.N a.I a.L a.E
def jV (b:Int) (a:(Bool × (List (List Int)) × (List (bB × Int)) × (List iC))) (c:Bool):Option ((List (List Int) × (List (bB × Int)) × List iC × Int) ⊕ ((List (List Int) × (List (bB × Int)) × List iC) ⊕ (cN × (List (List Int)) × Bool))):=
 if c then (some (.inr (.inr (⟨0,0,[],[]⟩,[],false)))) else (some (.inl (a.2.1,a.2.2.1,a.2.2.2,wr (b+1))))
def dM (f:cN) (b:List (List Int)) (d:(List (bB × Int))) (e:List iC) (a:Int):Option ((List (List Int) × (List (bB × Int)) × List iC × Int) ⊕ ((List (List Int) × (List (bB × Int)) × List iC) ⊕ (cN × (List (List Int)) × Bool))):=
 if (decide (a < (b.length:Int))) then (ob (ix b a) fun g=>
 ob (lA g b d e a f) fun c=>
 if (!c.1) then (jV a c true) else (jV a c (decide (40 < (c.2.1.length:Int))))) else (some (.inr (.inl (b,d,e))))
def lV (c:(List Int)) (d:cN):Option (cN × (List (List Int)) × Bool):=
 ob (eW [] ([]:(List (bB × Int))) [] c) fun b=>
 ob (loop (fun (s:(List (List Int) × (List (bB × Int)) × List iC × Int))=>dM d s.1 s.2.1 s.2.2.1 s.2.2.2) (b.2.1,b.2.2,[],0)) fun r=>match r with|.inl r=>iS r.1 r.2.1 r.2.2|.inr r=>some r
def jW (t:cN):Option (cN × (List (List Int)) × Bool):=
 ob (kY t ([t.I]:List Int)) fun c=>
 ob (lV c t) fun b=>
 if (!b.2.2) then (some (⟨0,0,[],[]⟩,[],false)) else (ob (yH b.1) fun d=>
 ob (aDA b.1.N 0 t.L d) fun e=>
 some (e,b.2.1,true))
def aDU (t:cN):Option (cN × Int):=
 ob (oG t) fun b=>
 if (!b) then (some (⟨0,0,[],[]⟩,5)) else (some (t,0))
def pR (a:List Edge):Option (List Edge):=
 some a
def pS (a:Int) (b:List Edge):Option ((List Edge × Int) ⊕ (List Edge)):=
 some (.inl (b,wr (a+1)))
def jG (t:cN) (k:Int) (b:List Edge) (a:Int):Option ((List Edge × Int) ⊕ (List Edge)):=
 if (decide (a < (t.E.length:Int))) then (ob (ix t.E a) fun d=>
 if (d.F == k) then (ob (tK b ([d]:List Edge)) fun f=>
 pS a f) else (pS a b)) else (some (.inr b))
def pC (t:cN) (k:Int):Option (List Edge):=
 ob (loop (fun (s:(List Edge × Int))=>jG t k s.1 s.2) ([],0)) fun r=>pR r
def eD (a b:(List Int)):Option Int:=
 if (decide ((a.length:Int) < (b.length:Int))) then (some (-1)) else (some 0)
def cO (b c:(List Int)) (a:Int):Option (Int ⊕ (Unit ⊕ Int)):=
 if (decide (a < (b.length:Int))) then (ob (ix b a) fun e=>
 if (decide ((c.length:Int)≤a)) then (some (.inr (.inr 1))) else (ob (ix c a) fun f=>
 ob (eY e f) fun d=>
 if (d != 0) then (some (.inr (.inr d))) else (some (.inl (wr (a+1)))))) else (some (.inr (.inl ())))
def fR (b c:(List Int)):Option Int:=
 ob (loop (fun (s:Int)=>cO b c s) 0) fun r=>match r with|.inl r=>eD b c|.inr r=>some r
def xO (p q:(Int × Int)):Option Int:=
 ob (fR ([p.1,p.2]:List Int) ([q.1,q.2]:List Int)) fun c=>
 some c
def lM (p:bB):Option Bool:=
 some true
def aBU (a:List Int):Option (List Int):=
 some a
def aAl (b:List Int) (a:Int) (c:(List (Int × Int))) (d:Int):Option (((List (Int × Int)) × List Int × Int) ⊕ (List Int)):=
 ob (ix b a) fun f=>
 ob (st b a (d:Int)) fun e=>
 some (.inl (c,e,wr (a+1)))
def nO (e:(List Int)) (a:(List (Int × Int))) (c:List Int) (b:Int):Option (((List (Int × Int)) × List Int × Int) ⊕ (List Int)):=
 if (decide (b < (e.length:Int))) then (ob (ix e b) fun d=>
 if (!((fS a d).isSome)) then (ob (some (rH a d (a.length:Int))) fun f=>
 aAl c b f (a.length:Int)) else (aAl c b a ((fS a d).getD 0))) else (some (.inr c))
def aCu (a:(List Int)):Option (List Int):=
 ob (mkz (a.length:Int) (0:Int)) fun b=>
 ob (loop (fun (s:((List (Int × Int)) × List Int × Int))=>nO a s.1 s.2.1 s.2.2) (([]:(List (Int × Int))),b,0)) fun r=>aBU r
def aBo (t:cN) (k:Int) (d:bB):Option Int:=
 if (decide (k < 0)) then (some (-1)) else (ob (kN t ([k]:List Int) d) fun b=>
 if (decide (0 < (b.length:Int))) then (ob (ix b 0) fun e=>
 some e) else (some (-1)))
def hY:Option Bool:=
 some true
def eL (b c:(List Int)) (a:Int):Option (Int ⊕ (Unit ⊕ Bool)):=
 if (decide (a < (b.length:Int))) then (ob (ix b a) fun d=>
 ob (ix c a) fun e=>
 if (d != e) then (some (.inr (.inr false))) else (some (.inl (wr (a+1))))) else (some (.inr (.inl ())))
def fI (b c:(List Int)):Option Bool:=
 if ((b.length:Int) != (c.length:Int)) then (some false) else (ob (loop (fun (s:Int)=>eL b c s) 0) fun r=>match r with|.inl r=>hY|.inr r=>some r)
def vC (k p:(List Int)):Option Bool:=
 ob (fI k p) fun c=>
 some c
def fH:Option Int:=
 some (-1)
def cP (b:(List (List Int))) (c:(List Int)) (a:Int):Option (Int ⊕ (Unit ⊕ Int)):=
 if (decide (a < (b.length:Int))) then (ob (ix b a) fun d=>
 ob (vC d c) fun e=>
 if e then (some (.inr (.inr a))) else (some (.inl (wr (a+1))))) else (some (.inr (.inl ())))
def eM (b:(List (List Int))) (c:(List Int)):Option Int:=
 ob (loop (fun (s:Int)=>cP b c s) 0) fun r=>match r with|.inl r=>fH|.inr r=>some r
def qG (a:List Int):Option (List Int):=
 ob (aCu a) fun b=>
 some b
def qH (a:List Int) (b c:Int):Option ((List Int × Int) ⊕ (List Int)):=
 ob (tK a ([c]:List Int)) fun d=>
 some (.inl (d,wr (b+1)))
def jH (b:(List (List Int))) (c:List Int) (a:Int):Option ((List Int × Int) ⊕ (List Int)):=
 if (decide (a < (b.length:Int))) then (ob (ix b a) fun e=>
 ob (zH b 0 a) fun f=>
 ob (eM f e) fun d=>
 if (decide (d < 0)) then (qH c a a) else (qH c a d)) else (some (.inr c))
def xP (a:(List (List Int))):Option (List Int):=
 ob (loop (fun (s:(List Int × Int))=>jH a s.1 s.2) ([],0)) fun r=>qG r
def lB (k:Int) (p:(List Int)):Option bB:=
 ob (ix p k) fun c=>
 ob (xZ c) fun d=>
 some d
def jI (a:Int) (b:List Int) (c:(List (bB × Int))):Option (Int × (List Int) × (List (bB × Int))):=
 some (a,b,c)
def fK (a:(List Int)) (b:(List (bB × Int))) (h:(List iC)) (e:(List Int)) (d:Int):Option (Int × (List Int) × (List (bB × Int))):=
 ob (lB d e) fun c=>
 if (!((fS b c).isSome)) then (ob (some (rH b c (a.length:Int))) fun f=>
 ob (tK a ([d]:List Int)) fun g=>
 jI (a.length:Int) g f) else (jI ((fS b c).getD 0) a b)
def lN (a:List Int) (b:(List (bB × Int))) (c:List iC):Option ((List Int) × (List (bB × Int)) × (List iC)):=
 some (a,b,c)
def lC (c:bB) (d:Int) (e:(List Int)) (f:(List (bB × Int))) (b:(List iC)) (g:(List Int)) (p:Int):Option ((List Int) × (List (bB × Int)) × (List iC)):=
 ob (fK e f b g d) fun a=>
 ob (tK b ([⟨p,c,a.1⟩]:List iC)) fun i=>
 lN a.2.1 a.2.2 i
def jN (a:List Int) (b:(List (bB × Int))) (c:List iC):Option (Bool × (List Int) × (List (bB × Int)) × (List iC)):=
 some (true,a,b,c)
def gD (h:(List Int)) (i:Int) (p:cN) (c:(List Edge)) (d:List Int) (e:(List (bB × Int))) (f:List iC) (a:Int):Option ((List Int × (List (bB × Int)) × List iC × Int) ⊕ (List Int × (List (bB × Int)) × List iC)):=
 if (decide (a < (c.length:Int))) then (ob (ix c a) fun g=>
 ob (ix p.L g.B) fun k=>
 ob (lC k g.To d e f h i) fun b=>
 some (.inl (b.1,b.2.1,b.2.2,wr (a+1)))) else (some (.inr (d,e,f)))
def lD (k:Int) (d:(List Int)) (e:(List (bB × Int))) (f:(List iC)) (g:(List Int)) (h:Int) (p:cN):Option (Bool × (List Int) × (List (bB × Int)) × (List iC)):=
 ob (pC p k) fun i=>
 ob (loop (fun (s:(List Int × (List (bB × Int)) × List iC × Int))=>gD g h p i s.1 s.2.1 s.2.2.1 s.2.2.2) (d,e,f,0)) fun r=>jN r.1 r.2.1 r.2.2
def nP (e:List Int) (a b:Int) (c:List bB) (d:List Edge):Option (cN × (List Int) × Bool):=
 ob (oG ⟨a,b,c,d⟩) fun f=>
 some (⟨a,b,c,d⟩,e,f)
def jO (b:List Int) (e:(List (bB × Int))) (c:List iC):Option (cN × (List Int) × Bool):=
 ob (yG c) fun d=>
 ob (aDA (b.length:Int) 0 d c) fun a=>
 nP b a.N a.I a.L a.E
def lE (b:Int) (a:(Bool × (List Int) × (List (bB × Int)) × (List iC))) (c:Bool):Option ((List Int × (List (bB × Int)) × List iC × Int) ⊕ ((List Int × (List (bB × Int)) × List iC) ⊕ (cN × (List Int) × Bool))):=
 if c then (some (.inr (.inr (⟨0,0,[],[]⟩,[],false)))) else (some (.inl (a.2.1,a.2.2.1,a.2.2.2,wr (b+1))))
def eH (f:(List Int)) (g:cN) (b:List Int) (d:(List (bB × Int))) (e:List iC) (a:Int):Option ((List Int × (List (bB × Int)) × List iC × Int) ⊕ ((List Int × (List (bB × Int)) × List iC) ⊕ (cN × (List Int) × Bool))):=
 if (decide (a < (b.length:Int))) then (ob (ix b a) fun h=>
 ob (lD h b d e f a g) fun c=>
 if (!c.1) then (lE a c true) else (lE a c (decide (40 < (c.2.1.length:Int))))) else (some (.inr (.inl (b,d,e))))
def nR (d:Int) (b:(List Int)) (e:cN):Option (cN × (List Int) × Bool):=
 ob (fK [] ([]:(List (bB × Int))) [] b d) fun c=>
 ob (loop (fun (s:(List Int × (List (bB × Int)) × List iC × Int))=>eH b e s.1 s.2.1 s.2.2.1 s.2.2.2) (c.2.1,c.2.2,[],0)) fun r=>match r with|.inl r=>jO r.1 r.2.1 r.2.2|.inr r=>some r
def lF (t:cN) (c:List Int):Option (cN × (List Int)):=
 ob (nR t.I c t) fun b=>
 some (b.1,b.2.1)
def nS (a:List Int):Option ((List Int) ⊕ (List Int)):=
 some (.inl a)
def lG (a:List Int) (c:List (List Int)):Option ((List Int) ⊕ (List Int)):=
 ob (xP c) fun b=>
 ob (fI b a) fun d=>
 if d then (some (.inr a)) else (nS b)
def nT (a:Int) (b:List (List Int)):Option ((List (List Int) × Int) ⊕ (List (List Int))):=
 some (.inl (b,wr (a+1)))
def lH (a:List (List Int)) (b:Int) (c:List Int):Option ((List (List Int) × Int) ⊕ (List (List Int))):=
 ob (tK a ([c]:List (List Int))) fun d=>
 nT b d
def lI (a:List Int) (b c:Int):Option ((List Int × Int) ⊕ (List Int)):=
 ob (tK a ([c]:List Int)) fun d=>
 some (.inl (d,wr (b+1)))
def fM (t:cN) (f:List Int) (g:Int) (c:List bB) (b:List Int) (a:Int):Option ((List Int × Int) ⊕ (List Int)):=
 if (decide (a < (c.length:Int))) then (ob (ix c a) fun h=>
 ob (aBo t g h) fun d=>
 if (decide (0≤d)) then (ob (ix f d) fun i=>
 lI b a i) else (lI b a (-1))) else (some (.inr b))
def eZ (t:cN) (c:List Int) (d:List (List Int)) (b:Int):Option ((List (List Int) × Int) ⊕ (List (List Int))):=
 if (decide (b < t.N)) then (ob (ix c b) fun e=>
 ob (zH t.L 1 (t.L.length:Int)) fun f=>
 ob (loop (fun (s:(List Int × Int))=>fM t c b f s.1 s.2) (([e]:List Int),0)) fun r=>lH d b r) else (some (.inr d))
def fN (t:cN) (a:List Int):Option ((List Int) ⊕ (List Int)):=
 ob (loop (fun (s:(List (List Int) × Int))=>eZ t a s.1 s.2) ([],0)) fun r=>lG a r
def rE (t:cN) (b:(List Int)):Option (cN × (List Int)):=
 ob (aCu b) fun c=>
 ob (loop (fun (s:List Int)=>fN t s) c) fun r=>lF t r
def yI (a b:Int) (c:List bB) (d:List Edge):Option cN:=
 some ⟨a,b,c,d⟩
def uQ (t:cN):Option cN:=
 ob (mkz t.N (0:Int)) fun c=>
 ob (rE t c) fun a=>
 yI a.1.N a.1.I a.1.L a.1.E
def vD (t:cN):Option (cN × Int):=
 ob (oG t) fun c=>
 if (!c) then (some (⟨0,0,[],[]⟩,1)) else (ob (jW t) fun b=>
 if (!b.2.2) then (some (⟨0,0,[],[]⟩,5)) else (ob (uQ b.1) fun d=>
 some (d,0)))
def mN (e:bB) (a:(Int × Int)) (p:(List iL)) (g:(Int × Int)) (b:(List ((Int × Int) × Int))) (c:(List (Int × Int))):Option ((List iL) × (List ((Int × Int) × Int)) × (List (Int × Int))):=
 ob (tK p ([⟨g,e,a⟩]:List iL)) fun d=>
 if (!((fS b a).isSome)) then (ob (some (rH b a 0)) fun h=>
 ob (tK c ([a]:List (Int × Int))) fun i=>
 some (d,h,i)) else (some (d,b,c))
def gE (a:List bB):Option (List bB):=
 some a
def cA (b:(List (List bB))) (c:List bB) (a:Int):Option ((List bB × Int) ⊕ (List bB)):=
 if (decide (a < (b.length:Int))) then (ob (ix b a) fun d=>
 ob (tK c d) fun e=>
 some (.inl (e,wr (a+1)))) else (some (.inr c))
def fA (a:(List (List bB))) (b:Int):Option (List bB):=
 ob (aDP [] b) fun c=>
 ob (loop (fun (s:(List bB × Int))=>cA a s.1 s.2) (c,0)) fun r=>gE r
def fB (a b:Int):Option ((Int × Int) ⊕ Int):=
 some (.inl (b,wr (a+1)))
def bX (c:(List (List bB))) (a b:Int):Option ((Int × Int) ⊕ Int):=
 if (decide (b < (c.length:Int))) then (ob (ix c b) fun d=>
 if (decide (wr (a+(d.length:Int)) < 0)) then (none) else (fB b (wr (a+(d.length:Int))))) else (some (.inr a))
def fO (a:(List (List bB))):Option (List bB):=
 ob (loop (fun (s:(Int × Int))=>bX a s.1 s.2) (0,0)) fun r=>fA a r
def rZ (a b:cN) (e:(Int × Int)) (f:(List (Int × Int))) (g:(List ((Int × Int) × Int))) (h:List iC):Option cN:=
 ob (fO ([a.L,b.L]:List (List bB))) fun i=>
 ob (aDA (f.length:Int) ((fS g e).getD 0) i h) fun j=>
 some j
def jX (c:List iL) (d:(List ((Int × Int) × Int))) (e:List iC) (a:Int):Option ((List iC × Int) ⊕ (List iC)):=
 if (decide (a < (c.length:Int))) then (ob (ix c a) fun b=>
 ob (tK e ([⟨((fS d b.from_).getD 0),b.label,((fS d b.to_).getD 0)⟩]:List iC)) fun f=>
 some (.inl (f,wr (a+1)))) else (some (.inr e))
def sA (a b:cN) (f:List iL) (g:(Int × Int)) (h:(List (Int × Int))) (c:(List ((Int × Int) × Int))):Option cN:=
 ob (loop (fun (s:(List iC × Int))=>jX f c s.1 s.2) ([],0)) fun r=>rZ a b g h c r
def jY (b:(List (Int × Int))) (c:(List ((Int × Int) × Int))) (a:Int):Option (((List ((Int × Int) × Int)) × Int) ⊕ (List ((Int × Int) × Int))):=
 if (decide (a < (b.length:Int))) then (ob (ix b a) fun d=>
 ob (some (rH c d a)) fun e=>
 some (.inl (e,wr (a+1)))) else (some (.inr c))
def pD (a b:cN) (g:(List ((Int × Int) × Int))) (c:List (Int × Int)) (h:List iL):Option cN:=
 ob (ix c 0) fun i=>
 ob (aAZ c) fun d=>
 ob (loop (fun (s:((List ((Int × Int) × Int)) × Int))=>jY d s.1 s.2) (g,0)) fun r=>sA a b h i d r
def xQ (a:Int) (b:(List ((Int × Int) × Int))) (c:List (Int × Int)) (d:List iL):Option (((List ((Int × Int) × Int)) × List (Int × Int) × List iL × Int) ⊕ ((List ((Int × Int) × Int)) × List (Int × Int) × List iL)):=
 some (.inl (b,c,d,wr (a+1)))
def sB (a:Int) (b:(List ((Int × Int) × Int))) (c:List (Int × Int)) (d:List iL):Option (((List ((Int × Int) × Int)) × List (Int × Int) × List iL × Int) ⊕ ((List ((Int × Int) × Int)) × List (Int × Int) × List iL)):=
 xQ a b c d
def sC (a:Int) (b:(List ((Int × Int) × Int))) (c:List (Int × Int)) (d:List iL):Option (((List ((Int × Int) × Int)) × List (Int × Int) × List iL × Int) ⊕ ((List ((Int × Int) × Int)) × List (Int × Int) × List iL)):=
 some (.inl (b,c,d,wr (a+1)))
def jZ (b:cN) (g:(Int × Int)) (h:(List Edge)) (c:(List ((Int × Int) × Int))) (d:List (Int × Int)) (e:List iL) (a:Int):Option (((List ((Int × Int) × Int)) × List (Int × Int) × List iL × Int) ⊕ ((List ((Int × Int) × Int)) × List (Int × Int) × List iL)):=
 if (decide (a < (h.length:Int))) then (ob (ix h a) fun i=>
 ob (ix b.L i.B) fun j=>
 ob (lM j) fun l=>
 if (!l) then (ob (mN j ⟨g.1,i.To⟩ e g c d) fun f=>
 sC a f.2.1 f.2.2 f.1) else (sC a c d e)) else (some (.inr (c,d,e)))
def nD (b:cN) (e:Int) (d:(Int × Int)) (f:(List ((Int × Int) × Int))) (g:List (Int × Int)) (h:List iL):Option (((List ((Int × Int) × Int)) × List (Int × Int) × List iL × Int) ⊕ ((List ((Int × Int) × Int)) × List (Int × Int) × List iL)):=
 ob (pC b d.2) fun i=>
 ob (loop (fun (s:((List ((Int × Int) × Int)) × List (Int × Int) × List iL × Int))=>jZ b d i s.1 s.2.1 s.2.2.1 s.2.2.2) (f,g,h,0)) fun r=>sB e r.1 r.2.1 r.2.2
def qI (a:Int) (b:(List ((Int × Int) × Int))) (c:List (Int × Int)) (d:List iL):Option (((List ((Int × Int) × Int)) × List (Int × Int) × List iL × Int) ⊕ ((List ((Int × Int) × Int)) × List (Int × Int) × List iL)):=
 some (.inl (b,c,d,wr (a+1)))
def qJ (a:Int) (b:(List ((Int × Int) × Int))) (c:List (Int × Int)) (d:List iL):Option (((List ((Int × Int) × Int)) × List (Int × Int) × List iL × Int) ⊕ ((List ((Int × Int) × Int)) × List (Int × Int) × List iL)):=
 qI a b c d
def fX (g:(Int × Int)) (h:Edge) (i:bB) (c:(List Int)) (d:(List ((Int × Int) × Int))) (e:List (Int × Int)) (f:List iL) (a:Int):Option (((List ((Int × Int) × Int)) × List (Int × Int) × List iL × Int) ⊕ ((List ((Int × Int) × Int)) × List (Int × Int) × List iL)):=
 if (decide (a < (c.length:Int))) then (ob (ix c a) fun j=>
 ob (mN i ⟨h.To,j⟩ f g d e) fun b=>
 some (.inl (b.2.1,b.2.2,b.1,wr (a+1)))) else (some (.inr (d,e,f)))
def jJ (a b:cN) (c:(Int × Int)) (l:(List Edge)) (f:(List ((Int × Int) × Int))) (g:List (Int × Int)) (h:List iL) (d:Int):Option (((List ((Int × Int) × Int)) × List (Int × Int) × List iL × Int) ⊕ ((List ((Int × Int) × Int)) × List (Int × Int) × List iL)):=
 if (decide (d < (l.length:Int))) then (ob (ix l d) fun i=>
 ob (ix a.L i.B) fun e=>
 ob (lM e) fun o=>
 if (!o) then (ob (mN e ⟨i.To,c.2⟩ h c f g) fun j=>
 qI d j.2.1 j.2.2 j.1) else (ob (kN b ([c.2]:List Int) e) fun p=>
 ob (loop (fun (s:((List ((Int × Int) × Int)) × List (Int × Int) × List iL × Int))=>fX c i e p s.1 s.2.1 s.2.2.1 s.2.2.2) (f,g,h,0)) fun r=>qJ d r.1 r.2.1 r.2.2)) else (some (.inr (f,g,h)))
def gR (a b:cN) (i:(List ((Int × Int) × Int))) (c:List (Int × Int)) (j:List iL) (d:Int):Option (((List ((Int × Int) × Int)) × List (Int × Int) × List iL × Int) ⊕ ((List ((Int × Int) × Int)) × List (Int × Int) × List iL)):=
 if (decide (d < (c.length:Int))) then (ob (ix c d) fun e=>
 ob (pC a e.1) fun k=>
 ob (loop (fun (s:((List ((Int × Int) × Int)) × List (Int × Int) × List iL × Int))=>jJ a b e k s.1 s.2.1 s.2.2.1 s.2.2.2) (i,c,j,0)) fun r=>nD b d e r.1 r.2.1 r.2.2) else (some (.inr (i,c,j)))
def aAm (a b:cN):Option cN:=
 ob (ix ([⟨a.I,b.I⟩]:List (Int × Int)) 0) fun f=>
 ob (some (rH ([]:(List ((Int × Int) × Int))) f 0)) fun g=>
 ob (loop (fun (s:((List ((Int × Int) × Int)) × List (Int × Int) × List iL × Int))=>gR a b s.1 s.2.1 s.2.2.1 s.2.2.2) (g,([⟨a.I,b.I⟩]:List (Int × Int)),[],0)) fun r=>pD a b r.1 r.2.1 r.2.2
def nU (d e:(cN × (List (List Int)) × Bool)) (f:Bool):Option (cN × Int):=
 if f then (some (⟨0,0,[],[]⟩,5)) else (ob (aAm d.1 e.1) fun a=>
 ob (aDU ⟨a.N,a.I,a.L,a.E⟩) fun b=>
 if (b.2 != 0) then (some (⟨0,0,[],[]⟩,b.2)) else (ob (vD b.1) fun c=>
 some (c.1,c.2)))
def nV (a b:cN) (g:Bool):Option (cN × Int):=
 if g then (some (⟨0,0,[],[]⟩,1)) else (ob (jW a) fun c=>
 ob (jW b) fun d=>
 if (!c.2.2) then (nU c d true) else (nU c d (!d.2.2)))
def pE (a b:cN):Option (cN × Int):=
 ob (oG a) fun e=>
 if (!e) then (nV a b true) else (ob (oG b) fun f=>
 nV a b (!f))
def iW (b:(cN × Int)) (a:(Int × (List bB) × (List Edge))) (d:Bool):Option Bool:=
 if d then (some false) else (ob (aAM ⟨b.1.N,b.1.I,a.2.1,a.2.2⟩ 1) fun c=>
 if (decide (c < 0)) then (some false) else (if (c != a.1) then (some false) else (some true)))
def kO (c d:Int) (e:List bB) (f:List Edge) (g:Int) (a:(cN × Int)) (b:(Int × (List bB) × (List Edge))) (h i:Int) (j:List bB) (k:List Edge) (l:Int):Option Bool:=
 ob (aAC ⟨h,i,j,k⟩ ⟨c,d,e,f⟩) fun m=>
 if (!m) then (iW a b true) else (iW a b (l != g))
def gV (e f:cN) (g h:Int) (i:List bB) (j:List Edge) (k:Int) (a:(cN × Int)) (l:Bool):Option Bool:=
 if l then (some false) else (ob (vZ a.1.N a.1.I a.1.L a.1.E 1) fun c=>
 ob (aAM ⟨a.1.N,a.1.I,c.2.1,c.2.2⟩ 1) fun d=>
 if (decide (d < 0)) then (some false) else (if (d != c.1) then (some false) else (ob (uU e) fun m=>
 ob (uU f) fun n=>
 ob (pE m n) fun b=>
 kO g h i j k a c b.1.N b.1.I b.1.L b.1.E b.2)))
def iX (d e:cN) (f g:Int) (h:List bB) (i:List Edge) (j:Int) (a b:cN) (c:(cN × Int)) (k:Bool):Option Bool:=
 if k then (some false) else (ob (uU d) fun l=>
 ob (aAC a l) fun m=>
 if (!m) then (some false) else (ob (uU e) fun n=>
 ob (aAC b n) fun o=>
 if (!o) then (some false) else (ob (vZ a.N a.I a.L a.E 1) fun p=>
 ob (vZ b.N b.I b.L b.E p.1) fun q=>
 if (decide (q.1 < 0)) then (gV d e f g h i j c true) else (ob (aAC c.1 ⟨f,g,h,i⟩) fun r=>
 if (!r) then (gV d e f g h i j c true) else (gV d e f g h i j c (c.2 != j))))))
def kP (b c:cN) (d e:Int) (f:List bB) (g:List Edge) (h:Int):Option Bool:=
 ob (uU b) fun i=>
 ob (uU c) fun j=>
 ob (pE i j) fun a=>
 ob (aAC a.1 ⟨d,e,f,g⟩) fun k=>
 if (!k) then (iX b c d e f g h i j a true) else (iX b c d e f g h i j a (a.2 != h))
def mU (b c:cN):Option Bool:=
 ob (aDS b 1048576) fun d=>
 if (decide (d < 0)) then (some true) else (ob (aDS c d) fun e=>
 if (decide (e < 0)) then (some true) else (ob (uU b) fun f=>
 ob (uU c) fun g=>
 ob (rX f g) fun a=>
 kP b c a.1.N a.1.I a.1.L a.1.E a.2))
end
end Gv
