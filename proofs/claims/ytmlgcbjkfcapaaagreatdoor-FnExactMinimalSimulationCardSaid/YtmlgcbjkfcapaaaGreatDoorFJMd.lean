/- Models of the functions, printed by program off their code. Plain Lean. -/
import Derived.Test.YtmlgcbjkfcapaaaGreatDoorFJLM
set_option linter.all false
namespace Gv
noncomputable section
def rC (a:List Int):Option ((List Int) × Bool):=
 some (a,true)
def lG (b:(List bH)) (c:List Int) (a:Int):Option ((List Int × Int) ⊕ (List Int ⊕ ((List Int) × Bool))):=
 if (decide (a < (b.length:Int))) then (ob (ix b a) fun e=>
 ob (rY e) fun d=>
 if (!d.2) then (some (.inr (.inr ([],false)))) else (ob (apd c ([d.1]:List Int)) fun f=>
 some (.inl (f,wr (a+1))))) else (some (.inr (.inl c)))
def rZ (b:(List bH)):Option ((List Int) × Bool):=
 ob (loop (fun (s:(List Int × Int))=>lG b s.1 s.2) ([],0)) fun r=>match r with|.inl r=>rC r|.inr r=>some r
def xA (a:bH) (b:List bH):Option bH:=
 ob (aHP b a) fun c=>
 some c
def tT (c:(List Int)) (b:List bH) (a:Int):Option ((List bH × Int) ⊕ (List bH)):=
 if (decide (a < (c.length:Int))) then (ob (ix c a) fun d=>
 ob (aAW d) fun e=>
 ob (ix b a) fun g=>
 ob (st b a (e:bH)) fun f=>
 some (.inl (f,wr (a+1)))) else (some (.inr b))
def aCc (a:(List Int)) (b:bH):Option bH:=
 ob (mkz (a.length:Int) ([]:bH)) fun c=>
 ob (loop (fun (s:(List bH × Int))=>tT a s.1 s.2) (c,0)) fun r=>xA b r
def yG (a:Bool):Option Bool:=
 some a
def aCv (c:UInt8):Option Bool:=
 if (decide (48≤(c.toNat:Int))) then (yG (decide ((c.toNat:Int)≤57))) else (yG false)
def aAt (a:Bool):Option Bool:=
 some a
def xB (a:bH):Option Bool:=
 if (decide (1≤(a.length:Int))) then (aAt (decide ((a.length:Int)≤10))) else (aAt false)
def tU (a:Int) (b:Bool):Option (Int ⊕ (Unit ⊕ Bool)):=
 if b then (some (.inr (.inr false))) else (some (.inl (wr (a+1))))
def oD (b:bH) (a:Int) (c:Bool):Option (Int ⊕ (Unit ⊕ Bool)):=
 if (!c) then (if (a == 0) then (tU a true) else (ob (ix b a) fun d=>
 ob (aCv d) fun e=>
 tU a (!e))) else (tU a false)
def qG (a:bH) (b:Int):Option (Int ⊕ (Unit ⊕ Bool)):=
 if (decide (b < (a.length:Int))) then (ob (ix a b) fun c=>
 if (decide (97≤(c.toNat:Int))) then (oD a b (decide ((c.toNat:Int)≤122))) else (oD a b false)) else (some (.inr (.inl ())))
def aCd (b:bH):Option Bool:=
 ob (loop (fun (s:Int)=>qG b s) 0) fun r=>match r with|.inl r=>xB b|.inr r=>some r
def sA (a:Bool):Option Bool:=
 some a
def zY (a:bH):Option Bool:=
 ob (aCd a) fun b=>
 if b then (sA (!(a == ([116,97,117]:bH)))) else (sA false)
def aAu (a:Bool):Option Bool:=
 some a
def uL (n low b:Int):Option Bool:=
 if (decide (low≤n)) then (aAu (decide (n≤b))) else (aAu false)
def aCw (n:Int):Option Bool:=
 ob (uL n 0 63) fun b=>
 some b
def uM (n:Int):Option Bool:=
 ob (aCw n) fun b=>
 some (!b)
def fK:Option Int:=
 some (-1)
def dI (b:(List Int)) (a:Int):Option (Int ⊕ (Unit ⊕ Int)):=
 if (decide (a < (b.length:Int))) then (ob (ix b a) fun c=>
 ob (uM c) fun d=>
 if d then (some (.inr (.inr a))) else (some (.inl (wr (a+1))))) else (some (.inr (.inl ())))
def gJ (b:(List Int)):Option Int:=
 ob (loop (fun (s:Int)=>dI b s) 0) fun r=>match r with|.inl r=>fK|.inr r=>some r
def fL (a:(List Int)):Option Bool:=
 ob (gJ a) fun b=>
 some (decide (0≤b))
def xC (a:(List Int)):Option Bool:=
 ob (fL a) fun b=>
 some (!b)
def rD (a:bH) (b:(List Int)) (c:Bool):Option (bH × Bool):=
 if c then (some (([]:bH),false)) else (if ((b.length:Int) == 0) then (some (a,true)) else (ob (cat a ([40]:bH)) fun d=>
 ob (aCc b ([44]:bH)) fun e=>
 ob (cat d e) fun f=>
 ob (cat f ([41]:bH)) fun g=>
 some (g,true)))
def aAY (b:bH) (a:(List Int)):Option (bH × Bool):=
 if (b == ([116,97,117]:bH)) then (some (([116,97,117]:bH),(a.length:Int) == 0)) else (ob (zY b) fun c=>
 if (!c) then (rD b a true) else (if (decide (2 < (a.length:Int))) then (rD b a true) else (ob (xC a) fun d=>
 rD b a (!d))))
def eJ (a:Bool):Option Bool:=
 some a
def gR (a b:bH):Option Bool:=
 if (decide ((b.length:Int)≤(a.length:Int))) then (ob (uG a (wr ((a.length:Int) - (b.length:Int))) (a.length:Int)) fun c=>
 eJ (c == b)) else (eJ false)
def gK (a b:bH):Option bH:=
 ob (gR a b) fun c=>
 if c then (ob (uG a 0 (wr ((a.length:Int) - (b.length:Int)))) fun d=>
 some d) else (some a)
def jY (a b:bH):Option bH:=
 ob (gK a b) fun c=>
 some c
def nF (a:(bH × bH × Bool)) (b:List Int) (c:Bool):Option (bH × (List Int) × Bool):=
 if c then (some (([]:bH),[],false)) else (some (a.1,b,true))
def nG (d:bH) (a:(bH × bH × Bool)) (b:List Int):Option (bH × (List Int) × Bool):=
 ob (aAY a.1 b) fun c=>
 if (!c.2) then (nF a b true) else (nF a b (!(c.1 == d)))
def aAv (b:bH):Option (bH × (List Int) × Bool):=
 ob (l_Cut b ([40]:bH)) fun a=>
 if a.2.2 then (ob (jY a.2.1 ([41]:bH)) fun d=>
 ob (aDA d ([44]:bH)) fun e=>
 ob (rZ e) fun c=>
 if (!c.2) then (some (([]:bH),[],false)) else (nG b a c.1)) else (nG b a [])
def aAZ (a:bH):Option Bool:=
 ob (aAv a) fun b=>
 some b.2.2
def uN (a:Int):Option Int:=
 some a
def qH (a:(List bH)) (b c:Int):Option ((Int × Int) ⊕ (Int ⊕ Int)):=
 if (decide (c < (a.length:Int))) then (ob (ix a c) fun e=>
 if (decide (wr (b - (e.length:Int)) < 0)) then (some (.inr (.inr (-1)))) else (some (.inl (wr (b - (e.length:Int)),wr (c+1))))) else (some (.inr (.inl b)))
def xD (a:(List bH)) (d:Int):Option Int:=
 if (decide (wr (d - (a.length:Int)) < 0)) then (some (-1)) else (ob (loop (fun (s:(Int × Int))=>qH a s.1 s.2) (wr (d - (a.length:Int)),0)) fun r=>match r with|.inl r=>uN r|.inr r=>some r)
def aBa (a:(List Edge)) (c:Int):Option Int:=
 if (decide (wr (c - (a.length:Int)) < 0)) then (some (-1)) else (some (wr (c - (a.length:Int))))
def aDB (a:cH) (e:Int):Option Int:=
 ob (xD a.L e) fun c=>
 if (decide (c < 0)) then (some (-1)) else (ob (aBa a.E c) fun d=>
 if (decide (d < 0)) then (some (-1)) else (some d))
def aBv (a:Bool):Option Bool:=
 some a
def wC (n low b:Int):Option Bool:=
 if (decide (low≤n)) then (aBv (decide (n≤b))) else (aBv false)
def yH (a:bH):Option Int:=
 some (a.length:Int)
def rE (b:bH) (a:Int):Option (Int ⊕ (Unit ⊕ Int)):=
 if (decide (a < (b.length:Int))) then (ob (ix b a) fun c=>
 if ((c.toNat:Int) == 40) then (some (.inr (.inr a))) else (some (.inl (wr (a+1))))) else (some (.inr (.inl ())))
def aBb (b:bH):Option Int:=
 ob (loop (fun (s:Int)=>rE b s) 0) fun r=>match r with|.inl r=>yH b|.inr r=>some r
def wD (a:Bool):Option Bool:=
 some a
def zZ (c:UInt8):Option Bool:=
 if (decide (97≤(c.toNat:Int))) then (wD (decide ((c.toNat:Int)≤122))) else (wD false)
def wE (a:Bool):Option Bool:=
 some a
def aAa (c:UInt8):Option Bool:=
 if (decide (48≤(c.toNat:Int))) then (wE (decide ((c.toNat:Int)≤57))) else (wE false)
def uO:Option Bool:=
 some true
def uP (a:Int) (b:Bool):Option (Int ⊕ (Unit ⊕ Bool)):=
 if b then (some (.inr (.inr false))) else (some (.inl (wr (a+1))))
def rF (b:bH) (a:Int):Option (Int ⊕ (Unit ⊕ Bool)):=
 if (decide (a < (b.length:Int))) then (ob (ix b a) fun c=>
 ob (zZ c) fun d=>
 if (!d) then (ob (aAa c) fun e=>
 uP a (!e)) else (uP a false)) else (some (.inr (.inl ())))
def oF (b:bH) (c:Bool):Option Bool:=
 if c then (some false) else (ob (loop (fun (s:Int)=>rF b s) 0) fun r=>match r with|.inl r=>uO|.inr r=>some r)
def yZ (a:bH):Option Bool:=
 if (a == ([]:bH)) then (oF a true) else (if (decide (10 < (a.length:Int))) then (oF a true) else (ob (ix a 0) fun b=>
 ob (zZ b) fun c=>
 oF a (!c)))
def qI (a:Bool):Option Bool:=
 some a
def xE (a:bH):Option Bool:=
 ob (yZ a) fun b=>
 if b then (qI (!(a == ([116,97,117]:bH)))) else (qI false)
def sB (a:bH) (b:List bH) (c:Int):Option (List bH):=
 ob (uG a c (a.length:Int)) fun d=>
 ob (apd b ([d]:List bH)) fun e=>
 some e
def pJ (a:Int) (b:List bH) (c:Int):Option ((List bH × Int × Int) ⊕ (List bH × Int)):=
 some (.inl (b,c,wr (a+1)))
def sC (b:bH) (e:UInt8) (c:List bH) (d a:Int):Option ((List bH × Int × Int) ⊕ (List bH × Int)):=
 if (decide (a < (b.length:Int))) then (ob (ix b a) fun f=>
 if ((f.toNat:Int) == (e.toNat:Int)) then (ob (uG b d a) fun g=>
 ob (apd c ([g]:List bH)) fun h=>
 pJ a h (wr (a+1))) else (pJ a c d)) else (some (.inr (c,d)))
def aAb (a:bH) (c:UInt8):Option (List bH):=
 ob (loop (fun (s:(List bH × Int × Int))=>sC a c s.1 s.2.1 s.2.2) (([]:List bH),0,0)) fun r=>sB a r.1 r.2
def uQ (a:Int):Option (Int × Bool):=
 some (a,true)
def qJ (b a:Int):Option (Int × Bool):=
 if (b == 1) then (uQ (wr (0 - a))) else (uQ a)
def lK (b:bH) (c a:Int):Option ((Int × Int) ⊕ (Int ⊕ (Int × Bool))):=
 if (decide (a < (b.length:Int))) then (ob (ix b a) fun d=>
 ob (aAa d) fun e=>
 if (!e) then (some (.inr (.inr (0,false)))) else (some (.inl (wr ((wr (10 * c))+(wr ((d - (48:UInt8)).toNat:Int))),wr (a+1))))) else (some (.inr (.inl c)))
def jZ (c:bH) (b:Int) (d:Bool):Option (Int × Bool):=
 if d then (some (0,false)) else (ob (loop (fun (s:(Int × Int))=>lK c s.1 s.2) (0,b)) fun r=>match r with|.inl r=>qJ b r|.inr r=>some r)
def nH (a:bH) (b:Int):Option (Int × Bool):=
 if ((a.length:Int) == b) then (jZ a b true) else (if (decide (18 < wr ((a.length:Int) - b))) then (jZ a b true) else (ob (ix a b) fun c=>
 if ((c.toNat:Int) == 48) then (jZ a b (decide (1 < (a.length:Int)))) else (jZ a b false)))
def nI (a:bH) (b:Bool):Option (Int × Bool):=
 if b then (nH a 1) else (nH a 0)
def tV (a:bH):Option (Int × Bool):=
 if (decide (0 < (a.length:Int))) then (ob (ix a 0) fun b=>
 nI a ((b.toNat:Int) == 45)) else (nI a false)
def qK (a:List Int):Option ((List Int) × Bool):=
 some (a,decide ((a.length:Int)≤2))
def qL (a:List Int) (b:Int) (c:(Int × Bool)) (d:Bool):Option ((List Int × Int) ⊕ (List Int ⊕ ((List Int) × Bool))):=
 if d then (some (.inr (.inr ([],false)))) else (ob (apd a ([c.1]:List Int)) fun e=>
 some (.inl (e,wr (b+1))))
def nJ (d:(List bH)) (c:List Int) (a:Int):Option ((List Int × Int) ⊕ (List Int ⊕ ((List Int) × Bool))):=
 if (decide (a < (d.length:Int))) then (ob (ix d a) fun e=>
 ob (tV e) fun b=>
 if (!b.2) then (qL c a b true) else (ob (wC b.1 0 63) fun f=>
 qL c a b (!f))) else (some (.inr (.inl c)))
def nK (b:bH) (c:Int) (d:Bool):Option ((List Int) × Bool):=
 if d then (some ([],false)) else (ob (uG b (wr (c+1)) (wr ((b.length:Int) - 1))) fun e=>
 ob (aAb e (44:UInt8)) fun f=>
 ob (loop (fun (s:(List Int × Int))=>nJ f s.1 s.2) (([]:List Int),0)) fun r=>match r with|.inl r=>qK r|.inr r=>some r)
def aAw (a:bH):Option ((List Int) × Bool):=
 ob (aBb a) fun b=>
 if (b == (a.length:Int)) then (ob (yZ a) fun c=>
 some (([]:List Int),c)) else (ob (uG a 0 b) fun d=>
 ob (xE d) fun e=>
 if (!e) then (nK a b true) else (ob (ix a (wr ((a.length:Int) - 1))) fun f=>
 nK a b ((f.toNat:Int) != 41)))
def aAc (a:bH):Option Bool:=
 ob (aAw a) fun b=>
 some b.2
def wF:Option Bool:=
 some true
def mQ (a:Int) (b:Bool):Option (Int ⊕ (Unit ⊕ Bool)):=
 if b then (some (.inr (.inr false))) else (some (.inl (wr (a+1))))
def pK (b:(List bH)) (a:Int):Option (Int ⊕ (Unit ⊕ Bool)):=
 if (decide (a < (b.length:Int))) then (ob (ix b a) fun c=>
 ob (aAc c) fun d=>
 if (!d) then (mQ a true) else (if (c == ([116,97,117]:bH)) then (mQ a true) else (if (decide (1 < a)) then (ob (ix b (wr (a - 1))) fun e=>
 mQ a (!xY e c)) else (mQ a false)))) else (some (.inr (.inl ())))
def pL (b:(List bH)) (c:Bool):Option Bool:=
 if c then (some false) else (ob (loop (fun (s:Int)=>pK b s) 1) fun r=>match r with|.inl r=>wF|.inr r=>some r)
def aAd (a:(List bH)):Option Bool:=
 if ((a.length:Int) == 0) then (pL a true) else (if (decide (12 < (a.length:Int))) then (pL a true) else (ob (ix a 0) fun b=>
 pL a (!(b == ([116,97,117]:bH)))))
def zD (a b:Edge):Option Bool:=
 if (a.F != b.F) then (some (decide (a.F < b.F))) else (if (a.B != b.B) then (some (decide (a.B < b.B))) else (some (decide (a.To < b.To))))
def aBw:Option Bool:=
 some true
def aAe (a:Int) (b:Bool):Option (Int ⊕ (Unit ⊕ Bool)):=
 if b then (some (.inr (.inr false))) else (some (.inl (wr (a+1))))
def vS (t:cH) (a:Int) (c:Edge) (d:Bool):Option (Int ⊕ (Unit ⊕ Bool)):=
 if d then (some (.inr (.inr false))) else (if (decide (0 < a)) then (ob (ix t.E (wr (a - 1))) fun e=>
 ob (zD e c) fun f=>
 aAe a (!f)) else (aAe a false))
def vT (t:cH) (c:Int):Option (Int ⊕ (Unit ⊕ Bool)):=
 if (decide (c < (t.E.length:Int))) then (ob (ix t.E c) fun b=>
 ob (wC b.F 0 (wr (t.N - 1))) fun d=>
 if (!d) then (vS t c b true) else (ob (wC b.To 0 (wr (t.N - 1))) fun e=>
 if (!e) then (vS t c b true) else (ob (wC b.B 0 (wr ((t.L.length:Int) - 1))) fun f=>
 vS t c b (!f)))) else (some (.inr (.inl ())))
def tL (t:cH) (c:Bool):Option Bool:=
 if c then (some false) else (ob (loop (fun (s:Int)=>vT t s) 0) fun r=>match r with|.inl r=>aBw|.inr r=>some r)
def aDC (t:cH):Option Bool:=
 ob (wC t.N 1 40) fun b=>
 if (!b) then (tL t true) else (ob (wC t.I 0 (wr (t.N - 1))) fun c=>
 if (!c) then (tL t true) else (ob (aAd t.L) fun d=>
 if (!d) then (tL t true) else (tL t (decide (300 < (t.E.length:Int))))))
def wG:Option Int:=
 some (-1)
def pM (b:(List Int)) (n a:Int):Option (Int ⊕ (Unit ⊕ Int)):=
 if (decide (a < (b.length:Int))) then (ob (ix b a) fun d=>
 if (d == n) then (some (.inr (.inr a))) else (some (.inl (wr (a+1))))) else (some (.inr (.inl ())))
def tM (b:(List Int)) (n:Int):Option Int:=
 ob (loop (fun (s:Int)=>pM b n s) 0) fun r=>match r with|.inl r=>wG|.inr r=>some r
def yI (a:(List Int)) (b:Int) (c:List bH) (d:List Edge):Option cH:=
 some ⟨(a.length:Int),b,c,d⟩
def oG (a:Int) (b:List Edge):Option ((List Edge × Int) ⊕ (List Edge)):=
 some (.inl (b,wr (a+1)))
def oH (a:List Edge) (b:Int) (c:Edge) (d e:Int) (f:Bool):Option ((List Edge × Int) ⊕ (List Edge)):=
 if f then (ob (apd a ([⟨d,c.B,e⟩]:List Edge)) fun g=>
 oG b g) else (oG b a)
def oI (t:cH) (g:(List Int)) (c:List Edge) (a:Int):Option ((List Edge × Int) ⊕ (List Edge)):=
 if (decide (a < (t.E.length:Int))) then (ob (ix t.E a) fun b=>
 ob (tM g b.F) fun d=>
 ob (tM g b.To) fun e=>
 if (decide (0≤d)) then (oH c a b d e (decide (0≤e))) else (oH c a b d e false)) else (some (.inr c))
def zF (t:cH) (b:(List Int)):Option cH:=
 ob (tM b t.I) fun c=>
 ob (apd ([]:List bH) t.L) fun d=>
 ob (loop (fun (s:(List Edge × Int))=>oI t b s.1 s.2) (([]:List Edge),0)) fun r=>yI b c d r
def wH (a:List Int):Option (List Int):=
 some a
def sD (a:Int) (b:List Int):Option ((List Int × Int) ⊕ (List Int)):=
 some (.inl (b,wr (a+1)))
def pN (t:cH) (d:List Bool) (b:List Int) (a:Int):Option ((List Int × Int) ⊕ (List Int)):=
 if (decide (a < t.N)) then (ob (ix d a) fun e=>
 if e then (ob (apd b ([a]:List Int)) fun f=>
 sD a f) else (sD a b)) else (some (.inr b))
def sE (t:cH) (b:List Bool):Option (List Int):=
 ob (loop (fun (s:(List Int × Int))=>pN t b s.1 s.2) (([]:List Int),0)) fun r=>wH r
def aAI (a:List Bool) (b:Bool):Option ((List Bool × Bool) ⊕ (List Bool)):=
 some (.inl (a,b))
def wI (a:List Bool) (b:Bool):Option ((List Bool × Bool) ⊕ (List Bool)):=
 aAI a b
def mR (a:Int) (b:List Bool) (c:Bool):Option ((List Bool × Bool × Int) ⊕ (List Bool × Bool)):=
 some (.inl (b,c,wr (a+1)))
def mT (t:cH) (a:List Bool) (e:Bool) (b:Int) (f:Bool):Option ((List Bool × Bool × Int) ⊕ (List Bool × Bool)):=
 if f then (ob (ix t.E b) fun c=>
 ob (ix a c.To) fun h=>
 ob (st a c.To (true:Bool)) fun g=>
 mR b g true) else (mR b a e)
def pO (t:cH) (a:List Bool) (d:Bool) (c:Int):Option ((List Bool × Bool × Int) ⊕ (List Bool × Bool)):=
 if (decide (c < (t.E.length:Int))) then (ob (ix t.E c) fun e=>
 ob (ix a e.F) fun f=>
 if f then (ob (ix a e.To) fun g=>
 mT t a d c (!g)) else (mT t a d c false)) else (some (.inr (a,d)))
def uR (t:cH) (a:List Bool) (d:Bool):Option ((List Bool × Bool) ⊕ (List Bool)):=
 if d then (ob (loop (fun (s:(List Bool × Bool × Int))=>pO t s.1 s.2.1 s.2.2) (a,false,0)) fun r=>wI r.1 r.2) else (some (.inr a))
def vU (t:cH):Option (List Int):=
 ob (mkz t.N (false:Bool)) fun b=>
 ob (ix b t.I) fun e=>
 ob (st b t.I (true:Bool)) fun c=>
 ob (loop (fun (s:(List Bool × Bool))=>uR t s.1 s.2) (c,true)) fun r=>sE t r
def yJ:Option Int:=
 some (-1)
def rG (b:(List bH)) (c:bH) (a:Int):Option (Int ⊕ (Unit ⊕ Int)):=
 if (decide (a < (b.length:Int))) then (ob (ix b a) fun d=>
 if (d == c) then (some (.inr (.inr a))) else (some (.inl (wr (a+1))))) else (some (.inr (.inl ())))
def tW (b:(List bH)) (c:bH):Option Int:=
 ob (loop (fun (s:Int)=>rG b c s) 0) fun r=>match r with|.inl r=>yJ|.inr r=>some r
def yK (a:List bH):Option (List bH):=
 some a
def rH (a:Int) (b:List bH):Option ((List bH × Int) ⊕ (List bH)):=
 some (.inl (b,wr (a+1)))
def uS (c:Int) (d:bH) (a:Int) (b:List bH):Option ((List bH × Int) ⊕ (List bH)):=
 ob (ix b a) fun f=>
 ob (st b a (d:bH)) fun e=>
 rH c e
def uT (c:Int) (b:List bH) (a:Int):Option ((List bH × Int) ⊕ (List bH)):=
 if (decide (c < a)) then (ob (ix b (wr (a - 1))) fun d=>
 ob (ix b a) fun f=>
 ob (st b a (d:bH)) fun e=>
 some (.inl (e,wr (a - 1)))) else (some (.inr b))
def uU (c:List bH) (d:Int) (e:bH) (a:Int):Option ((List bH × Int) ⊕ (List bH)):=
 ob (apd c ([([]:bH)]:List bH)) fun b=>
 ob (loop (fun (s:(List bH × Int))=>uT a s.1 s.2) (b,wr ((b.length:Int) - 1))) fun r=>uS d e a r
def uV (a:Int) (b:Bool):Option (Int ⊕ Int):=
 if b then (some (.inl (wr (a+1)))) else (some (.inr a))
def oJ (b:List bH) (c:bH) (a:Int):Option (Int ⊕ Int):=
 if (decide (a < (b.length:Int))) then (ob (ix b a) fun d=>
 uV a (xY d c)) else (uV a false)
def mH (d:(List bH)) (a:List bH) (b:Int):Option ((List bH × Int) ⊕ (List bH)):=
 if (decide (b < (d.length:Int))) then (ob (ix d b) fun c=>
 ob (tW a c) fun e=>
 if (decide (0≤e)) then (rH b a) else (ob (loop (fun (s:Int)=>oJ a c s) 1) fun r=>uU a b c r)) else (some (.inr a))
def aBc (a:(List bH)):Option (List bH):=
 ob (loop (fun (s:(List bH × Int))=>mH a s.1 s.2) (([([116,97,117]:bH)]:List bH),0)) fun r=>yK r
def xF (e:Edge) (b:Int) (c:List Edge):Option (List Edge):=
 ob (ix c b) fun f=>
 ob (st c b (⟨e.F,e.B,e.To⟩:Edge)) fun d=>
 some d
def tX (d:Int) (b:List Edge) (a:Int):Option ((List Edge × Int) ⊕ (List Edge)):=
 if (decide (d < a)) then (ob (ix b (wr (a - 1))) fun c=>
 ob (ix b a) fun f=>
 ob (st b a (⟨c.F,c.B,c.To⟩:Edge)) fun e=>
 some (.inl (e,wr (a - 1)))) else (some (.inr b))
def tY (a:(List Edge)) (e:Edge) (b:Int) (f:Bool):Option (List Edge):=
 if f then (some a) else (ob (apd a ([⟨0,0,0⟩]:List Edge)) fun c=>
 ob (loop (fun (s:(List Edge × Int))=>tX b s.1 s.2) (c,wr ((c.length:Int) - 1))) fun r=>xF e b r)
def xG (b:(List Edge)) (e:Edge) (a:Int):Option (List Edge):=
 if (decide (0 < a)) then (ob (ix b (wr (a - 1))) fun d=>
 tY b e a (decide ((d:Edge)=e))) else (tY b e a false)
def tZ (a:Int) (b:Bool):Option (Int ⊕ Int):=
 if b then (some (.inl (wr (a - 1)))) else (some (.inr a))
def qM (b:(List Edge)) (e:Edge) (a:Int):Option (Int ⊕ Int):=
 if (decide (0 < a)) then (ob (ix b (wr (a - 1))) fun d=>
 ob (zD e d) fun f=>
 tZ a f) else (tZ a false)
def aCe (a:(List Edge)) (e:Edge):Option (List Edge):=
 ob (loop (fun (s:Int)=>qM a e s) (a.length:Int)) fun r=>xG a e r
def yL (a b:Int) (c:(List bH)) (d:List Edge):Option cH:=
 some ⟨a,b,c,d⟩
def oK (e:(List bH)) (c:(List Edge)) (f:(List bH)) (d:List Edge) (a:Int):Option ((List Edge × Int) ⊕ (List Edge)):=
 if (decide (a < (c.length:Int))) then (ob (ix c a) fun b=>
 ob (ix e b.B) fun g=>
 ob (tW f g) fun h=>
 ob (aCe d ⟨b.F,h,b.To⟩) fun i=>
 some (.inl (i,wr (a+1)))) else (some (.inr d))
def aBd (c d:Int) (a:(List bH)) (e:(List Edge)):Option cH:=
 ob (aBc a) fun b=>
 ob (loop (fun (s:(List Edge × Int))=>oK a e b s.1 s.2) (([]:List Edge),0)) fun r=>yL c d b r
def aDD (a b:Int):Option Int:=
 if (decide (b < a)) then (some a) else (some b)
def uW (a:Int):Option Int:=
 some a
def lL (p:(List Int)) (c a:Int):Option ((Int × Int) ⊕ Int):=
 if (decide (a < (p.length:Int))) then (ob (ix p a) fun d=>
 ob (aDD c (wr (d+1))) fun e=>
 some (.inl (e,wr (a+1)))) else (some (.inr c))
def uA (p:(List Int)):Option Int:=
 ob (loop (fun (s:(Int × Int))=>lL p s.1 s.2) (0,0)) fun r=>uW r
def nL (t:cH) (p:(List Int)) (c:List Edge):Option cH:=
 ob (ix p t.I) fun d=>
 ob (uA p) fun e=>
 ob (aBd e d t.L c) fun f=>
 some f
def lH (t:cH) (p:(List Int)) (e:List Edge) (a:Int):Option ((List Edge × Int) ⊕ (List Edge)):=
 if (decide (a < (t.E.length:Int))) then (ob (ix t.E a) fun b=>
 ob (ix p b.F) fun f=>
 ob (ix p b.To) fun g=>
 ob (apd e ([⟨f,b.B,g⟩]:List Edge)) fun h=>
 some (.inl (h,wr (a+1)))) else (some (.inr e))
def sF (t:cH) (p:(List Int)):Option cH:=
 ob (loop (fun (s:(List Edge × Int))=>lH t p s.1 s.2) (([]:List Edge),0)) fun r=>nL t p r
def wJ:Option Bool:=
 some true
def aAJ (a b:(List bH)) (c:Int):Option (Int ⊕ (Unit ⊕ Bool)):=
 if (decide (c < (a.length:Int))) then (ob (ix a c) fun f=>
 ob (ix b c) fun g=>
 if (!(f == g)) then (some (.inr (.inr false))) else (some (.inl (wr (c+1))))) else (some (.inr (.inl ())))
def aCZ (a b:(List bH)):Option Bool:=
 if ((a.length:Int) != (b.length:Int)) then (some false) else (ob (loop (fun (s:Int)=>aAJ a b s) 0) fun r=>match r with|.inl r=>wJ|.inr r=>some r)
def yM (a:List Int):Option (List Int):=
 some a
def yN (a:Int) (b:List Int):Option ((List Int × Int) ⊕ (List Int)):=
 some (.inl (b,wr (a+1)))
def yO (t:cH) (b:List Int) (a:Int) (d:Bool):Option ((List Int × Int) ⊕ (List Int)):=
 if d then (ob (ix t.E a) fun e=>
 ob (apd b ([e.To]:List Int)) fun f=>
 yN a f) else (yN a b)
def aBx (t:cH) (k f:Int) (c:List Int) (b:Int):Option ((List Int × Int) ⊕ (List Int)):=
 if (decide (b < (t.E.length:Int))) then (ob (ix t.E b) fun d=>
 if (d.F == k) then (yO t c b (d.B == f)) else (yO t c b false)) else (some (.inr c))
def aEl (t:cH) (k c:Int):Option (List Int):=
 ob (loop (fun (s:(List Int × Int))=>aBx t k c s.1 s.2) (([]:List Int),0)) fun r=>yM r
def wK (a:List bH):Option (List bH):=
 some a
def wL (a:Int) (b:List bH):Option ((List bH × Int) ⊕ (List bH)):=
 some (.inl (b,wr (a+1)))
def aAK (t:cH) (k:Int) (c:List bH) (a:Int):Option ((List bH × Int) ⊕ (List bH)):=
 if (decide (a < (t.L.length:Int))) then (ob (aEl t k a) fun e=>
 if (decide (0 < (e.length:Int))) then (ob (ix t.L a) fun f=>
 ob (apd c ([f]:List bH)) fun g=>
 wL a g) else (wL a c)) else (some (.inr c))
def aBy (t:cH) (k:Int):Option (List bH):=
 ob (loop (fun (s:(List bH × Int))=>aAK t k s.1 s.2) (([]:List bH),0)) fun r=>wK r
def wM (a:List (List Bool)):Option (List (List Bool)):=
 some a
def wN (a:Int) (b:List (List Bool)):Option ((List (List Bool) × Int) ⊕ (List (List Bool))):=
 some (.inl (b,wr (a+1)))
def sG (a:List (List Bool)) (b:Int) (c:List Bool):Option ((List (List Bool) × Int) ⊕ (List (List Bool))):=
 ob (apd a ([c]:List (List Bool))) fun d=>
 wN b d
def sH (a:Int) (b:List Bool):Option ((List Bool × Int) ⊕ (List Bool)):=
 some (.inl (b,wr (a+1)))
def lE (a b:cH) (g h:Int) (d:List Bool) (c:Int):Option ((List Bool × Int) ⊕ (List Bool)):=
 if (decide (c < b.N)) then (if (g != 1) then (ob (apd d ([true]:List Bool)) fun i=>
 sH c i) else (ob (aBy a h) fun j=>
 ob (aBy b c) fun k=>
 ob (aCZ j k) fun l=>
 ob (apd d ([l]:List Bool)) fun m=>
 sH c m)) else (some (.inr d))
def mU (a b:cH) (g:Int) (e:List (List Bool)) (c:Int):Option ((List (List Bool) × Int) ⊕ (List (List Bool))):=
 if (decide (c < a.N)) then (ob (loop (fun (s:(List Bool × Int))=>lE a b g c s.1 s.2) (([]:List Bool),0)) fun r=>sG e c r) else (some (.inr e))
def aAf (a b:cH) (e:Int):Option (List (List Bool)):=
 ob (loop (fun (s:(List (List Bool) × Int))=>mU a b e s.1 s.2) ([],0)) fun r=>wM r
def xH (a:List Edge):Option (List Edge):=
 some a
def xI (a:Int) (b:List Edge):Option ((List Edge × Int) ⊕ (List Edge)):=
 some (.inl (b,wr (a+1)))
def uB (t:cH) (k:Int) (b:List Edge) (a:Int):Option ((List Edge × Int) ⊕ (List Edge)):=
 if (decide (a < (t.E.length:Int))) then (ob (ix t.E a) fun d=>
 if (d.F == k) then (ob (apd b ([d]:List Edge)) fun f=>
 xI a f) else (xI a b)) else (some (.inr b))
def aCf (t:cH) (k:Int):Option (List Edge):=
 ob (loop (fun (s:(List Edge × Int))=>uB t k s.1 s.2) (([]:List Edge),0)) fun r=>xH r
def wO (a:Bool):Option Bool:=
 some a
def aDa (e:Edge) (p:(List Int)):Option Bool:=
 if (e.B == 0) then (ob (ix p e.F) fun c=>
 ob (ix p e.To) fun d=>
 wO (c == d)) else (wO false)
def wP (a:List Bool):Option (List Bool):=
 some a
def aAL (a:List Bool) (b:Bool):Option ((List Bool × Bool) ⊕ (List Bool)):=
 some (.inl (a,b))
def wQ (a:List Bool) (b:Bool):Option ((List Bool × Bool) ⊕ (List Bool)):=
 aAL a b
def wR (a:Int) (b:List Bool) (c:Bool):Option ((List Bool × Bool × Int) ⊕ (List Bool × Bool)):=
 some (.inl (b,c,wr (a+1)))
def sI (a:List Bool) (d:Bool) (b:Int) (c:Edge) (e:Bool):Option ((List Bool × Bool × Int) ⊕ (List Bool × Bool)):=
 if e then (ob (ix a c.To) fun g=>
 ob (st a c.To (true:Bool)) fun f=>
 wR b f true) else (wR b a d)
def aAM (t:cH) (p:(List Int)) (a:List Bool) (d:Bool) (c:Int):Option ((List Bool × Bool × Int) ⊕ (List Bool × Bool)):=
 if (decide (c < (t.E.length:Int))) then (ob (ix t.E c) fun b=>
 ob (ix a b.F) fun g=>
 if g then (ob (ix a b.To) fun h=>
 if (!h) then (ob (aDa b p) fun i=>
 sI a d c b i) else (sI a d c b false)) else (sI a d c b false)) else (some (.inr (a,d)))
def aAN (t:cH) (p:(List Int)) (a:List Bool) (e:Bool):Option ((List Bool × Bool) ⊕ (List Bool)):=
 if e then (ob (loop (fun (s:(List Bool × Bool × Int))=>aAM t p s.1 s.2.1 s.2.2) (a,false,0)) fun r=>wQ r.1 r.2) else (some (.inr a))
def aBz (t:cH) (p:(List Int)) (k:Int):Option (List Bool):=
 ob (mkz t.N (false:Bool)) fun c=>
 ob (ix c k) fun g=>
 ob (st c k (true:Bool)) fun e=>
 ob (loop (fun (s:(List Bool × Bool))=>aAN t p s.1 s.2) (e,true)) fun r=>wP r
def sY (a:List Bool):Option (List Bool):=
 some a
def kF (a:Int) (b:List Bool):Option ((List Bool × Int) ⊕ (List Bool)):=
 some (.inl (b,wr (a+1)))
def kG (t:cH) (a:List Bool) (b:Int) (e:Bool):Option ((List Bool × Int) ⊕ (List Bool)):=
 if e then (ob (ix t.E b) fun c=>
 ob (ix a c.To) fun g=>
 ob (st a c.To (true:Bool)) fun f=>
 kF b f) else (kF b a)
def kH (t:cH) (y f:Int) (c:List Bool) (b:Int):Option ((List Bool × Int) ⊕ (List Bool)):=
 if (decide (b < (t.E.length:Int))) then (ob (ix t.E b) fun d=>
 if (d.F == y) then (kG t c b (d.B == f)) else (kG t c b false)) else (some (.inr c))
def sZ (a:List Bool):Option (List Bool):=
 some a
def tA (a:Int) (b:List Bool):Option ((List Bool × Int) ⊕ (List Bool)):=
 some (.inl (b,wr (a+1)))
def tB (a:Int) (b:List Bool):Option ((List Bool × Int) ⊕ (List Bool)):=
 tA a b
def tC (a:Int) (b:List Bool):Option ((List Bool × Int) ⊕ (List Bool)):=
 some (.inl (b,wr (a+1)))
def xS (c:(List Bool)) (b:List Bool) (a:Int):Option ((List Bool × Int) ⊕ (List Bool)):=
 if (decide (a < (c.length:Int))) then (ob (ix b a) fun d=>
 if d then (ob (st b a (true:Bool)) fun e=>
 tC a e) else (ob (ix c a) fun f=>
 ob (st b a (f:Bool)) fun g=>
 tC a g)) else (some (.inr b))
def rI (t:cH) (d:List Int) (a:List Bool) (b:Int) (e:Edge) (f:Bool):Option ((List Bool × Int) ⊕ (List Bool)):=
 if f then (tA b a) else (ob (aBz t d e.To) fun g=>
 ob (loop (fun (s:(List Bool × Int))=>xS g s.1 s.2) (a,0)) fun r=>tB b r)
def vV (t:cH) (f:bH) (e:List Int) (g:(List Bool)) (d:List Bool) (b:Int):Option ((List Bool × Int) ⊕ (List Bool)):=
 if (decide (b < (t.E.length:Int))) then (ob (ix t.E b) fun c=>
 ob (ix g c.F) fun h=>
 if (!h) then (rI t e d b c true) else (ob (ix t.L c.B) fun i=>
 rI t e d b c (!(i == f)))) else (some (.inr d))
def uX (t:cH) (y:Int) (b:bH) (h:Int):Option (List Bool):=
 ob (mkz t.N (false:Bool)) fun e=>
 if (h != 2) then (ob (tW t.L b) fun i=>
 ob (loop (fun (s:(List Bool × Int))=>kH t y i s.1 s.2) (e,0)) fun r=>sY r) else (ob (mkz t.N (0:Int)) fun f=>
 ob (aBz t f y) fun g=>
 if (b == ([116,97,117]:bH)) then (some g) else (ob (loop (fun (s:(List Bool × Int))=>vV t b f g s.1 s.2) (e,0)) fun r=>sZ r))
def kV:Option Bool:=
 some true
def kW (a:Int):Option (Int ⊕ (Unit ⊕ Bool)):=
 some (.inl (wr (a+1)))
def jC (a:Int) (b:Bool):Option (Int ⊕ (Unit ⊕ Bool)):=
 if (!b) then (some (.inr (.inr false))) else (kW a)
def fD (a:Int) (b:Bool):Option ((Bool × Int) ⊕ Bool):=
 some (.inl (b,wr (a+1)))
def fE (d:(List (List Bool))) (e:Edge) (b:(List Bool)) (c:Bool) (a:Int):Option ((Bool × Int) ⊕ Bool):=
 if (decide (a < (b.length:Int))) then (if c then (fD a true) else (ob (ix b a) fun f=>
 if f then (ob (ix d e.To) fun g=>
 ob (ix g a) fun h=>
 fD a h) else (fD a false))) else (some (.inr c))
def iC (d e:cH) (f:Int) (g:(List (List Bool))) (y:Int) (b:(List Edge)) (a:Int):Option (Int ⊕ (Unit ⊕ Bool)):=
 if (decide (a < (b.length:Int))) then (ob (ix b a) fun c=>
 ob (ix d.L c.B) fun i=>
 ob (uX e y i f) fun j=>
 ob (loop (fun (s:(Bool × Int))=>fE g c j s.1 s.2) (false,0)) fun r=>jC a r) else (some (.inr (.inl ())))
def kR (b c:cH) (d:Int) (e:(List (List Bool))) (f y:Int):Option Bool:=
 ob (aCf b f) fun h=>
 ob (loop (fun (s:Int)=>iC b c d e y h s) 0) fun r=>match r with|.inl r=>kV|.inr r=>some r
def lU (a:List (List Bool)) (b:Bool):Option ((List (List Bool)) × Bool):=
 some (a,b)
def lV (a:Int) (b:List (List Bool)) (c:Bool):Option ((List (List Bool) × Bool × Int) ⊕ (List (List Bool) × Bool)):=
 some (.inl (b,c,wr (a+1)))
def jO (a:List (List Bool)) (b:Int) (c:Bool) (d:List Bool):Option ((List (List Bool) × Bool × Int) ⊕ (List (List Bool) × Bool)):=
 ob (apd a ([d]:List (List Bool))) fun e=>
 lV b e c
def iK (a:List Bool) (b:Int) (c d:Bool):Option ((Bool × List Bool × Int) ⊕ (Bool × List Bool)):=
 ob (apd a ([c]:List Bool)) fun e=>
 some (.inl (d,e,wr (b+1)))
def iL (d:Bool) (c:List Bool) (a:Int) (e:(List Bool)) (b:Bool):Option ((Bool × List Bool × Int) ⊕ (Bool × List Bool)):=
 if d then (iK c a b true) else (ob (ix e a) fun f=>
 iK c a b (b != f))
def fI (g h:cH) (i:Int) (e:(List (List Bool))) (f:Int) (c:Bool) (d:List Bool) (a:Int):Option ((Bool × List Bool × Int) ⊕ (Bool × List Bool)):=
 ob (ix e f) fun b=>
 if (decide (a < (b.length:Int))) then (ob (ix b a) fun j=>
 if j then (ob (kR g h i e f a) fun k=>
 iL c d a b k) else (iL c d a b false)) else (some (.inr (c,d)))
def gQ (f g:cH) (h:Int) (b:(List (List Bool))) (c:List (List Bool)) (d:Bool) (a:Int):Option ((List (List Bool) × Bool × Int) ⊕ (List (List Bool) × Bool)):=
 if (decide (a < (b.length:Int))) then (ob (loop (fun (s:(Bool × List Bool × Int))=>fI f g h b a s.1 s.2.1 s.2.2) (d,([]:List Bool),0)) fun r=>jO c a r.1 r.2) else (some (.inr (c,d)))
def lM (b c:cH) (d:Int) (e:(List (List Bool))):Option ((List (List Bool)) × Bool):=
 ob (loop (fun (s:(List (List Bool) × Bool × Int))=>gQ b c d e s.1 s.2.1 s.2.2) ([],false,0)) fun r=>lU r.1 r.2
def lI (a b:cH) (g:Int) (c:List (List Bool)):Option ((List (List Bool)) ⊕ (List (List Bool))):=
 ob (lM a b g c) fun d=>
 if (!d.2) then (some (.inr c)) else (some (.inl d.1))
def pP (a b:cH) (e:Int):Option (List (List Bool)):=
 ob (aAf a b e) fun f=>
 ob (loop (fun (s:List (List Bool))=>lI a b e s) f) fun r=>some r
def tD (a:List Int):Option (List Int):=
 some a
def oU (a:Int) (b:List Int) (c:Int):Option ((List Int × Int × Int) ⊕ (List Int)):=
 some (.inl (b,c,wr (a+1)))
def lZ (a:List Int) (b c d:Int):Option ((List Int × Int × Int) ⊕ (List Int)):=
 ob (apd a ([d]:List Int)) fun e=>
 oU b e c
def oV (b:List Int) (a c d:Int):Option ((List Int × Int × Int) ⊕ (List Int)):=
 if (decide (d < 0)) then (lZ b c (wr (a+1)) a) else (lZ b c a d)
def kI (a b:Int):Option ((Int × Int) ⊕ Int):=
 some (.inl (b,wr (a+1)))
def kJ (b:List Int) (c a:Int) (d:Bool):Option ((Int × Int) ⊕ Int):=
 if d then (ob (ix b a) fun e=>
 kI a e) else (kI a c)
def kK (c:(List (List Bool))) (d:List Int) (e b a:Int) (f:Bool):Option ((Int × Int) ⊕ Int):=
 if f then (ob (ix c e) fun g=>
 ob (ix g a) fun h=>
 if h then (ob (ix c a) fun i=>
 ob (ix i e) fun j=>
 kJ d b a j) else (kJ d b a false)) else (some (.inr b))
def jL (d:(List (List Bool))) (e:List Int) (a b c:Int):Option ((Int × Int) ⊕ Int):=
 if (decide (c < a)) then (kK d e a b c (decide (b < 0))) else (kK d e a b c false)
def kL (c:(List (List Bool))) (a:List Int) (d b:Int):Option ((List Int × Int × Int) ⊕ (List Int)):=
 if (decide (b < (c.length:Int))) then (ob (loop (fun (s:(Int × Int))=>jL c a b s.1 s.2) ((-1),0)) fun r=>oV a d b r) else (some (.inr a))
def uY (t:cH):Option (List Int):=
 ob (pP t t 0) fun b=>
 ob (loop (fun (s:(List Int × Int × Int))=>kL b s.1 s.2.1 s.2.2) (([]:List Int),0,0)) fun r=>tD r
def aDE (t:cH):Option cH:=
 ob (apd ([]:List bH) t.L) fun b=>
 ob (apd ([]:List Edge) t.E) fun c=>
 some ⟨t.N,t.I,b,c⟩
def nM (a b:List Edge):Option ((List Edge) × (List Edge)):=
 some (a,b)
def nN (a:Int) (b c:List Edge):Option ((List Edge × List Edge × Int) ⊕ (List Edge × List Edge)):=
 some (.inl (b,c,wr (a+1)))
def nO (a b:List Edge) (c:Int) (d:Edge) (e:Bool):Option ((List Edge × List Edge × Int) ⊕ (List Edge × List Edge)):=
 if e then (ob (apd a ([d]:List Edge)) fun f=>
 nN c f b) else (ob (apd b ([d]:List Edge)) fun g=>
 nN c a g)
def iS (a:Int) (b:Bool):Option ((Bool × Int) ⊕ Bool):=
 some (.inl (b,wr (a+1)))
def iT (t:cH) (e:(List (List Bool))) (b:Edge) (f:Bool) (a:Int):Option ((Bool × Int) ⊕ Bool):=
 if (decide (a < (t.E.length:Int))) then (ob (ix t.E a) fun c=>
 if f then (iS a true) else (if (c.F == b.F) then (if (c.B == b.B) then (ob (ix e b.To) fun g=>
 ob (ix g c.To) fun h=>
 if h then (ob (ix e c.To) fun i=>
 ob (ix i b.To) fun j=>
 iS a (!j)) else (iS a false)) else (iS a false)) else (iS a false))) else (some (.inr f))
def jP (t:cH) (f:(List (List Bool))) (c d:List Edge) (b:Int):Option ((List Edge × List Edge × Int) ⊕ (List Edge × List Edge)):=
 if (decide (b < (t.E.length:Int))) then (ob (ix t.E b) fun e=>
 ob (loop (fun (s:(Bool × Int))=>iT t f e s.1 s.2) (false,0)) fun r=>nO c d b e r) else (some (.inr (c,d)))
def wS (t:cH):Option ((List Edge) × (List Edge)):=
 ob (pP t t 0) fun c=>
 ob (loop (fun (s:(List Edge × List Edge × Int))=>jP t c s.1 s.2.1 s.2.2) (([]:List Edge),([]:List Edge),0)) fun r=>nM r.1 r.2
def aAg (t:cH):Option cH:=
 ob (aDE t) fun a=>
 ob (wS t) fun c=>
 some ⟨a.N,a.I,a.L,c.2⟩
def kS (t:cH):Option (cH × Int):=
 ob (aDC t) fun d=>
 if (!d) then (some (⟨0,0,[],[]⟩,1)) else (ob (vU t) fun e=>
 ob (zF t e) fun b=>
 ob (uY b) fun f=>
 ob (sF b f) fun g=>
 ob (aAg g) fun c=>
 ob (vU c) fun h=>
 ob (zF c h) fun i=>
 some (i,0))
def uZ (a:List bH):Option (List bH):=
 some a
def qN (a:(List bH)) (c:List bH) (b:Int):Option ((List bH × Int) ⊕ (List bH)):=
 if (decide (b < (a.length:Int))) then (ob (ix a b) fun e=>
 ob (ix c b) fun g=>
 ob (st c b (e:bH)) fun f=>
 some (.inl (f,wr (b+1)))) else (some (.inr c))
def xJ (a:(List bH)):Option (List bH):=
 ob (mkz (a.length:Int) ([]:bH)) fun c=>
 ob (loop (fun (s:(List bH × Int))=>qN a s.1 s.2) (c,0)) fun r=>uZ r
def aDF (a:Edge):Option Edge:=
 some a
def yP (a:List Edge):Option (List Edge):=
 some a
def vA (a:(List Edge)) (c:List Edge) (b:Int):Option ((List Edge × Int) ⊕ (List Edge)):=
 if (decide (b < (a.length:Int))) then (ob (ix a b) fun f=>
 ob (aDF f) fun d=>
 ob (ix c b) fun h=>
 ob (st c b (⟨d.F,d.B,d.To⟩:Edge)) fun g=>
 some (.inl (g,wr (b+1)))) else (some (.inr c))
def aBe (a:(List Edge)):Option (List Edge):=
 ob (mkz (a.length:Int) (⟨0,0,0⟩:Edge)) fun c=>
 ob (loop (fun (s:(List Edge × Int))=>vA a s.1 s.2) (c,0)) fun r=>yP r
def aAx (a:cH):Option cH:=
 ob (xJ a.L) fun c=>
 ob (aBe a.E) fun d=>
 some ⟨a.N,a.I,c,d⟩
def mV (t:cH) (k:Int):Option Bool:=
 ob (uL k 0 (wr (t.N - 1))) fun c=>
 some c
def aDG (i many:Int):Option Bool:=
 ob (uL i 0 (wr (many - 1))) fun b=>
 some b
def lN (a:Int):Option Bool:=
 some (a != a)
def gZ (a y:Int):Option Int:=
 ob (lN a) fun d=>
 ob (lN y) fun c=>
 if d then (if c then (some 0) else (some (-1))) else (if c then (some 1) else (if (decide (a < y)) then (some (-1)) else (if (decide (y < a)) then (some 1) else (some 0))))
def nP:Option Int:=
 some 0
def gP (b:(List Int)) (a:Int):Option (Int ⊕ (Unit ⊕ Int)):=
 if (decide (a < (b.length:Int))) then (ob (ix b a) fun c=>
 if (c != 0) then (some (.inr (.inr c))) else (some (.inl (wr (a+1))))) else (some (.inr (.inl ())))
def sJ (b:(List Int)):Option Int:=
 ob (loop (fun (s:Int)=>gP b s) 0) fun r=>match r with|.inl r=>nP|.inr r=>some r
def qO (a b:Edge):Option Int:=
 ob (gZ a.F b.F) fun e=>
 ob (gZ a.B b.B) fun f=>
 ob (gZ a.To b.To) fun g=>
 ob (sJ ([e,f,g]:List Int)) fun h=>
 some h
def wT:Option Bool:=
 some true
def lF (a:Int) (b:Bool):Option (Int ⊕ (Unit ⊕ Bool)):=
 if b then (some (.inr (.inr false))) else (some (.inl (wr (a+1))))
def pQ (t:cH) (a:Int):Option (Int ⊕ (Unit ⊕ Bool)):=
 if (decide (a < (t.E.length:Int))) then (ob (ix t.E a) fun c=>
 ob (mV t c.F) fun d=>
 if (!d) then (lF a true) else (ob (mV t c.To) fun e=>
 if (!e) then (lF a true) else (ob (aDG c.B (t.L.length:Int)) fun f=>
 if (!f) then (lF a true) else (if (decide (0 < a)) then (ob (ix t.E (wr (a - 1))) fun g=>
 ob (qO g c) fun h=>
 lF a (decide (0≤h))) else (lF a false))))) else (some (.inr (.inl ())))
def sK (t:cH):Option Bool:=
 ob (loop (fun (s:Int)=>pQ t s) 0) fun r=>match r with|.inl r=>wT|.inr r=>some r
def mW (a:Int) (b:Bool):Option (Int ⊕ (Unit ⊕ Bool)):=
 if b then (some (.inr (.inr false))) else (some (.inl (wr (a+1))))
def pR (t:cH) (a:Int):Option (Int ⊕ (Unit ⊕ Bool)):=
 if (decide (a < (t.L.length:Int))) then (ob (ix t.L a) fun b=>
 ob (aAZ b) fun e=>
 if (!e) then (mW a true) else (if ((b == ([116,97,117]:bH)) != (a == 0)) then (mW a true) else (if (decide (1 < a)) then (ob (ix t.L (wr (a - 1))) fun d=>
 mW a (xY b d||b == d)) else (mW a false)))) else (some (.inr (.inl ())))
def mX (t:cH) (c:Bool):Option Bool:=
 if c then (some false) else (ob (loop (fun (s:Int)=>pR t s) 0) fun r=>match r with|.inl r=>sK t|.inr r=>some r)
def aAh (t:cH):Option Bool:=
 ob (uL t.N 1 40) fun b=>
 if (!b) then (mX t true) else (ob (mV t t.I) fun c=>
 if (!c) then (mX t true) else (ob (uL (t.L.length:Int) 1 12) fun d=>
 if (!d) then (mX t true) else (mX t (decide (300 < (t.E.length:Int))))))
def gS:Option Int:=
 some (-1)
def dV (b:(List Int)) (c a:Int):Option (Int ⊕ (Unit ⊕ Int)):=
 if (decide (a < (b.length:Int))) then (ob (ix b a) fun d=>
 if (c == d) then (some (.inr (.inr a))) else (some (.inl (wr (a+1))))) else (some (.inr (.inl ())))
def eV (b:(List Int)) (c:Int):Option Int:=
 ob (loop (fun (s:Int)=>dV b c s) 0) fun r=>match r with|.inl r=>gS|.inr r=>some r
def mY (k:Int) (p:(List Int)):Option Int:=
 ob (eV p k) fun c=>
 some c
def dL (a:(List bH)):Option (List bH):=
 ob (apd ([]:List bH) a) fun b=>
 some b
def sL (a:(List Int)) (b:Int) (c:List bH) (d:List Edge):Option cH:=
 ob (tK d) fun e=>
 some ⟨(a.length:Int),b,c,e⟩
def mZ (a:Int) (b:List Edge):Option ((List Edge × Int) ⊕ (List Edge)):=
 some (.inl (b,wr (a+1)))
def nA (a:List Edge) (b:Int) (c:Edge) (d e:Int) (f:Bool):Option ((List Edge × Int) ⊕ (List Edge)):=
 if f then (ob (apd a ([⟨d,c.B,e⟩]:List Edge)) fun g=>
 mZ b g) else (mZ b a)
def nB (t:cH) (g:(List Int)) (c:List Edge) (a:Int):Option ((List Edge × Int) ⊕ (List Edge)):=
 if (decide (a < (t.E.length:Int))) then (ob (ix t.E a) fun b=>
 ob (mY b.F g) fun d=>
 ob (mY b.To g) fun e=>
 if (decide (0≤d)) then (nA c a b d e (decide (0≤e))) else (nA c a b d e false)) else (some (.inr c))
def wU (t:cH) (a:(List Int)) (c:Int) (d:List bH):Option cH:=
 ob (loop (fun (s:(List Edge × Int))=>nB t a s.1 s.2) ([],0)) fun r=>sL a c d r
def tN (t:cH) (b:(List Int)):Option cH:=
 ob (mY t.I b) fun c=>
 ob (dL t.L) fun d=>
 wU t b c d
def gL (a:List Int):Option (List Int):=
 some a
def eX (a:List Int) (b:Int):Option ((List Int × Int) ⊕ (List Int)):=
 if (decide (b < (a.length:Int))) then (ob (uG a b (a.length:Int)) fun d=>
 ob (uG a 0 b) fun c=>
 ob (ovw a b (List.take (Nat.min c.length d.length) c)) fun e=>
 some (.inl (e,wr (b+((Nat.min c.length d.length):Int))))) else (some (.inr a))
def gM (a:(List Int)) (c:(Int × Int)):Option (List Int):=
 ob (mkz (wr c.2) (0:Int)) fun b=>
 ob (ovw b 0 (List.take (Nat.min a.length b.length) a)) fun d=>
 ob (loop (fun (s:(List Int × Int))=>eX s.1 s.2) (d,((Nat.min a.length b.length):Int))) fun r=>gL r
def eY (a:(List Int)) (b:(Int × Int)) (c:Bool):Option (List Int):=
 if c then (none) else (gM a b)
def gN (b:(List Int)) (c:Int):Option (List Int):=
 ob (l_Mul (aEc (b.length:Int)) (aEc c)) fun a=>
 if (decide (0 < a.1)) then (eY b a true) else (eY b a (decide (9223372036854775807 < a.2)))
def fT (b:(List Int)) (a:Int):Option (List Int):=
 if (decide (a < 0)) then (none) else (gN b a)
def fX (a:(List Int)):Option (List Int):=
 ob (apd ([]:List Int) a) fun b=>
 some b
def oL (a:List Int):Option (List Int):=
 some a
def tO (a b:List Int):Option ((List Int × List Int) ⊕ (List Int)):=
 some (.inl (a,b))
def oM (a b:List Int):Option ((List Int × List Int) ⊕ (List Int)):=
 tO a b
def iP (a:Int) (b c:List Int):Option ((List Int × List Int × Int) ⊕ (List Int × List Int)):=
 some (.inl (b,c,wr (a+1)))
def jQ (e:Int) (a c:List Int) (d b:Int) (f:Bool):Option ((List Int × List Int × Int) ⊕ (List Int × List Int)):=
 if f then (ob (ix a e) fun g=>
 ob (ix a b) fun j=>
 ob (st a b (wr (g+1):Int)) fun h=>
 ob (apd c ([b]:List Int)) fun i=>
 iP d h i) else (iP d a c)
def lO (a:Int) (b d:List Int) (e f c:Int):Option ((List Int × List Int × Int) ⊕ (List Int × List Int)):=
 if (f == a) then (ob (ix b c) fun g=>
 jQ a b d e c (decide (g < 0))) else (jQ a b d e c false)
def jR (t:cH) (g:Bool) (f:Int) (c d:List Int) (a:Int):Option ((List Int × List Int × Int) ⊕ (List Int × List Int)):=
 if (decide (a < (t.E.length:Int))) then (ob (ix t.E a) fun b=>
 if (!g) then (lO f c d a b.To b.F) else (lO f c d a b.F b.To)) else (some (.inr (c,d)))
def lP (t:cH) (e:Bool) (b a:List Int):Option ((List Int × List Int) ⊕ (List Int)):=
 if (decide (0 < (a.length:Int))) then (ob (ix a 0) fun f=>
 ob (uG a 1 (a.length:Int)) fun g=>
 ob (loop (fun (s:(List Int × List Int × Int))=>jR t e f s.1 s.2.1 s.2.2) (b,g,0)) fun r=>oM r.1 r.2) else (some (.inr b))
def lQ (t:cH) (b:Bool) (c:(List Int)) (d:List Int):Option (List Int):=
 ob (loop (fun (s:(List Int × List Int))=>lP t b s.1 s.2) (d,c)) fun r=>oL r
def kT (c:(List Int)) (a:List Int) (b:Int):Option ((List Int × Int) ⊕ (List Int)):=
 if (decide (b < (c.length:Int))) then (ob (ix c b) fun d=>
 ob (ix a d) fun f=>
 ob (st a d (0:Int)) fun e=>
 some (.inl (e,wr (b+1)))) else (some (.inr a))
def oW (t:cH) (b:(List Int)) (c:Bool):Option (List Int):=
 ob (fT ([(-1)]:List Int) t.N) fun d=>
 ob (fX b) fun e=>
 ob (loop (fun (s:(List Int × Int))=>kT b s.1 s.2) (d,0)) fun r=>lQ t c e r
def aCx (a:List Int):Option (List Int):=
 some a
def rJ (n:Int) (b:List Int) (a:Int):Option ((List Int × Int) ⊕ (List Int)):=
 if (decide (a < n)) then (ob (apd b ([a]:List Int)) fun d=>
 some (.inl (d,wr (a+1)))) else (some (.inr b))
def aCg (n:Int):Option (List Int):=
 ob (loop (fun (s:(List Int × Int))=>rJ n s.1 s.2) ([],0)) fun r=>aCx r
def jS (k:Int) (p:(List Int)):Option Bool:=
 ob (ix p k) fun c=>
 some (decide (c < 0))
def eZ:Option Int:=
 some (-1)
def dB (b c:(List Int)) (a:Int):Option (Int ⊕ (Unit ⊕ Int)):=
 if (decide (a < (b.length:Int))) then (ob (ix b a) fun d=>
 ob (jS d c) fun e=>
 if e then (some (.inr (.inr a))) else (some (.inl (wr (a+1))))) else (some (.inr (.inl ())))
def eD (b c:(List Int)):Option Int:=
 ob (loop (fun (s:Int)=>dB b c s) 0) fun r=>match r with|.inl r=>eZ|.inr r=>some r
def dW (a:List Int) (b:Int):Option (List Int):=
 ob (uG a b (a.length:Int)) fun c=>
 ob (ovw a b (List.replicate c.length (0:Int))) fun d=>
 ob (uG d 0 b) fun e=>
 some e
def dX (a:Int) (b:List Int) (c:Int):Option ((List Int × Int × Int) ⊕ (List Int × Int)):=
 some (.inl (b,c,wr (a+1)))
def cU (e:(List Int)) (a:List Int) (b c:Int):Option ((List Int × Int × Int) ⊕ (List Int × Int)):=
 if (decide (c < (a.length:Int))) then (ob (ix a c) fun d=>
 ob (jS d e) fun f=>
 if (!f) then (ob (ix a b) fun h=>
 ob (st a b (d:Int)) fun g=>
 dX c g (wr (b+1))) else (dX c a b)) else (some (.inr (a,b)))
def eO (a c:(List Int)):Option (List Int):=
 ob (eD a c) fun b=>
 if (b == (-1)) then (some a) else (ob (loop (fun (s:(List Int × Int × Int))=>cU c s.1 s.2.1 s.2.2) (a,b,wr (b+1))) fun r=>dW r.1 r.2)
def kM (t:cH):Option (List Int):=
 ob (oW t ([t.I]:List Int) true) fun b=>
 ob (aCg t.N) fun c=>
 ob (eO c b) fun d=>
 some d
def fU (a:Int):Option Int:=
 some a
def dN (b:(List Int)) (c a:Int):Option ((Int × Int) ⊕ Int):=
 if (decide (a < (b.length:Int))) then (ob (ix b a) fun d=>
 some (.inl (mxI c d,wr (a+1)))) else (some (.inr c))
def iD (a:(List Int)):Option Int:=
 ob (ix a 0) fun b=>
 ob (loop (fun (s:(Int × Int))=>dN a s.1 s.2) (b,1)) fun r=>fU r
def iX (a:(List Int)):Option Int:=
 if (decide ((a.length:Int) < 1)) then (none) else (iD a)
def rK (p:(List Int)):Option Int:=
 ob (iX p) fun b=>
 some (wr (b+1))
def eH (a:(List Edge)):Option (List Edge):=
 some a
def eI (a:Int):Option (Int ⊕ (Unit ⊕ (List Edge))):=
 some (.inl (wr (a+1)))
def dG (a:List Edge) (b:Int):Option (Int ⊕ (Unit ⊕ (List Edge))):=
 ob (uG a b (a.length:Int)) fun c=>
 ob (ovw a b (List.replicate c.length (⟨0,0,0⟩:Edge))) fun d=>
 ob (uG d 0 b) fun e=>
 some (.inr (.inr e))
def dH (a:Int) (b:List Edge) (c:Int):Option ((List Edge × Int × Int) ⊕ (List Edge × Int)):=
 some (.inl (b,c,wr (a+1)))
def cV (f:Int) (e b:List Edge) (c a:Int):Option ((List Edge × Int × Int) ⊕ (List Edge × Int)):=
 if (decide (a < (e.length:Int))) then (ob (ix e a) fun i=>
 ob (ix b (f+a)) fun d=>
 ob (ix e (wr (a - 1))) fun j=>
 ob (ix b (f+(wr (a - 1)))) fun g=>
 if (!decide ((d:Edge)=g)) then (ob (ix b c) fun k=>
 ob (st b c (⟨d.F,d.B,d.To⟩:Edge)) fun h=>
 dH a h (wr (c+1))) else (dH a b c)) else (some (.inr (b,c)))
def cW (b:(List Edge)) (a:Int):Option (Int ⊕ (Unit ⊕ (List Edge))):=
 if (decide (a < (b.length:Int))) then (ob (ix b a) fun d=>
 ob (ix b (wr (a - 1))) fun e=>
 if (decide ((d:Edge)=e)) then (ob (uG b a (b.length:Int)) fun f=>
 ob (loop (fun (s:(List Edge × Int × Int))=>cV a f s.1 s.2.1 s.2.2) (b,a,1)) fun r=>dG r.1 r.2) else (eI a)) else (some (.inr (.inl ())))
def dR (a:(List Edge)):Option (List Edge):=
 if (decide ((a.length:Int) < 2)) then (some a) else (ob (loop (fun (s:Int)=>cW a s) 1) fun r=>match r with|.inl r=>eH a|.inr r=>some r)
def vB (a:List Edge):Option (List Edge):=
 some a
def vC (a:Int) (b:List Edge):Option ((List Edge × Int) ⊕ (List Edge)):=
 some (.inl (b,wr (a+1)))
def rL (t:cH) (k:Int) (b:List Edge) (a:Int):Option ((List Edge × Int) ⊕ (List Edge)):=
 if (decide (a < (t.E.length:Int))) then (ob (ix t.E a) fun d=>
 if (d.F == k) then (ob (apd b ([d]:List Edge)) fun f=>
 vC a f) else (vC a b)) else (some (.inr b))
def vW (t:cH) (k:Int):Option (List Edge):=
 ob (loop (fun (s:(List Edge × Int))=>rL t k s.1 s.2) ([],0)) fun r=>vB r
def tE (a b:bH):Option Int:=
 if (a == b) then (some 0) else (if (a == ([116,97,117]:bH)) then (some (-1)) else (if (b == ([116,97,117]:bH)) then (some 1) else (ob (aHk a b) fun e=>
 some e)))
def fM (a:(List bH)):Option (List bH):=
 some a
def iF (a:Int):Option (Int ⊕ (Unit ⊕ (List bH))):=
 some (.inl (wr (a+1)))
def fN (a:List bH) (b:Int):Option (Int ⊕ (Unit ⊕ (List bH))):=
 ob (uG a b (a.length:Int)) fun c=>
 ob (ovw a b (List.replicate c.length ([]:bH))) fun d=>
 ob (uG d 0 b) fun e=>
 some (.inr (.inr e))
def fO (a:Int) (b:List bH) (c:Int):Option ((List bH × Int × Int) ⊕ (List bH × Int)):=
 some (.inl (b,c,wr (a+1)))
def iG (e:Int) (d b:List bH) (c a:Int):Option ((List bH × Int × Int) ⊕ (List bH × Int)):=
 if (decide (a < (d.length:Int))) then (ob (ix d a) fun i=>
 ob (ix b (e+a)) fun f=>
 ob (ix d (wr (a - 1))) fun j=>
 ob (ix b (e+(wr (a - 1)))) fun g=>
 if (!(f == g)) then (ob (ix b c) fun k=>
 ob (st b c (f:bH)) fun h=>
 fO a h (wr (c+1))) else (fO a b c)) else (some (.inr (b,c)))
def iH (b:(List bH)) (a:Int):Option (Int ⊕ (Unit ⊕ (List bH))):=
 if (decide (a < (b.length:Int))) then (ob (ix b a) fun d=>
 ob (ix b (wr (a - 1))) fun e=>
 if (d == e) then (ob (uG b a (b.length:Int)) fun f=>
 ob (loop (fun (s:(List bH × Int × Int))=>iG a f s.1 s.2.1 s.2.2) (b,a,1)) fun r=>fN r.1 r.2) else (iF a)) else (some (.inr (.inl ())))
def iY (a:(List bH)):Option (List bH):=
 if (decide ((a.length:Int) < 2)) then (some a) else (ob (loop (fun (s:Int)=>iH a s) 1) fun r=>match r with|.inl r=>fM a|.inr r=>some r)
def mI (a:List bH):Option (List bH):=
 ob (aEk a) fun b=>
 ob (iY b) fun c=>
 some c
def qP (t:cH) (b:(List Edge)) (c:List bH) (a:Int):Option ((List bH × Int) ⊕ (List bH)):=
 if (decide (a < (b.length:Int))) then (ob (ix b a) fun e=>
 ob (ix t.L e.B) fun f=>
 ob (apd c ([f]:List bH)) fun g=>
 some (.inl (g,wr (a+1)))) else (some (.inr c))
def kB (t:cH) (k:Int):Option (List bH):=
 ob (vW t k) fun c=>
 ob (loop (fun (s:(List bH × Int))=>qP t c s.1 s.2) ([],0)) fun r=>mI r
def dY (a:(List Int)) (b:Int):Option Bool:=
 ob (eV a b) fun c=>
 some (decide (0≤c))
def gC (a:(List Int)):Option (List Int):=
 some a
def gD (a:Int):Option (Int ⊕ (Unit ⊕ (List Int))):=
 some (.inl (wr (a+1)))
def eP (a:List Int) (b:Int):Option (Int ⊕ (Unit ⊕ (List Int))):=
 ob (uG a b (a.length:Int)) fun c=>
 ob (ovw a b (List.replicate c.length (0:Int))) fun d=>
 ob (uG d 0 b) fun e=>
 some (.inr (.inr e))
def eQ (a:Int) (b:List Int) (c:Int):Option ((List Int × Int × Int) ⊕ (List Int × Int)):=
 some (.inl (b,c,wr (a+1)))
def dO (e:Int) (d b:List Int) (c a:Int):Option ((List Int × Int × Int) ⊕ (List Int × Int)):=
 if (decide (a < (d.length:Int))) then (ob (ix d a) fun i=>
 ob (ix b (e+a)) fun f=>
 ob (ix d (wr (a - 1))) fun j=>
 ob (ix b (e+(wr (a - 1)))) fun g=>
 if (f != g) then (ob (ix b c) fun k=>
 ob (st b c (f:Int)) fun h=>
 eQ a h (wr (c+1))) else (eQ a b c)) else (some (.inr (b,c)))
def dP (b:(List Int)) (a:Int):Option (Int ⊕ (Unit ⊕ (List Int))):=
 if (decide (a < (b.length:Int))) then (ob (ix b a) fun d=>
 ob (ix b (wr (a - 1))) fun e=>
 if (d == e) then (ob (uG b a (b.length:Int)) fun f=>
 ob (loop (fun (s:(List Int × Int × Int))=>dO a f s.1 s.2.1 s.2.2) (b,a,1)) fun r=>eP r.1 r.2) else (gD a)) else (some (.inr (.inl ())))
def fG (a:(List Int)):Option (List Int):=
 if (decide ((a.length:Int) < 2)) then (some a) else (ob (loop (fun (s:Int)=>dP a s) 1) fun r=>match r with|.inl r=>gC a|.inr r=>some r)
def oX (a:List Int):Option (List Int):=
 ob (yY a) fun b=>
 ob (fG b) fun c=>
 some c
def oY (a:Int) (b:List Int):Option ((List Int × Int) ⊕ (List Int)):=
 some (.inl (b,wr (a+1)))
def oZ (a:List Int) (b:Int) (c:Edge) (d:Bool):Option ((List Int × Int) ⊕ (List Int)):=
 if d then (ob (apd a ([c.To]:List Int)) fun e=>
 oY b e) else (oY b a)
def mA (t:cH) (e:(List Int)) (f:bH) (d:List Int) (a:Int):Option ((List Int × Int) ⊕ (List Int)):=
 if (decide (a < (t.E.length:Int))) then (ob (ix t.E a) fun b=>
 ob (ix t.L b.B) fun g=>
 if (g == f) then (ob (dY e b.F) fun h=>
 oZ d a b h) else (oZ d a b false)) else (some (.inr d))
def oN (t:cH) (b:(List Int)) (c:bH):Option (List Int):=
 ob (loop (fun (s:(List Int × Int))=>mA t b c s.1 s.2) ([],0)) fun r=>oX r
def pW (a:List Int):Option (List Int):=
 ob (yY a) fun b=>
 some b
def vD (a:Int) (b:List Int):Option ((List Int × Int) ⊕ (List Int)):=
 some (.inl (b,wr (a+1)))
def pX (a:Int) (b:List Int):Option ((List Int × Int) ⊕ (List Int)):=
 vD a b
def pY (a:Int) (b:List Int):Option ((List Int × Int) ⊕ (List Int)):=
 some (.inl (b,wr (a+1)))
def vE (c:(List Int)) (a:List Int) (b:Int):Option ((List Int × Int) ⊕ (List Int)):=
 if (decide (b < (c.length:Int))) then (ob (ix c b) fun d=>
 ob (dY a d) fun e=>
 if (!e) then (ob (apd a ([d]:List Int)) fun f=>
 pY b f) else (pY b a)) else (some (.inr a))
def vF (t:cH) (a:List Int) (b:Int):Option ((List Int × Int) ⊕ (List Int)):=
 if (decide (b < (a.length:Int))) then (ob (ix a b) fun d=>
 ob (oN t ([d]:List Int) ([116,97,117]:bH)) fun e=>
 ob (loop (fun (s:(List Int × Int))=>vE e s.1 s.2) (a,0)) fun r=>pX b r) else (some (.inr a))
def vG (t:cH) (b:(List Int)):Option (List Int):=
 ob (fX b) fun c=>
 ob (loop (fun (s:(List Int × Int))=>vF t s.1 s.2) (c,0)) fun r=>pW r
def aAO (t:cH) (b:(List Int)) (c:bH):Option (List Int):=
 ob (oN t b c) fun d=>
 ob (vG t d) fun e=>
 some e
def aBA (t:cH) (k:Int) (b:bH):Option (List Int):=
 ob (vG t ([k]:List Int)) fun c=>
 if (b == ([116,97,117]:bH)) then (some c) else (ob (aAO t c b) fun e=>
 some e)
def gE:Option Bool:=
 some true
def iQ (b c:(List bH)) (a:Int):Option (Int ⊕ (Unit ⊕ Bool)):=
 if (decide (a < (b.length:Int))) then (ob (ix b a) fun d=>
 ob (ix c a) fun e=>
 if (!(d == e)) then (some (.inr (.inr false))) else (some (.inl (wr (a+1))))) else (some (.inr (.inl ())))
def gX (b c:(List bH)):Option Bool:=
 if ((b.length:Int) != (c.length:Int)) then (some false) else (ob (loop (fun (s:Int)=>iQ b c s) 0) fun r=>match r with|.inl r=>gE|.inr r=>some r)
def pA (a y:Int) (c:(List ((Int × Int) × Bool))):Option Bool:=
 some ((jA c ⟨a,y⟩).getD false)
def aBB (a e f:Int) (g:(List bH)) (h:(List Edge)) (i j:Int) (k:(List bH)) (l:(List Edge)) (b:(List ((Int × Int) × Bool))) (p:Int):Option Bool:=
 ob (pA p a b) fun d=>
 some d
def fA:Option Int:=
 some (-1)
def gT (b:(List Int)) (c d:Int) (e:(List bH)) (f:(List Edge)) (g h:Int) (i:(List bH)) (j:(List Edge)) (k:(List ((Int × Int) × Bool))) (l a:Int):Option (Int ⊕ (Unit ⊕ Int)):=
 if (decide (a < (b.length:Int))) then (ob (ix b a) fun m=>
 ob (aBB m c d e f g h i j k l) fun n=>
 if n then (some (.inr (.inr a))) else (some (.inl (wr (a+1))))) else (some (.inr (.inl ())))
def iI (b:(List Int)) (c d:Int) (e:(List bH)) (f:(List Edge)) (g h:Int) (i:(List bH)) (j:(List Edge)) (k:(List ((Int × Int) × Bool))) (l:Int):Option Int:=
 ob (loop (fun (s:Int)=>gT b c d e f g h i j k l s) 0) fun r=>match r with|.inl r=>fA|.inr r=>some r
def gU (a:(List Int)) (b c:Int) (d:(List bH)) (e:(List Edge)) (f g:Int) (h:(List bH)) (i:(List Edge)) (j:(List ((Int × Int) × Bool))) (k:Int):Option Bool:=
 ob (iI a b c d e f g h i j k) fun l=>
 some (decide (0≤l))
def aBC (b a:cH) (c:(List ((Int × Int) × Bool))) (i y:Int) (e:bH) (f:Int):Option Bool:=
 ob (aBA a y e) fun g=>
 ob (gU g b.N b.I b.L b.E a.N a.I a.L a.E c f) fun h=>
 some h
def kX:Option Bool:=
 some true
def oO (a b:cH) (f:(List ((Int × Int) × Bool))) (g y:Int) (d:(List Edge)) (c:Int):Option (Int ⊕ (Unit ⊕ Bool)):=
 if (decide (c < (d.length:Int))) then (ob (ix d c) fun e=>
 ob (ix a.L e.B) fun i=>
 ob (aBC ⟨a.N,a.I,a.L,a.E⟩ ⟨b.N,b.I,b.L,b.E⟩ f g y i e.To) fun j=>
 if (!j) then (some (.inr (.inr false))) else (some (.inl (wr (c+1))))) else (some (.inr (.inl ())))
def rT (b d:cH) (e:(List ((Int × Int) × Bool))) (c y:Int):Option Bool:=
 ob (vW b c) fun g=>
 ob (loop (fun (s:Int)=>oO b d e c y g s) 0) fun r=>match r with|.inl r=>kX|.inr r=>some r
def wV (a e f:Int) (g:(List bH)) (h:(List Edge)) (i j:Int) (k:(List bH)) (l:(List Edge)) (b:(List ((Int × Int) × Bool))) (p:Int):Option Bool:=
 ob (pA p a b) fun d=>
 some d
def fB:Option Int:=
 some (-1)
def dC (b:(List Int)) (c d:Int) (e:(List bH)) (f:(List Edge)) (g h:Int) (i:(List bH)) (j:(List Edge)) (k:(List ((Int × Int) × Bool))) (l a:Int):Option (Int ⊕ (Unit ⊕ Int)):=
 if (decide (a < (b.length:Int))) then (ob (ix b a) fun m=>
 ob (wV m c d e f g h i j k l) fun n=>
 if n then (some (.inr (.inr a))) else (some (.inl (wr (a+1))))) else (some (.inr (.inl ())))
def fP (b:(List Int)) (c d:Int) (e:(List bH)) (f:(List Edge)) (g h:Int) (i:(List bH)) (j:(List Edge)) (k:(List ((Int × Int) × Bool))) (l:Int):Option Int:=
 ob (loop (fun (s:Int)=>dC b c d e f g h i j k l s) 0) fun r=>match r with|.inl r=>fB|.inr r=>some r
def fC (a:(List Int)) (b c:Int) (d:(List bH)) (e:(List Edge)) (f g:Int) (h:(List bH)) (i:(List Edge)) (j:(List ((Int × Int) × Bool))) (k:Int):Option Bool:=
 ob (fP a b c d e f g h i j k) fun l=>
 some (decide (0≤l))
def pS (b a:cH) (c:(List ((Int × Int) × Bool))) (i y:Int) (e:bH) (f:Int):Option Bool:=
 ob (oN a ([y]:List Int) e) fun g=>
 ob (fC g b.N b.I b.L b.E a.N a.I a.L a.E c f) fun h=>
 some h
def jM:Option Bool:=
 some true
def gA (a b:cH) (f:(List ((Int × Int) × Bool))) (g y:Int) (d:(List Edge)) (c:Int):Option (Int ⊕ (Unit ⊕ Bool)):=
 if (decide (c < (d.length:Int))) then (ob (ix d c) fun e=>
 ob (ix a.L e.B) fun i=>
 ob (pS ⟨a.N,a.I,a.L,a.E⟩ ⟨b.N,b.I,b.L,b.E⟩ f g y i e.To) fun j=>
 if (!j) then (some (.inr (.inr false))) else (some (.inl (wr (c+1))))) else (some (.inr (.inl ())))
def kY (b d:cH) (e:(List ((Int × Int) × Bool))) (c y:Int):Option Bool:=
 ob (vW b c) fun g=>
 ob (loop (fun (s:Int)=>gA b d e c y g s) 0) fun r=>match r with|.inl r=>jM|.inr r=>some r
def hQ (a b:cH) (c:(List ((Int × Int) × Bool))) (f d y:Int) (g:Bool):Option Bool:=
 if g then (some false) else (if (f == 2) then (ob (rT ⟨a.N,a.I,a.L,a.E⟩ ⟨b.N,b.I,b.L,b.E⟩ c d y) fun h=>
 some h) else (ob (kY ⟨a.N,a.I,a.L,a.E⟩ ⟨b.N,b.I,b.L,b.E⟩ c d y) fun i=>
 some i))
def gV (a b:cH) (f:(List ((Int × Int) × Bool))) (c d y:Int):Option Bool:=
 if (c == 1) then (ob (kB a d) fun g=>
 ob (kB b y) fun h=>
 ob (gX g h) fun i=>
 hQ a b f c d y (!i)) else (hQ a b f c d y false)
def tF (a:Int) (b:(List ((Int × Int) × Bool))) (c:Int):Option (((List ((Int × Int) × Bool)) × Int × Int) ⊕ ((List ((Int × Int) × Bool)) × Int)):=
 some (.inl (b,c,wr (a+1)))
def tG (a:(List ((Int × Int) × Bool))) (d b:Int) (c:(List ((Int × Int) × Bool))):Option (((List ((Int × Int) × Bool)) × Int × Int) ⊕ ((List ((Int × Int) × Bool)) × Int)):=
 if ((c.length:Int) == (a.length:Int)) then (some (.inr (a,b))) else (tF d c b)
def fQ (a b:cH) (f:Int) (g:(List ((Int × Int) × Bool))) (e:(Int × Int)):Option Bool:=
 ob (gV ⟨a.N,a.I,a.L,a.E⟩ ⟨b.N,b.I,b.L,b.E⟩ g f e.1 e.2) fun h=>
 if h then (some true) else (some false)
def mB (a b:cH) (f:Int) (c:(List ((Int × Int) × Bool))) (g h:Int):Option (((List ((Int × Int) × Bool)) × Int × Int) ⊕ ((List ((Int × Int) × Bool)) × Int)):=
 ob (mfil (fQ a b f c) (List.map Prod.fst c)) fun i=>
 ob (some (xZ ([]:(List ((Int × Int) × Bool))) true i)) fun j=>
 tG c g h j
def mC (a b:cH) (f:Int) (g:(List ((Int × Int) × Bool))) (h c:Int) (i:Bool):Option (((List ((Int × Int) × Bool)) × Int × Int) ⊕ ((List ((Int × Int) × Bool)) × Int)):=
 if i then (mB a b f g c c) else (mB a b f g c h)
def mD (a b:cH) (g:Int) (e:(List ((Int × Int) × Bool))) (f h:Int):Option (((List ((Int × Int) × Bool)) × Int × Int) ⊕ ((List ((Int × Int) × Bool)) × Int)):=
 if (decide (f < 0)) then (mC a b g e f h (!((jA e ⟨a.I,b.I⟩).getD false))) else (mC a b g e f h false)
def pB (a b:cH) (e:Int) (f:(List ((Int × Int) × Bool))):Option ((List ((Int × Int) × Bool)) × Int):=
 ob (loop (fun (s:((List ((Int × Int) × Bool)) × Int × Int))=>mD a b e s.1 s.2.1 s.2.2) (f,(-1),0)) fun r=>some r
def tH (a:Int) (b:(List ((Int × Int) × Bool))):Option (((List ((Int × Int) × Bool)) × Int) ⊕ (List ((Int × Int) × Bool))):=
 some (.inl (b,wr (a+1)))
def pC (a:Int) (b:(List ((Int × Int) × Bool))):Option (((List ((Int × Int) × Bool)) × Int) ⊕ (List ((Int × Int) × Bool))):=
 tH a b
def nR (a:Int) (b:(List ((Int × Int) × Bool))):Option (((List ((Int × Int) × Bool)) × Int) ⊕ (List ((Int × Int) × Bool))):=
 some (.inl (b,wr (a+1)))
def nS (c:Int) (b:(List ((Int × Int) × Bool))) (a:Int) (d:Bool):Option (((List ((Int × Int) × Bool)) × Int) ⊕ (List ((Int × Int) × Bool))):=
 if d then (ob (some (tJ b ⟨c,a⟩ true)) fun e=>
 nR a e) else (nR a b)
def iU (a b:cH) (h d:Int) (e:(List ((Int × Int) × Bool))) (c:Int):Option (((List ((Int × Int) × Bool)) × Int) ⊕ (List ((Int × Int) × Bool))):=
 if (decide (c < b.N)) then (if (h != 1) then (nS d e c true) else (ob (kB a d) fun i=>
 ob (kB b c) fun j=>
 ob (gX i j) fun k=>
 nS d e c k)) else (some (.inr e))
def iV (a b:cH) (g:Int) (e:(List ((Int × Int) × Bool))) (c:Int):Option (((List ((Int × Int) × Bool)) × Int) ⊕ (List ((Int × Int) × Bool))):=
 if (decide (c < a.N)) then (ob (loop (fun (s:((List ((Int × Int) × Bool)) × Int))=>iU a b g c s.1 s.2) (e,0)) fun r=>pC c r) else (some (.inr e))
def yQ (a b:cH) (e:Int):Option ((List ((Int × Int) × Bool)) × Int):=
 ob (loop (fun (s:((List ((Int × Int) × Bool)) × Int))=>iV a b e s.1 s.2) (([]:(List ((Int × Int) × Bool))),0)) fun r=>pB a b e r
def uC (t:cH):Option (List ((Int × Int) × Bool)):=
 ob (yQ t t 0) fun b=>
 some b.1
def aAy (a:List Int):Option (List Int):=
 some a
def xK (b:List Int) (a:Int) (c:(List (Int × Int))) (d:Int):Option (((List (Int × Int)) × List Int × Int) ⊕ (List Int)):=
 ob (ix b a) fun f=>
 ob (st b a (d:Int)) fun e=>
 some (.inl (c,e,wr (a+1)))
def mJ (e:(List Int)) (a:(List (Int × Int))) (c:List Int) (b:Int):Option (((List (Int × Int)) × List Int × Int) ⊕ (List Int)):=
 if (decide (b < (e.length:Int))) then (ob (ix e b) fun d=>
 if (!((jA a d).isSome)) then (ob (some (tJ a d (a.length:Int))) fun f=>
 xK c b f (a.length:Int)) else (xK c b a ((jA a d).getD 0))) else (some (.inr c))
def aCh (a:(List Int)):Option (List Int):=
 ob (mkz (a.length:Int) (0:Int)) fun b=>
 ob (loop (fun (s:((List (Int × Int)) × List Int × Int))=>mJ a s.1 s.2.1 s.2.2) (([]:(List (Int × Int))),b,0)) fun r=>aAy r
def hX (a:List Int):Option (List Int):=
 ob (aCh a) fun b=>
 some b
def jD (a:Int) (b:List Int):Option ((List Int × Int) ⊕ (List Int)):=
 some (.inl (b,wr (a+1)))
def hY (a:Int) (b:List Int):Option ((List Int × Int) ⊕ (List Int)):=
 jD a b
def eR (a:Int) (b:List Int):Option ((List Int × Int) ⊕ (List Int)):=
 some (.inl (b,wr (a+1)))
def eS (c:Int) (a:List Int) (b:Int) (d:Bool):Option ((List Int × Int) ⊕ (List Int)):=
 if d then (ob (ix a c) fun e=>
 ob (st a c (mnI e b:Int)) fun f=>
 eR b f) else (eR b a)
def dS (d:(List ((Int × Int) × Bool))) (a:Int) (c:List Int) (b:Int):Option ((List Int × Int) ⊕ (List Int)):=
 if (decide (b < a)) then (if ((jA d ⟨a,b⟩).getD false) then (eS a c b ((jA d ⟨b,a⟩).getD false)) else (eS a c b false)) else (some (.inr c))
def eU (t:cH) (d:(List ((Int × Int) × Bool))) (b:List Int) (a:Int):Option ((List Int × Int) ⊕ (List Int)):=
 if (decide (a < t.N)) then (ob (loop (fun (s:(List Int × Int))=>dS d a s.1 s.2) (b,0)) fun r=>hY a r) else (some (.inr b))
def gW (t:cH):Option (List Int):=
 ob (uC t) fun b=>
 ob (aCg t.N) fun c=>
 ob (loop (fun (s:(List Int × Int))=>eU t b s.1 s.2) (c,0)) fun r=>hX r
def kZ (p:Edge):Option Bool:=
 some true
def mK (t:cH):Option (List ((Int × Int) × Bool)):=
 ob (uC t) fun b=>
 some b
def fF (a:(List Edge)):Option (List Edge):=
 ob (apd ([]:List Edge) a) fun b=>
 some b
def aAz (t:cH):Option cH:=
 ob (dL t.L) fun b=>
 ob (fF t.E) fun c=>
 some ⟨t.N,t.I,b,c⟩
def dT (a:Bool):Option Bool:=
 some a
def jE (o p:Edge) (c:(List ((Int × Int) × Bool))):Option Bool:=
 if (o.F == p.F) then (if (o.B == p.B) then (if ((jA c ⟨p.To,o.To⟩).getD false) then (dT (!((jA c ⟨o.To,p.To⟩).getD false))) else (dT false)) else (dT false)) else (dT false)
def dZ:Option Int:=
 some (-1)
def cR (b:(List Edge)) (c:Edge) (d:(List ((Int × Int) × Bool))) (a:Int):Option (Int ⊕ (Unit ⊕ Int)):=
 if (decide (a < (b.length:Int))) then (ob (ix b a) fun e=>
 ob (jE e c d) fun f=>
 if f then (some (.inr (.inr a))) else (some (.inl (wr (a+1))))) else (some (.inr (.inl ())))
def eN (b:(List Edge)) (c:Edge) (d:(List ((Int × Int) × Bool))):Option Int:=
 ob (loop (fun (s:Int)=>cR b c d s) 0) fun r=>match r with|.inl r=>dZ|.inr r=>some r
def eA (a:(List Edge)) (b:Edge) (c:(List ((Int × Int) × Bool))):Option Bool:=
 ob (eN a b c) fun d=>
 some (decide (0≤d))
def kC (e:Edge) (p:cH) (c:(List ((Int × Int) × Bool))):Option Bool:=
 ob (eA p.E e c) fun d=>
 some d
def jF (e:Edge) (b:cH) (c:(List ((Int × Int) × Bool))):Option Bool:=
 ob (kC e b c) fun d=>
 some (!d)
def sM (t:cH) (b:List Edge):Option cH:=
 some ⟨t.N,t.I,t.L,b⟩
def sO (a:Int) (b:List Edge):Option ((List Edge × Int) ⊕ (List Edge)):=
 some (.inl (b,wr (a+1)))
def pT (t e:cH) (f:(List ((Int × Int) × Bool))) (b:List Edge) (a:Int):Option ((List Edge × Int) ⊕ (List Edge)):=
 if (decide (a < (t.E.length:Int))) then (ob (ix t.E a) fun d=>
 ob (jF d e f) fun g=>
 if g then (ob (apd b ([d]:List Edge)) fun h=>
 sO a h) else (sO a b)) else (some (.inr b))
def aBD (t b:cH) (c:(List ((Int × Int) × Bool))):Option cH:=
 ob (loop (fun (s:(List Edge × Int))=>pT t b c s.1 s.2) ([],0)) fun r=>sM t r
def jI (t:cH):Option cH:=
 ob (mK t) fun b=>
 ob (aBD t t b) fun c=>
 ob (aAz c) fun d=>
 some d
def wW (d e:Int) (f:(List bH)) (a:(List Edge)):Option (List Edge):=
 ob (tK a) fun b=>
 ob (dR b) fun c=>
 some c
def mL (a b:Int) (c:List bH) (d:List Edge):Option cH:=
 ob (wW a b c d) fun e=>
 some ⟨a,b,c,e⟩
def mM (a:Int) (b:List Edge):Option ((List Edge × Int) ⊕ (List Edge)):=
 some (.inl (b,wr (a+1)))
def kD (t:cH) (p:(List Int)) (c:List Edge) (a:Int):Option ((List Edge × Int) ⊕ (List Edge)):=
 if (decide (a < (t.E.length:Int))) then (ob (ix t.E a) fun b=>
 ob (kZ b) fun f=>
 if f then (ob (ix p b.F) fun g=>
 ob (ix p b.To) fun h=>
 ob (apd c ([⟨g,b.B,h⟩]:List Edge)) fun i=>
 mM a i) else (mM a c)) else (some (.inr c))
def pZ (t:cH) (p:(List Int)) (c d:Int) (e:List bH):Option cH:=
 ob (loop (fun (s:(List Edge × Int))=>kD t p s.1 s.2) ([],0)) fun r=>mL c d e r
def nT (t:cH) (p:(List Int)):Option cH:=
 ob (ix p t.I) fun c=>
 ob (rK p) fun d=>
 ob (dL t.L) fun e=>
 pZ t p d c e
def jG (a b:Int) (c:List bH) (d:List Edge):Option (cH × Int):=
 ob (kM ⟨a,b,c,d⟩) fun e=>
 ob (tN ⟨a,b,c,d⟩ e) fun f=>
 some (f,0)
def lA (b c:Int) (d:List bH) (e:List Edge):Option (cH × Int):=
 ob (gW ⟨b,c,d,e⟩) fun f=>
 ob (nT ⟨b,c,d,e⟩ f) fun g=>
 ob (jI g) fun a=>
 jG a.N a.I a.L a.E
def jJ (t:cH):Option (cH × Int):=
 ob (aAh t) fun c=>
 if (!c) then (some (⟨0,0,[],[]⟩,1)) else (ob (kM t) fun d=>
 ob (tN t d) fun a=>
 lA a.N a.I a.L a.E)
def vH:Option Bool:=
 some true
def nU (a b:(List bH)) (c:Int):Option (Int ⊕ (Unit ⊕ Bool)):=
 if (decide (c < (a.length:Int))) then (ob (ix a c) fun f=>
 ob (ix b c) fun g=>
 if (!(f == g)) then (some (.inr (.inr false))) else (some (.inl (wr (c+1))))) else (some (.inr (.inl ())))
def xL (a b:(List bH)):Option Bool:=
 if ((a.length:Int) != (b.length:Int)) then (some false) else (ob (loop (fun (s:Int)=>nU a b s) 0) fun r=>match r with|.inl r=>vH|.inr r=>some r)
def aCi (a b:Edge):Option Bool:=
 if (a.F != b.F) then (some false) else (if (a.B != b.B) then (some false) else (if (a.To != b.To) then (some false) else (some true)))
def yR:Option Bool:=
 some true
def rM (a b:(List Edge)) (c:Int):Option (Int ⊕ (Unit ⊕ Bool)):=
 if (decide (c < (a.length:Int))) then (ob (ix a c) fun f=>
 ob (ix b c) fun g=>
 ob (aCi f g) fun h=>
 if (!h) then (some (.inr (.inr false))) else (some (.inl (wr (c+1))))) else (some (.inr (.inl ())))
def aBf (a b:(List Edge)):Option Bool:=
 if ((a.length:Int) != (b.length:Int)) then (some false) else (ob (loop (fun (s:Int)=>rM a b s) 0) fun r=>match r with|.inl r=>yR|.inr r=>some r)
def aAA (a b:cH):Option Bool:=
 if (a.N != b.N) then (some false) else (if (a.I != b.I) then (some false) else (ob (xL a.L b.L) fun e=>
 if (!e) then (some false) else (ob (aBf a.E b.E) fun f=>
 if (!f) then (some false) else (some true))))
def sP (a:bH):Option bH:=
 ob (cat ([109]:bH) a) fun b=>
 some b
def sQ (a:Int) (b:bH):Option ((Int × bH) ⊕ bH):=
 if (decide (0 < a)) then (ob (rm a 10) fun c=>
 ob (cat ([(UInt8.ofInt (wr (48+c)))]:List UInt8) b) fun d=>
 ob (qu a 10) fun e=>
 some (.inl (e,d))) else (some (.inr b))
def qQ (k:Int):Option bH:=
 if (decide (k≤0)) then (some ([109,48]:bH)) else (ob (loop (fun (s:(Int × bH))=>sQ s.1 s.2) (k,([]:bH))) fun r=>sP r)
def nV (a:Int) (b:List bH):Option (Int × (List bH)):=
 some (a,b)
def nW (a:List bH) (c b:Int):Option ((List bH × Int × Int) ⊕ (Int × List bH)):=
 if (decide (b < (a.length:Int))) then (ob (qQ c) fun d=>
 ob (ix a b) fun f=>
 ob (st a b (d:bH)) fun e=>
 some (.inl (e,wr (c+1),wr (b+1)))) else (some (.inr (c,a)))
def sS (a:(List bH)) (k:Int):Option (Int × (List bH)):=
 ob (loop (fun (s:(List bH × Int × Int))=>nW s.1 s.2.1 s.2.2) (a,k,0)) fun r=>nV r.1 r.2
def qR (a:Int) (b:List Edge):Option (Int × (List Edge)):=
 some (a,b)
def qS (c:List Edge) (b a:Int):Option ((List Edge × Int × Int) ⊕ (Int × List Edge)):=
 if (decide (a < (c.length:Int))) then (ob (ix c a) fun d=>
 ob (st c a (⟨b,d.B,d.To⟩:Edge)) fun e=>
 ob (ix e a) fun f=>
 ob (st e a (⟨f.F,wr (b+1),f.To⟩:Edge)) fun g=>
 ob (ix g a) fun h=>
 ob (st g a (⟨h.F,h.B,wr ((wr (b+1))+1)⟩:Edge)) fun i=>
 some (.inl (i,wr ((wr ((wr (b+1))+1))+1),wr (a+1)))) else (some (.inr (b,c)))
def xM (a:(List Edge)) (k:Int):Option (Int × (List Edge)):=
 ob (loop (fun (s:(List Edge × Int × Int))=>qS s.1 s.2.1 s.2.2) (a,k,0)) fun r=>qR r.1 r.2
def vX (f g:Int) (c:(List bH)) (d:(List Edge)) (k:Int):Option (Int × (List bH) × (List Edge)):=
 ob (sS c k) fun a=>
 ob (xM d a.1) fun b=>
 some (b.1,a.2,b.2)
def rN (a:Int):Option Int:=
 some a
def lJ (a:(List bH)) (b c:Int):Option ((Int × Int) ⊕ (Int ⊕ Int)):=
 if (decide (c < (a.length:Int))) then (ob (ix a c) fun e=>
 ob (qQ b) fun f=>
 if (!(e == f)) then (some (.inr (.inr (-1)))) else (some (.inl (wr (b+1),wr (c+1))))) else (some (.inr (.inl b)))
def sT (a:(List bH)) (k:Int):Option Int:=
 ob (loop (fun (s:(Int × Int))=>lJ a s.1 s.2) (k,0)) fun r=>match r with|.inl r=>rN r|.inr r=>some r
def vI (a:Int):Option Int:=
 some a
def nX (a:(List Edge)) (b c:Int):Option ((Int × Int) ⊕ (Int ⊕ Int)):=
 if (decide (c < (a.length:Int))) then (ob (ix a c) fun d=>
 if (d.F != b) then (some (.inr (.inr (-1)))) else (if (d.B != (wr (b+1))) then (some (.inr (.inr (-1)))) else (if (d.To != (wr ((wr (b+1))+1))) then (some (.inr (.inr (-1)))) else (some (.inl (wr ((wr ((wr (b+1))+1))+1),wr (c+1))))))) else (some (.inr (.inl b)))
def xN (a:(List Edge)) (k:Int):Option Int:=
 ob (loop (fun (s:(Int × Int))=>nX a s.1 s.2) (k,0)) fun r=>match r with|.inl r=>vI r|.inr r=>some r
def zH (a:cH) (k:Int):Option Int:=
 ob (sT a.L k) fun c=>
 if (decide (c < 0)) then (some (-1)) else (ob (xN a.E c) fun d=>
 if (decide (d < 0)) then (some (-1)) else (some d))
def fY (b:(cH × Int)) (a:(Int × (List bH) × (List Edge))) (d:Bool):Option Bool:=
 if d then (some false) else (ob (zH ⟨b.1.N,b.1.I,a.2.1,a.2.2⟩ 1) fun c=>
 if (decide (c < 0)) then (some false) else (if (c != a.1) then (some false) else (some true)))
def eW (f:cH) (c a:(cH × Int)) (g:Bool):Option Bool:=
 if g then (some false) else (ob (vX a.1.N a.1.I a.1.L a.1.E 1) fun b=>
 ob (zH ⟨a.1.N,a.1.I,b.2.1,b.2.2⟩ 1) fun d=>
 if (decide (d < 0)) then (some false) else (if (d != b.1) then (some false) else (ob (aAx f) fun h=>
 ob (jJ h) fun e=>
 ob (aAA e.1 c.1) fun i=>
 if (!i) then (fY a b true) else (fY a b (e.2 != c.2)))))
def fZ (d:cH) (a:(cH × Int)) (b:cH) (c:(cH × Int)) (e:Bool):Option Bool:=
 if e then (some false) else (ob (aAx d) fun f=>
 ob (aAA b f) fun g=>
 if (!g) then (some false) else (ob (vX b.N b.I b.L b.E 1) fun h=>
 if (decide (h.1 < 0)) then (eW d a c true) else (ob (aAA c.1 a.1) fun i=>
 if (!i) then (eW d a c true) else (eW d a c (c.2 != a.2)))))
def jH (a:cH):Option Bool:=
 ob (aDB a 1048576) fun e=>
 if (decide (e < 0)) then (some true) else (ob (aAx a) fun f=>
 ob (kS f) fun b=>
 ob (aAx a) fun d=>
 ob (jJ d) fun c=>
 ob (aAA c.1 b.1) fun g=>
 if (!g) then (fZ a b d c true) else (fZ a b d c (c.2 != b.2)))
end
end Gv
