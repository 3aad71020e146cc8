/- Models of the functions, printed by program off their code. Plain Lean. -/
import Derived.Test.YtfhgggimcgajdaaGreatDoorJLM
set_option linter.all false
namespace Gv
noncomputable section
def aDq (a:(List bS)) (c:Int):Option Int:=
 if (decide (wr (c - (a.length:Int)) < 0)) then (some (-1)) else (some (wr (c - (a.length:Int))))
def aBz (a:Int):Option Int:=
 some a
def vY (a:(List (List bS))) (d b:Int):Option ((Int × Int) ⊕ (Int ⊕ Int)):=
 if (decide (b < (a.length:Int))) then (ob (ix a b) fun f=>
 ob (aDq f d) fun e=>
 if (decide (e < 0)) then (some (.inr (.inr (-1)))) else (some (.inl (e,wr (b+1))))) else (some (.inr (.inl d)))
def aFS (a:(List (List bS))) (d:Int):Option Int:=
 if (decide (wr (d - (a.length:Int)) < 0)) then (some (-1)) else (ob (loop (fun (s:(Int × Int))=>vY a s.1 s.2) (wr (d - (a.length:Int)),0)) fun r=>match r with|.inl r=>aBz r|.inr r=>some r)
def aFg (a:Part) (c:Int):Option Int:=
 if (decide (wr (c - (a.Name.length:Int)) < 0)) then (some (-1)) else (ob (aFS a.Arguments (wr (c - (a.Name.length:Int)))) fun d=>
 if (decide (d < 0)) then (some (-1)) else (some d))
def aCT (a:Int):Option Int:=
 some a
def zY (a:(List Part)) (d b:Int):Option ((Int × Int) ⊕ (Int ⊕ Int)):=
 if (decide (b < (a.length:Int))) then (ob (ix a b) fun f=>
 ob (aFg f d) fun e=>
 if (decide (e < 0)) then (some (.inr (.inr (-1)))) else (some (.inl (e,wr (b+1))))) else (some (.inr (.inl d)))
def aHA (a:(List Part)) (d:Int):Option Int:=
 if (decide (wr (d - (a.length:Int)) < 0)) then (some (-1)) else (ob (loop (fun (s:(Int × Int))=>zY a s.1 s.2) (wr (d - (a.length:Int)),0)) fun r=>match r with|.inl r=>aCT r|.inr r=>some r)
def pA (a:Definition) (c:Int):Option Int:=
 if (decide (wr (c - (a.Name.length:Int)) < 0)) then (some (-1)) else (ob (aHA a.Body (wr (c - (a.Name.length:Int)))) fun d=>
 if (decide (d < 0)) then (some (-1)) else (some d))
def qP (a:Int):Option Int:=
 some a
def mY (a:(List Definition)) (d b:Int):Option ((Int × Int) ⊕ (Int ⊕ Int)):=
 if (decide (b < (a.length:Int))) then (ob (ix a b) fun f=>
 ob (pA f d) fun e=>
 if (decide (e < 0)) then (some (.inr (.inr (-1)))) else (some (.inl (e,wr (b+1))))) else (some (.inr (.inl d)))
def xE (a:(List Definition)) (d:Int):Option Int:=
 if (decide (wr (d - (a.length:Int)) < 0)) then (some (-1)) else (ob (loop (fun (s:(Int × Int))=>mY a s.1 s.2) (wr (d - (a.length:Int)),0)) fun r=>match r with|.inl r=>qP r|.inr r=>some r)
def aFT (a:(List Int)) (c:Int):Option Int:=
 if (decide (wr (c - (a.length:Int)) < 0)) then (some (-1)) else (some (wr (c - (a.length:Int))))
def sA (a:bT) (d:Int):Option Int:=
 ob (aFT a.Values d) fun b=>
 if (decide (b < 0)) then (some (-1)) else (some b)
def sP (a:Int):Option Int:=
 some a
def nU (a:(List bT)) (d b:Int):Option ((Int × Int) ⊕ (Int ⊕ Int)):=
 if (decide (b < (a.length:Int))) then (ob (ix a b) fun f=>
 ob (sA f d) fun e=>
 if (decide (e < 0)) then (some (.inr (.inr (-1)))) else (some (.inl (e,wr (b+1))))) else (some (.inr (.inl d)))
def zZ (a:(List bT)) (d:Int):Option Int:=
 if (decide (wr (d - (a.length:Int)) < 0)) then (some (-1)) else (ob (loop (fun (s:(Int × Int))=>nU a s.1 s.2) (wr (d - (a.length:Int)),0)) fun r=>match r with|.inl r=>sP r|.inr r=>some r)
def yM (a:bU) (c:Int):Option Int:=
 if (decide (wr (c - (a.Left.length:Int)) < 0)) then (some (-1)) else (if (decide (wr ((wr (c - (a.Left.length:Int))) - (a.Right.length:Int)) < 0)) then (some (-1)) else (if (decide (wr ((wr ((wr (c - (a.Left.length:Int))) - (a.Right.length:Int))) - (a.Result.length:Int)) < 0)) then (some (-1)) else (some (wr ((wr ((wr (c - (a.Left.length:Int))) - (a.Right.length:Int))) - (a.Result.length:Int))))))
def xF (a:Int):Option Int:=
 some a
def rG (a:(List bU)) (d b:Int):Option ((Int × Int) ⊕ (Int ⊕ Int)):=
 if (decide (b < (a.length:Int))) then (ob (ix a b) fun f=>
 ob (yM f d) fun e=>
 if (decide (e < 0)) then (some (.inr (.inr (-1)))) else (some (.inl (e,wr (b+1))))) else (some (.inr (.inl d)))
def aCU (a:(List bU)) (d:Int):Option Int:=
 if (decide (wr (d - (a.length:Int)) < 0)) then (some (-1)) else (ob (loop (fun (s:(Int × Int))=>rG a s.1 s.2) (wr (d - (a.length:Int)),0)) fun r=>match r with|.inl r=>xF r|.inr r=>some r)
def aAa (a:Int):Option Int:=
 some a
def tB (a:(List bJ)) (b c:Int):Option ((Int × Int) ⊕ (Int ⊕ Int)):=
 if (decide (c < (a.length:Int))) then (ob (ix a c) fun e=>
 if (decide (wr (b - (e.length:Int)) < 0)) then (some (.inr (.inr (-1)))) else (some (.inl (wr (b - (e.length:Int)),wr (c+1))))) else (some (.inr (.inl b)))
def aBZ (a:(List bJ)) (d:Int):Option Int:=
 if (decide (wr (d - (a.length:Int)) < 0)) then (some (-1)) else (ob (loop (fun (s:(Int × Int))=>tB a s.1 s.2) (wr (d - (a.length:Int)),0)) fun r=>match r with|.inl r=>aAa r|.inr r=>some r)
def aDI (a:bZ) (h:Int):Option Int:=
 ob (xE a.Definitions h) fun c=>
 if (decide (c < 0)) then (some (-1)) else (ob (zZ a.Components c) fun d=>
 if (decide (d < 0)) then (some (-1)) else (ob (aCU a.Meetings d) fun e=>
 if (decide (e < 0)) then (some (-1)) else (ob (aBZ a.Allowed e) fun f=>
 if (decide (f < 0)) then (some (-1)) else (ob (aBZ a.Hidden f) fun g=>
 if (decide (g < 0)) then (some (-1)) else (some g)))))
def aFU (a:Bool):Option Bool:=
 some a
def nK (n low b:Int):Option Bool:=
 if (decide (low<=n)) then (aFU (decide (n<=b))) else (aFU false)
def aBA (a:Bool):Option Bool:=
 some a
def aDJ (c:UInt8):Option Bool:=
 if (decide (97<=(c.toNat:Int))) then (aBA (decide ((c.toNat:Int)<=122))) else (aBA false)
def aBB (a:Bool):Option Bool:=
 some a
def aDK (c:UInt8):Option Bool:=
 if (decide (48<=(c.toNat:Int))) then (aBB (decide ((c.toNat:Int)<=57))) else (aBB false)
def aAb:Option Bool:=
 some true
def aAc (a:Int) (b:Bool):Option (Int ⊕ (Unit ⊕ Bool)):=
 if b then (some (.inr (.inr false))) else (some (.inl (wr (a+1))))
def aAd (b:bJ) (a:Int):Option (Int ⊕ (Unit ⊕ Bool)):=
 if (decide (a < (b.length:Int))) then (ob (ix b a) fun c=>
 ob (aDJ c) fun d=>
 if (!d) then (ob (aDK c) fun e=>
 aAc a (!e)) else (aAc a false)) else (some (.inr (.inl ())))
def qQ (b:bJ) (c:Bool):Option Bool:=
 if c then (some false) else (ob (loop (fun (s:Int)=>aAd b s) 0) fun r=>match r with|.inl r=>aAb|.inr r=>some r)
def yN (a:bJ):Option Bool:=
 if (a == ([]:bJ)) then (qQ a true) else (if (decide (10 < (a.length:Int))) then (qQ a true) else (ob (ix a 0) fun b=>
 ob (aDJ b) fun c=>
 qQ a (!c)))
def pB (p:Part) (b:Bool):Option Int:=
 if b then (some 1) else (if (p.Kind == 2) then (some 2) else (some 0))
def yO (p:Part):Option Int:=
 if (p.Kind == 1) then (pB p (p.Kind == 1)) else (if (p.Kind == 3) then (pB p (p.Kind == 3)) else (pB p (p.Kind == 4)))
def aBC (a:Int):Option Bool:=
 some (a == 0)
def vZ (c:(List Part)) (a b:Int):Option ((Int × Int) ⊕ (Int ⊕ Bool)):=
 if (decide (b < (c.length:Int))) then (if (a == 0) then (some (.inr (.inr false))) else (ob (ix c b) fun d=>
 ob (yO d) fun e=>
 some (.inl (wr (a+(wr (e - 1))),wr (b+1))))) else (some (.inr (.inl a)))
def wA (b:(List Part)) (c:Bool):Option Bool:=
 if c then (some false) else (ob (loop (fun (s:(Int × Int))=>vZ b s.1 s.2) (1,0)) fun r=>match r with|.inl r=>aBC r|.inr r=>some r)
def aDL (a:(List Part)):Option Bool:=
 if ((a.length:Int) == 0) then (wA a true) else (wA a (decide (20 < (a.length:Int))))
def uN (a:Bool):Option Bool:=
 some a
def aAe (a:Bool):Option Bool:=
 some a
def aAf (a:Bool):Option Bool:=
 some a
def aAg (p:Part) (b:Bool):Option Bool:=
 if b then (if (p.Number == 0) then (if (p.Name == ([]:bJ)) then (uN ((p.Arguments.length:Int) == 0)) else (uN false)) else (uN false)) else (if (p.Kind == 1) then (some (p.Number == 0)) else (if (p.Kind == 3) then (if (p.Number == 0) then (aAe (p.Name == ([]:bJ))) else (aAe false)) else (if (p.Kind == 4) then (if (p.Name == ([]:bJ)) then (aAf ((p.Arguments.length:Int) == 0)) else (aAf false)) else (if (p.Kind == 5) then (some (p.Name == ([]:bJ))) else (some false)))))
def aFh (p:Part):Option Bool:=
 if (p.Kind == 0) then (aAg p (p.Kind == 0)) else (aAg p (p.Kind == 2))
def aCa (a:Int):Option Int:=
 some a
def aEv (c:(List Part)) (a b:Int):Option ((Int × Int) ⊕ Int):=
 if (decide (0 < b)) then (ob (ix c a) fun d=>
 ob (yO d) fun e=>
 some (.inl (wr (a+1),wr (b+(wr (e - 1)))))) else (some (.inr a))
def aFi (a:(List Part)) (b:Int):Option Int:=
 ob (loop (fun (s:(Int × Int))=>aEv a s.1 s.2) (b,1)) fun r=>aCa r
def aBD (a:Int):Option Int:=
 some a
def wB (a b:Int):Option ((Int × Int) ⊕ Int):=
 some (.inl (b,wr (a+1)))
def wC (a b:Int) (c:Bool):Option ((Int × Int) ⊕ Int):=
 if c then (wB b (wr (a+1))) else (wB b a)
def lC (d:Definition) (e b a:Int):Option ((Int × Int) ⊕ Int):=
 if (decide (a < e)) then (ob (ix d.Body a) fun f=>
 if (f.Kind == 4) then (ob (aFi d.Body a) fun g=>
 wC b a (decide (e < g))) else (wC b a false)) else (some (.inr b))
def aBh (d:Definition) (b:Int):Option Int:=
 ob (loop (fun (s:(Int × Int))=>lC d b s.1 s.2) (d.Parameters,0)) fun r=>aBD r
def aFj (t:bS) (b:Int):Option Bool:=
 if (t.Kind == 0) then (ob (nK t.Value 0 63) fun c=>
 some c) else (if (t.Kind == 1) then (ob (nK t.Value 0 (wr (b - 1))) fun d=>
 some d) else (if (t.Kind == 2) then (ob (nK t.Value 0 8) fun e=>
 some e) else (if (t.Kind == 3) then (some (t.Value == 0)) else (some false))))
def aBi (t:bS):Option Int:=
 if (t.Kind == 2) then (some 2) else (if (t.Kind == 3) then (some 1) else (some 0))
def aFV (a:Int):Option Bool:=
 some (a == 0)
def aDM (e:(List bS)) (c a:Int) (d:Bool):Option ((Int × Int) ⊕ (Int ⊕ Bool)):=
 if d then (some (.inr (.inr false))) else (ob (ix e a) fun f=>
 ob (aBi f) fun g=>
 some (.inl (wr (c+(wr (g - 1))),wr (a+1))))
def aDN (e:(List bS)) (d b c:Int):Option ((Int × Int) ⊕ (Int ⊕ Bool)):=
 if (decide (c < (e.length:Int))) then (if (b == 0) then (aDM e b c true) else (ob (ix e c) fun f=>
 ob (aFj f d) fun g=>
 aDM e b c (!g))) else (some (.inr (.inl b)))
def aIY (e:(List bS)) (c d:Int):Option Bool:=
 if (decide (d < (e.length:Int))) then (some false) else (ob (loop (fun (s:(Int × Int))=>aDN e c s.1 s.2) (1,0)) fun r=>match r with|.inl r=>aFV r|.inr r=>some r)
def tC:Option Int:=
 some 0
def pC (b:Part) (c a:Int):Option (Int ⊕ (Unit ⊕ Int)):=
 if (decide (a < (b.Arguments.length:Int))) then (ob (ix b.Arguments a) fun d=>
 ob (aIY d c 15) fun e=>
 if (!e) then (some (.inr (.inr 8))) else (some (.inl (wr (a+1))))) else (some (.inr (.inl ())))
def pD (b:Part) (c:Int) (d:Bool):Option Int:=
 if d then (some 7) else (ob (loop (fun (s:Int)=>pC b c s) 0) fun r=>match r with|.inl r=>tC|.inr r=>some r)
def mZ (d:Definition) (e:Int) (a:Part) (f:Bool):Option Int:=
 if f then (some 6) else (ob (aBh d e) fun b=>
 if (a.Kind == 4) then (pD a b (decide (6<=b))) else (pD a b false))
def jR (d:Definition) (a:Int) (c:Part):Option Int:=
 if (c.Kind == 5) then (if (a == 0) then (mZ d a c true) else (ob (ix d.Body (wr (a - 1))) fun e=>
 mZ d a c (e.Kind != 1))) else (mZ d a c false)
def pE (d:Definition) (b:Int) (c:Part) (e:Bool):Option Int:=
 if e then (some 5) else (jR d b c)
def jS (e:(List Definition)) (d:Definition) (c:Int) (a:Part) (f:Bool):Option Int:=
 if f then (some 4) else (if (a.Kind == 1) then (if (decide (2 < (a.Arguments.length:Int))) then (pE d c a true) else (if (decide (0 < (a.Arguments.length:Int))) then (pE d c a (a.Name == ([116,97,117]:bJ))) else (pE d c a false))) else (if (a.Kind == 3) then (if ((a.Arguments.length:Int) != 1) then (some 5) else (jR d c a)) else (if (a.Kind == 5) then (ob (ix e a.Number) fun g=>
 if ((a.Arguments.length:Int) != g.Parameters) then (some 5) else (jR d c a)) else (jR d c a))))
def pF (b:(List Definition)) (d:Definition) (e:Int) (a:Part) (f:Bool):Option Int:=
 if f then (some 3) else (if (a.Kind == 4) then (ob (nK a.Number 1 7) fun g=>
 if (!g) then (jS b d e a true) else (if (a.Kind == 5) then (ob (nK a.Number 0 (wr ((b.length:Int) - 1))) fun h=>
 jS b d e a (!h)) else (jS b d e a false))) else (if (a.Kind == 5) then (ob (nK a.Number 0 (wr ((b.length:Int) - 1))) fun i=>
 jS b d e a (!i)) else (jS b d e a false)))
def yP (e:(List Definition)) (d:Definition) (c:Int):Option Int:=
 ob (ix d.Body c) fun a=>
 ob (aFh a) fun f=>
 if (!f) then (some 2) else (if (a.Kind == 1) then (ob (yN a.Name) fun g=>
 pF e d c a (!g)) else (pF e d c a false))
def aCV:Option (Int × Int):=
 some (0,0)
def uO (e:(List Definition)) (d:Definition) (a:Int):Option (Int ⊕ (Unit ⊕ (Int × Int))):=
 if (decide (a < (d.Body.length:Int))) then (ob (yP e d a) fun c=>
 if (decide (0 < c)) then (some (.inr (.inr (a,c)))) else (some (.inl (wr (a+1))))) else (some (.inr (.inl ())))
def aDr (c:(List Definition)) (d:Definition):Option (Int × Int):=
 ob (aDL d.Body) fun e=>
 if (!e) then (some (0,1)) else (ob (loop (fun (s:Int)=>uO c d s) 0) fun r=>match r with|.inl r=>aCV|.inr r=>some r)
def aCW:Option Bool:=
 some true
def aAh (a:(List Definition)) (b:Int):Option (Int ⊕ (Unit ⊕ Bool)):=
 if (decide (b < (a.length:Int))) then (ob (ix a b) fun c=>
 ob (aDr a c) fun d=>
 if (decide (0 < d.2)) then (some (.inr (.inr false))) else (some (.inl (wr (b+1))))) else (some (.inr (.inl ())))
def uP (b:(List Definition)):Option Bool:=
 ob (loop (fun (s:Int)=>aAh b s) 0) fun r=>match r with|.inl r=>aCW|.inr r=>some r
def aCX (a:Int):Option (Int ⊕ (Unit ⊕ Bool)):=
 some (.inl (wr (a+1)))
def uQ (a:Int):Option (Int ⊕ (Unit ⊕ Bool)):=
 aCX a
def aAi (b:(List Definition)) (c a:Int):Option (Int ⊕ (Unit ⊕ Bool)):=
 if (decide (a < c)) then (ob (ix b a) fun d=>
 ob (ix b c) fun e=>
 if (d.Name == e.Name) then (some (.inr (.inr false))) else (some (.inl (wr (a+1))))) else (some (.inr (.inl ())))
def aAj (c:(List Definition)) (b:Int) (d:Bool):Option (Int ⊕ (Unit ⊕ Bool)):=
 if d then (some (.inr (.inr false))) else (ob (loop (fun (s:Int)=>aAi c b s) 0) fun r=>match r with|.inl r=>uQ b|.inr r=>some (.inr (.inr r)))
def aAk (a:(List Definition)) (b:Int):Option (Int ⊕ (Unit ⊕ Bool)):=
 if (decide (b < (a.length:Int))) then (ob (ix a b) fun c=>
 ob (yN c.Name) fun d=>
 if (!d) then (aAj a b true) else (ob (nK c.Parameters 0 3) fun e=>
 aAj a b (!e))) else (some (.inr (.inl ())))
def uR (b:(List Definition)) (c:Bool):Option Bool:=
 if c then (some false) else (ob (loop (fun (s:Int)=>aAk b s) 0) fun r=>match r with|.inl r=>uP b|.inr r=>some r)
def aBj (a:(List Definition)):Option Bool:=
 if ((a.length:Int) == 0) then (uR a true) else (uR a (decide (4 < (a.length:Int))))
def aCY:Option Bool:=
 some true
def aAl (b:(List Int)) (a:Int):Option (Int ⊕ (Unit ⊕ Bool)):=
 if (decide (a < (b.length:Int))) then (ob (ix b a) fun c=>
 ob (nK c 0 63) fun d=>
 if (!d) then (some (.inr (.inr false))) else (some (.inl (wr (a+1))))) else (some (.inr (.inl ())))
def aFk (b:(List Int)):Option Bool:=
 ob (loop (fun (s:Int)=>aAl b s) 0) fun r=>match r with|.inl r=>aCY|.inr r=>some r
def qR:Option Bool:=
 some true
def nA (a:Int) (b:Bool):Option (Int ⊕ (Unit ⊕ Bool)):=
 if b then (some (.inr (.inr false))) else (some (.inl (wr (a+1))))
def nB (a:bZ) (b:Int):Option (Int ⊕ (Unit ⊕ Bool)):=
 if (decide (b < (a.Components.length:Int))) then (ob (ix a.Components b) fun c=>
 ob (nK c.Definition 0 (wr ((a.Definitions.length:Int) - 1))) fun d=>
 if (!d) then (some (.inr (.inr false))) else (ob (ix a.Definitions c.Definition) fun e=>
 if ((c.Values.length:Int) != e.Parameters) then (nA b true) else (ob (aFk c.Values) fun f=>
 nA b (!f)))) else (some (.inr (.inl ())))
def nC (b:bZ) (c:Bool):Option Bool:=
 if c then (some false) else (ob (loop (fun (s:Int)=>nB b s) 0) fun r=>match r with|.inl r=>qR|.inr r=>some r)
def rH (a:bZ):Option Bool:=
 if ((a.Components.length:Int) == 0) then (nC a true) else (nC a (decide (3 < (a.Components.length:Int))))
def tD (a:Bool):Option Bool:=
 some a
def nV (a:bJ):Option Bool:=
 ob (yN a) fun b=>
 if b then (tD (!(a == ([116,97,117]:bJ)))) else (tD false)
def uS:Option Bool:=
 some true
def uT (a:Int):Option (Int ⊕ (Unit ⊕ Bool)):=
 some (.inl (wr (a+1)))
def pG (a:Int):Option (Int ⊕ (Unit ⊕ Bool)):=
 uT a
def pH (a:Int) (b:Bool):Option (Int ⊕ (Unit ⊕ Bool)):=
 if b then (some (.inr (.inr false))) else (some (.inl (wr (a+1))))
def pI (b:(List bU)) (c:bU) (a:Int):Option (Int ⊕ (Unit ⊕ Bool)):=
 if (decide (a < (b.length:Int))) then (ob (ix b a) fun d=>
 if (d.Left == c.Result) then (pH a true) else (pH a (d.Right == c.Result))) else (some (.inr (.inl ())))
def jK (b:(List bU)) (c:Int) (d:bU) (e:Bool):Option (Int ⊕ (Unit ⊕ Bool)):=
 if e then (some (.inr (.inr false))) else (ob (loop (fun (s:Int)=>pI b d s) 0) fun r=>match r with|.inl r=>pG c|.inr r=>some (.inr (.inr r)))
def jL (c:(List bU)) (b:Int) (a:bU) (e:Bool):Option (Int ⊕ (Unit ⊕ Bool)):=
 if e then (some (.inr (.inr false))) else (if (decide (0 < b)) then (ob (ix c (wr (b - 1))) fun d=>
 if (!(qF d.Left a.Left||d.Left == a.Left)) then (jK c b a true) else (if (d.Left == a.Left) then (jK c b a (!qF d.Right a.Right)) else (jK c b a false))) else (jK c b a false))
def mP (b:(List bU)) (c:Int):Option (Int ⊕ (Unit ⊕ Bool)):=
 if (decide (c < (b.length:Int))) then (ob (ix b c) fun a=>
 ob (nV a.Left) fun d=>
 if (!d) then (jL b c a true) else (ob (nV a.Right) fun e=>
 if (!e) then (jL b c a true) else (ob (nV a.Result) fun f=>
 if (!f) then (jL b c a true) else (jL b c a (!(qF a.Left a.Right||a.Left == a.Right)))))) else (some (.inr (.inl ())))
def wD (b:(List bU)):Option Bool:=
 if (decide (6 < (b.length:Int))) then (some false) else (ob (loop (fun (s:Int)=>mP b s) 0) fun r=>match r with|.inl r=>uS|.inr r=>some r)
def xG:Option Bool:=
 some true
def rI (b:(List bJ)) (a:Int):Option (Int ⊕ (Unit ⊕ Bool)):=
 if (decide (a < (b.length:Int))) then (ob (ix b a) fun c=>
 ob (nV c) fun d=>
 if (!d) then (some (.inr (.inr false))) else (some (.inl (wr (a+1))))) else (some (.inr (.inl ())))
def aAm (b:(List bJ)):Option Bool:=
 ob (loop (fun (s:Int)=>rI b s) 0) fun r=>match r with|.inl r=>xG|.inr r=>some r
def aBE:Option Bool:=
 some true
def sB (b:(List bJ)) (a:Int):Option (Int ⊕ (Unit ⊕ Bool)):=
 if (decide (a < (b.length:Int))) then (ob (ix b (wr (a - 1))) fun c=>
 ob (ix b a) fun d=>
 if (!qF c d) then (some (.inr (.inr false))) else (some (.inl (wr (a+1))))) else (some (.inr (.inl ())))
def wE (b:(List bJ)) (c:Bool):Option Bool:=
 if c then (some false) else (ob (loop (fun (s:Int)=>sB b s) 1) fun r=>match r with|.inl r=>aBE|.inr r=>some r)
def aBk (a:(List bJ)):Option Bool:=
 if (decide (12 < (a.length:Int))) then (wE a true) else (ob (aAm a) fun b=>
 wE a (!b))
def aDO (a:bZ):Option Int:=
 ob (aBj a.Definitions) fun b=>
 if (!b) then (some 1) else (ob (rH a) fun c=>
 if (!c) then (some 2) else (ob (wD a.Meetings) fun d=>
 if (!d) then (some 3) else (ob (aBk a.Allowed) fun e=>
 if (!e) then (some 4) else (ob (aBk a.Hidden) fun f=>
 if (!f) then (some 5) else (some 0)))))
def aHB (a:bZ):Option Bool:=
 ob (aDO a) fun b=>
 some (b == 0)
def tE (a:Bool):Option Bool:=
 some a
def aCb (a b:Int):Option Bool:=
 ob (nK a 0 2) fun c=>
 if c then (ob (nK b 0 65535) fun d=>
 tE d) else (tE false)
def tF (a:Bool):Option Int:=
 if a then (some 2) else (some 0)
def aIZ (a:bZ) (b c d:Int):Option Int:=
 ob (aHB a) fun e=>
 if (!e) then (some 1) else (ob (aCb b c) fun f=>
 if (!f) then (tF true) else (ob (nK d 0 60) fun g=>
 tF (!g)))
def tG (a:(List Int)):Option (List Int):=
 ob (apd ([]:List Int) a) fun b=>
 some b
def aEw (a:List aZ):Option (List aZ):=
 some a
def aCc (c:(List aZ)) (d:List aZ) (a:Int):Option ((List aZ × Int) ⊕ (List aZ)):=
 if (decide (a < (c.length:Int))) then (ob (ix c a) fun b=>
 ob (tG b.Values) fun e=>
 ob (apd d ([⟨b.Definition,b.Part,e⟩]:List aZ)) fun f=>
 some (.inl (f,wr (a+1)))) else (some (.inr d))
def wF (a:(List aZ)):Option (List aZ):=
 ob (loop (fun (s:(List aZ × Int))=>aCc a s.1 s.2) (([]:List aZ),0)) fun r=>aEw r
def aEx (a:List UInt8):Option bJ:=
 some a
def aCd (c b:List UInt8) (a:Int):Option ((List UInt8 × Int) ⊕ (List UInt8)):=
 if (decide (0<=a)) then (ob (ix c a) fun d=>
 ob (apd b ([d]:List UInt8)) fun e=>
 some (.inl (e,wr (a - 1)))) else (some (.inr b))
def aCe (a:List UInt8):Option bJ:=
 ob (loop (fun (s:(List UInt8 × Int))=>aCd a s.1 s.2) (([]:List UInt8),wr ((a.length:Int) - 1))) fun r=>aEx r
def aCf (n:Int) (a:List UInt8):Option bJ:=
 if (decide (n < 0)) then (ob (apd a ([(45:UInt8)]:List UInt8)) fun c=>
 aCe c) else (aCe a)
def aCg (a:List UInt8) (b c:Int):Option ((List UInt8 × Int) ⊕ (List UInt8)):=
 ob (apd a ([(UInt8.ofInt (wr (48+c)))]:List UInt8)) fun d=>
 ob (qu b 10) fun e=>
 some (.inl (d,e))
def aCh (b:List UInt8) (a:Int):Option ((List UInt8 × Int) ⊕ (List UInt8)):=
 if (a != 0) then (ob (rm a 10) fun c=>
 if (decide (c < 0)) then (aCg b a (wr (0 - c))) else (aCg b a c)) else (some (.inr b))
def aDP (n:Int):Option bJ:=
 if (n == 0) then (some ([48]:bJ)) else (ob (loop (fun (s:(List UInt8 × Int))=>aCh s.1 s.2) (([]:List UInt8),n)) fun r=>aCf n r)
def aCZ (a:bJ):Option bJ:=
 some a
def aAn (b:(List Int)) (a:Int) (c:bJ):Option ((bJ × Int) ⊕ bJ):=
 ob (ix b a) fun d=>
 ob (aDP d) fun e=>
 ob (cat c e) fun f=>
 some (.inl (f,wr (a+1)))
def qS (b:(List Int)) (c:bJ) (a:Int):Option ((bJ × Int) ⊕ bJ):=
 if (decide (a < (b.length:Int))) then (if (decide (0 < a)) then (ob (cat c ([44]:bJ)) fun d=>
 aAn b a d) else (aAn b a c)) else (some (.inr c))
def aFl (a:(List Int)):Option bJ:=
 if ((a.length:Int) == 0) then (some ([45]:bJ)) else (ob (loop (fun (s:(bJ × Int))=>qS a s.1 s.2) (([]:bJ),0)) fun r=>aCZ r)
def aDs (a:bJ) (b:(List Int)):Option bJ:=
 if ((b.length:Int) == 0) then (some a) else (ob (cat a ([40]:bJ)) fun c=>
 ob (aFl b) fun d=>
 ob (cat c d) fun e=>
 ob (cat e ([41]:bJ)) fun f=>
 some f)
def kU (b:Bool):Option Int:=
 if b then (some 1) else (some 0)
def aCi (a:Int):Option Int:=
 some a
def aEy (e:(List bS)) (a b:Int):Option ((Int × Int) ⊕ Int):=
 if (decide (0 < b)) then (ob (ix e a) fun d=>
 ob (aBi d) fun f=>
 some (.inl (wr (a+1),wr (b+(wr (f - 1)))))) else (some (.inr a))
def aGU (e:(List bS)) (k:Int):Option Int:=
 ob (loop (fun (s:(Int × Int))=>aEy e s.1 s.2) (k,1)) fun r=>aCi r
def aFW (a:Int):Option Int:=
 some a
def aFX (a:Int):Option Int:=
 some a
def aEz (e a b:Int):Option Int:=
 if (e == 0) then (ob (rm (wr (a+b)) 64) fun f=>
 some f) else (if (e == 1) then (ob (rm (wr ((wr (a - b))+64)) 64) fun g=>
 some g) else (if (e == 2) then (ob (rm (wr (a * b)) 64) fun h=>
 some h) else (if (e == 3) then (ob (kU (a == b)) fun i=>
 some i) else (if (e == 4) then (ob (kU (a != b)) fun j=>
 some j) else (if (e == 5) then (ob (kU (decide (a < b))) fun k=>
 some k) else (if (e == 6) then (ob (kU (decide (a<=b))) fun l=>
 some l) else (if (e == 7) then (if (a != 0) then (ob (kU (b != 0)) fun m=>
 aFW m) else (ob (kU false) fun n=>
 aFW n)) else (if (a != 0) then (ob (kU true) fun o=>
 aFX o) else (ob (kU (b != 0)) fun p=>
 aFX p)))))))))
def uU (f:(List bS)->(List Int)->Int->Option Int) (e:(List bS)) (c:(List Int)) (k:Int):Option Int:=
 ob (ix e k) fun a=>
 if (a.Kind == 0) then (some a.Value) else (if (a.Kind == 1) then (ob (ix c a.Value) fun g=>
 some g) else (if (a.Kind == 3) then (ob (f e c (wr (k+1))) fun h=>
 ob (kU (h == 0)) fun i=>
 some i) else (ob (f e c (wr (k+1))) fun j=>
 ob (aGU e (wr (k+1))) fun l=>
 ob (f e c l) fun m=>
 ob (aEz a.Value j m) fun n=>
 some n)))
def uV:Nat->(List bS)->(List Int)->Int->Option Int
 |0=>fun _ _ _=>none
 |n+1=>uU (uV n)
def aOD (e:(List bS)) (b:(List Int)) (k:Int):Option Int:=
 uV 100000 e b k
def yQ (e:(List bS)) (b:(List Int)):Option Int:=
 ob (aOD e b 0) fun c=>
 some c
def aDa (a:List Int):Option (List Int):=
 some a
def aAo (b:(List (List bS))) (d:(List Int)) (c:List Int) (a:Int):Option ((List Int × Int) ⊕ (List Int)):=
 if (decide (a < (b.length:Int))) then (ob (ix b a) fun e=>
 ob (yQ e d) fun f=>
 ob (apd c ([f]:List Int)) fun g=>
 some (.inl (g,wr (a+1)))) else (some (.inr c))
def aDt (a:(List (List bS))) (b:(List Int)):Option (List Int):=
 ob (loop (fun (s:(List Int × Int))=>aAo a b s.1 s.2) (([]:List Int),0)) fun r=>aDa r
def aDb:Option Bool:=
 some true
def aAp (a b:(List Int)) (c:Int):Option (Int ⊕ (Unit ⊕ Bool)):=
 if (decide (c < (a.length:Int))) then (ob (ix a c) fun f=>
 ob (ix b c) fun g=>
 if (f != g) then (some (.inr (.inr false))) else (some (.inl (wr (c+1))))) else (some (.inr (.inl ())))
def aDu (a b:(List Int)):Option Bool:=
 if ((a.length:Int) != (b.length:Int)) then (some false) else (ob (loop (fun (s:Int)=>aAp a b s) 0) fun r=>match r with|.inl r=>aDb|.inr r=>some r)
def lR (a:Bool):Option Bool:=
 some a
def pJ (a b:aZ):Option Bool:=
 if (a.Definition == b.Definition) then (if (a.Part == b.Part) then (ob (aDu a.Values b.Values) fun e=>
 lR e) else (lR false)) else (lR false)
def pK (a:(List cM)) (b:cM):Option (List cM):=
 ob (apd a ([b]:List cM)) fun c=>
 some c
def tH (a:(List cM)) (b:Int) (c:Bool):Option (Int ⊕ (Unit ⊕ (List cM))):=
 if c then (some (.inr (.inr a))) else (some (.inl (wr (b+1))))
def tI (a:(List cM)) (c:cM) (b:Int):Option (Int ⊕ (Unit ⊕ (List cM))):=
 if (decide (b < (a.length:Int))) then (ob (ix a b) fun d=>
 if (d.B == c.B) then (ob (pJ d.Next c.Next) fun e=>
 tH a b e) else (tH a b false)) else (some (.inr (.inl ())))
def yR (b:(List cM)) (c:cM):Option (List cM):=
 ob (loop (fun (s:Int)=>tI b c s) 0) fun r=>match r with|.inl r=>pK b c|.inr r=>some r
def rJ (a:List cM):Option (List cM):=
 some a
def nP (b:(List Int)) (c:(List cM)) (a:Part) (d e:Int) (f:List Int):Option (List cM):=
 ob (aDt a.Arguments b) fun g=>
 ob (aDs a.Name g) fun h=>
 ob (yR c ⟨h,⟨d,e,f⟩⟩) fun i=>
 some i
def xH (a:List cM):Option (List cM):=
 rJ a
def kE (c:(List Definition)->Int->Int->(List Int)->(List cM)->Option (List cM)) (e:(List Definition)) (d g:Int) (h:(List Int)) (i:Part) (b:List cM) (a:Int):Option ((List cM × Int) ⊕ (List cM)):=
 if (decide (a<=i.Number)) then (ob (tG h) fun j=>
 ob (apd j ([a]:List Int)) fun k=>
 ob (c e d (wr (g+1)) k b) fun l=>
 some (.inl (l,wr (a+1)))) else (some (.inr b))
def cT (h:(List Definition)->Int->Int->(List Int)->(List cM)->Option (List cM)) (g:(List Definition)) (d e:Int) (a:(List Int)) (b:(List cM)):Option (List cM):=
 ob (ix g d) fun i=>
 ob (ix i.Body e) fun c=>
 if (decide (200 < (b.length:Int))) then (some b) else (if (c.Kind == 1) then (ob (tG a) fun k=>
 ob (ix i.Body (wr (e+1))) fun j=>
 if (j.Kind == 5) then (ob (aDt j.Arguments a) fun l=>
 nP a b c j.Number 0 l) else (nP a b c d (wr (e+1)) k)) else (if (c.Kind == 2) then (ob (h g d (wr (e+1)) a b) fun m=>
 ob (aFi i.Body (wr (e+1))) fun n=>
 ob (h g d n a m) fun o=>
 some o) else (if (c.Kind == 3) then (ob (ix c.Arguments 0) fun p=>
 ob (yQ p a) fun q=>
 if (q != 0) then (ob (h g d (wr (e+1)) a b) fun t=>
 some t) else (rJ b)) else (if (c.Kind == 4) then (ob (loop (fun (s:(List cM × Int))=>kE h g d e a c s.1 s.2) (b,0)) fun r=>xH r) else (rJ b)))))
def dE:Nat->(List Definition)->Int->Int->(List Int)->(List cM)->Option (List cM)
 |0=>fun _ _ _ _ _=>none
 |n+1=>cT (dE n)
def aFY (a:(List Definition)) (d c:Int) (e:(List Int)) (f:(List cM)):Option (List cM):=
 dE 100000 a d c e f
def qT (c:(List Definition)) (p:aZ):Option ((List cM) × Bool):=
 ob (aFY c p.Definition p.Part p.Values ([]:List cM)) fun b=>
 some (b,decide ((b.length:Int)<=200))
def aDc:Option Int:=
 some (-1)
def aAq (b:(List bJ)) (c:bJ) (a:Int):Option (Int ⊕ (Unit ⊕ Int)):=
 if (decide (a < (b.length:Int))) then (ob (ix b a) fun d=>
 if (d == c) then (some (.inr (.inr a))) else (some (.inl (wr (a+1))))) else (some (.inr (.inl ())))
def yS (b:(List bJ)) (c:bJ):Option Int:=
 ob (loop (fun (s:Int)=>aAq b c s) 0) fun r=>match r with|.inl r=>aDc|.inr r=>some r
def aDd (a:bJ):Option Int:=
 some (a.length:Int)
def aAr (b:bJ) (a:Int):Option (Int ⊕ (Unit ⊕ Int)):=
 if (decide (a < (b.length:Int))) then (ob (ix b a) fun c=>
 if ((c.toNat:Int) == 40) then (some (.inr (.inr a))) else (some (.inl (wr (a+1))))) else (some (.inr (.inl ())))
def aDv (b:bJ):Option Int:=
 ob (loop (fun (s:Int)=>aAr b s) 0) fun r=>match r with|.inl r=>aDd b|.inr r=>some r
def jT (a:bJ):Option bJ:=
 ob (aDv a) fun b=>
 ob (slc a 0 b) fun c=>
 some c
def aDe:Option Bool:=
 some true
def aAs (a b:(List aZ)) (c:Int):Option (Int ⊕ (Unit ⊕ Bool)):=
 if (decide (c < (a.length:Int))) then (ob (ix a c) fun f=>
 ob (ix b c) fun g=>
 ob (pJ f g) fun h=>
 if (!h) then (some (.inr (.inr false))) else (some (.inl (wr (c+1))))) else (some (.inr (.inl ())))
def aFm (a b:(List aZ)):Option Bool:=
 if ((a.length:Int) != (b.length:Int)) then (some false) else (ob (loop (fun (s:Int)=>aAs a b s) 0) fun r=>match r with|.inl r=>aDe|.inr r=>some r)
def aDw (b:bZ) (a:bJ):Option bJ:=
 ob (jT a) fun c=>
 ob (yS b.Hidden c) fun d=>
 if (decide (0<=d)) then (some ([116,97,117]:bJ)) else (some a)
def wG (a:bJ) (b:List bJ) (c:Int):Option (List bJ):=
 ob (slc a c (a.length:Int)) fun d=>
 ob (apd b ([d]:List bJ)) fun e=>
 some e
def sC (a:Int) (b:List bJ) (c:Int):Option ((List bJ × Int × Int) ⊕ (List bJ × Int)):=
 some (.inl (b,c,wr (a+1)))
def aBF (b:bJ) (e:UInt8) (c:List bJ) (d a:Int):Option ((List bJ × Int × Int) ⊕ (List bJ × Int)):=
 if (decide (a < (b.length:Int))) then (ob (ix b a) fun f=>
 if ((f.toNat:Int) == (e.toNat:Int)) then (ob (slc b d a) fun g=>
 ob (apd c ([g]:List bJ)) fun h=>
 sC a h (wr (a+1))) else (sC a c d)) else (some (.inr (c,d)))
def aDQ (a:bJ) (c:UInt8):Option (List bJ):=
 ob (loop (fun (s:(List bJ × Int × Int))=>aBF a c s.1 s.2.1 s.2.2) (([]:List bJ),0,0)) fun r=>wG a r.1 r.2
def aAt (a:Int):Option (Int × Bool):=
 some (a,true)
def tJ (b a:Int):Option (Int × Bool):=
 if (b == 1) then (aAt (wr (0 - a))) else (aAt a)
def pL (b:bJ) (c a:Int):Option ((Int × Int) ⊕ (Int ⊕ (Int × Bool))):=
 if (decide (a < (b.length:Int))) then (ob (ix b a) fun c45=>
 ob (aDK c45) fun d=>
 if (!d) then (some (.inr (.inr (0,false)))) else (some (.inl (wr ((wr (10 * c))+(wr ((c45 - (48:UInt8)).toNat:Int))),wr (a+1))))) else (some (.inr (.inl c)))
def lF (c:bJ) (b:Int) (d:Bool):Option (Int × Bool):=
 if d then (some (0,false)) else (ob (loop (fun (s:(Int × Int))=>pL c s.1 s.2) (0,b)) fun r=>match r with|.inl r=>tJ b r|.inr r=>some r)
def tK (a:bJ) (b:Int):Option (Int × Bool):=
 if ((a.length:Int) == b) then (lF a b true) else (if (decide (18 < wr ((a.length:Int) - b))) then (lF a b true) else (ob (ix a b) fun c=>
 if ((c.toNat:Int) == 48) then (lF a b (decide (1 < (a.length:Int)))) else (lF a b false)))
def tL (a:bJ) (b:Bool):Option (Int × Bool):=
 if b then (tK a 1) else (tK a 0)
def aCj (a:bJ):Option (Int × Bool):=
 if (decide (0 < (a.length:Int))) then (ob (ix a 0) fun b=>
 tL a ((b.toNat:Int) == 45)) else (tL a false)
def aAu (a:List Int):Option ((List Int) × Bool):=
 some (a,decide ((a.length:Int)<=2))
def tM (a:List Int) (b:Int) (c:(Int × Bool)) (d:Bool):Option ((List Int × Int) ⊕ (List Int ⊕ ((List Int) × Bool))):=
 if d then (some (.inr (.inr ([],false)))) else (ob (apd a ([c.1]:List Int)) fun e=>
 some (.inl (e,wr (b+1))))
def tN (d:(List bJ)) (c:List Int) (a:Int):Option ((List Int × Int) ⊕ (List Int ⊕ ((List Int) × Bool))):=
 if (decide (a < (d.length:Int))) then (ob (ix d a) fun e=>
 ob (aCj e) fun b=>
 if (!b.2) then (tM c a b true) else (ob (nK b.1 0 63) fun f=>
 tM c a b (!f))) else (some (.inr (.inl c)))
def tO (b:bJ) (c:Int) (d:Bool):Option ((List Int) × Bool):=
 if d then (some ([],false)) else (ob (slc b (wr (c+1)) (wr ((b.length:Int) - 1))) fun e=>
 ob (aDQ e (44:UInt8)) fun f=>
 ob (loop (fun (s:(List Int × Int))=>tN f s.1 s.2) (([]:List Int),0)) fun r=>match r with|.inl r=>aAu r|.inr r=>some r)
def yT (a:bJ):Option ((List Int) × Bool):=
 ob (aDv a) fun b=>
 if (b == (a.length:Int)) then (ob (yN a) fun c=>
 some (([]:List Int),c)) else (ob (slc a 0 b) fun d=>
 ob (nV d) fun e=>
 if (!e) then (tO a b true) else (ob (ix a (wr ((a.length:Int) - 1))) fun f=>
 tO a b ((f.toNat:Int) != 41)))
def aAv:Option bJ:=
 some ([]:bJ)
def aAw (b:(List bU)) (a:Int) (c:Bool):Option (Int ⊕ (Unit ⊕ bJ)):=
 if c then (ob (ix b a) fun d=>
 some (.inr (.inr d.Result))) else (some (.inl (wr (a+1))))
def uW (c:(List bU)) (a b:bJ) (d:Int):Option (Int ⊕ (Unit ⊕ bJ)):=
 if (decide (d < (c.length:Int))) then (ob (ix c d) fun e=>
 if (e.Left == a) then (aAw c d (e.Right == b)) else (aAw c d false)) else (some (.inr (.inl ())))
def tP (g:(List bU)->bJ->bJ->Option bJ) (f:(List bU)) (a b:bJ):Option bJ:=
 if (!(qF a b||a == b)) then (ob (g f b a) fun h=>
 some h) else (ob (loop (fun (s:Int)=>uW f a b s) 0) fun r=>match r with|.inl r=>aAv|.inr r=>some r)
def tQ:Nat->(List bU)->bJ->bJ->Option bJ
 |0=>fun _ _ _=>none
 |n+1=>tP (tQ n)
def aHC (c:(List bU)) (a b:bJ):Option bJ:=
 tQ 100000 c a b
def aAx (a:((List Int) × Bool)) (b:bJ) (c:Bool):Option bJ:=
 if c then (some ([]:bJ)) else (ob (aDs b a.1) fun d=>
 some d)
def aFn (e:bZ) (a b:bJ):Option bJ:=
 ob (yT a) fun d=>
 ob (yT b) fun h=>
 ob (aDu d.1 h.1) fun i=>
 if (!i) then (some ([]:bJ)) else (ob (jT a) fun j=>
 ob (jT b) fun k=>
 ob (aHC e.Meetings j k) fun c=>
 if (c == ([]:bJ)) then (aAx d c true) else (ob (yS e.Allowed c) fun l=>
 aAx d c (decide (l < 0))))
def pM (a:(List bV)) (b:bV):Option (List bV):=
 ob (apd a ([b]:List bV)) fun c=>
 some c
def nD (a:(List bV)) (b:Int) (c:Bool):Option (Int ⊕ (Unit ⊕ (List bV))):=
 if c then (some (.inr (.inr a))) else (some (.inl (wr (b+1))))
def tR (a:(List bV)) (c:bV) (b:Int):Option (Int ⊕ (Unit ⊕ (List bV))):=
 if (decide (b < (a.length:Int))) then (ob (ix a b) fun d=>
 if (d.B == c.B) then (if (d.First == c.First) then (if (d.Second == c.Second) then (ob (aFm d.State c.State) fun e=>
 nD a b e) else (nD a b false)) else (nD a b false)) else (nD a b false)) else (some (.inr (.inl ())))
def yU (b:(List bV)) (c:bV):Option (List bV):=
 ob (loop (fun (s:Int)=>tR b c s) 0) fun r=>match r with|.inl r=>pM b c|.inr r=>some r
def wH (a:List bV):Option ((List bV) × Bool):=
 some (a,decide ((a.length:Int)<=200))
def aBG (a:Int) (b:List bV):Option ((List bV × Int) ⊕ (List bV)):=
 some (.inl (b,wr (a+1)))
def sD (a:Int) (b:List bV):Option ((List bV × Int) ⊕ (List bV)):=
 aBG a b
def aBH (a:Int) (b:List bV):Option ((List bV × Int) ⊕ (List bV)):=
 some (.inl (b,wr (a+1)))
def sE (a:Int) (b:List bV):Option ((List bV × Int) ⊕ (List bV)):=
 aBH a b
def aBI (a:Int) (b:List bV):Option ((List bV × Int) ⊕ (List bV)):=
 some (.inl (b,wr (a+1)))
def sF (a:Int) (b:List bV):Option ((List bV × Int) ⊕ (List bV)):=
 aBI a b
def wI (a:Int) (b:List bV):Option ((List bV × Int) ⊕ (List bV)):=
 some (.inl (b,wr (a+1)))
def oM (e:bZ) (k:(List aZ)) (l:List (List cM)) (b a m:Int) (n:(List cM)) (c:List bV) (d:Int) (o:Bool):Option ((List bV × Int) ⊕ (List bV)):=
 if o then (ob (ix n m) fun f=>
 ob (ix l a) fun p=>
 ob (ix p d) fun g=>
 ob (aFn e f.B g.B) fun h=>
 if (h == ([]:bJ)) then (wI d c) else (ob (wF k) fun i=>
 ob (ix i b) fun u=>
 ob (st i b (f.Next:aZ)) fun j=>
 ob (ix j a) fun v=>
 ob (st j a (g.Next:aZ)) fun q=>
 ob (aDw e h) fun r=>
 ob (wF q) fun s=>
 ob (yU c ⟨r,b,a,s⟩) fun t=>
 wI d t)) else (some (.inr c))
def jC (e:bZ) (f:(List aZ)) (a:List (List cM)) (g b h:Int) (i:(List cM)) (c:List bV) (d:Int):Option ((List bV × Int) ⊕ (List bV)):=
 ob (ix a b) fun j=>
 if (decide (d < (j.length:Int))) then (oM e f a g b h i c d (decide ((c.length:Int)<=200))) else (oM e f a g b h i c d false)
def jU (f:bZ) (g:(List aZ)) (b:List (List cM)) (c h:Int) (d:List bV) (a:Int):Option ((List bV × Int) ⊕ (List bV)):=
 ob (ix b c) fun e=>
 if (decide (a < (e.length:Int))) then (ob (loop (fun (s:(List bV × Int))=>jC f g b c h a e s.1 s.2) (d,0)) fun r=>sF a r) else (some (.inr d))
def lG (d:bZ) (b:(List aZ)) (e:List (List cM)) (f:Int) (c:List bV) (a:Int):Option ((List bV × Int) ⊕ (List bV)):=
 if (decide (a < (b.length:Int))) then (ob (loop (fun (s:(List bV × Int))=>jU d b e f a s.1 s.2) (c,0)) fun r=>sE a r) else (some (.inr c))
def nE (d:bZ) (b:(List aZ)) (e:List (List cM)) (c:List bV) (a:Int):Option ((List bV × Int) ⊕ (List bV)):=
 if (decide (a < (b.length:Int))) then (ob (loop (fun (s:(List bV × Int))=>lG d b e a s.1 s.2) (c,wr (a+1))) fun r=>sD a r) else (some (.inr c))
def nF (a:bZ) (b:(List aZ)) (c:List (List cM)) (d:List bV):Option ((List bV) × Bool):=
 ob (loop (fun (s:(List bV × Int))=>nE a b c s.1 s.2) (d,0)) fun r=>wH r
def aAy (a:Int) (b:List bV):Option ((List bV × Int) ⊕ (List bV)):=
 some (.inl (b,wr (a+1)))
def pN (a:Int) (b:List bV):Option ((List bV × Int) ⊕ (List bV)):=
 aAy a b
def pO (a:Int) (b:List bV):Option ((List bV × Int) ⊕ (List bV)):=
 some (.inl (b,wr (a+1)))
def jV (f:bZ) (g:(List aZ)) (a:Int) (b:List bV) (c:Int) (d:cM) (h:Bool):Option ((List bV × Int) ⊕ (List bV)):=
 if h then (pO c b) else (ob (wF g) fun e=>
 ob (ix e a) fun m=>
 ob (st e a (d.Next:aZ)) fun i=>
 ob (aDw f d.B) fun j=>
 ob (wF i) fun k=>
 ob (yU b ⟨j,a,(-1),k⟩) fun l=>
 pO c l)
def pP (c:bZ) (f:(List aZ)) (h:List (List cM)) (d:Int) (e:List bV) (a:Int):Option ((List bV × Int) ⊕ (List bV)):=
 ob (ix h d) fun g=>
 if (decide (a < (g.length:Int))) then (ob (ix g a) fun b=>
 if (!(b.B == ([116,97,117]:bJ))) then (ob (jT b.B) fun i=>
 ob (yS c.Allowed i) fun j=>
 jV c f d e a b (decide (j < 0))) else (jV c f d e a b false)) else (some (.inr e))
def pQ (d:bZ) (b:(List aZ)) (e:List (List cM)) (c:List bV) (a:Int):Option ((List bV × Int) ⊕ (List bV)):=
 if (decide (a < (b.length:Int))) then (ob (loop (fun (s:(List bV × Int))=>pP d b e a s.1 s.2) (c,0)) fun r=>pN a r) else (some (.inr c))
def lH (a:bZ) (b:(List aZ)) (c:List (List cM)):Option ((List bV) × Bool):=
 ob (loop (fun (s:(List bV × Int))=>pQ a b c s.1 s.2) (([]:List bV),0)) fun r=>nF a b c r
def lI (e:bZ) (b:(List aZ)) (c:List (List cM)) (a:Int):Option ((List (List cM) × Int) ⊕ (List (List cM) ⊕ ((List bV) × Bool))):=
 if (decide (a < (b.length:Int))) then (ob (ix b a) fun f=>
 ob (qT e.Definitions f) fun d=>
 if (!d.2) then (some (.inr (.inr ([],false)))) else (ob (apd c ([d.1]:List (List cM))) fun g=>
 some (.inl (g,wr (a+1))))) else (some (.inr (.inl c)))
def tS (b:bZ) (c:(List aZ)):Option ((List bV) × Bool):=
 ob (loop (fun (s:(List (List cM) × Int))=>lI b c s.1 s.2) (([]:List (List cM)),0)) fun r=>match r with|.inl r=>lH b c r|.inr r=>some r
def aCk (a:Int):Option Int:=
 some a
def aEA (a b:Int):Option ((Int × Int) ⊕ Int):=
 some (.inl (b,wr (a+1)))
def aCl (a b:Int):Option ((Int × Int) ⊕ Int):=
 aEA a b
def aCm (a b:Int):Option ((Int × Int) ⊕ Int):=
 some (.inl (b,wr (a+1)))
def aCn (c a:Int):Option ((Int × Int) ⊕ Int):=
 if (decide (a < 8)) then (ob (shI c 1) fun b=>
 if (decide (65535 < b)) then (aCm a (xoI (anI b 65535) 4129)) else (aCm a b)) else (some (.inr c))
def aCo (b:bJ) (c a:Int):Option ((Int × Int) ⊕ Int):=
 if (decide (a < (b.length:Int))) then (ob (ix b a) fun d=>
 ob (shI (wr (d.toNat:Int)) 8) fun e=>
 ob (loop (fun (s:(Int × Int))=>aCn s.1 s.2) (xoI c e,0)) fun r=>aCl a r) else (some (.inr c))
def aGV (a:bJ) (b:Int):Option Int:=
 ob (loop (fun (s:(Int × Int))=>aCo a s.1 s.2) (b,0)) fun r=>aCk r
def tT:Option Int:=
 some 0
def tU:Option Int:=
 tT
def pR (b:(List bV)) (c:dI) (a:Int):Option (Int ⊕ (Unit ⊕ Int)):=
 if (decide (a < (b.length:Int))) then (ob (ix b a) fun d=>
 if (decide (c.First < d.First)) then (some (.inr (.inr a))) else (some (.inl (wr (a+1))))) else (some (.inr (.inl ())))
def nW (c:(List bV)) (a:(List dI)) (d e:Int):Option Int:=
 if (d == 1) then (if ((a.length:Int) == 0) then (some 0) else (ob (ix a (wr ((a.length:Int) - 1))) fun f=>
 ob (loop (fun (s:Int)=>pR c f s) 0) fun r=>match r with|.inl r=>tU|.inr r=>some r)) else (if (d == 2) then (ob (aDP e) fun g=>
 ob (cat g ([45]:bJ)) fun h=>
 ob (aDP (a.length:Int)) fun i=>
 ob (cat h i) fun j=>
 ob (aGV j 65535) fun k=>
 ob (rm k (c.length:Int)) fun l=>
 some l) else (tT))
def yF (a:List dI) (b:List aZ):Option ((List dI) × (List aZ) × Bool):=
 some (a,b,true)
def lZ (f:bZ) (g h i:Int) (a:List dI) (d:List aZ):Option ((List dI × List aZ) ⊕ ((List dI × List aZ) ⊕ ((List dI) × (List aZ) × Bool))):=
 if (decide ((a.length:Int) < i)) then (ob (tS f d) fun b=>
 if (!b.2) then (some (.inr (.inr ([],[],false)))) else (if ((b.1.length:Int) == 0) then (some (.inr (.inl (a,d)))) else (ob (nW b.1 a g h) fun e=>
 ob (ix b.1 e) fun c=>
 ob (apd a ([⟨e,c.First,c.Second,c.B⟩]:List dI)) fun j=>
 ob (wF c.State) fun k=>
 some (.inl (j,k))))) else (some (.inr (.inl (a,d))))
def aLA (b:bZ) (c:(List dI)) (d:(List aZ)) (e f g:Int):Option ((List dI) × (List aZ) × Bool):=
 ob (apd ([]:List dI) c) fun h=>
 ob (wF d) fun i=>
 ob (loop (fun (s:(List dI × List aZ))=>lZ b e f g s.1 s.2) (h,i)) fun r=>match r with|.inl r=>yF r.1 r.2|.inr r=>some r
def aBJ (a:List aZ):Option (List aZ):=
 some a
def wJ (b:bZ) (c:List aZ) (a:Int):Option ((List aZ × Int) ⊕ (List aZ)):=
 if (decide (a < (b.Components.length:Int))) then (ob (ix b.Components a) fun d=>
 ob (tG d.Values) fun e=>
 ob (apd c ([⟨d.Definition,0,e⟩]:List aZ)) fun f=>
 some (.inl (f,wr (a+1)))) else (some (.inr c))
def aDR (a:bZ):Option (List aZ):=
 ob (loop (fun (s:(List aZ × Int))=>wJ a s.1 s.2) (([]:List aZ),0)) fun r=>aBJ r
def aCp (a:bZ) (c d e:Int):Option ((List dI) × (List aZ) × Int):=
 ob (aIZ a c d e) fun f=>
 if (f != 0) then (some ([],[],f)) else (ob (aDR a) fun g=>
 ob (aLA a [] g c d e) fun b=>
 if (!b.2.2) then (some ([],[],5)) else (some (b.1,b.2.1,0)))
def aJa (a:bS):Option bS:=
 some a
def aDf (a:List bS):Option (List bS):=
 some a
def aAz (a:(List bS)) (c:List bS) (b:Int):Option ((List bS × Int) ⊕ (List bS)):=
 if (decide (b < (a.length:Int))) then (ob (ix a b) fun f=>
 ob (aJa f) fun e=>
 ob (ix c b) fun h=>
 ob (st c b (⟨e.Kind,e.Value⟩:bS)) fun g=>
 some (.inl (g,wr (b+1)))) else (some (.inr c))
def aHD (a:(List bS)):Option (List bS):=
 ob (mkz (a.length:Int) (⟨0,0⟩:bS)) fun c=>
 ob (loop (fun (s:(List bS × Int))=>aAz a s.1 s.2) (c,0)) fun r=>aDf r
def aBK (a:List (List bS)):Option (List (List bS)):=
 some a
def wK (a:(List (List bS))) (c:List (List bS)) (b:Int):Option ((List (List bS) × Int) ⊕ (List (List bS))):=
 if (decide (b < (a.length:Int))) then (ob (ix a b) fun e=>
 ob (aHD e) fun f=>
 ob (ix c b) fun h=>
 ob (st c b f) fun g=>
 some (.inl (g,wr (b+1)))) else (some (.inr c))
def aFZ (a:(List (List bS))):Option (List (List bS)):=
 ob (mkz (a.length:Int) ([]:(List bS))) fun c=>
 ob (loop (fun (s:(List (List bS) × Int))=>wK a s.1 s.2) (c,0)) fun r=>aBK r
def aJb (a:Part):Option Part:=
 ob (aFZ a.Arguments) fun c=>
 some ⟨a.Kind,a.Number,a.Name,c⟩
def aDg (a:List Part):Option (List Part):=
 some a
def aAA (a:(List Part)) (c:List Part) (b:Int):Option ((List Part × Int) ⊕ (List Part)):=
 if (decide (b < (a.length:Int))) then (ob (ix a b) fun e=>
 ob (aJb e) fun f=>
 ob (ix c b) fun h=>
 ob (st c b (f:Part)) fun g=>
 some (.inl (g,wr (b+1)))) else (some (.inr c))
def aHE (a:(List Part)):Option (List Part):=
 ob (mkz (a.length:Int) (⟨0,0,[],[]⟩:Part)) fun c=>
 ob (loop (fun (s:(List Part × Int))=>aAA a s.1 s.2) (c,0)) fun r=>aDg r
def aAB (a:Definition):Option Definition:=
 ob (aHE a.Body) fun c=>
 some ⟨a.Name,a.Parameters,c⟩
def qU (a:List Definition):Option (List Definition):=
 some a
def nG (a:(List Definition)) (c:List Definition) (b:Int):Option ((List Definition × Int) ⊕ (List Definition)):=
 if (decide (b < (a.length:Int))) then (ob (ix a b) fun e=>
 ob (aAB e) fun f=>
 ob (ix c b) fun h=>
 ob (st c b (f:Definition)) fun g=>
 some (.inl (g,wr (b+1)))) else (some (.inr c))
def xI (a:(List Definition)):Option (List Definition):=
 ob (mkz (a.length:Int) (⟨[],0,[]⟩:Definition)) fun c=>
 ob (loop (fun (s:(List Definition × Int))=>nG a s.1 s.2) (c,0)) fun r=>qU r
def aBL (a:List Int):Option (List Int):=
 some a
def wL (a:(List Int)) (c:List Int) (b:Int):Option ((List Int × Int) ⊕ (List Int)):=
 if (decide (b < (a.length:Int))) then (ob (ix a b) fun e=>
 ob (ix c b) fun g=>
 ob (st c b (e:Int)) fun f=>
 some (.inl (f,wr (b+1)))) else (some (.inr c))
def aGa (a:(List Int)):Option (List Int):=
 ob (mkz (a.length:Int) (0:Int)) fun c=>
 ob (loop (fun (s:(List Int × Int))=>wL a s.1 s.2) (c,0)) fun r=>aBL r
def aBM (a:bT):Option bT:=
 ob (aGa a.Values) fun c=>
 some ⟨a.Definition,c⟩
def sQ (a:List bT):Option (List bT):=
 some a
def nX (a:(List bT)) (c:List bT) (b:Int):Option ((List bT × Int) ⊕ (List bT)):=
 if (decide (b < (a.length:Int))) then (ob (ix a b) fun e=>
 ob (aBM e) fun f=>
 ob (ix c b) fun h=>
 ob (st c b (f:bT)) fun g=>
 some (.inl (g,wr (b+1)))) else (some (.inr c))
def aAC (a:(List bT)):Option (List bT):=
 ob (mkz (a.length:Int) (⟨0,[]⟩:bT)) fun c=>
 ob (loop (fun (s:(List bT × Int))=>nX a s.1 s.2) (c,0)) fun r=>sQ r
def aEB (a:bU):Option bU:=
 some a
def xJ (a:List bU):Option (List bU):=
 some a
def rK (a:(List bU)) (c:List bU) (b:Int):Option ((List bU × Int) ⊕ (List bU)):=
 if (decide (b < (a.length:Int))) then (ob (ix a b) fun f=>
 ob (aEB f) fun d=>
 ob (ix c b) fun h=>
 ob (st c b (⟨d.Left,d.Right,d.Result⟩:bU)) fun g=>
 some (.inl (g,wr (b+1)))) else (some (.inr c))
def aDh (a:(List bU)):Option (List bU):=
 ob (mkz (a.length:Int) (⟨[],[],[]⟩:bU)) fun c=>
 ob (loop (fun (s:(List bU × Int))=>rK a s.1 s.2) (c,0)) fun r=>xJ r
def aAD (a:List bJ):Option (List bJ):=
 some a
def aAE (a:(List bJ)) (c:List bJ) (b:Int):Option ((List bJ × Int) ⊕ (List bJ)):=
 if (decide (b < (a.length:Int))) then (ob (ix a b) fun e=>
 ob (ix c b) fun g=>
 ob (st c b (e:bJ)) fun f=>
 some (.inl (f,wr (b+1)))) else (some (.inr c))
def yV (a:(List bJ)):Option (List bJ):=
 ob (mkz (a.length:Int) ([]:bJ)) fun c=>
 ob (loop (fun (s:(List bJ × Int))=>aAE a s.1 s.2) (c,0)) fun r=>aAD r
def qV (a:bZ):Option bZ:=
 ob (xI a.Definitions) fun c=>
 ob (aAC a.Components) fun d=>
 ob (aDh a.Meetings) fun e=>
 ob (yV a.Allowed) fun f=>
 ob (yV a.Hidden) fun g=>
 some ⟨c,d,e,f,g⟩
def aEC (a:Bool):Option Bool:=
 some a
def iD (n low b:Int):Option Bool:=
 if (decide (low<=n)) then (aEC (decide (n<=b))) else (aEC false)
def sR (d:Definition):Option Bool:=
 ob (iD d.Parameters 0 3) fun b=>
 some (!b)
def dX:Option Int:=
 some (-1)
def dF (b:(List Definition)) (a:Int):Option (Int ⊕ (Unit ⊕ Int)):=
 if (decide (a < (b.length:Int))) then (ob (ix b a) fun c=>
 ob (sR c) fun d=>
 if d then (some (.inr (.inr a))) else (some (.inl (wr (a+1))))) else (some (.inr (.inl ())))
def eE (b:(List Definition)):Option Int:=
 ob (loop (fun (s:Int)=>dF b s) 0) fun r=>match r with|.inl r=>dX|.inr r=>some r
def dG (a:(List Definition)):Option Bool:=
 ob (eE a) fun b=>
 some (decide (0<=b))
def tV (a:(List Definition)):Option Bool:=
 ob (dG a) fun b=>
 some (!b)
def aDi (a:Bool):Option Bool:=
 some a
def aHF (c:UInt8):Option Bool:=
 if (decide (48<=(c.toNat:Int))) then (aDi (decide ((c.toNat:Int)<=57))) else (aDi false)
def aED (a:Bool):Option Bool:=
 some a
def aCq (a:bJ):Option Bool:=
 if (decide (1<=(a.length:Int))) then (aED (decide ((a.length:Int)<=10))) else (aED false)
def yW (a:Int) (b:Bool):Option (Int ⊕ (Unit ⊕ Bool)):=
 if b then (some (.inr (.inr false))) else (some (.inl (wr (a+1))))
def qJ (b:bJ) (a:Int) (c:Bool):Option (Int ⊕ (Unit ⊕ Bool)):=
 if (!c) then (if (a == 0) then (yW a true) else (ob (ix b a) fun d=>
 ob (aHF d) fun e=>
 yW a (!e))) else (yW a false)
def yX (a:bJ) (b:Int):Option (Int ⊕ (Unit ⊕ Bool)):=
 if (decide (b < (a.length:Int))) then (ob (ix a b) fun c45=>
 if (decide (97<=(c45.toNat:Int))) then (qJ a b (decide ((c45.toNat:Int)<=122))) else (qJ a b false)) else (some (.inr (.inl ())))
def aFo (b:bJ):Option Bool:=
 ob (loop (fun (s:Int)=>yX b s) 0) fun r=>match r with|.inl r=>aCq b|.inr r=>some r
def nY (d:Definition) (p:bJ):Option Bool:=
 some (d.Name == p)
def dT:Option Int:=
 some (-1)
def cY (b:(List Definition)) (c:bJ) (a:Int):Option (Int ⊕ (Unit ⊕ Int)):=
 if (decide (a < (b.length:Int))) then (ob (ix b a) fun d=>
 ob (nY d c) fun e=>
 if e then (some (.inr (.inr a))) else (some (.inl (wr (a+1))))) else (some (.inr (.inl ())))
def dY (b:(List Definition)) (c:bJ):Option Int:=
 ob (loop (fun (s:Int)=>cY b c s) 0) fun r=>match r with|.inl r=>dT|.inr r=>some r
def nZ (a:(List Definition)) (b:bJ):Option Int:=
 ob (dY a b) fun c=>
 some c
def pS (p:Part) (b:Bool):Option Int:=
 if b then (some 1) else (if (p.Kind == 2) then (some 2) else (some 0))
def wM (p:Part):Option Int:=
 if (p.Kind == 1) then (pS p (p.Kind == 1)) else (if (p.Kind == 3) then (pS p (p.Kind == 3)) else (pS p (p.Kind == 4)))
def kB (a:Int):Option Int:=
 some a
def hQ (d:Definition) (a c:Int):Option ((Int × Int) ⊕ (Int ⊕ Int)):=
 if (decide (0 < c)) then (if (decide ((d.Body.length:Int)<=a)) then (some (.inr (.inr (-1)))) else (ob (ix d.Body a) fun e=>
 ob (wM e) fun f=>
 some (.inl (wr (a+1),wr (c+(wr (f - 1))))))) else (some (.inr (.inl a)))
def kV (d:Definition) (c:Int):Option Int:=
 ob (loop (fun (s:(Int × Int))=>hQ d s.1 s.2) (c,1)) fun r=>match r with|.inl r=>kB r|.inr r=>some r
def gR (a:Int) (b:List eX):Option (Int × (List eX)):=
 some (a,b)
def fZ (f:Int->eX->(List eX)->Definition->Definition->Option (Int × (List eX))) (a:Definition) (g:Part) (h i b c:Int) (d:List eX):Option ((Int × Int × List eX) ⊕ (Int × List eX)):=
 if (decide (c < i)) then (ob (f b ⟨h,g.Kind == 1⟩ d a a) fun e=>
 some (.inl (e.1,wr (c+1),e.2))) else (some (.inr (b,d)))
def eG (c:Int->eX->(List eX)->Definition->Definition->Option (Int × (List eX))) (d:Int) (e:Definition) (f:List eX) (a:Part) (g:Int):Option (Int × (List eX)):=
 ob (wM a) fun h=>
 ob (loop (fun (s:(Int × Int × List eX))=>fZ c e a g h s.1 s.2.1 s.2.2) (wr (d+1),0,f)) fun r=>gR r.1 r.2
def fE (d:Int->eX->(List eX)->Definition->Definition->Option (Int × (List eX))) (a:Int) (p:eX) (e:(List eX)) (h f:Definition):Option (Int × (List eX)):=
 ob (ix e a) fun i=>
 ob (st e a (⟨p.scope,p.behind⟩:eX)) fun g=>
 ob (ix h.Body a) fun c=>
 if (c.Kind == 4) then (eG d a f g c (wr (p.scope+1))) else (eG d a f g c p.scope)
def dS:Nat->Int->eX->(List eX)->Definition->Definition->Option (Int × (List eX))
 |0=>fun _ _ _ _ _=>none
 |n+1=>fE (dS n)
def qW (a:Int) (p:eX) (c:(List eX)) (d e:Definition):Option (Int × (List eX)):=
 dS 100000 a p c d e
def mD (d:Definition):Option (List eX):=
 ob (mkz (d.Body.length:Int) (⟨0,false⟩:eX)) fun b=>
 ob (qW 0 ⟨d.Parameters,false⟩ b d d) fun c=>
 some c.2
def aGb (i many:Int):Option Bool:=
 ob (iD i 0 (wr (many - 1))) fun b=>
 some b
def wN (a:Bool):Option Bool:=
 some a
def oN (a:bJ):Option Bool:=
 ob (aFo a) fun b=>
 if b then (wN (!(a == ([116,97,117]:bJ)))) else (wN false)
def fB (a:Bool):Option Bool:=
 some a
def mQ (p:Part) (c b:Bool):Option Bool:=
 ob (iD p.Kind 0 5) fun d=>
 if d then (if c then (if (p.Kind == 1) then (if b then (fB true) else (fB ((p.Arguments.length:Int) == 0))) else (if (p.Name == ([]:bJ)) then (if b then (fB true) else (fB ((p.Arguments.length:Int) == 0))) else (fB false))) else (if (p.Number == 0) then (if (p.Kind == 1) then (if b then (fB true) else (fB ((p.Arguments.length:Int) == 0))) else (if (p.Name == ([]:bJ)) then (if b then (fB true) else (fB ((p.Arguments.length:Int) == 0))) else (fB false))) else (fB false))) else (fB false)
def pT (p:Part) (b:Bool):Option Bool:=
 if (p.Kind == 1) then (mQ p b true) else (if (p.Kind == 3) then (mQ p b true) else (mQ p b (p.Kind == 5)))
def wO (p:Part):Option Bool:=
 if (p.Kind == 4) then (pT p true) else (pT p (p.Kind == 5))
def lS (a:Bool):Option Bool:=
 some a
def tW (p:Part) (b:(List Definition)):Option Bool:=
 if (p.Kind == 1) then (if ((p.Arguments.length:Int) == 0) then (lS true) else (if (!(p.Name == ([116,97,117]:bJ))) then (lS (decide ((p.Arguments.length:Int)<=2))) else (lS false))) else (if (p.Kind == 3) then (some ((p.Arguments.length:Int) == 1)) else (if (p.Kind == 5) then (ob (ix b p.Number) fun c=>
 some ((p.Arguments.length:Int) == c.Parameters)) else (some true)))
def aBl (n:Int):Option Bool:=
 ob (iD n 0 63) fun b=>
 some b
def aAF (t:bS) (b:Int):Option Bool:=
 if (t.Kind == 0) then (ob (aBl t.Value) fun c=>
 some c) else (if (t.Kind == 1) then (ob (iD t.Value 0 (wr (b - 1))) fun d=>
 some d) else (if (t.Kind == 2) then (ob (iD t.Value 0 8) fun e=>
 some e) else (if (t.Kind == 3) then (some (t.Value == 0)) else (some false))))
def rL (t:bS):Option Int:=
 if (t.Kind == 2) then (some 2) else (if (t.Kind == 3) then (some 1) else (some 0))
def xK (a:Int):Option Bool:=
 some (a == 0)
def rM (a b:Int) (c:bS) (d:Bool):Option ((Int × Int) ⊕ (Int ⊕ Bool)):=
 if d then (some (.inr (.inr false))) else (ob (rL c) fun e=>
 some (.inl (wr (a+(wr (e - 1))),wr (b+1))))
def rN (e:(List bS)) (f a b:Int):Option ((Int × Int) ⊕ (Int ⊕ Bool)):=
 if (decide (b < (e.length:Int))) then (ob (ix e b) fun c=>
 if (a == 0) then (rM a b c true) else (ob (aAF c f) fun g=>
 rM a b c (!g))) else (some (.inr (.inl a)))
def nR (e:(List bS)) (c:Int) (d:Bool):Option Bool:=
 if d then (some false) else (ob (loop (fun (s:(Int × Int))=>rN e c s.1 s.2) (1,0)) fun r=>match r with|.inl r=>xK r|.inr r=>some r)
def aAG (e:(List bS)) (b c:Int):Option Bool:=
 ob (iD b 0 29) fun d=>
 if (!d) then (nR e b true) else (ob (iD c 1 60) fun f=>
 if (!f) then (nR e b true) else (ob (iD (e.length:Int) 1 c) fun g=>
 nR e b (!g)))
def uX (e:(List bS)) (p:eX):Option Bool:=
 ob (aAG e p.scope 15) fun c=>
 some (!c)
def eV:Option Int:=
 some (-1)
def dV (b:(List (List bS))) (c:eX) (a:Int):Option (Int ⊕ (Unit ⊕ Int)):=
 if (decide (a < (b.length:Int))) then (ob (ix b a) fun d=>
 ob (uX d c) fun e=>
 if e then (some (.inr (.inr a))) else (some (.inl (wr (a+1))))) else (some (.inr (.inl ())))
def fH (b:(List (List bS))) (c:eX):Option Int:=
 ob (loop (fun (s:Int)=>dV b c s) 0) fun r=>match r with|.inl r=>eV|.inr r=>some r
def dW (a:(List (List bS))) (b:eX):Option Bool:=
 ob (fH a b) fun c=>
 some (decide (0<=c))
def mR (p:Part) (b:eX) (c:Bool):Option Int:=
 if c then (some 7) else (ob (dW p.Arguments b) fun d=>
 if d then (some 8) else (some 0))
def mT (p:Part) (b:eX) (c:Bool):Option Int:=
 if c then (some 6) else (if (p.Kind == 4) then (mR p b (decide (6<=b.scope))) else (mR p b false))
def iM (p:Part) (c:(List Definition)) (b:eX) (d:Bool):Option Int:=
 if d then (some 4) else (ob (tW p c) fun e=>
 if (!e) then (some 5) else (if (p.Kind == 5) then (mT p b (!b.behind)) else (mT p b false)))
def kW (p:Part) (b:(List Definition)) (c:eX) (d:Bool):Option Int:=
 if d then (some 3) else (if (p.Kind == 4) then (ob (iD p.Number 1 7) fun e=>
 if (!e) then (iM p b c true) else (if (p.Kind == 5) then (ob (aGb p.Number (b.length:Int)) fun f=>
 iM p b c (!f)) else (iM p b c false))) else (if (p.Kind == 5) then (ob (aGb p.Number (b.length:Int)) fun g=>
 iM p b c (!g)) else (iM p b c false)))
def sG (p:Part) (b:(List Definition)) (c:eX):Option Int:=
 ob (wO p) fun d=>
 if (!d) then (some 2) else (if (p.Kind == 1) then (if (!(p.Name == ([116,97,117]:bJ))) then (ob (oN p.Name) fun e=>
 kW p b c (!e)) else (kW p b c false)) else (kW p b c false))
def aAH:Option (Int × Int):=
 some (0,0)
def pU (e:(List Definition)) (d:Definition) (f:(List eX)) (a:Int):Option (Int ⊕ (Unit ⊕ (Int × Int))):=
 if (decide (a < (d.Body.length:Int))) then (ob (ix d.Body a) fun g=>
 ob (ix f a) fun h=>
 ob (sG g e h) fun c=>
 if (c != 0) then (some (.inr (.inr (a,c)))) else (some (.inl (wr (a+1))))) else (some (.inr (.inl ())))
def tX (c:(List Definition)) (d:Definition) (e:Bool):Option (Int × Int):=
 if e then (some (0,1)) else (ob (mD d) fun f=>
 ob (loop (fun (s:Int)=>pU c d f s) 0) fun r=>match r with|.inl r=>aAH|.inr r=>some r)
def yY (b:(List Definition)) (d:Definition):Option (Int × Int):=
 ob (iD (d.Body.length:Int) 1 20) fun c=>
 if (!c) then (tX b d true) else (ob (kV d 0) fun e=>
 tX b d (e != (d.Body.length:Int)))
def nL:Option Bool:=
 some true
def kN (a:(List Definition)) (b:Int) (c:Definition) (d:Bool):Option (Int ⊕ (Unit ⊕ Bool)):=
 if d then (some (.inr (.inr false))) else (ob (yY a c) fun e=>
 if (e.2 != 0) then (some (.inr (.inr false))) else (some (.inl (wr (b+1)))))
def kO (a:(List Definition)) (b:Int):Option (Int ⊕ (Unit ⊕ Bool)):=
 if (decide (b < (a.length:Int))) then (ob (ix a b) fun c=>
 ob (aFo c.Name) fun d=>
 if (!d) then (kN a b c true) else (ob (slc a 0 b) fun e=>
 ob (nZ e c.Name) fun f=>
 kN a b c (decide (0<=f)))) else (some (.inr (.inl ())))
def kP (b:(List Definition)) (c:Bool):Option Bool:=
 if c then (some false) else (ob (loop (fun (s:Int)=>kO b s) 0) fun r=>match r with|.inl r=>nL|.inr r=>some r)
def jF (a:(List Definition)):Option Bool:=
 ob (iD (a.length:Int) 1 4) fun b=>
 if (!b) then (kP a true) else (ob (tV a) fun c=>
 kP a (!c))
def aAI (n:Int):Option Bool:=
 ob (aBl n) fun b=>
 some (!b)
def gL:Option Int:=
 some (-1)
def fO (b:(List Int)) (a:Int):Option (Int ⊕ (Unit ⊕ Int)):=
 if (decide (a < (b.length:Int))) then (ob (ix b a) fun c=>
 ob (aAI c) fun d=>
 if d then (some (.inr (.inr a))) else (some (.inl (wr (a+1))))) else (some (.inr (.inl ())))
def gX (b:(List Int)):Option Int:=
 ob (loop (fun (s:Int)=>fO b s) 0) fun r=>match r with|.inl r=>gL|.inr r=>some r
def gM (a:(List Int)):Option Bool:=
 ob (gX a) fun b=>
 some (decide (0<=b))
def yZ (a:(List Int)):Option Bool:=
 ob (gM a) fun b=>
 some (!b)
def mU (a:Bool):Option Bool:=
 some a
def wP (b:(List Definition)) (c:bT):Option Bool:=
 ob (aGb c.Definition (b.length:Int)) fun d=>
 if d then (ob (ix b c.Definition) fun e=>
 if ((c.Values.length:Int) == e.Parameters) then (ob (yZ c.Values) fun f=>
 mU f) else (mU false)) else (mU false)
def mE (a:bJ):Option Bool:=
 some (!(a == a))
def kQ (a y:bJ):Option Int:=
 ob (mE a) fun d=>
 ob (mE y) fun c=>
 if d then (if c then (some 0) else (some (-1))) else (if c then (some 1) else (if (qF a y) then (some (-1)) else (if (!(qF a y||a == y)) then (some 1) else (some 0))))
def gN (a b:(List bJ)):Option Int:=
 if (decide ((a.length:Int) < (b.length:Int))) then (some (-1)) else (some 0)
def cU (b c:(List bJ)) (a:Int):Option (Int ⊕ (Unit ⊕ Int)):=
 if (decide (a < (b.length:Int))) then (ob (ix b a) fun e=>
 if (decide ((c.length:Int)<=a)) then (some (.inr (.inr 1))) else (ob (ix c a) fun f=>
 ob (kQ e f) fun d=>
 if (d != 0) then (some (.inr (.inr d))) else (some (.inl (wr (a+1)))))) else (some (.inr (.inl ())))
def gY (b c:(List bJ)):Option Int:=
 ob (loop (fun (s:Int)=>cU b c s) 0) fun r=>match r with|.inl r=>gN b c|.inr r=>some r
def oA (a b:bU):Option Int:=
 ob (gY ([a.Left,a.Right]:List bJ) ([b.Left,b.Right]:List bJ)) fun e=>
 some e
def nH (a:Bool):Option Bool:=
 some a
def xL (o p:bU):Option Bool:=
 if (o.Left == p.Result) then (nH true) else (nH (o.Right == p.Result))
def eN:Option Int:=
 some (-1)
def dQ (b:(List bU)) (c:bU) (a:Int):Option (Int ⊕ (Unit ⊕ Int)):=
 if (decide (a < (b.length:Int))) then (ob (ix b a) fun d=>
 ob (xL d c) fun e=>
 if e then (some (.inr (.inr a))) else (some (.inl (wr (a+1))))) else (some (.inr (.inl ())))
def eZ (b:(List bU)) (c:bU):Option Int:=
 ob (loop (fun (s:Int)=>dQ b c s) 0) fun r=>match r with|.inl r=>eN|.inr r=>some r
def dR (a:(List bU)) (b:bU):Option Bool:=
 ob (eZ a b) fun c=>
 some (decide (0<=c))
def xM (a:(List bU)):Option Bool:=
 some (decide ((a.length:Int)<=6))
def iK (a:(List bU)) (b:Int) (c:bU) (d:Bool):Option (Int ⊕ (Unit ⊕ Bool)):=
 if d then (some (.inr (.inr false))) else (ob (dR a c) fun e=>
 if e then (some (.inr (.inr false))) else (some (.inl (wr (b+1)))))
def kF (c:(List bU)) (b:Int):Option (Int ⊕ (Unit ⊕ Bool)):=
 if (decide (b < (c.length:Int))) then (ob (ix c b) fun a=>
 ob (oN a.Left) fun d=>
 if (!d) then (iK c b a true) else (ob (oN a.Right) fun e=>
 if (!e) then (iK c b a true) else (ob (oN a.Result) fun f=>
 if (!f) then (iK c b a true) else (if (!(qF a.Left a.Right||a.Left == a.Right)) then (iK c b a true) else (if (decide (0 < b)) then (ob (ix c (wr (b - 1))) fun g=>
 ob (oA g a) fun h=>
 iK c b a (decide (0<=h))) else (iK c b a false)))))) else (some (.inr (.inl ())))
def qX (b:(List bU)):Option Bool:=
 ob (loop (fun (s:Int)=>kF b s) 0) fun r=>match r with|.inl r=>xM b|.inr r=>some r
def aAJ (a:(List bJ)):Option Bool:=
 some (decide ((a.length:Int)<=12))
def uY (a:Int) (b:Bool):Option (Int ⊕ (Unit ⊕ Bool)):=
 if b then (some (.inr (.inr false))) else (some (.inl (wr (a+1))))
def aAK (b:(List bJ)) (a:Int):Option (Int ⊕ (Unit ⊕ Bool)):=
 if (decide (a < (b.length:Int))) then (ob (ix b a) fun c=>
 ob (oN c) fun e=>
 if (!e) then (uY a true) else (if (decide (0 < a)) then (ob (ix b (wr (a - 1))) fun d=>
 uY a (qF c d||c == d)) else (uY a false))) else (some (.inr (.inl ())))
def aDx (b:(List bJ)):Option Bool:=
 ob (loop (fun (s:Int)=>aAK b s) 0) fun r=>match r with|.inl r=>aAJ b|.inr r=>some r
def uZ (c:bT) (p:bZ):Option Bool:=
 ob (wP p.Definitions c) fun d=>
 some (!d)
def eC:Option Int:=
 some (-1)
def dK (b:(List bT)) (c:bZ) (a:Int):Option (Int ⊕ (Unit ⊕ Int)):=
 if (decide (a < (b.length:Int))) then (ob (ix b a) fun d=>
 ob (uZ d c) fun e=>
 if e then (some (.inr (.inr a))) else (some (.inl (wr (a+1))))) else (some (.inr (.inl ())))
def eL (b:(List bT)) (c:bZ):Option Int:=
 ob (loop (fun (s:Int)=>dK b c s) 0) fun r=>match r with|.inl r=>eC|.inr r=>some r
def dL (a:(List bT)) (b:bZ):Option Bool:=
 ob (eL a b) fun c=>
 some (decide (0<=c))
def pV (a:bZ) (b:Bool):Option Int:=
 if b then (some 2) else (ob (qX a.Meetings) fun c=>
 if (!c) then (some 3) else (ob (aDx a.Allowed) fun d=>
 if (!d) then (some 4) else (ob (aDx a.Hidden) fun e=>
 if (!e) then (some 5) else (some 0))))
def wQ (a:bZ):Option Int:=
 ob (jF a.Definitions) fun b=>
 if (!b) then (some 1) else (ob (iD (a.Components.length:Int) 1 3) fun c=>
 if (!c) then (pV a true) else (ob (dL a.Components a) fun d=>
 pV a d))
def sH (a:bZ):Option Bool:=
 ob (wQ a) fun b=>
 some (b == 0)
def lJ (a:Bool):Option Bool:=
 some a
def oB (a:rZ):Option Bool:=
 ob (iD a.policy 0 2) fun b=>
 if b then (ob (iD a.seed 0 65535) fun c=>
 lJ c) else (lJ false)
def qY (a:Bool):Option Int:=
 if a then (some 2) else (some 0)
def aHG (a:bZ) (b:rZ) (c:Int):Option Int:=
 ob (sH a) fun d=>
 if (!d) then (some 1) else (ob (oB b) fun e=>
 if (!e) then (qY true) else (ob (iD c 0 60) fun f=>
 qY (!f)))
def aCr (a:bJ) (b:List bJ):Option bJ:=
 ob (aJS b a) fun c=>
 some c
def aCs (c:(List Int)) (b:List bJ) (a:Int):Option ((List bJ × Int) ⊕ (List bJ)):=
 if (decide (a < (c.length:Int))) then (ob (ix c a) fun d=>
 ob (mO d) fun e=>
 ob (ix b a) fun g=>
 ob (st b a (e:bJ)) fun f=>
 some (.inl (f,wr (a+1)))) else (some (.inr b))
def aDS (a:(List Int)) (b:bJ):Option bJ:=
 ob (mkz (a.length:Int) ([]:bJ)) fun c=>
 ob (loop (fun (s:(List bJ × Int))=>aCs a s.1 s.2) (c,0)) fun r=>aCr b r
def vA (a:bJ) (b:(List Int)) (c:Bool):Option (bJ × Bool):=
 if c then (some (([]:bJ),false)) else (if ((b.length:Int) == 0) then (some (a,true)) else (ob (cat a ([40]:bJ)) fun d=>
 ob (aDS b ([44]:bJ)) fun e=>
 ob (cat d e) fun f=>
 ob (cat f ([41]:bJ)) fun g=>
 some (g,true)))
def zD (b:bJ) (a:(List Int)):Option (bJ × Bool):=
 if (b == ([116,97,117]:bJ)) then (some (([116,97,117]:bJ),(a.length:Int) == 0)) else (ob (oN b) fun c=>
 if (!c) then (vA b a true) else (if (decide (2 < (a.length:Int))) then (vA b a true) else (ob (yZ a) fun d=>
 vA b a (!d))))
def aBN (a:bS) (b:List (Tr bS)) (c:List bS):Option ((Tr bS) × (List bS)):=
 some ((Tr.mk a b),c)
def wR (e:(List bS)->Option ((Tr bS) × (List bS))) (f:Int) (a:List (Tr bS)) (b:List bS) (c:Int):Option ((List (Tr bS) × List bS × Int) ⊕ (List (Tr bS) × List bS)):=
 if (decide (c < f)) then (ob (e b) fun d=>
 ob (apd a ([d.1]:List (Tr bS))) fun g=>
 some (.inl (g,d.2,wr (c+1)))) else (some (.inr (a,b)))
def mH (d:(List bS)->Option ((Tr bS) × (List bS))) (e:(List bS)):Option ((Tr bS) × (List bS)):=
 ob (ix e 0) fun b=>
 ob (slc e 1 (e.length:Int)) fun f=>
 ob (rL b) fun g=>
 ob (loop (fun (s:(List (Tr bS) × List bS × Int))=>wR d g s.1 s.2.1 s.2.2) ([],f,0)) fun r=>aBN b r.1 r.2
def mJ:Nat->(List bS)->Option ((Tr bS) × (List bS))
 |0=>fun _=>none
 |n+1=>mH (mJ n)
def aIy (e:(List bS)):Option ((Tr bS) × (List bS)):=
 mJ 100000 e
def aOE (e:(List bS)):Option (Tr bS):=
 ob (aIy e) fun b=>
 some b.1
def xN (a:Bool):Option Int:=
 if a then (some 1) else (some 0)
def aDj (a:Int):Option Int:=
 some a
def aDk (a:Int):Option Int:=
 some a
def aHH (e a b:Int):Option Int:=
 if (e == 0) then (ob (rm (wr (a+b)) 64) fun f=>
 some f) else (if (e == 1) then (ob (rm (wr ((wr (a - b))+64)) 64) fun g=>
 some g) else (if (e == 2) then (ob (rm (wr (a * b)) 64) fun h=>
 some h) else (if (e == 3) then (ob (xN (a == b)) fun i=>
 some i) else (if (e == 4) then (ob (xN (a != b)) fun j=>
 some j) else (if (e == 5) then (ob (xN (decide (a < b))) fun k=>
 some k) else (if (e == 6) then (ob (xN (decide (a<=b))) fun l=>
 some l) else (if (e == 7) then (if (a != 0) then (ob (xN (b != 0)) fun m=>
 aDj m) else (ob (xN false) fun n=>
 aDj n)) else (if (a != 0) then (ob (xN true) fun o=>
 aDk o) else (ob (xN (b != 0)) fun p=>
 aDk p)))))))))
def jW (c:(Tr bS)->(List Int)->Option Int) (a:(Tr bS)) (b:(List Int)):Option Int:=
 if (a.val.Kind == 0) then (some a.val.Value) else (if (a.val.Kind == 1) then (ob (ix b a.val.Value) fun d=>
 some d) else (if (a.val.Kind == 3) then (ob (ix a.kids 0) fun e=>
 ob (c e b) fun f=>
 ob (xN (f == 0)) fun g=>
 some g) else (ob (ix a.kids 0) fun h=>
 ob (c h b) fun i=>
 ob (ix a.kids 1) fun j=>
 ob (c j b) fun k=>
 ob (aHH a.val.Value i k) fun l=>
 some l)))
def jX:Nat->(Tr bS)->(List Int)->Option Int
 |0=>fun _ _=>none
 |n+1=>jW (jX n)
def aGc (a:(Tr bS)) (b:(List Int)):Option Int:=
 jX 100000 a b
def yG (e:(List bS)) (b:(List Int)):Option Int:=
 ob (aOE e) fun c=>
 ob (aGc c b) fun d=>
 some d
def vB (a:List Int):Option (List Int):=
 some a
def pW (b:(List (List bS))) (d:(List Int)) (c:List Int) (a:Int):Option ((List Int × Int) ⊕ (List Int)):=
 if (decide (a < (b.length:Int))) then (ob (ix b a) fun e=>
 ob (yG e d) fun f=>
 ob (apd c ([f]:List Int)) fun g=>
 some (.inl (g,wr (a+1)))) else (some (.inr c))
def sJ (a:(List (List bS))) (b:(List Int)):Option (List Int):=
 ob (loop (fun (s:(List Int × Int))=>pW a b s.1 s.2) ([],0)) fun r=>vB r
def aEE (n:Int):Option Bool:=
 ob (iD n (-1000000000000) 1000000000000) fun b=>
 some (!b)
def fY:Option Int:=
 some (-1)
def fC (b:(List Int)) (a:Int):Option (Int ⊕ (Unit ⊕ Int)):=
 if (decide (a < (b.length:Int))) then (ob (ix b a) fun c=>
 ob (aEE c) fun d=>
 if d then (some (.inr (.inr a))) else (some (.inl (wr (a+1))))) else (some (.inr (.inl ())))
def gO (b:(List Int)):Option Int:=
 ob (loop (fun (s:Int)=>fC b s) 0) fun r=>match r with|.inl r=>fY|.inr r=>some r
def fD (a:(List Int)):Option Bool:=
 ob (gO a) fun b=>
 some (decide (0<=b))
def aEF (a:Bool):Option Bool:=
 some a
def aGW (a:(List Int)):Option Bool:=
 if (decide ((a.length:Int)<=64)) then (ob (fD a) fun b=>
 aEF (!b)) else (aEF false)
def aDT (a:(List Int)):Option bJ:=
 ob (aGW a) fun b=>
 if (!b) then (some ([]:bJ)) else (if ((a.length:Int) == 0) then (some ([45]:bJ)) else (ob (aDS a ([44]:bJ)) fun c=>
 some c))
def aEG (p:aZ):Option bJ:=
 ob (mO p.Part) fun b=>
 ob (cat b ([58]:bJ)) fun c=>
 ob (aDT p.Values) fun d=>
 ob (cat c d) fun e=>
 some e
def aBm (p:aZ):Option bJ:=
 ob (mO p.Definition) fun b=>
 ob (cat b ([58]:bJ)) fun c=>
 ob (aEG p) fun d=>
 ob (cat c d) fun e=>
 some e
def dH (a:(List Int)):Option (List Int):=
 ob (apd ([]:List Int) a) fun b=>
 some b
def iX (i:(List Definition)) (c:(List cM)) (a:(List (bJ × Bool))) (b:cM):Option ((List cM) × (List (bJ × Bool))):=
 ob (cat b.B ([32]:bJ)) fun e=>
 ob (aBm b.Next) fun f=>
 ob (cat e f) fun d=>
 if (!((aBe a d).getD false)) then (ob (some (aBW a d true)) fun g=>
 ob (apd c ([b]:List cM)) fun h=>
 some (h,g)) else (some (c,a))
def gQ (a:List cM) (b:(List (bJ × Bool))):Option ((List cM) × (List (bJ × Bool))):=
 some (a,b)
def oC (b:(List Definition)) (c:(List cM)) (d:(List (bJ × Bool))) (e:(bJ × Bool)) (f g:Int) (h:List Int):Option ((List cM) × (List (bJ × Bool))):=
 ob (iX b c d ⟨e.1,⟨f,g,h⟩⟩) fun a=>
 gQ a.1 a.2
def oD (a:List cM) (b:(List (bJ × Bool))):Option ((List cM) × (List (bJ × Bool))):=
 gQ a b
def gD (e:(List Definition)->(List cM)->(List (bJ × Bool))->Int->Int->(List Int)->Option ((List cM) × (List (bJ × Bool)))) (f:(List Definition)) (k h:Int) (i:(List Int)) (j:Part) (b:List cM) (c:(List (bJ × Bool))) (a:Int):Option ((List cM × (List (bJ × Bool)) × Int) ⊕ (List cM × (List (bJ × Bool)))):=
 if (decide (a < wr (j.Number+1))) then (ob (dH i) fun l=>
 ob (apd l ([a]:List Int)) fun m=>
 ob (e f b c k (wr (h+1)) m) fun d=>
 some (.inl (d.1,d.2,wr (a+1)))) else (some (.inr (b,c)))
def dN (h:(List Definition)->(List cM)->(List (bJ × Bool))->Int->Int->(List Int)->Option ((List cM) × (List (bJ × Bool)))) (c:(List Definition)) (d:(List cM)) (e:(List (bJ × Bool))) (k f:Int) (a:(List Int)):Option ((List cM) × (List (bJ × Bool))):=
 ob (ix c k) fun i=>
 ob (ix i.Body f) fun b=>
 if (b.Kind == 1) then (ob (sJ b.Arguments a) fun q=>
 ob (zD b.Name q) fun l=>
 ob (dH a) fun t=>
 ob (ix i.Body (wr (f+1))) fun j=>
 if (j.Kind == 5) then (ob (sJ j.Arguments a) fun u=>
 oC c d e l j.Number 0 u) else (oC c d e l k (wr (f+1)) t)) else (if (b.Kind == 2) then (ob (h c d e k (wr (f+1)) a) fun m=>
 ob (kV i (wr (f+1))) fun v=>
 ob (h c m.1 m.2 k v a) fun n=>
 gQ n.1 n.2) else (if (b.Kind == 3) then (ob (ix b.Arguments 0) fun w=>
 ob (yG w a) fun x=>
 if (x != 0) then (ob (h c d e k (wr (f+1)) a) fun o=>
 gQ o.1 o.2) else (gQ d e)) else (if (b.Kind == 4) then (ob (loop (fun (s:(List cM × (List (bJ × Bool)) × Int))=>gD h c k f a b s.1 s.2.1 s.2.2) (d,e,0)) fun r=>oD r.1 r.2) else (gQ d e))))
def cB:Nat->(List Definition)->(List cM)->(List (bJ × Bool))->Int->Int->(List Int)->Option ((List cM) × (List (bJ × Bool)))
 |0=>fun _ _ _ _ _ _=>none
 |n+1=>dN (cB n)
def aAL (a:(List Definition)) (b:(List cM)) (c:(List (bJ × Bool))) (k e:Int) (f:(List Int)):Option ((List cM) × (List (bJ × Bool))):=
 cB 100000 a b c k e f
def aGd (c:(List Definition)) (p:aZ):Option ((List cM) × Bool):=
 ob (aAL c [] ([]:(List (bJ × Bool))) p.Definition p.Part p.Values) fun b=>
 some (b.1,decide ((b.1.length:Int)<=200))
def vC (a:List Int):Option ((List Int) × Bool):=
 some (a,true)
def pX (b:(List bJ)) (c:List Int) (a:Int):Option ((List Int × Int) ⊕ (List Int ⊕ ((List Int) × Bool))):=
 if (decide (a < (b.length:Int))) then (ob (ix b a) fun e=>
 ob (vS e) fun d=>
 if (!d.2) then (some (.inr (.inr ([],false)))) else (ob (apd c ([d.1]:List Int)) fun f=>
 some (.inl (f,wr (a+1))))) else (some (.inr (.inl c)))
def wS (b:(List bJ)):Option ((List Int) × Bool):=
 ob (loop (fun (s:(List Int × Int))=>pX b s.1 s.2) ([],0)) fun r=>match r with|.inl r=>vC r|.inr r=>some r
def fR (a:Bool):Option Bool:=
 some a
def iE (a b:bJ):Option Bool:=
 if (decide ((b.length:Int)<=(a.length:Int))) then (ob (slc a (wr ((a.length:Int) - (b.length:Int))) (a.length:Int)) fun c=>
 fR (c == b)) else (fR false)
def gZ (a b:bJ):Option bJ:=
 ob (iE a b) fun c=>
 if c then (ob (slc a 0 (wr ((a.length:Int) - (b.length:Int)))) fun d=>
 some d) else (some a)
def lK (a b:bJ):Option bJ:=
 ob (gZ a b) fun c=>
 some c
def tY (a:(bJ × bJ × Bool)) (b:List Int) (c:Bool):Option (bJ × (List Int) × Bool):=
 if c then (some (([]:bJ),[],false)) else (some (a.1,b,true))
def pY (d:bJ) (a:(bJ × bJ × Bool)) (b:List Int):Option (bJ × (List Int) × Bool):=
 ob (zD a.1 b) fun c=>
 if (!c.2) then (tY a b true) else (tY a b (!(c.1 == d)))
def tZ (b:bJ):Option (bJ × (List Int) × Bool):=
 ob (l_Cut b ([40]:bJ)) fun a=>
 if a.2.2 then (ob (lK a.2.1 ([41]:bJ)) fun d=>
 ob (aIS d ([44]:bJ)) fun e=>
 ob (wS e) fun c=>
 if (!c.2) then (some (([]:bJ),[],false)) else (pY b a c.1)) else (pY b a [])
def qZ (p:aZ):Option aZ:=
 ob (dH p.Values) fun b=>
 some ⟨p.Definition,p.Part,b⟩
def xO (a:List aZ):Option (List aZ):=
 some a
def rO (b:(List aZ)) (c:List aZ) (a:Int):Option ((List aZ × Int) ⊕ (List aZ)):=
 if (decide (a < (b.length:Int))) then (ob (ix b a) fun d=>
 ob (qZ d) fun e=>
 ob (apd c ([e]:List aZ)) fun f=>
 some (.inl (f,wr (a+1)))) else (some (.inr c))
def aAM (a:(List aZ)):Option (List aZ):=
 ob (loop (fun (s:(List aZ × Int))=>rO a s.1 s.2) ([],0)) fun r=>xO r
def wT (a:List bJ):Option bJ:=
 ob (aJS a ([32]:bJ)) fun b=>
 some b
def wU (b:(List aZ)) (c:List bJ) (a:Int):Option ((List bJ × Int) ⊕ (List bJ)):=
 if (decide (a < (b.length:Int))) then (ob (ix b a) fun d=>
 ob (aBm d) fun e=>
 ob (apd c ([e]:List bJ)) fun f=>
 some (.inl (f,wr (a+1)))) else (some (.inr c))
def aDU (a:(List aZ)):Option bJ:=
 ob (loop (fun (s:(List bJ × Int))=>wU a s.1 s.2) ([],0)) fun r=>wT r
def jY (a:Bool):Option Bool:=
 some a
def oU (m:bU) (p c:bJ):Option Bool:=
 if (m.Left == (mnS p c)) then (jY (m.Right == (mxS p c))) else (jY false)
def eF:Option Int:=
 some (-1)
def dO (b:(List bU)) (c d:bJ) (a:Int):Option (Int ⊕ (Unit ⊕ Int)):=
 if (decide (a < (b.length:Int))) then (ob (ix b a) fun e=>
 ob (oU e c d) fun f=>
 if f then (some (.inr (.inr a))) else (some (.inl (wr (a+1))))) else (some (.inr (.inl ())))
def eO (b:(List bU)) (c d:bJ):Option Int:=
 ob (loop (fun (s:Int)=>dO b c d s) 0) fun r=>match r with|.inl r=>eF|.inr r=>some r
def mV (c:bZ) (a b:bJ):Option (bJ × Bool):=
 ob (eO c.Meetings a b) fun d=>
 if (decide (d < 0)) then (some (([]:bJ),false)) else (ob (ix c.Meetings d) fun g=>
 some (g.Result,true))
def gU:Option Int:=
 some (-1)
def fU (b:(List bJ)) (c:bJ) (a:Int):Option (Int ⊕ (Unit ⊕ Int)):=
 if (decide (a < (b.length:Int))) then (ob (ix b a) fun d=>
 if (c == d) then (some (.inr (.inr a))) else (some (.inl (wr (a+1))))) else (some (.inr (.inl ())))
def gK (b:(List bJ)) (c:bJ):Option Int:=
 ob (loop (fun (s:Int)=>fU b c s) 0) fun r=>match r with|.inl r=>gU|.inr r=>some r
def dJ (a:(List bJ)) (b:bJ):Option Bool:=
 ob (gK a b) fun c=>
 some (decide (0<=c))
def kX (b:(List bV)) (a:(List (bJ × Bool))) (c d:Int) (e:(bJ × Bool)) (f:List aZ):Option ((List bV) × (List (bJ × Bool))):=
 ob (cat e.1 ([32]:bJ)) fun h=>
 ob (mO c) fun i=>
 ob (cat h i) fun j=>
 ob (cat j ([32]:bJ)) fun k=>
 ob (mO d) fun l=>
 ob (cat k l) fun m=>
 ob (cat m ([32]:bJ)) fun n=>
 ob (aDU f) fun o=>
 ob (cat n o) fun g=>
 if (!((aBe a g).getD false)) then (ob (some (aBW a g true)) fun p=>
 ob (apd b ([⟨e.1,c,d,f⟩]:List bV)) fun q=>
 some (q,p)) else (some (b,a))
def fL (i:(List aZ)) (d:(List bV)) (e:(List (bJ × Bool))) (b a:Int) (f:(List aZ)) (j:bJ) (k:List Int):Option ((List bV) × (List (bJ × Bool))):=
 ob (zD j k) fun g=>
 ob (aAM i) fun h=>
 ob (ix f 0) fun l=>
 ob (qZ l) fun m=>
 ob (ix h b) fun q=>
 ob (st h b (m:aZ)) fun c=>
 if (decide (0<=a)) then (ob (ix f 1) fun n=>
 ob (qZ n) fun o=>
 ob (ix c a) fun r=>
 ob (st c a (o:aZ)) fun p=>
 kX d e b a g p) else (kX d e b a g c)
def kY (h:(List bJ)) (c:(List aZ)) (a:(List bV)) (b:(List (bJ × Bool))) (d:bJ) (i:(List Int)) (e f:Int) (g:(List aZ)) (j:Bool):Option ((List bV) × (List (bJ × Bool))):=
 if j then (some (a,b)) else (ob (dJ h d) fun k=>
 if k then (fL c a b e f g ([116,97,117]:bJ) []) else (fL c a b e f g d i))
def kG (l:(List Definition)) (m:(List bT)) (n:(List bU)) (j b:(List bJ)) (c:(List aZ)) (d:(List bV)) (e:(List (bJ × Bool))) (a:bJ) (f:(List Int)) (g h:Int) (i:(List aZ)):Option ((List bV) × (List (bJ × Bool))):=
 if (!(a == ([116,97,117]:bJ))) then (ob (dJ j a) fun k=>
 kY b c d e a f g h i (!k)) else (kY b c d e a f g h i false)
def iF:Option Bool:=
 some true
def gE (b c:(List Int)) (a:Int):Option (Int ⊕ (Unit ⊕ Bool)):=
 if (decide (a < (b.length:Int))) then (ob (ix b a) fun d=>
 ob (ix c a) fun e=>
 if (d != e) then (some (.inr (.inr false))) else (some (.inl (wr (a+1))))) else (some (.inr (.inl ())))
def fW (b c:(List Int)):Option Bool:=
 if ((b.length:Int) != (c.length:Int)) then (some false) else (ob (loop (fun (s:Int)=>gE b c s) 0) fun r=>match r with|.inl r=>iF|.inr r=>some r)
def iN (a:List bV) (b:(List (bJ × Bool))):Option ((List bV) × (List (bJ × Bool))):=
 some (a,b)
def mK (a:Int) (b:List bV) (c:(List (bJ × Bool))):Option ((List bV × (List (bJ × Bool)) × Int) ⊕ (List bV × (List (bJ × Bool)))):=
 some (.inl (b,c,wr (a+1)))
def iO (a:Int) (b:List bV) (c:(List (bJ × Bool))):Option ((List bV × (List (bJ × Bool)) × Int) ⊕ (List bV × (List (bJ × Bool)))):=
 mK a b c
def iP (a:Int) (b:List bV) (c:(List (bJ × Bool))):Option ((List bV × (List (bJ × Bool)) × Int) ⊕ (List bV × (List (bJ × Bool)))):=
 some (.inl (b,c,wr (a+1)))
def gF (e:(List Definition)) (f:(List bT)) (g:(List bU)) (h i:(List bJ)) (j:(List aZ)) (k l:Int) (m:cM) (n:(bJ × (List Int) × Bool)) (a:List bV) (b:(List (bJ × Bool))) (c:Int) (o:cM) (p:(bJ × Bool)) (q:Bool):Option ((List bV × (List (bJ × Bool)) × Int) ⊕ (List bV × (List (bJ × Bool)))):=
 if q then (ob (kG e f g h i j a b p.1 n.2.1 k l ([m.Next,o.Next]:List aZ)) fun d=>
 iP c d.1 d.2) else (iP c a b)
def gG (d:(List Definition)) (e:(List bT)) (f:(List bU)) (g h:(List bJ)) (m:(List aZ)) (n o:Int) (b:(List cM)) (q:cM) (a:(bJ × (List Int) × Bool)) (i:List bV) (j:(List (bJ × Bool))) (c:Int):Option ((List bV × (List (bJ × Bool)) × Int) ⊕ (List bV × (List (bJ × Bool)))):=
 if (decide (c < (b.length:Int))) then (ob (ix b c) fun k=>
 ob (tZ k.B) fun r=>
 ob (mV ⟨d,e,f,g,h⟩ a.1 r.1) fun l=>
 if l.2 then (ob (fW a.2.1 r.2.1) fun s=>
 gF d e f g h m n o q a i j c k l s) else (gF d e f g h m n o q a i j c k l false)) else (some (.inr (i,j)))
def gH (i:(List Definition)) (j:(List bT)) (k:(List bU)) (l m:(List bJ)) (n:(List aZ)) (o p:Int) (a b:(List cM)) (e:List bV) (f:(List (bJ × Bool))) (c:Int):Option ((List bV × (List (bJ × Bool)) × Int) ⊕ (List bV × (List (bJ × Bool)))):=
 if (decide (c < (a.length:Int))) then (ob (ix a c) fun g=>
 ob (tZ g.B) fun t=>
 ob (loop (fun (s:(List bV × (List (bJ × Bool)) × Int))=>gG i j k l m n o p b g t s.1 s.2.1 s.2.2) (e,f,0)) fun r=>iO c r.1 r.2) else (some (.inr (e,f)))
def oV (d:(List Definition)) (e:(List bT)) (f:(List bU)) (g h:(List bJ)) (i:(List aZ)) (j:(List bV)) (k:(List (bJ × Bool))) (l m:Int) (a b:(List cM)):Option ((List bV) × (List (bJ × Bool))):=
 ob (loop (fun (s:(List bV × (List (bJ × Bool)) × Int))=>gH d e f g h i l m a b s.1 s.2.1 s.2.2) (j,k,0)) fun r=>iN r.1 r.2
def oE (a:List bV) (b:(List (bJ × Bool))):Option ((List bV) × Bool):=
 some (a,decide ((a.length:Int)<=200))
def sT (a:Int) (b:List bV) (c:(List (bJ × Bool))):Option ((List bV × (List (bJ × Bool)) × Int) ⊕ (List bV × (List (bJ × Bool)))):=
 some (.inl (b,c,wr (a+1)))
def lT (a:Int) (b:List bV) (c:(List (bJ × Bool))):Option ((List bV × (List (bJ × Bool)) × Int) ⊕ (List bV × (List (bJ × Bool)))):=
 sT a b c
def iY (a:bZ) (c:(List aZ)) (d:List (List cM)) (e:Int) (f:List bV) (g:(List (bJ × Bool))) (b:Int):Option ((List bV × (List (bJ × Bool)) × Int) ⊕ (List bV × (List (bJ × Bool)))):=
 if (decide (b < (c.length:Int))) then (ob (ix d e) fun i=>
 ob (ix d b) fun j=>
 ob (oV a.Definitions a.Components a.Meetings a.Allowed a.Hidden c f g e b i j) fun h=>
 some (.inl (h.1,h.2,wr (b+1)))) else (some (.inr (f,g)))
def jZ (f:bZ) (b:(List aZ)) (g:List (List cM)) (c:List bV) (d:(List (bJ × Bool))) (a:Int):Option ((List bV × (List (bJ × Bool)) × Int) ⊕ (List bV × (List (bJ × Bool)))):=
 if (decide (a < (b.length:Int))) then (ob (loop (fun (s:(List bV × (List (bJ × Bool)) × Int))=>iY f b g a s.1 s.2.1 s.2.2) (c,d,wr (a+1))) fun r=>lT a r.1 r.2) else (some (.inr (c,d)))
def iZ (b:bZ) (c:(List aZ)) (d:List bV) (e:(List (bJ × Bool))) (f:List (List cM)):Option ((List bV) × Bool):=
 ob (loop (fun (s:(List bV × (List (bJ × Bool)) × Int))=>jZ b c f s.1 s.2.1 s.2.2) (d,e,0)) fun r=>oE r.1 r.2
def sU (a:Int) (b:List bV) (c:(List (bJ × Bool))) (d:List (List cM)):Option ((List bV × (List (bJ × Bool)) × List (List cM) × Int) ⊕ ((List bV × (List (bJ × Bool)) × List (List cM)) ⊕ ((List bV) × Bool))):=
 some (.inl (b,c,d,wr (a+1)))
def lU (a:Int) (b:List (List cM)) (c:List bV) (d:(List (bJ × Bool))):Option ((List bV × (List (bJ × Bool)) × List (List cM) × Int) ⊕ ((List bV × (List (bJ × Bool)) × List (List cM)) ⊕ ((List bV) × Bool))):=
 sU a c d b
def lV (a:bZ) (i:(List aZ)) (j:Int) (c:((List cM) × Bool)) (d:List bV) (e:(List (bJ × Bool))) (b:Int):Option ((List bV × (List (bJ × Bool)) × Int) ⊕ (List bV × (List (bJ × Bool)))):=
 if (decide (b < (c.1.length:Int))) then (ob (ix c.1 b) fun f=>
 ob (tZ f.B) fun g=>
 ob (kG a.Definitions a.Components a.Meetings a.Allowed a.Hidden i d e g.1 g.2.1 j (-1) ([f.Next]:List aZ)) fun h=>
 some (.inl (h.1,h.2,wr (b+1)))) else (some (.inr (d,e)))
def iI (d:bZ) (b:(List aZ)) (e:List bV) (f:(List (bJ × Bool))) (g:List (List cM)) (a:Int):Option ((List bV × (List (bJ × Bool)) × List (List cM) × Int) ⊕ ((List bV × (List (bJ × Bool)) × List (List cM)) ⊕ ((List bV) × Bool))):=
 if (decide (a < (b.length:Int))) then (ob (ix b a) fun i=>
 ob (aGd d.Definitions i) fun c=>
 if (!c.2) then (some (.inr (.inr ([],false)))) else (ob (apd g ([c.1]:List (List cM))) fun j=>
 ob (loop (fun (s:(List bV × (List (bJ × Bool)) × Int))=>lV d b a c s.1 s.2.1 s.2.2) (e,f,0)) fun r=>lU a j r.1 r.2)) else (some (.inr (.inl (e,f,g))))
def lL (b:bZ) (c:(List aZ)):Option ((List bV) × Bool):=
 ob (loop (fun (s:(List bV × (List (bJ × Bool)) × List (List cM) × Int))=>iI b c s.1 s.2.1 s.2.2.1 s.2.2.2) ([],([]:(List (bJ × Bool))),[],0)) fun r=>match r with|.inl r=>iZ b c r.1 r.2.1 r.2.2|.inr r=>some r
def aDV (a:Int):Option Int:=
 some a
def aDW (a b:Int):Option ((Int × Int) ⊕ Int):=
 some (.inl (b,wr (a+1)))
def yH (a b:Int):Option ((Int × Int) ⊕ Int):=
 aDW a b
def yI (a b:Int):Option ((Int × Int) ⊕ Int):=
 some (.inl (b,wr (a+1)))
def mA (a b:Int):Option ((Int × Int) ⊕ Int):=
 if (decide (b < 8)) then (if (decide (65535 < wr (a * 2))) then (yI b (xoI (anI (wr (a * 2)) 65535) 4129)) else (yI b (wr (a * 2)))) else (some (.inr a))
def oO (b:bJ) (c a:Int):Option ((Int × Int) ⊕ Int):=
 if (decide (a < (b.length:Int))) then (ob (ix b a) fun d=>
 ob (loop (fun (s:(Int × Int))=>mA s.1 s.2) (xoI c (wr ((wr (d.toNat:Int)) * 256)),0)) fun r=>yH a r) else (some (.inr c))
def aJc (b:bJ) (a:Int):Option Int:=
 ob (iD a 0 65535) fun c=>
 if (!c) then (some 0) else (ob (loop (fun (s:(Int × Int))=>oO b s.1 s.2) (a,0)) fun r=>aDV r)
def rA (a:(List dI)):Option dI:=
 ob (ix a (wr ((a.length:Int) - 1))) fun b=>
 some b
def nM (m:bV) (p:(List dI)):Option Bool:=
 ob (rA p) fun c=>
 some (decide (c.First < m.First))
def fJ:Option Int:=
 some (-1)
def eJ (b:(List bV)) (c:(List dI)) (a:Int):Option (Int ⊕ (Unit ⊕ Int)):=
 if (decide (a < (b.length:Int))) then (ob (ix b a) fun d=>
 ob (nM d c) fun e=>
 if e then (some (.inr (.inr a))) else (some (.inl (wr (a+1))))) else (some (.inr (.inl ())))
def eQ (b:(List bV)) (c:(List dI)):Option Int:=
 ob (loop (fun (s:Int)=>eJ b c s) 0) fun r=>match r with|.inl r=>fJ|.inr r=>some r
def iA (a:(List bV)) (b:(List dI)) (c:Bool):Option Int:=
 if c then (ob (eQ a b) fun d=>
 some (mxI d 0)) else (some 0)
def gV (b:rZ) (c:(List bV)) (a:(List dI)):Option Int:=
 if (b.policy == 2) then (ob (mO b.seed) fun d=>
 ob (cat d ([45]:bJ)) fun e=>
 ob (mO (a.length:Int)) fun f=>
 ob (cat e f) fun g=>
 ob (aJc g 65535) fun h=>
 ob (rm h (c.length:Int)) fun i=>
 some i) else (if (b.policy == 1) then (iA c a (decide (0 < (a.length:Int)))) else (iA c a false))
def jG (a:List aZ) (b:List dI):Option ((List dI) × (List aZ) × Int):=
 some (b,a,0)
def fM (f:rZ) (g:bZ) (many:Int) (d:List aZ) (a:List dI):Option ((List aZ × List dI) ⊕ ((List aZ × List dI) ⊕ ((List dI) × (List aZ) × Int))):=
 if (decide ((a.length:Int) < many)) then (ob (lL g d) fun b=>
 if (!b.2) then (some (.inr (.inr ([],[],5)))) else (if ((b.1.length:Int) == 0) then (some (.inr (.inl (d,a)))) else (ob (gV f b.1 a) fun e=>
 ob (ix b.1 e) fun c=>
 ob (apd a ([⟨e,c.First,c.Second,c.B⟩]:List dI)) fun h=>
 some (.inl (c.State,h))))) else (some (.inr (.inl (d,a))))
def xP (b:rZ) (c:bZ) (d:(List aZ)) (e:(List dI)) (many:Int):Option ((List dI) × (List aZ) × Int):=
 ob (loop (fun (s:(List aZ × List dI))=>fM b c many s.1 s.2) (d,e)) fun r=>match r with|.inl r=>jG r.1 r.2|.inr r=>some r
def sV (a:List aZ):Option (List aZ):=
 some a
def oF (b:bZ) (c:List aZ) (a:Int):Option ((List aZ × Int) ⊕ (List aZ)):=
 if (decide (a < (b.Components.length:Int))) then (ob (ix b.Components a) fun d=>
 ob (dH d.Values) fun e=>
 ob (apd c ([⟨d.Definition,0,e⟩]:List aZ)) fun f=>
 some (.inl (f,wr (a+1)))) else (some (.inr c))
def uA (a:bZ):Option (List aZ):=
 ob (loop (fun (s:(List aZ × Int))=>oF a s.1 s.2) ([],0)) fun r=>sV r
def zE (a:bZ) (c d e:Int):Option ((List dI) × (List aZ) × Int):=
 ob (aHG a ⟨c,d⟩ e) fun f=>
 if (f != 0) then (some ([],[],f)) else (ob (uA a) fun g=>
 ob (xP ⟨c,d⟩ a g [] e) fun b=>
 some (b.1,b.2.1,b.2.2))
def aFp (a b:dI):Option Bool:=
 if (a.Choice != b.Choice) then (some false) else (if (a.First != b.First) then (some false) else (if (a.Second != b.Second) then (some false) else (if (!(a.B == b.B)) then (some false) else (some true))))
def aBO:Option Bool:=
 some true
def wV (a b:(List dI)) (c:Int):Option (Int ⊕ (Unit ⊕ Bool)):=
 if (decide (c < (a.length:Int))) then (ob (ix a c) fun f=>
 ob (ix b c) fun g=>
 ob (aFp f g) fun h=>
 if (!h) then (some (.inr (.inr false))) else (some (.inl (wr (c+1))))) else (some (.inr (.inl ())))
def aBn (a b:(List dI)):Option Bool:=
 if ((a.length:Int) != (b.length:Int)) then (some false) else (ob (loop (fun (s:Int)=>wV a b s) 0) fun r=>match r with|.inl r=>aBO|.inr r=>some r)
def aBP:Option Bool:=
 some true
def wW (a b:(List Int)) (c:Int):Option (Int ⊕ (Unit ⊕ Bool)):=
 if (decide (c < (a.length:Int))) then (ob (ix a c) fun f=>
 ob (ix b c) fun g=>
 if (f != g) then (some (.inr (.inr false))) else (some (.inl (wr (c+1))))) else (some (.inr (.inl ())))
def aBo (a b:(List Int)):Option Bool:=
 if ((a.length:Int) != (b.length:Int)) then (some false) else (ob (loop (fun (s:Int)=>wW a b s) 0) fun r=>match r with|.inl r=>aBP|.inr r=>some r)
def aFq (a b:aZ):Option Bool:=
 if (a.Definition != b.Definition) then (some false) else (if (a.Part != b.Part) then (some false) else (ob (aBo a.Values b.Values) fun e=>
 if (!e) then (some false) else (some true)))
def aBQ:Option Bool:=
 some true
def wX (a b:(List aZ)) (c:Int):Option (Int ⊕ (Unit ⊕ Bool)):=
 if (decide (c < (a.length:Int))) then (ob (ix a c) fun f=>
 ob (ix b c) fun g=>
 ob (aFq f g) fun h=>
 if (!h) then (some (.inr (.inr false))) else (some (.inl (wr (c+1))))) else (some (.inr (.inl ())))
def aBp (a b:(List aZ)):Option Bool:=
 if ((a.length:Int) != (b.length:Int)) then (some false) else (ob (loop (fun (s:Int)=>wX a b s) 0) fun r=>match r with|.inl r=>aBQ|.inr r=>some r)
def aGX (a b:bS):Option Bool:=
 if (a.Kind != b.Kind) then (some false) else (if (a.Value != b.Value) then (some false) else (some true))
def aDl:Option Bool:=
 some true
def aAN (a b:(List bS)) (c:Int):Option (Int ⊕ (Unit ⊕ Bool)):=
 if (decide (c < (a.length:Int))) then (ob (ix a c) fun f=>
 ob (ix b c) fun g=>
 ob (aGX f g) fun h=>
 if (!h) then (some (.inr (.inr false))) else (some (.inl (wr (c+1))))) else (some (.inr (.inl ())))
def aHI (a b:(List bS)):Option Bool:=
 if ((a.length:Int) != (b.length:Int)) then (some false) else (ob (loop (fun (s:Int)=>aAN a b s) 0) fun r=>match r with|.inl r=>aDl|.inr r=>some r)
def aBR:Option Bool:=
 some true
def wY (a b:(List (List bS))) (c:Int):Option (Int ⊕ (Unit ⊕ Bool)):=
 if (decide (c < (a.length:Int))) then (ob (ix a c) fun f=>
 ob (ix b c) fun g=>
 ob (aHI f g) fun h=>
 if (!h) then (some (.inr (.inr false))) else (some (.inl (wr (c+1))))) else (some (.inr (.inl ())))
def aGe (a b:(List (List bS))):Option Bool:=
 if ((a.length:Int) != (b.length:Int)) then (some false) else (ob (loop (fun (s:Int)=>wY a b s) 0) fun r=>match r with|.inl r=>aBR|.inr r=>some r)
def aGY (a b:Part):Option Bool:=
 if (a.Kind != b.Kind) then (some false) else (if (a.Number != b.Number) then (some false) else (if (!(a.Name == b.Name)) then (some false) else (ob (aGe a.Arguments b.Arguments) fun e=>
 if (!e) then (some false) else (some true))))
def aDm:Option Bool:=
 some true
def aAO (a b:(List Part)) (c:Int):Option (Int ⊕ (Unit ⊕ Bool)):=
 if (decide (c < (a.length:Int))) then (ob (ix a c) fun f=>
 ob (ix b c) fun g=>
 ob (aGY f g) fun h=>
 if (!h) then (some (.inr (.inr false))) else (some (.inl (wr (c+1))))) else (some (.inr (.inl ())))
def aHJ (a b:(List Part)):Option Bool:=
 if ((a.length:Int) != (b.length:Int)) then (some false) else (ob (loop (fun (s:Int)=>aAO a b s) 0) fun r=>match r with|.inl r=>aDm|.inr r=>some r)
def uB (a b:Definition):Option Bool:=
 if (!(a.Name == b.Name)) then (some false) else (if (a.Parameters != b.Parameters) then (some false) else (ob (aHJ a.Body b.Body) fun e=>
 if (!e) then (some false) else (some true)))
def rB:Option Bool:=
 some true
def nI (a b:(List Definition)) (c:Int):Option (Int ⊕ (Unit ⊕ Bool)):=
 if (decide (c < (a.length:Int))) then (ob (ix a c) fun f=>
 ob (ix b c) fun g=>
 ob (uB f g) fun h=>
 if (!h) then (some (.inr (.inr false))) else (some (.inl (wr (c+1))))) else (some (.inr (.inl ())))
def xQ (a b:(List Definition)):Option Bool:=
 if ((a.length:Int) != (b.length:Int)) then (some false) else (ob (loop (fun (s:Int)=>nI a b s) 0) fun r=>match r with|.inl r=>rB|.inr r=>some r)
def wZ (a b:bT):Option Bool:=
 if (a.Definition != b.Definition) then (some false) else (ob (aBo a.Values b.Values) fun e=>
 if (!e) then (some false) else (some true))
def sW:Option Bool:=
 some true
def oG (a b:(List bT)) (c:Int):Option (Int ⊕ (Unit ⊕ Bool)):=
 if (decide (c < (a.length:Int))) then (ob (ix a c) fun f=>
 ob (ix b c) fun g=>
 ob (wZ f g) fun h=>
 if (!h) then (some (.inr (.inr false))) else (some (.inl (wr (c+1))))) else (some (.inr (.inl ())))
def aAP (a b:(List bT)):Option Bool:=
 if ((a.length:Int) != (b.length:Int)) then (some false) else (ob (loop (fun (s:Int)=>oG a b s) 0) fun r=>match r with|.inl r=>sW|.inr r=>some r)
def aCt (a b:bU):Option Bool:=
 if (!(a.Left == b.Left)) then (some false) else (if (!(a.Right == b.Right)) then (some false) else (if (!(a.Result == b.Result)) then (some false) else (some true)))
def xR:Option Bool:=
 some true
def rP (a b:(List bU)) (c:Int):Option (Int ⊕ (Unit ⊕ Bool)):=
 if (decide (c < (a.length:Int))) then (ob (ix a c) fun f=>
 ob (ix b c) fun g=>
 ob (aCt f g) fun h=>
 if (!h) then (some (.inr (.inr false))) else (some (.inl (wr (c+1))))) else (some (.inr (.inl ())))
def aDn (a b:(List bU)):Option Bool:=
 if ((a.length:Int) != (b.length:Int)) then (some false) else (ob (loop (fun (s:Int)=>rP a b s) 0) fun r=>match r with|.inl r=>xR|.inr r=>some r)
def aAQ:Option Bool:=
 some true
def uC (a b:(List bJ)) (c:Int):Option (Int ⊕ (Unit ⊕ Bool)):=
 if (decide (c < (a.length:Int))) then (ob (ix a c) fun f=>
 ob (ix b c) fun g=>
 if (!(f == g)) then (some (.inr (.inr false))) else (some (.inl (wr (c+1))))) else (some (.inr (.inl ())))
def zF (a b:(List bJ)):Option Bool:=
 if ((a.length:Int) != (b.length:Int)) then (some false) else (ob (loop (fun (s:Int)=>uC a b s) 0) fun r=>match r with|.inl r=>aAQ|.inr r=>some r)
def aDX (a b:bZ):Option Bool:=
 ob (xQ a.Definitions b.Definitions) fun e=>
 if (!e) then (some false) else (ob (aAP a.Components b.Components) fun f=>
 if (!f) then (some false) else (ob (aDn a.Meetings b.Meetings) fun g=>
 if (!g) then (some false) else (ob (zF a.Allowed b.Allowed) fun h=>
 if (!h) then (some false) else (ob (zF a.Hidden b.Hidden) fun i=>
 if (!i) then (some false) else (some true)))))
def xA (a:bJ):Option bJ:=
 ob (cat ([109]:bJ) a) fun b=>
 some b
def aBS (a:Int) (b:bJ):Option ((Int × bJ) ⊕ bJ):=
 if (decide (0 < a)) then (ob (rm a 10) fun c=>
 ob (cat ([(UInt8.ofInt (wr (48+c)))]:List UInt8) b) fun d=>
 ob (qu a 10) fun e=>
 some (.inl (e,d))) else (some (.inr b))
def kA (k:Int):Option bJ:=
 if (decide (k<=0)) then (some ([109,48]:bJ)) else (ob (loop (fun (s:(Int × bJ))=>aBS s.1 s.2) (k,([]:bJ))) fun r=>xA r)
def aAR (a:Int) (b:List bS):Option (Int × (List bS)):=
 some (a,b)
def uD (b:List bS) (c a:Int):Option ((List bS × Int × Int) ⊕ (Int × List bS)):=
 if (decide (a < (b.length:Int))) then (ob (ix b a) fun e=>
 ob (st b a (⟨c,e.Value⟩:bS)) fun d=>
 ob (ix d a) fun f=>
 ob (st d a (⟨f.Kind,wr (c+1)⟩:bS)) fun g=>
 some (.inl (g,wr ((wr (c+1))+1),wr (a+1)))) else (some (.inr (c,b)))
def aCu (a:(List bS)) (k:Int):Option (Int × (List bS)):=
 ob (loop (fun (s:(List bS × Int × Int))=>uD s.1 s.2.1 s.2.2) (a,k,0)) fun r=>aAR r.1 r.2
def xS (a:Int) (b:List (List bS)):Option (Int × (List (List bS))):=
 some (a,b)
def rQ (a:List (List bS)) (c b:Int):Option ((List (List bS) × Int × Int) ⊕ (Int × List (List bS))):=
 if (decide (b < (a.length:Int))) then (ob (ix a b) fun e=>
 ob (aCu e c) fun d=>
 ob (st a b d.2) fun f=>
 some (.inl (f,d.1,wr (b+1)))) else (some (.inr (c,a)))
def aAS (a:(List (List bS))) (k:Int):Option (Int × (List (List bS))):=
 ob (loop (fun (s:(List (List bS) × Int × Int))=>rQ s.1 s.2.1 s.2.2) (a,k,0)) fun r=>xS r.1 r.2
def aAT (a:Int) (b:List Part):Option (Int × (List Part)):=
 some (a,b)
def uE (c:List Part) (b a:Int):Option ((List Part × Int × Int) ⊕ (Int × List Part)):=
 if (decide (a < (c.length:Int))) then (ob (ix c a) fun e=>
 ob (st c a (⟨b,e.Number,e.Name,e.Arguments⟩:Part)) fun h=>
 ob (ix h a) fun f=>
 ob (st h a (⟨f.Kind,wr (b+1),f.Name,f.Arguments⟩:Part)) fun i=>
 ob (kA (wr ((wr (b+1))+1))) fun l=>
 ob (ix i a) fun g=>
 ob (st i a (⟨g.Kind,g.Number,l,g.Arguments⟩:Part)) fun j=>
 ob (ix j a) fun d=>
 ob (aAS d.Arguments (wr ((wr ((wr (b+1))+1))+1))) fun k=>
 ob (st j a (⟨d.Kind,d.Number,d.Name,k.2⟩:Part)) fun m=>
 some (.inl (m,k.1,wr (a+1)))) else (some (.inr (b,c)))
def aCv (a:(List Part)) (k:Int):Option (Int × (List Part)):=
 ob (loop (fun (s:(List Part × Int × Int))=>uE s.1 s.2.1 s.2.2) (a,k,0)) fun r=>aAT r.1 r.2
def oH (a:Int) (b:List Definition):Option (Int × (List Definition)):=
 some (a,b)
def lM (b:List Definition) (c a:Int):Option ((List Definition × Int × Int) ⊕ (Int × List Definition)):=
 if (decide (a < (b.length:Int))) then (ob (kA c) fun j=>
 ob (ix b a) fun e=>
 ob (st b a (⟨j,e.Parameters,e.Body⟩:Definition)) fun f=>
 ob (ix f a) fun g=>
 ob (st f a (⟨g.Name,wr (c+1),g.Body⟩:Definition)) fun h=>
 ob (ix h a) fun d=>
 ob (aCv d.Body (wr ((wr (c+1))+1))) fun i=>
 ob (st h a (⟨d.Name,d.Parameters,i.2⟩:Definition)) fun k=>
 some (.inl (k,i.1,wr (a+1)))) else (some (.inr (c,b)))
def oI (a:(List Definition)) (k:Int):Option (Int × (List Definition)):=
 ob (loop (fun (s:(List Definition × Int × Int))=>lM s.1 s.2.1 s.2.2) (a,k,0)) fun r=>oH r.1 r.2
def rR (a:Int) (b:List Int):Option (Int × (List Int)):=
 some (a,b)
def xT (a:List Int) (c b:Int):Option ((List Int × Int × Int) ⊕ (Int × List Int)):=
 if (decide (b < (a.length:Int))) then (ob (ix a b) fun e=>
 ob (st a b (c:Int)) fun d=>
 some (.inl (d,wr (c+1),wr (b+1)))) else (some (.inr (c,a)))
def vD (a:(List Int)) (k:Int):Option (Int × (List Int)):=
 ob (loop (fun (s:(List Int × Int × Int))=>xT s.1 s.2.1 s.2.2) (a,k,0)) fun r=>rR r.1 r.2
def oW (a:Int) (b:List bT):Option (Int × (List bT)):=
 some (a,b)
def mF (b:List bT) (c a:Int):Option ((List bT × Int × Int) ⊕ (Int × List bT)):=
 if (decide (a < (b.length:Int))) then (ob (ix b a) fun g=>
 ob (st b a (⟨c,g.Values⟩:bT)) fun d=>
 ob (ix d a) fun e=>
 ob (vD e.Values (wr (c+1))) fun f=>
 ob (st d a (⟨e.Definition,f.2⟩:bT)) fun h=>
 some (.inl (h,f.1,wr (a+1)))) else (some (.inr (c,b)))
def pZ (a:(List bT)) (k:Int):Option (Int × (List bT)):=
 ob (loop (fun (s:(List bT × Int × Int))=>mF s.1 s.2.1 s.2.2) (a,k,0)) fun r=>oW r.1 r.2
def sX (a:Int) (b:List bU):Option (Int × (List bU)):=
 some (a,b)
def oJ (c:List bU) (b a:Int):Option ((List bU × Int × Int) ⊕ (Int × List bU)):=
 if (decide (a < (c.length:Int))) then (ob (kA b) fun i=>
 ob (ix c a) fun d=>
 ob (st c a (⟨i,d.Right,d.Result⟩:bU)) fun e=>
 ob (kA (wr (b+1))) fun j=>
 ob (ix e a) fun f=>
 ob (st e a (⟨f.Left,j,f.Result⟩:bU)) fun g=>
 ob (kA (wr ((wr (b+1))+1))) fun k=>
 ob (ix g a) fun h=>
 ob (st g a (⟨h.Left,h.Right,k⟩:bU)) fun l=>
 some (.inl (l,wr ((wr ((wr (b+1))+1))+1),wr (a+1)))) else (some (.inr (b,c)))
def uF (a:(List bU)) (k:Int):Option (Int × (List bU)):=
 ob (loop (fun (s:(List bU × Int × Int))=>oJ s.1 s.2.1 s.2.2) (a,k,0)) fun r=>sX r.1 r.2
def qA (a:Int) (b:List bJ):Option (Int × (List bJ)):=
 some (a,b)
def vE (a:List bJ) (c b:Int):Option ((List bJ × Int × Int) ⊕ (Int × List bJ)):=
 if (decide (b < (a.length:Int))) then (ob (kA c) fun d=>
 ob (ix a b) fun f=>
 ob (st a b (d:bJ)) fun e=>
 some (.inl (e,wr (c+1),wr (b+1)))) else (some (.inr (c,a)))
def sK (a:(List bJ)) (k:Int):Option (Int × (List bJ)):=
 ob (loop (fun (s:(List bJ × Int × Int))=>vE s.1 s.2.1 s.2.2) (a,k,0)) fun r=>qA r.1 r.2
def aAU (f:(List Definition)) (g:(List bT)) (h:(List bU)) (i j:(List bJ)) (k:Int):Option (Int × (List Definition) × (List bT) × (List bU) × (List bJ) × (List bJ)):=
 ob (oI f k) fun a=>
 ob (pZ g a.1) fun b=>
 ob (uF h b.1) fun c=>
 ob (sK i c.1) fun d=>
 ob (sK j d.1) fun e=>
 some (e.1,a.2,b.2,c.2,d.2,e.2)
def xU (a:Int) (b:List dI):Option (Int × (List dI)):=
 some (a,b)
def rS (c:List dI) (b a:Int):Option ((List dI × Int × Int) ⊕ (Int × List dI)):=
 if (decide (a < (c.length:Int))) then (ob (ix c a) fun d=>
 ob (st c a (⟨b,d.First,d.Second,d.B⟩:dI)) fun h=>
 ob (ix h a) fun e=>
 ob (st h a (⟨e.Choice,wr (b+1),e.Second,e.B⟩:dI)) fun i=>
 ob (ix i a) fun f=>
 ob (st i a (⟨f.Choice,f.First,wr ((wr (b+1))+1),f.B⟩:dI)) fun j=>
 ob (kA (wr ((wr ((wr (b+1))+1))+1))) fun k=>
 ob (ix j a) fun g=>
 ob (st j a (⟨g.Choice,g.First,g.Second,k⟩:dI)) fun l=>
 some (.inl (l,wr ((wr ((wr ((wr (b+1))+1))+1))+1),wr (a+1)))) else (some (.inr (b,c)))
def aAV (a:(List dI)) (k:Int):Option (Int × (List dI)):=
 ob (loop (fun (s:(List dI × Int × Int))=>rS s.1 s.2.1 s.2.2) (a,k,0)) fun r=>xU r.1 r.2
def xV (a:Int) (b:List aZ):Option (Int × (List aZ)):=
 some (a,b)
def rT (b:List aZ) (c a:Int):Option ((List aZ × Int × Int) ⊕ (Int × List aZ)):=
 if (decide (a < (b.length:Int))) then (ob (ix b a) fun e=>
 ob (st b a (⟨c,e.Part,e.Values⟩:aZ)) fun f=>
 ob (ix f a) fun g=>
 ob (st f a (⟨g.Definition,wr (c+1),g.Values⟩:aZ)) fun h=>
 ob (ix h a) fun d=>
 ob (vD d.Values (wr ((wr (c+1))+1))) fun i=>
 ob (st h a (⟨d.Definition,d.Part,i.2⟩:aZ)) fun j=>
 some (.inl (j,i.1,wr (a+1)))) else (some (.inr (c,b)))
def aAW (a:(List aZ)) (k:Int):Option (Int × (List aZ)):=
 ob (loop (fun (s:(List aZ × Int × Int))=>rT s.1 s.2.1 s.2.2) (a,k,0)) fun r=>xV r.1 r.2
def xW (a:Int):Option Int:=
 some a
def rU (a:(List dI)) (b d:Int):Option ((Int × Int) ⊕ (Int ⊕ Int)):=
 if (decide (d < (a.length:Int))) then (ob (ix a d) fun c=>
 if (c.Choice != b) then (some (.inr (.inr (-1)))) else (if (c.First != (wr (b+1))) then (some (.inr (.inr (-1)))) else (if (c.Second != (wr ((wr (b+1))+1))) then (some (.inr (.inr (-1)))) else (ob (kA (wr ((wr ((wr (b+1))+1))+1))) fun f=>
 if (!(c.B == f)) then (some (.inr (.inr (-1)))) else (some (.inl (wr ((wr ((wr ((wr (b+1))+1))+1))+1),wr (d+1)))))))) else (some (.inr (.inl b)))
def vF (a:(List dI)) (k:Int):Option Int:=
 ob (loop (fun (s:(Int × Int))=>rU a s.1 s.2) (k,0)) fun r=>match r with|.inl r=>xW r|.inr r=>some r
def xX (a:Int):Option Int:=
 some a
def rV (a:(List Int)) (b c:Int):Option ((Int × Int) ⊕ (Int ⊕ Int)):=
 if (decide (c < (a.length:Int))) then (ob (ix a c) fun e=>
 if (e != b) then (some (.inr (.inr (-1)))) else (some (.inl (wr (b+1),wr (c+1))))) else (some (.inr (.inl b)))
def aAX (a:(List Int)) (k:Int):Option Int:=
 ob (loop (fun (s:(Int × Int))=>rV a s.1 s.2) (k,0)) fun r=>match r with|.inl r=>xX r|.inr r=>some r
def xY (a:Int):Option Int:=
 some a
def rW (a:(List aZ)) (b c:Int):Option ((Int × Int) ⊕ (Int ⊕ Int)):=
 if (decide (c < (a.length:Int))) then (ob (ix a c) fun d=>
 if (d.Definition != b) then (some (.inr (.inr (-1)))) else (if (d.Part != (wr (b+1))) then (some (.inr (.inr (-1)))) else (ob (aAX d.Values (wr ((wr (b+1))+1))) fun f=>
 if (decide (f < 0)) then (some (.inr (.inr (-1)))) else (some (.inl (f,wr (c+1))))))) else (some (.inr (.inl b)))
def vG (a:(List aZ)) (k:Int):Option Int:=
 ob (loop (fun (s:(Int × Int))=>rW a s.1 s.2) (k,0)) fun r=>match r with|.inl r=>xY r|.inr r=>some r
def jA (d:(Int × (List dI))) (a:(Int × (List aZ))) (e:Bool):Option Bool:=
 if e then (some false) else (ob (vF d.2 1) fun b=>
 if (decide (b < 0)) then (some false) else (ob (vG a.2 b) fun c=>
 if (decide (c < 0)) then (some false) else (if (c != a.1) then (some false) else (some true))))
def iB (h:bZ) (i j k:Int) (c e:((List dI) × (List aZ) × Int)) (l:Bool):Option Bool:=
 if l then (some false) else (ob (aAV e.1 1) fun a=>
 ob (aAW e.2.1 a.1) fun b=>
 ob (vF a.2 1) fun f=>
 if (decide (f < 0)) then (some false) else (ob (vG b.2 f) fun g=>
 if (decide (g < 0)) then (some false) else (if (g != b.1) then (some false) else (ob (qV h) fun m=>
 ob (zE m i j k) fun d=>
 ob (aBn d.1 c.1) fun n=>
 if (!n) then (jA a b true) else (ob (aBp d.2.1 c.2.1) fun o=>
 if (!o) then (jA a b true) else (jA a b (d.2.2 != c.2.2)))))))
def jB (d:bZ) (e f g:Int) (a:((List dI) × (List aZ) × Int)) (c:bZ) (b:((List dI) × (List aZ) × Int)) (h:Bool):Option Bool:=
 if h then (some false) else (ob (qV d) fun i=>
 ob (aDX c i) fun j=>
 if (!j) then (some false) else (ob (aAU c.Definitions c.Components c.Meetings c.Allowed c.Hidden 1) fun k=>
 if (decide (k.1 < 0)) then (iB d e f g a b true) else (ob (aBn b.1 a.1) fun l=>
 if (!l) then (iB d e f g a b true) else (ob (aBp b.2.1 a.2.1) fun m=>
 if (!m) then (iB d e f g a b true) else (iB d e f g a b (b.2.2 != a.2.2))))))
def rC (a:bZ) (d e f:Int):Option Bool:=
 ob (aDI a 1048576) fun i=>
 if (decide (i < 0)) then (some true) else (ob (qV a) fun g=>
 ob (aCp ⟨g.Definitions,g.Components,g.Meetings,g.Allowed,g.Hidden⟩ d e f) fun b=>
 ob (qV a) fun h=>
 ob (zE h d e f) fun c=>
 ob (aBn c.1 b.1) fun j=>
 if (!j) then (jB a d e f b h c true) else (ob (aBp c.2.1 b.2.1) fun k=>
 if (!k) then (jB a d e f b h c true) else (jB a d e f b h c (c.2.2 != b.2.2))))
end
end Gv
