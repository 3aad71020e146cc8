/- Models of the functions, printed by program off their code. Plain Lean. -/
import Derived.Test.YtmlemmpanilhjaaGreatDoorJLM
set_option linter.all false
namespace Gv
noncomputable section
def aDY (a:Bool):Option Bool:=
 some a
def jD (n low b:Int):Option Bool:=
 if (decide (low<=n)) then (aDY (decide (n<=b))) else (aDY false)
def aAI (n:Int):Option Bool:=
 ob (jD n 0 63) fun b=>
 some b
def yO (n:Int):Option Bool:=
 ob (aAI n) fun b=>
 some (!b)
def gS:Option Int:=
 some (-1)
def fO (b:(List Int)) (a:Int):Option (Int ⊕ (Unit ⊕ Int)):=
 if (decide (a < (b.length:Int))) then (ob (ix b a) fun c=>
 ob (yO c) fun d=>
 if d then (some (.inr (.inr a))) else (some (.inl (wr (a+1))))) else (some (.inr (.inl ())))
def iE (b:(List Int)):Option Int:=
 ob (loop (fun (s:Int)=>fO b s) 0) fun r=>match r with|.inl r=>gS|.inr r=>some r
def gT (a:(List Int)):Option Bool:=
 ob (iE a) fun b=>
 some (decide (0<=b))
def xO (a:(List Int)):Option Bool:=
 ob (gT a) fun b=>
 some (!b)
def aCi (a:Bool):Option Bool:=
 some a
def aHc (c:UInt8):Option Bool:=
 if (decide (48<=(c.toNat:Int))) then (aCi (decide ((c.toNat:Int)<=57))) else (aCi false)
def aDZ (a:Bool):Option Bool:=
 some a
def aBy (a:bL):Option Bool:=
 if (decide (1<=(a.length:Int))) then (aDZ (decide ((a.length:Int)<=10))) else (aDZ false)
def xP (a:Int) (b:Bool):Option (Int ⊕ (Unit ⊕ Bool)):=
 if b then (some (.inr (.inr false))) else (some (.inl (wr (a+1))))
def qF (b:bL) (a:Int) (c:Bool):Option (Int ⊕ (Unit ⊕ Bool)):=
 if (!c) then (if (a == 0) then (xP a true) else (ob (ix b a) fun d=>
 ob (aHc d) fun e=>
 xP a (!e))) else (xP a false)
def xQ (a:bL) (b:Int):Option (Int ⊕ (Unit ⊕ Bool)):=
 if (decide (b < (a.length:Int))) then (ob (ix a b) fun c45=>
 if (decide (97<=(c45.toNat:Int))) then (qF a b (decide ((c45.toNat:Int)<=122))) else (qF a b false)) else (some (.inr (.inl ())))
def aEC (b:bL):Option Bool:=
 ob (loop (fun (s:Int)=>xQ b s) 0) fun r=>match r with|.inl r=>aBy b|.inr r=>some r
def vG (a:Bool):Option Bool:=
 some a
def oL (a:bL):Option Bool:=
 ob (aEC a) fun b=>
 if b then (vG (!(a == ([116,97,117]:bL)))) else (vG false)
def aBz (a:bL) (b:List bL):Option bL:=
 ob (aOo b a) fun c=>
 some c
def aBA (c:(List Int)) (b:List bL) (a:Int):Option ((List bL × Int) ⊕ (List bL)):=
 if (decide (a < (c.length:Int))) then (ob (ix c a) fun d=>
 ob (tV d) fun e=>
 ob (ix b a) fun g=>
 ob (st b a (e:bL)) fun f=>
 some (.inl (f,wr (a+1)))) else (some (.inr b))
def aDh (a:(List Int)) (b:bL):Option bL:=
 ob (mkz (a.length:Int) ([]:bL)) fun c=>
 ob (loop (fun (s:(List bL × Int))=>aBA a s.1 s.2) (c,0)) fun r=>aBz b r
def tW (a:bL) (b:(List Int)) (c:Bool):Option (bL × Bool):=
 if c then (some (([]:bL),false)) else (if ((b.length:Int) == 0) then (some (a,true)) else (ob (cat a ([40]:bL)) fun d=>
 ob (aDh b ([44]:bL)) fun e=>
 ob (cat d e) fun f=>
 ob (cat f ([41]:bL)) fun g=>
 some (g,true)))
def aAJ (b:bL) (a:(List Int)):Option (bL × Bool):=
 if (b == ([116,97,117]:bL)) then (some (([116,97,117]:bL),(a.length:Int) == 0)) else (ob (oL b) fun c=>
 if (!c) then (tW b a true) else (if (decide (2 < (a.length:Int))) then (tW b a true) else (ob (xO a) fun d=>
 tW b a (!d))))
def tX (a:List Int):Option ((List Int) × Bool):=
 some (a,true)
def oW (b:(List bL)) (c:List Int) (a:Int):Option ((List Int × Int) ⊕ (List Int ⊕ ((List Int) × Bool))):=
 if (decide (a < (b.length:Int))) then (ob (ix b a) fun e=>
 ob (vA e) fun d=>
 if (!d.2) then (some (.inr (.inr ([],false)))) else (ob (apd c ([d.1]:List Int)) fun f=>
 some (.inl (f,wr (a+1))))) else (some (.inr (.inl c)))
def vH (b:(List bL)):Option ((List Int) × Bool):=
 ob (loop (fun (s:(List Int × Int))=>oW b s.1 s.2) ([],0)) fun r=>match r with|.inl r=>tX r|.inr r=>some r
def fX (a:Bool):Option Bool:=
 some a
def iK (a b:bL):Option Bool:=
 if (decide ((b.length:Int)<=(a.length:Int))) then (ob (slc a (wr ((a.length:Int) - (b.length:Int))) (a.length:Int)) fun c=>
 fX (c == b)) else (fX false)
def iF (a b:bL):Option bL:=
 ob (iK a b) fun c=>
 if c then (ob (slc a 0 (wr ((a.length:Int) - (b.length:Int)))) fun d=>
 some d) else (some a)
def lK (a b:bL):Option bL:=
 ob (iF a b) fun c=>
 some c
def oX (a:(bL × bL × Bool)) (b:List Int) (c:Bool):Option (bL × (List Int) × Bool):=
 if c then (some (([]:bL),[],false)) else (some (a.1,b,true))
def oY (d:bL) (a:(bL × bL × Bool)) (b:List Int):Option (bL × (List Int) × Bool):=
 ob (aAJ a.1 b) fun c=>
 if (!c.2) then (oX a b true) else (oX a b (!(c.1 == d)))
def aEa (b:bL):Option (bL × (List Int) × Bool):=
 ob (l_Cut b ([40]:bL)) fun a=>
 if a.2.2 then (ob (lK a.2.1 ([41]:bL)) fun d=>
 ob (aIz d ([44]:bL)) fun e=>
 ob (vH e) fun c=>
 if (!c.2) then (some (([]:bL),[],false)) else (oY b a c.1)) else (oY b a [])
def aED (a:bL):Option Bool:=
 ob (aEa a) fun b=>
 some b.2.2
def aCK (a:(List bS)) (c:Int):Option Int:=
 if (decide (wr (c - (a.length:Int)) < 0)) then (some (-1)) else (some (wr (c - (a.length:Int))))
def aBb (a:Int):Option Int:=
 some a
def vI (a:(List (List bS))) (d b:Int):Option ((Int × Int) ⊕ (Int ⊕ Int)):=
 if (decide (b < (a.length:Int))) then (ob (ix a b) fun f=>
 ob (aCK f d) fun e=>
 if (decide (e < 0)) then (some (.inr (.inr (-1)))) else (some (.inl (e,wr (b+1))))) else (some (.inr (.inl d)))
def aFo (a:(List (List bS))) (d:Int):Option Int:=
 if (decide (wr (d - (a.length:Int)) < 0)) then (some (-1)) else (ob (loop (fun (s:(Int × Int))=>vI a s.1 s.2) (wr (d - (a.length:Int)),0)) fun r=>match r with|.inl r=>aBb r|.inr r=>some r)
def aEE (a:Part) (c:Int):Option Int:=
 if (decide (wr (c - (a.Name.length:Int)) < 0)) then (some (-1)) else (ob (aFo a.Arguments (wr (c - (a.Name.length:Int)))) fun d=>
 if (decide (d < 0)) then (some (-1)) else (some d))
def aCj (a:Int):Option Int:=
 some a
def yP (a:(List Part)) (d b:Int):Option ((Int × Int) ⊕ (Int ⊕ Int)):=
 if (decide (b < (a.length:Int))) then (ob (ix a b) fun f=>
 ob (aEE f d) fun e=>
 if (decide (e < 0)) then (some (.inr (.inr (-1)))) else (some (.inl (e,wr (b+1))))) else (some (.inr (.inl d)))
def aHd (a:(List Part)) (d:Int):Option Int:=
 if (decide (wr (d - (a.length:Int)) < 0)) then (some (-1)) else (ob (loop (fun (s:(Int × Int))=>yP a s.1 s.2) (wr (d - (a.length:Int)),0)) fun r=>match r with|.inl r=>aCj r|.inr r=>some r)
def oZ (a:Definition) (c:Int):Option Int:=
 if (decide (wr (c - (a.Name.length:Int)) < 0)) then (some (-1)) else (ob (aHd a.Body (wr (c - (a.Name.length:Int)))) fun d=>
 if (decide (d < 0)) then (some (-1)) else (some d))
def qL (a:Int):Option Int:=
 some a
def mU (a:(List Definition)) (d b:Int):Option ((Int × Int) ⊕ (Int ⊕ Int)):=
 if (decide (b < (a.length:Int))) then (ob (ix a b) fun f=>
 ob (oZ f d) fun e=>
 if (decide (e < 0)) then (some (.inr (.inr (-1)))) else (some (.inl (e,wr (b+1))))) else (some (.inr (.inl d)))
def wM (a:(List Definition)) (d:Int):Option Int:=
 if (decide (wr (d - (a.length:Int)) < 0)) then (some (-1)) else (ob (loop (fun (s:(Int × Int))=>mU a s.1 s.2) (wr (d - (a.length:Int)),0)) fun r=>match r with|.inl r=>qL r|.inr r=>some r)
def aFp (a:(List Int)) (c:Int):Option Int:=
 if (decide (wr (c - (a.length:Int)) < 0)) then (some (-1)) else (some (wr (c - (a.length:Int))))
def rM (a:bU) (d:Int):Option Int:=
 ob (aFp a.Values d) fun b=>
 if (decide (b < 0)) then (some (-1)) else (some b)
def rX (a:Int):Option Int:=
 some a
def nW (a:(List bU)) (d b:Int):Option ((Int × Int) ⊕ (Int ⊕ Int)):=
 if (decide (b < (a.length:Int))) then (ob (ix a b) fun f=>
 ob (rM f d) fun e=>
 if (decide (e < 0)) then (some (.inr (.inr (-1)))) else (some (.inl (e,wr (b+1))))) else (some (.inr (.inl d)))
def yQ (a:(List bU)) (d:Int):Option Int:=
 if (decide (wr (d - (a.length:Int)) < 0)) then (some (-1)) else (ob (loop (fun (s:(Int × Int))=>nW a s.1 s.2) (wr (d - (a.length:Int)),0)) fun r=>match r with|.inl r=>rX r|.inr r=>some r)
def xR (a:cB) (c:Int):Option Int:=
 if (decide (wr (c - (a.Left.length:Int)) < 0)) then (some (-1)) else (if (decide (wr ((wr (c - (a.Left.length:Int))) - (a.Right.length:Int)) < 0)) then (some (-1)) else (if (decide (wr ((wr ((wr (c - (a.Left.length:Int))) - (a.Right.length:Int))) - (a.Result.length:Int)) < 0)) then (some (-1)) else (some (wr ((wr ((wr (c - (a.Left.length:Int))) - (a.Right.length:Int))) - (a.Result.length:Int))))))
def wN (a:Int):Option Int:=
 some a
def qY (a:(List cB)) (d b:Int):Option ((Int × Int) ⊕ (Int ⊕ Int)):=
 if (decide (b < (a.length:Int))) then (ob (ix a b) fun f=>
 ob (xR f d) fun e=>
 if (decide (e < 0)) then (some (.inr (.inr (-1)))) else (some (.inl (e,wr (b+1))))) else (some (.inr (.inl d)))
def aCk (a:(List cB)) (d:Int):Option Int:=
 if (decide (wr (d - (a.length:Int)) < 0)) then (some (-1)) else (ob (loop (fun (s:(Int × Int))=>qY a s.1 s.2) (wr (d - (a.length:Int)),0)) fun r=>match r with|.inl r=>wN r|.inr r=>some r)
def yR (a:Int):Option Int:=
 some a
def sM (a:(List bL)) (b c:Int):Option ((Int × Int) ⊕ (Int ⊕ Int)):=
 if (decide (c < (a.length:Int))) then (ob (ix a c) fun e=>
 if (decide (wr (b - (e.length:Int)) < 0)) then (some (.inr (.inr (-1)))) else (some (.inl (wr (b - (e.length:Int)),wr (c+1))))) else (some (.inr (.inl b)))
def aBB (a:(List bL)) (d:Int):Option Int:=
 if (decide (wr (d - (a.length:Int)) < 0)) then (some (-1)) else (ob (loop (fun (s:(Int × Int))=>sM a s.1 s.2) (wr (d - (a.length:Int)),0)) fun r=>match r with|.inl r=>yR r|.inr r=>some r)
def aDi (a:cW) (h:Int):Option Int:=
 ob (wM a.Definitions h) fun c=>
 if (decide (c < 0)) then (some (-1)) else (ob (yQ a.Components c) fun d=>
 if (decide (d < 0)) then (some (-1)) else (ob (aCk a.Meetings d) fun e=>
 if (decide (e < 0)) then (some (-1)) else (ob (aBB a.Allowed e) fun f=>
 if (decide (f < 0)) then (some (-1)) else (ob (aBB a.Hidden f) fun g=>
 if (decide (g < 0)) then (some (-1)) else (some g)))))
def aFq (a:Bool):Option Bool:=
 some a
def lQ (n low b:Int):Option Bool:=
 if (decide (low<=n)) then (aFq (decide (n<=b))) else (aFq false)
def aBc (a:Bool):Option Bool:=
 some a
def aDj (c:UInt8):Option Bool:=
 if (decide (97<=(c.toNat:Int))) then (aBc (decide ((c.toNat:Int)<=122))) else (aBc false)
def aBd (a:Bool):Option Bool:=
 some a
def aDk (c:UInt8):Option Bool:=
 if (decide (48<=(c.toNat:Int))) then (aBd (decide ((c.toNat:Int)<=57))) else (aBd false)
def yS:Option Bool:=
 some true
def yT (a:Int) (b:Bool):Option (Int ⊕ (Unit ⊕ Bool)):=
 if b then (some (.inr (.inr false))) else (some (.inl (wr (a+1))))
def yU (b:bL) (a:Int):Option (Int ⊕ (Unit ⊕ Bool)):=
 if (decide (a < (b.length:Int))) then (ob (ix b a) fun c=>
 ob (aDj c) fun d=>
 if (!d) then (ob (aDk c) fun e=>
 yT a (!e)) else (yT a false)) else (some (.inr (.inl ())))
def qM (b:bL) (c:Bool):Option Bool:=
 if c then (some false) else (ob (loop (fun (s:Int)=>yU b s) 0) fun r=>match r with|.inl r=>yS|.inr r=>some r)
def xS (a:bL):Option Bool:=
 if (a == ([]:bL)) then (qM a true) else (if (decide (10 < (a.length:Int))) then (qM a true) else (ob (ix a 0) fun b=>
 ob (aDj b) fun c=>
 qM a (!c)))
def pA (p:Part) (b:Bool):Option Int:=
 if b then (some 1) else (if (p.Kind == 2) then (some 2) else (some 0))
def xT (p:Part):Option Int:=
 if (p.Kind == 1) then (pA p (p.Kind == 1)) else (if (p.Kind == 3) then (pA p (p.Kind == 3)) else (pA p (p.Kind == 4)))
def aBe (a:Int):Option Bool:=
 some (a == 0)
def vJ (c:(List Part)) (a b:Int):Option ((Int × Int) ⊕ (Int ⊕ Bool)):=
 if (decide (b < (c.length:Int))) then (if (a == 0) then (some (.inr (.inr false))) else (ob (ix c b) fun d=>
 ob (xT d) fun e=>
 some (.inl (wr (a+(wr (e - 1))),wr (b+1))))) else (some (.inr (.inl a)))
def vK (b:(List Part)) (c:Bool):Option Bool:=
 if c then (some false) else (ob (loop (fun (s:(Int × Int))=>vJ b s.1 s.2) (1,0)) fun r=>match r with|.inl r=>aBe r|.inr r=>some r)
def aDl (a:(List Part)):Option Bool:=
 if ((a.length:Int) == 0) then (vK a true) else (vK a (decide (20 < (a.length:Int))))
def tY (a:Bool):Option Bool:=
 some a
def yV (a:Bool):Option Bool:=
 some a
def yW (a:Bool):Option Bool:=
 some a
def yX (p:Part) (b:Bool):Option Bool:=
 if b then (if (p.Number == 0) then (if (p.Name == ([]:bL)) then (tY ((p.Arguments.length:Int) == 0)) else (tY false)) else (tY false)) else (if (p.Kind == 1) then (some (p.Number == 0)) else (if (p.Kind == 3) then (if (p.Number == 0) then (yV (p.Name == ([]:bL))) else (yV false)) else (if (p.Kind == 4) then (if (p.Name == ([]:bL)) then (yW ((p.Arguments.length:Int) == 0)) else (yW false)) else (if (p.Kind == 5) then (some (p.Name == ([]:bL))) else (some false)))))
def aEF (p:Part):Option Bool:=
 if (p.Kind == 0) then (yX p (p.Kind == 0)) else (yX p (p.Kind == 2))
def aBC (a:Int):Option Int:=
 some a
def aEb (c:(List Part)) (a b:Int):Option ((Int × Int) ⊕ Int):=
 if (decide (0 < b)) then (ob (ix c a) fun d=>
 ob (xT d) fun e=>
 some (.inl (wr (a+1),wr (b+(wr (e - 1)))))) else (some (.inr a))
def aEG (a:(List Part)) (b:Int):Option Int:=
 ob (loop (fun (s:(Int × Int))=>aEb a s.1 s.2) (b,1)) fun r=>aBC r
def aBf (a:Int):Option Int:=
 some a
def vL (a b:Int):Option ((Int × Int) ⊕ Int):=
 some (.inl (b,wr (a+1)))
def vM (a b:Int) (c:Bool):Option ((Int × Int) ⊕ Int):=
 if c then (vL b (wr (a+1))) else (vL b a)
def lD (d:Definition) (e b a:Int):Option ((Int × Int) ⊕ Int):=
 if (decide (a < e)) then (ob (ix d.Body a) fun f=>
 if (f.Kind == 4) then (ob (aEG d.Body a) fun g=>
 vM b a (decide (e < g))) else (vM b a false)) else (some (.inr b))
def aAK (d:Definition) (b:Int):Option Int:=
 ob (loop (fun (s:(Int × Int))=>lD d b s.1 s.2) (d.Parameters,0)) fun r=>aBf r
def aEH (t:bS) (b:Int):Option Bool:=
 if (t.Kind == 0) then (ob (lQ t.Value 0 63) fun c=>
 some c) else (if (t.Kind == 1) then (ob (lQ t.Value 0 (wr (b - 1))) fun d=>
 some d) else (if (t.Kind == 2) then (ob (lQ t.Value 0 8) fun e=>
 some e) else (if (t.Kind == 3) then (some (t.Value == 0)) else (some false))))
def aAL (t:bS):Option Int:=
 if (t.Kind == 2) then (some 2) else (if (t.Kind == 3) then (some 1) else (some 0))
def aFr (a:Int):Option Bool:=
 some (a == 0)
def aDm (e:(List bS)) (c a:Int) (d:Bool):Option ((Int × Int) ⊕ (Int ⊕ Bool)):=
 if d then (some (.inr (.inr false))) else (ob (ix e a) fun f=>
 ob (aAL f) fun g=>
 some (.inl (wr (c+(wr (g - 1))),wr (a+1))))
def aDn (e:(List bS)) (d b c:Int):Option ((Int × Int) ⊕ (Int ⊕ Bool)):=
 if (decide (c < (e.length:Int))) then (if (b == 0) then (aDm e b c true) else (ob (ix e c) fun f=>
 ob (aEH f d) fun g=>
 aDm e b c (!g))) else (some (.inr (.inl b)))
def aIJ (e:(List bS)) (c d:Int):Option Bool:=
 if (decide (d < (e.length:Int))) then (some false) else (ob (loop (fun (s:(Int × Int))=>aDn e c s.1 s.2) (1,0)) fun r=>match r with|.inl r=>aFr r|.inr r=>some r)
def sO:Option Int:=
 some 0
def pB (b:Part) (c a:Int):Option (Int ⊕ (Unit ⊕ Int)):=
 if (decide (a < (b.Arguments.length:Int))) then (ob (ix b.Arguments a) fun d=>
 ob (aIJ d c 15) fun e=>
 if (!e) then (some (.inr (.inr 8))) else (some (.inl (wr (a+1))))) else (some (.inr (.inl ())))
def pC (b:Part) (c:Int) (d:Bool):Option Int:=
 if d then (some 7) else (ob (loop (fun (s:Int)=>pB b c s) 0) fun r=>match r with|.inl r=>sO|.inr r=>some r)
def mV (d:Definition) (e:Int) (a:Part) (f:Bool):Option Int:=
 if f then (some 6) else (ob (aAK d e) fun b=>
 if (a.Kind == 4) then (pC a b (decide (6<=b))) else (pC a b false))
def jZ (d:Definition) (a:Int) (c:Part):Option Int:=
 if (c.Kind == 5) then (if (a == 0) then (mV d a c true) else (ob (ix d.Body (wr (a - 1))) fun e=>
 mV d a c (e.Kind != 1))) else (mV d a c false)
def pD (d:Definition) (b:Int) (c:Part) (e:Bool):Option Int:=
 if e then (some 5) else (jZ d b c)
def kA (e:(List Definition)) (d:Definition) (c:Int) (a:Part) (f:Bool):Option Int:=
 if f then (some 4) else (if (a.Kind == 1) then (if (decide (2 < (a.Arguments.length:Int))) then (pD d c a true) else (if (decide (0 < (a.Arguments.length:Int))) then (pD d c a (a.Name == ([116,97,117]:bL))) else (pD d c a false))) else (if (a.Kind == 3) then (if ((a.Arguments.length:Int) != 1) then (some 5) else (jZ d c a)) else (if (a.Kind == 5) then (ob (ix e a.Number) fun g=>
 if ((a.Arguments.length:Int) != g.Parameters) then (some 5) else (jZ d c a)) else (jZ d c a))))
def pE (b:(List Definition)) (d:Definition) (e:Int) (a:Part) (f:Bool):Option Int:=
 if f then (some 3) else (if (a.Kind == 4) then (ob (lQ a.Number 1 7) fun g=>
 if (!g) then (kA b d e a true) else (if (a.Kind == 5) then (ob (lQ a.Number 0 (wr ((b.length:Int) - 1))) fun h=>
 kA b d e a (!h)) else (kA b d e a false))) else (if (a.Kind == 5) then (ob (lQ a.Number 0 (wr ((b.length:Int) - 1))) fun i=>
 kA b d e a (!i)) else (kA b d e a false)))
def xU (e:(List Definition)) (d:Definition) (c:Int):Option Int:=
 ob (ix d.Body c) fun a=>
 ob (aEF a) fun f=>
 if (!f) then (some 2) else (if (a.Kind == 1) then (ob (xS a.Name) fun g=>
 pE e d c a (!g)) else (pE e d c a false))
def aCl:Option (Int × Int):=
 some (0,0)
def tZ (e:(List Definition)) (d:Definition) (a:Int):Option (Int ⊕ (Unit ⊕ (Int × Int))):=
 if (decide (a < (d.Body.length:Int))) then (ob (xU e d a) fun c=>
 if (decide (0 < c)) then (some (.inr (.inr (a,c)))) else (some (.inl (wr (a+1))))) else (some (.inr (.inl ())))
def aCL (c:(List Definition)) (d:Definition):Option (Int × Int):=
 ob (aDl d.Body) fun e=>
 if (!e) then (some (0,1)) else (ob (loop (fun (s:Int)=>tZ c d s) 0) fun r=>match r with|.inl r=>aCl|.inr r=>some r)
def aCm:Option Bool:=
 some true
def yY (a:(List Definition)) (b:Int):Option (Int ⊕ (Unit ⊕ Bool)):=
 if (decide (b < (a.length:Int))) then (ob (ix a b) fun c=>
 ob (aCL a c) fun d=>
 if (decide (0 < d.2)) then (some (.inr (.inr false))) else (some (.inl (wr (b+1))))) else (some (.inr (.inl ())))
def uA (b:(List Definition)):Option Bool:=
 ob (loop (fun (s:Int)=>yY b s) 0) fun r=>match r with|.inl r=>aCm|.inr r=>some r
def aCn (a:Int):Option (Int ⊕ (Unit ⊕ Bool)):=
 some (.inl (wr (a+1)))
def uB (a:Int):Option (Int ⊕ (Unit ⊕ Bool)):=
 aCn a
def yZ (b:(List Definition)) (c a:Int):Option (Int ⊕ (Unit ⊕ Bool)):=
 if (decide (a < c)) then (ob (ix b a) fun d=>
 ob (ix b c) fun e=>
 if (d.Name == e.Name) then (some (.inr (.inr false))) else (some (.inl (wr (a+1))))) else (some (.inr (.inl ())))
def zD (c:(List Definition)) (b:Int) (d:Bool):Option (Int ⊕ (Unit ⊕ Bool)):=
 if d then (some (.inr (.inr false))) else (ob (loop (fun (s:Int)=>yZ c b s) 0) fun r=>match r with|.inl r=>uB b|.inr r=>some (.inr (.inr r)))
def zF (a:(List Definition)) (b:Int):Option (Int ⊕ (Unit ⊕ Bool)):=
 if (decide (b < (a.length:Int))) then (ob (ix a b) fun c=>
 ob (xS c.Name) fun d=>
 if (!d) then (zD a b true) else (ob (lQ c.Parameters 0 3) fun e=>
 zD a b (!e))) else (some (.inr (.inl ())))
def uC (b:(List Definition)) (c:Bool):Option Bool:=
 if c then (some false) else (ob (loop (fun (s:Int)=>zF b s) 0) fun r=>match r with|.inl r=>uA b|.inr r=>some r)
def aAM (a:(List Definition)):Option Bool:=
 if ((a.length:Int) == 0) then (uC a true) else (uC a (decide (4 < (a.length:Int))))
def aCo:Option Bool:=
 some true
def zH (b:(List Int)) (a:Int):Option (Int ⊕ (Unit ⊕ Bool)):=
 if (decide (a < (b.length:Int))) then (ob (ix b a) fun c=>
 ob (lQ c 0 63) fun d=>
 if (!d) then (some (.inr (.inr false))) else (some (.inl (wr (a+1))))) else (some (.inr (.inl ())))
def aEI (b:(List Int)):Option Bool:=
 ob (loop (fun (s:Int)=>zH b s) 0) fun r=>match r with|.inl r=>aCo|.inr r=>some r
def qN:Option Bool:=
 some true
def mW (a:Int) (b:Bool):Option (Int ⊕ (Unit ⊕ Bool)):=
 if b then (some (.inr (.inr false))) else (some (.inl (wr (a+1))))
def mX (a:cW) (b:Int):Option (Int ⊕ (Unit ⊕ Bool)):=
 if (decide (b < (a.Components.length:Int))) then (ob (ix a.Components b) fun c=>
 ob (lQ c.Definition 0 (wr ((a.Definitions.length:Int) - 1))) fun d=>
 if (!d) then (some (.inr (.inr false))) else (ob (ix a.Definitions c.Definition) fun e=>
 if ((c.Values.length:Int) != e.Parameters) then (mW b true) else (ob (aEI c.Values) fun f=>
 mW b (!f)))) else (some (.inr (.inl ())))
def mY (b:cW) (c:Bool):Option Bool:=
 if c then (some false) else (ob (loop (fun (s:Int)=>mX b s) 0) fun r=>match r with|.inl r=>qN|.inr r=>some r)
def qZ (a:cW):Option Bool:=
 if ((a.Components.length:Int) == 0) then (mY a true) else (mY a (decide (3 < (a.Components.length:Int))))
def sP (a:Bool):Option Bool:=
 some a
def nX (a:bL):Option Bool:=
 ob (xS a) fun b=>
 if b then (sP (!(a == ([116,97,117]:bL)))) else (sP false)
def uD:Option Bool:=
 some true
def uE (a:Int):Option (Int ⊕ (Unit ⊕ Bool)):=
 some (.inl (wr (a+1)))
def pF (a:Int):Option (Int ⊕ (Unit ⊕ Bool)):=
 uE a
def pG (a:Int) (b:Bool):Option (Int ⊕ (Unit ⊕ Bool)):=
 if b then (some (.inr (.inr false))) else (some (.inl (wr (a+1))))
def pH (b:(List cB)) (c:cB) (a:Int):Option (Int ⊕ (Unit ⊕ Bool)):=
 if (decide (a < (b.length:Int))) then (ob (ix b a) fun d=>
 if (d.Left == c.Result) then (pG a true) else (pG a (d.Right == c.Result))) else (some (.inr (.inl ())))
def jR (b:(List cB)) (c:Int) (d:cB) (e:Bool):Option (Int ⊕ (Unit ⊕ Bool)):=
 if e then (some (.inr (.inr false))) else (ob (loop (fun (s:Int)=>pH b d s) 0) fun r=>match r with|.inl r=>pF c|.inr r=>some (.inr (.inr r)))
def jS (c:(List cB)) (b:Int) (a:cB) (e:Bool):Option (Int ⊕ (Unit ⊕ Bool)):=
 if e then (some (.inr (.inr false))) else (if (decide (0 < b)) then (ob (ix c (wr (b - 1))) fun d=>
 if (!(lE d.Left a.Left||d.Left == a.Left)) then (jR c b a true) else (if (d.Left == a.Left) then (jR c b a (!lE d.Right a.Right)) else (jR c b a false))) else (jR c b a false))
def mN (b:(List cB)) (c:Int):Option (Int ⊕ (Unit ⊕ Bool)):=
 if (decide (c < (b.length:Int))) then (ob (ix b c) fun a=>
 ob (nX a.Left) fun d=>
 if (!d) then (jS b c a true) else (ob (nX a.Right) fun e=>
 if (!e) then (jS b c a true) else (ob (nX a.Result) fun f=>
 if (!f) then (jS b c a true) else (jS b c a (!(lE a.Left a.Right||a.Left == a.Right)))))) else (some (.inr (.inl ())))
def vN (b:(List cB)):Option Bool:=
 if (decide (6 < (b.length:Int))) then (some false) else (ob (loop (fun (s:Int)=>mN b s) 0) fun r=>match r with|.inl r=>uD|.inr r=>some r)
def wO:Option Bool:=
 some true
def rA (b:(List bL)) (a:Int):Option (Int ⊕ (Unit ⊕ Bool)):=
 if (decide (a < (b.length:Int))) then (ob (ix b a) fun c=>
 ob (nX c) fun d=>
 if (!d) then (some (.inr (.inr false))) else (some (.inl (wr (a+1))))) else (some (.inr (.inl ())))
def zJ (b:(List bL)):Option Bool:=
 ob (loop (fun (s:Int)=>rA b s) 0) fun r=>match r with|.inl r=>wO|.inr r=>some r
def aBg:Option Bool:=
 some true
def rN (b:(List bL)) (a:Int):Option (Int ⊕ (Unit ⊕ Bool)):=
 if (decide (a < (b.length:Int))) then (ob (ix b (wr (a - 1))) fun c=>
 ob (ix b a) fun d=>
 if (!lE c d) then (some (.inr (.inr false))) else (some (.inl (wr (a+1))))) else (some (.inr (.inl ())))
def vO (b:(List bL)) (c:Bool):Option Bool:=
 if c then (some false) else (ob (loop (fun (s:Int)=>rN b s) 1) fun r=>match r with|.inl r=>aBg|.inr r=>some r)
def aAN (a:(List bL)):Option Bool:=
 if (decide (12 < (a.length:Int))) then (vO a true) else (ob (zJ a) fun b=>
 vO a (!b))
def aDo (a:cW):Option Int:=
 ob (aAM a.Definitions) fun b=>
 if (!b) then (some 1) else (ob (qZ a) fun c=>
 if (!c) then (some 2) else (ob (vN a.Meetings) fun d=>
 if (!d) then (some 3) else (ob (aAN a.Allowed) fun e=>
 if (!e) then (some 4) else (ob (aAN a.Hidden) fun f=>
 if (!f) then (some 5) else (some 0)))))
def aHe (a:cW):Option Bool:=
 ob (aDo a) fun b=>
 some (b == 0)
def zN (a:(List Int)):Option (List Int):=
 ob (apd ([]:List Int) a) fun b=>
 some b
def aBh (a:List bO):Option (List bO):=
 some a
def vP (b:cW) (c:List bO) (a:Int):Option ((List bO × Int) ⊕ (List bO)):=
 if (decide (a < (b.Components.length:Int))) then (ob (ix b.Components a) fun d=>
 ob (zN d.Values) fun e=>
 ob (apd c ([⟨d.Definition,0,e⟩]:List bO)) fun f=>
 some (.inl (f,wr (a+1)))) else (some (.inr c))
def aDp (a:cW):Option (List bO):=
 ob (loop (fun (s:(List bO × Int))=>vP a s.1 s.2) (([]:List bO),0)) fun r=>aBh r
def kT (b:Bool):Option Int:=
 if b then (some 1) else (some 0)
def aBD (a:Int):Option Int:=
 some a
def aEc (e:(List bS)) (a b:Int):Option ((Int × Int) ⊕ Int):=
 if (decide (0 < b)) then (ob (ix e a) fun d=>
 ob (aAL d) fun f=>
 some (.inl (wr (a+1),wr (b+(wr (f - 1)))))) else (some (.inr a))
def aGs (e:(List bS)) (k:Int):Option Int:=
 ob (loop (fun (s:(Int × Int))=>aEc e s.1 s.2) (k,1)) fun r=>aBD r
def aFs (a:Int):Option Int:=
 some a
def aFt (a:Int):Option Int:=
 some a
def aEd (e a b:Int):Option Int:=
 if (e == 0) then (ob (rm (wr (a+b)) 64) fun f=>
 some f) else (if (e == 1) then (ob (rm (wr ((wr (a - b))+64)) 64) fun g=>
 some g) else (if (e == 2) then (ob (rm (wr (a * b)) 64) fun h=>
 some h) else (if (e == 3) then (ob (kT (a == b)) fun i=>
 some i) else (if (e == 4) then (ob (kT (a != b)) fun j=>
 some j) else (if (e == 5) then (ob (kT (decide (a < b))) fun k=>
 some k) else (if (e == 6) then (ob (kT (decide (a<=b))) fun l=>
 some l) else (if (e == 7) then (if (a != 0) then (ob (kT (b != 0)) fun m=>
 aFs m) else (ob (kT false) fun n=>
 aFs n)) else (if (a != 0) then (ob (kT true) fun o=>
 aFt o) else (ob (kT (b != 0)) fun p=>
 aFt p)))))))))
def uF (f:(List bS)->(List Int)->Int->Option Int) (e:(List bS)) (c:(List Int)) (k:Int):Option Int:=
 ob (ix e k) fun a=>
 if (a.Kind == 0) then (some a.Value) else (if (a.Kind == 1) then (ob (ix c a.Value) fun g=>
 some g) else (if (a.Kind == 3) then (ob (f e c (wr (k+1))) fun h=>
 ob (kT (h == 0)) fun i=>
 some i) else (ob (f e c (wr (k+1))) fun j=>
 ob (aGs e (wr (k+1))) fun l=>
 ob (f e c l) fun m=>
 ob (aEd a.Value j m) fun n=>
 some n)))
def uG:Nat->(List bS)->(List Int)->Int->Option Int
 |0=>fun _ _ _=>none
 |n+1=>uF (uG n)
def aOt (e:(List bS)) (b:(List Int)) (k:Int):Option Int:=
 uG 100000 e b k
def xV (e:(List bS)) (b:(List Int)):Option Int:=
 ob (aOt e b 0) fun c=>
 some c
def aCp (a:List Int):Option (List Int):=
 some a
def zO (b:(List (List bS))) (d:(List Int)) (c:List Int) (a:Int):Option ((List Int × Int) ⊕ (List Int)):=
 if (decide (a < (b.length:Int))) then (ob (ix b a) fun e=>
 ob (xV e d) fun f=>
 ob (apd c ([f]:List Int)) fun g=>
 some (.inl (g,wr (a+1)))) else (some (.inr c))
def aCM (a:(List (List bS))) (b:(List Int)):Option (List Int):=
 ob (loop (fun (s:(List Int × Int))=>zO a b s.1 s.2) (([]:List Int),0)) fun r=>aCp r
def aCq:Option Bool:=
 some true
def zQ (a b:(List Int)) (c:Int):Option (Int ⊕ (Unit ⊕ Bool)):=
 if (decide (c < (a.length:Int))) then (ob (ix a c) fun f=>
 ob (ix b c) fun g=>
 if (f != g) then (some (.inr (.inr false))) else (some (.inl (wr (c+1))))) else (some (.inr (.inl ())))
def aEJ (a b:(List Int)):Option Bool:=
 if ((a.length:Int) != (b.length:Int)) then (some false) else (ob (loop (fun (s:Int)=>zQ a b s) 0) fun r=>match r with|.inl r=>aCq|.inr r=>some r)
def lR (a:Bool):Option Bool:=
 some a
def pI (a b:bO):Option Bool:=
 if (a.Definition == b.Definition) then (if (a.Part == b.Part) then (ob (aEJ a.Values b.Values) fun e=>
 lR e) else (lR false)) else (lR false)
def aEe (a:List UInt8):Option bL:=
 some a
def aBE (c b:List UInt8) (a:Int):Option ((List UInt8 × Int) ⊕ (List UInt8)):=
 if (decide (0<=a)) then (ob (ix c a) fun d=>
 ob (apd b ([d]:List UInt8)) fun e=>
 some (.inl (e,wr (a - 1)))) else (some (.inr b))
def aBF (a:List UInt8):Option bL:=
 ob (loop (fun (s:(List UInt8 × Int))=>aBE a s.1 s.2) (([]:List UInt8),wr ((a.length:Int) - 1))) fun r=>aEe r
def aBG (n:Int) (a:List UInt8):Option bL:=
 if (decide (n < 0)) then (ob (apd a ([(45:UInt8)]:List UInt8)) fun c=>
 aBF c) else (aBF a)
def aBH (a:List UInt8) (b c:Int):Option ((List UInt8 × Int) ⊕ (List UInt8)):=
 ob (apd a ([(UInt8.ofInt (wr (48+c)))]:List UInt8)) fun d=>
 ob (qu b 10) fun e=>
 some (.inl (d,e))
def aBI (b:List UInt8) (a:Int):Option ((List UInt8 × Int) ⊕ (List UInt8)):=
 if (a != 0) then (ob (rm a 10) fun c=>
 if (decide (c < 0)) then (aBH b a (wr (0 - c))) else (aBH b a c)) else (some (.inr b))
def aGt (n:Int):Option bL:=
 if (n == 0) then (some ([48]:bL)) else (ob (loop (fun (s:(List UInt8 × Int))=>aBI s.1 s.2) (([]:List UInt8),n)) fun r=>aBG n r)
def aCr (a:bL):Option bL:=
 some a
def zU (b:(List Int)) (a:Int) (c:bL):Option ((bL × Int) ⊕ bL):=
 ob (ix b a) fun d=>
 ob (aGt d) fun e=>
 ob (cat c e) fun f=>
 some (.inl (f,wr (a+1)))
def qO (b:(List Int)) (c:bL) (a:Int):Option ((bL × Int) ⊕ bL):=
 if (decide (a < (b.length:Int))) then (if (decide (0 < a)) then (ob (cat c ([44]:bL)) fun d=>
 zU b a d) else (zU b a c)) else (some (.inr c))
def aEK (a:(List Int)):Option bL:=
 if ((a.length:Int) == 0) then (some ([45]:bL)) else (ob (loop (fun (s:(bL × Int))=>qO a s.1 s.2) (([]:bL),0)) fun r=>aCr r)
def aEL (a:bL) (b:(List Int)):Option bL:=
 if ((b.length:Int) == 0) then (some a) else (ob (cat a ([40]:bL)) fun c=>
 ob (aEK b) fun d=>
 ob (cat c d) fun e=>
 ob (cat e ([41]:bL)) fun f=>
 some f)
def pJ (a:(List dK)) (b:dK):Option (List dK):=
 ob (apd a ([b]:List dK)) fun c=>
 some c
def sQ (a:(List dK)) (b:Int) (c:Bool):Option (Int ⊕ (Unit ⊕ (List dK))):=
 if c then (some (.inr (.inr a))) else (some (.inl (wr (b+1))))
def sS (a:(List dK)) (c:dK) (b:Int):Option (Int ⊕ (Unit ⊕ (List dK))):=
 if (decide (b < (a.length:Int))) then (ob (ix a b) fun d=>
 if (d.B == c.B) then (ob (pI d.Next c.Next) fun e=>
 sQ a b e) else (sQ a b false)) else (some (.inr (.inl ())))
def xW (b:(List dK)) (c:dK):Option (List dK):=
 ob (loop (fun (s:Int)=>sS b c s) 0) fun r=>match r with|.inl r=>pJ b c|.inr r=>some r
def rB (a:List dK):Option (List dK):=
 some a
def nN (b:(List Int)) (c:(List dK)) (a:Part) (d e:Int) (f:List Int):Option (List dK):=
 ob (aCM a.Arguments b) fun g=>
 ob (aEL a.Name g) fun h=>
 ob (xW c ⟨h,⟨d,e,f⟩⟩) fun i=>
 some i
def wP (a:List dK):Option (List dK):=
 rB a
def kI (c:(List Definition)->Int->Int->(List Int)->(List dK)->Option (List dK)) (e:(List Definition)) (d g:Int) (h:(List Int)) (i:Part) (b:List dK) (a:Int):Option ((List dK × Int) ⊕ (List dK)):=
 if (decide (a<=i.Number)) then (ob (zN h) fun j=>
 ob (apd j ([a]:List Int)) fun k=>
 ob (c e d (wr (g+1)) k b) fun l=>
 some (.inl (l,wr (a+1)))) else (some (.inr b))
def cU (h:(List Definition)->Int->Int->(List Int)->(List dK)->Option (List dK)) (g:(List Definition)) (d e:Int) (a:(List Int)) (b:(List dK)):Option (List dK):=
 ob (ix g d) fun i=>
 ob (ix i.Body e) fun c=>
 if (decide (200 < (b.length:Int))) then (some b) else (if (c.Kind == 1) then (ob (zN a) fun k=>
 ob (ix i.Body (wr (e+1))) fun j=>
 if (j.Kind == 5) then (ob (aCM j.Arguments a) fun l=>
 nN a b c j.Number 0 l) else (nN a b c d (wr (e+1)) k)) else (if (c.Kind == 2) then (ob (h g d (wr (e+1)) a b) fun m=>
 ob (aEG i.Body (wr (e+1))) fun n=>
 ob (h g d n a m) fun o=>
 some o) else (if (c.Kind == 3) then (ob (ix c.Arguments 0) fun p=>
 ob (xV p a) fun q=>
 if (q != 0) then (ob (h g d (wr (e+1)) a b) fun t=>
 some t) else (rB b)) else (if (c.Kind == 4) then (ob (loop (fun (s:(List dK × Int))=>kI h g d e a c s.1 s.2) (b,0)) fun r=>wP r) else (rB b)))))
def dG:Nat->(List Definition)->Int->Int->(List Int)->(List dK)->Option (List dK)
 |0=>fun _ _ _ _ _=>none
 |n+1=>cU (dG n)
def aCs (a:(List Definition)) (d c:Int) (e:(List Int)) (f:(List dK)):Option (List dK):=
 dG 100000 a d c e f
def aCt (c:(List Definition)) (p:bO):Option ((List dK) × Bool):=
 ob (aCs c p.Definition p.Part p.Values ([]:List dK)) fun b=>
 some (b,decide ((b.length:Int)<=200))
def aCu:Option Int:=
 some (-1)
def zV (b:(List bL)) (c:bL) (a:Int):Option (Int ⊕ (Unit ⊕ Int)):=
 if (decide (a < (b.length:Int))) then (ob (ix b a) fun d=>
 if (d == c) then (some (.inr (.inr a))) else (some (.inl (wr (a+1))))) else (some (.inr (.inl ())))
def aCN (b:(List bL)) (c:bL):Option Int:=
 ob (loop (fun (s:Int)=>zV b c s) 0) fun r=>match r with|.inl r=>aCu|.inr r=>some r
def aCv (a:List bL):Option (List bL):=
 some a
def uH (a:Int) (b:List bL):Option ((List bL × Int) ⊕ (List bL)):=
 some (.inl (b,wr (a+1)))
def zW (c:Int) (d:bL) (a:Int) (b:List bL):Option ((List bL × Int) ⊕ (List bL)):=
 ob (ix b a) fun f=>
 ob (st b a (d:bL)) fun e=>
 uH c e
def zX (c:Int) (b:List bL) (a:Int):Option ((List bL × Int) ⊕ (List bL)):=
 if (decide (c < a)) then (ob (ix b (wr (a - 1))) fun d=>
 ob (ix b a) fun f=>
 ob (st b a (d:bL)) fun e=>
 some (.inl (e,wr (a - 1)))) else (some (.inr b))
def zY (c:List bL) (d:Int) (e:bL) (a:Int):Option ((List bL × Int) ⊕ (List bL)):=
 ob (apd c ([([]:bL)]:List bL)) fun b=>
 ob (loop (fun (s:(List bL × Int))=>zX a s.1 s.2) (b,wr ((b.length:Int) - 1))) fun r=>zW d e a r
def uI (a:Int) (b:Bool):Option (Int ⊕ Int):=
 if b then (some (.inl (wr (a+1)))) else (some (.inr a))
def uJ (b:List bL) (c:bL) (a:Int):Option (Int ⊕ Int):=
 if (decide (a < (b.length:Int))) then (ob (ix b a) fun d=>
 uI a (lE d c)) else (uI a false)
def qP (d:(List bL)) (a:List bL) (b:Int):Option ((List bL × Int) ⊕ (List bL)):=
 if (decide (b < (d.length:Int))) then (ob (ix d b) fun c=>
 ob (aCN a c) fun e=>
 if (decide (0<=e)) then (uH b a) else (ob (loop (fun (s:Int)=>uJ a c s) 1) fun r=>zY a b c r)) else (some (.inr a))
def aEM (a:(List bL)):Option (List bL):=
 ob (loop (fun (s:(List bL × Int))=>qP a s.1 s.2) (([([116,97,117]:bL)]:List bL),0)) fun r=>aCv r
def aCO (a b:Edge):Option Bool:=
 if (a.F != b.F) then (some (decide (a.F < b.F))) else (if (a.B != b.B) then (some (decide (a.B < b.B))) else (some (decide (a.To < b.To))))
def aBJ (e:Edge) (b:Int) (c:List Edge):Option (List Edge):=
 ob (ix c b) fun f=>
 ob (st c b (⟨e.F,e.B,e.To⟩:Edge)) fun d=>
 some d
def aBK (d:Int) (b:List Edge) (a:Int):Option ((List Edge × Int) ⊕ (List Edge)):=
 if (decide (d < a)) then (ob (ix b (wr (a - 1))) fun c=>
 ob (ix b a) fun f=>
 ob (st b a (⟨c.F,c.B,c.To⟩:Edge)) fun e=>
 some (.inl (e,wr (a - 1)))) else (some (.inr b))
def xX (a:(List Edge)) (e:Edge) (b:Int) (f:Bool):Option (List Edge):=
 if f then (some a) else (ob (apd a ([⟨0,0,0⟩]:List Edge)) fun c=>
 ob (loop (fun (s:(List Edge × Int))=>aBK b s.1 s.2) (c,wr ((c.length:Int) - 1))) fun r=>aBJ e b r)
def aBL (b:(List Edge)) (e:Edge) (a:Int):Option (List Edge):=
 if (decide (0 < a)) then (ob (ix b (wr (a - 1))) fun d=>
 xX b e a (decide ((d:Edge)=e))) else (xX b e a false)
def xY (a:Int) (b:Bool):Option (Int ⊕ Int):=
 if b then (some (.inl (wr (a - 1)))) else (some (.inr a))
def xZ (b:(List Edge)) (e:Edge) (a:Int):Option (Int ⊕ Int):=
 if (decide (0 < a)) then (ob (ix b (wr (a - 1))) fun d=>
 ob (aCO e d) fun f=>
 xY a f) else (xY a false)
def aGu (a:(List Edge)) (e:Edge):Option (List Edge):=
 ob (loop (fun (s:Int)=>xZ a e s) (a.length:Int)) fun r=>aBL a e r
def aCw (a b:Int) (c:(List bL)) (d:List Edge):Option iW:=
 some ⟨a,b,c,d⟩
def uK (e:(List bL)) (c:(List Edge)) (f:(List bL)) (d:List Edge) (a:Int):Option ((List Edge × Int) ⊕ (List Edge)):=
 if (decide (a < (c.length:Int))) then (ob (ix c a) fun b=>
 ob (ix e b.B) fun g=>
 ob (aCN f g) fun h=>
 ob (aGu d ⟨b.F,h,b.To⟩) fun i=>
 some (.inl (i,wr (a+1)))) else (some (.inr d))
def aEN (c d:Int) (a:(List bL)) (e:(List Edge)):Option iW:=
 ob (aEM a) fun b=>
 ob (loop (fun (s:(List Edge × Int))=>uK a e b s.1 s.2) (([]:List Edge),0)) fun r=>aCw c d b r
def aCx (a:bL):Option Int:=
 some (a.length:Int)
def zZ (b:bL) (a:Int):Option (Int ⊕ (Unit ⊕ Int)):=
 if (decide (a < (b.length:Int))) then (ob (ix b a) fun c=>
 if ((c.toNat:Int) == 40) then (some (.inr (.inr a))) else (some (.inl (wr (a+1))))) else (some (.inr (.inl ())))
def aEO (b:bL):Option Int:=
 ob (loop (fun (s:Int)=>zZ b s) 0) fun r=>match r with|.inl r=>aCx b|.inr r=>some r
def vQ (a:bL) (b:List bL) (c:Int):Option (List bL):=
 ob (slc a c (a.length:Int)) fun d=>
 ob (apd b ([d]:List bL)) fun e=>
 some e
def rO (a:Int) (b:List bL) (c:Int):Option ((List bL × Int × Int) ⊕ (List bL × Int)):=
 some (.inl (b,c,wr (a+1)))
def aBi (b:bL) (e:UInt8) (c:List bL) (d a:Int):Option ((List bL × Int × Int) ⊕ (List bL × Int)):=
 if (decide (a < (b.length:Int))) then (ob (ix b a) fun f=>
 if ((f.toNat:Int) == (e.toNat:Int)) then (ob (slc b d a) fun g=>
 ob (apd c ([g]:List bL)) fun h=>
 rO a h (wr (a+1))) else (rO a c d)) else (some (.inr (c,d)))
def aDq (a:bL) (c:UInt8):Option (List bL):=
 ob (loop (fun (s:(List bL × Int × Int))=>aBi a c s.1 s.2.1 s.2.2) (([]:List bL),0,0)) fun r=>vQ a r.1 r.2
def aAa (a:Int):Option (Int × Bool):=
 some (a,true)
def sT (b a:Int):Option (Int × Bool):=
 if (b == 1) then (aAa (wr (0 - a))) else (aAa a)
def pK (b:bL) (c a:Int):Option ((Int × Int) ⊕ (Int ⊕ (Int × Bool))):=
 if (decide (a < (b.length:Int))) then (ob (ix b a) fun c45=>
 ob (aDk c45) fun d=>
 if (!d) then (some (.inr (.inr (0,false)))) else (some (.inl (wr ((wr (10 * c))+(wr ((c45 - (48:UInt8)).toNat:Int))),wr (a+1))))) else (some (.inr (.inl c)))
def lL (c:bL) (b:Int) (d:Bool):Option (Int × Bool):=
 if d then (some (0,false)) else (ob (loop (fun (s:(Int × Int))=>pK c s.1 s.2) (0,b)) fun r=>match r with|.inl r=>sT b r|.inr r=>some r)
def pL (a:bL) (b:Int):Option (Int × Bool):=
 if ((a.length:Int) == b) then (lL a b true) else (if (decide (18 < wr ((a.length:Int) - b))) then (lL a b true) else (ob (ix a b) fun c=>
 if ((c.toNat:Int) == 48) then (lL a b (decide (1 < (a.length:Int)))) else (lL a b false)))
def pM (a:bL) (b:Bool):Option (Int × Bool):=
 if b then (pL a 1) else (pL a 0)
def yA (a:bL):Option (Int × Bool):=
 if (decide (0 < (a.length:Int))) then (ob (ix a 0) fun b=>
 pM a ((b.toNat:Int) == 45)) else (pM a false)
def sU (a:List Int):Option ((List Int) × Bool):=
 some (a,decide ((a.length:Int)<=2))
def sV (a:List Int) (b:Int) (c:(Int × Bool)) (d:Bool):Option ((List Int × Int) ⊕ (List Int ⊕ ((List Int) × Bool))):=
 if d then (some (.inr (.inr ([],false)))) else (ob (apd a ([c.1]:List Int)) fun e=>
 some (.inl (e,wr (b+1))))
def sW (d:(List bL)) (c:List Int) (a:Int):Option ((List Int × Int) ⊕ (List Int ⊕ ((List Int) × Bool))):=
 if (decide (a < (d.length:Int))) then (ob (ix d a) fun e=>
 ob (yA e) fun b=>
 if (!b.2) then (sV c a b true) else (ob (lQ b.1 0 63) fun f=>
 sV c a b (!f))) else (some (.inr (.inl c)))
def pN (b:bL) (c:Int) (d:Bool):Option ((List Int) × Bool):=
 if d then (some ([],false)) else (ob (slc b (wr (c+1)) (wr ((b.length:Int) - 1))) fun e=>
 ob (aDq e (44:UInt8)) fun f=>
 ob (loop (fun (s:(List Int × Int))=>sW f s.1 s.2) (([]:List Int),0)) fun r=>match r with|.inl r=>sU r|.inr r=>some r)
def aEf (a:bL):Option ((List Int) × Bool):=
 ob (aEO a) fun b=>
 if (b == (a.length:Int)) then (ob (xS a) fun c=>
 some (([]:List Int),c)) else (ob (slc a 0 b) fun d=>
 ob (nX d) fun e=>
 if (!e) then (pN a b true) else (ob (ix a (wr ((a.length:Int) - 1))) fun f=>
 pN a b ((f.toNat:Int) != 41)))
def aDr (a:bL):Option Bool:=
 ob (aEf a) fun b=>
 some b.2
def aBj:Option Bool:=
 some true
def oM (a:Int) (b:Bool):Option (Int ⊕ (Unit ⊕ Bool)):=
 if b then (some (.inr (.inr false))) else (some (.inl (wr (a+1))))
def vR (b:(List bL)) (a:Int):Option (Int ⊕ (Unit ⊕ Bool)):=
 if (decide (a < (b.length:Int))) then (ob (ix b a) fun c=>
 ob (aDr c) fun d=>
 if (!d) then (oM a true) else (if (c == ([116,97,117]:bL)) then (oM a true) else (if (decide (1 < a)) then (ob (ix b (wr (a - 1))) fun e=>
 oM a (!lE e c)) else (oM a false)))) else (some (.inr (.inl ())))
def rP (b:(List bL)) (c:Bool):Option Bool:=
 if c then (some false) else (ob (loop (fun (s:Int)=>vR b s) 1) fun r=>match r with|.inl r=>aBj|.inr r=>some r)
def aDs (a:(List bL)):Option Bool:=
 if ((a.length:Int) == 0) then (rP a true) else (if (decide (12 < (a.length:Int))) then (rP a true) else (ob (ix a 0) fun b=>
 rP a (!(b == ([116,97,117]:bL)))))
def aFu:Option Bool:=
 some true
def aDt (a:Int) (b:Bool):Option (Int ⊕ (Unit ⊕ Bool)):=
 if b then (some (.inr (.inr false))) else (some (.inl (wr (a+1))))
def aAO (t:iW) (a:Int) (c:Edge) (d:Bool):Option (Int ⊕ (Unit ⊕ Bool)):=
 if d then (some (.inr (.inr false))) else (if (decide (0 < a)) then (ob (ix t.E (wr (a - 1))) fun e=>
 ob (aCO e c) fun f=>
 aDt a (!f)) else (aDt a false))
def aDu (t:iW) (c:Int):Option (Int ⊕ (Unit ⊕ Bool)):=
 if (decide (c < (t.E.length:Int))) then (ob (ix t.E c) fun b=>
 ob (lQ b.F 0 (wr (t.N - 1))) fun d=>
 if (!d) then (aAO t c b true) else (ob (lQ b.To 0 (wr (t.N - 1))) fun e=>
 if (!e) then (aAO t c b true) else (ob (lQ b.B 0 (wr ((t.L.length:Int) - 1))) fun f=>
 aAO t c b (!f)))) else (some (.inr (.inl ())))
def xH (t:iW) (c:Bool):Option Bool:=
 if c then (some false) else (ob (loop (fun (s:Int)=>aDu t s) 0) fun r=>match r with|.inl r=>aFu|.inr r=>some r)
def aIK (t:iW):Option Bool:=
 ob (lQ t.N 1 40) fun b=>
 if (!b) then (xH t true) else (ob (lQ t.I 0 (wr (t.N - 1))) fun c=>
 if (!c) then (xH t true) else (ob (aDs t.L) fun d=>
 if (!d) then (xH t true) else (xH t (decide (300 < (t.E.length:Int))))))
def rC (c:(List Definition)) (p:bO):Option ((List dK) × Bool):=
 ob (aCs c p.Definition p.Part p.Values ([]:List dK)) fun b=>
 some (b,decide ((b.length:Int)<=200))
def hJ (b:List bO) (c:List bL) (d:List Edge):Option (iW × Bool):=
 ob (aEN (b.length:Int) 0 c d) fun a=>
 ob (aIK a) fun e=>
 some (a,e)
def rY (a:Int) (b:List bO) (c:List bL) (d:List Edge):Option ((List bO × List bL × List Edge × Int) ⊕ ((List bO × List bL × List Edge) ⊕ (iW × Bool))):=
 some (.inl (b,c,d,wr (a+1)))
def kB (a:Int) (b:List bO) (c:List bL) (d:List Edge) (e:Bool):Option ((List bO × List bL × List Edge × Int) ⊕ ((List bO × List bL × List Edge) ⊕ (iW × Bool))):=
 if e then (some (.inr (.inr (⟨0,0,[],[]⟩,false)))) else (rY a b c d)
def iL (c:Int) (a:List bO) (d:List bL) (b:List Edge):Option ((List bO × List bL × List Edge × Int) ⊕ ((List bO × List bL × List Edge) ⊕ (iW × Bool))):=
 if (decide (40 < (a.length:Int))) then (kB c a d b true) else (kB c a d b (decide (300 < (b.length:Int))))
def rZ (a:Int) (b:List bO) (c:List bL) (d:List Edge):Option ((List bO × List bL × List Edge × Int) ⊕ (List bO × List bL × List Edge)):=
 some (.inl (b,c,d,wr (a+1)))
def lS (c:Int) (d:((List dK) × Bool)) (e:List bL) (f:List Edge) (a:Int) (g:List bO) (h:Int):Option ((List bO × List bL × List Edge × Int) ⊕ (List bO × List bL × List Edge)):=
 ob (ix d.1 a) fun i=>
 ob (apd e ([i.B]:List bL)) fun b=>
 ob (apd f ([⟨c,wr ((b.length:Int) - 1),h⟩]:List Edge)) fun j=>
 rZ a g b j
def lT (d:Int) (a:((List dK) × Bool)) (b:List bO) (e:List bL) (f:List Edge) (c g:Int):Option ((List bO × List bL × List Edge × Int) ⊕ (List bO × List bL × List Edge)):=
 if (decide (g < 0)) then (ob (ix a.1 c) fun h=>
 ob (apd b ([h.Next]:List bO)) fun i=>
 lS d a e f c i (b.length:Int)) else (lS d a e f c b g)
def nY (a b:Int):Option ((Int × Int) ⊕ Int):=
 some (.inl (b,wr (a+1)))
def kC (c:((List dK) × Bool)) (d:List bO) (e b a:Int) (f:Bool):Option ((Int × Int) ⊕ Int):=
 if f then (ob (ix d a) fun g=>
 ob (ix c.1 e) fun h=>
 ob (pI g h.Next) fun i=>
 if i then (nY a a) else (nY a b)) else (some (.inr b))
def iN (d:((List dK) × Bool)) (a:List bO) (e b c:Int):Option ((Int × Int) ⊕ Int):=
 if (decide (c < (a.length:Int))) then (kC d a e b c (decide (b < 0))) else (kC d a e b c false)
def kU (f:Int) (a:((List dK) × Bool)) (b:List bO) (d:List bL) (e:List Edge) (c:Int):Option ((List bO × List bL × List Edge × Int) ⊕ (List bO × List bL × List Edge)):=
 if (decide (c < (a.1.length:Int))) then (ob (loop (fun (s:(Int × Int))=>iN a b c s.1 s.2) ((-1),0)) fun r=>lT f a b d e c r) else (some (.inr (b,d,e)))
def gK (g:cW) (a:List bO) (d:List bL) (e:List Edge) (b:Int):Option ((List bO × List bL × List Edge × Int) ⊕ ((List bO × List bL × List Edge) ⊕ (iW × Bool))):=
 if (decide (b < (a.length:Int))) then (ob (ix a b) fun h=>
 ob (rC g.Definitions h) fun f=>
 if (!f.2) then (some (.inr (.inr (⟨0,0,[],[]⟩,false)))) else (ob (loop (fun (s:(List bO × List bL × List Edge × Int))=>kU b f s.1 s.2.1 s.2.2.1 s.2.2.2) (a,d,e,0)) fun r=>iL b r.1 r.2.1 r.2.2)) else (some (.inr (.inl (a,d,e))))
def lM (b:cW) (k:Int):Option (iW × Bool):=
 ob (aDp b) fun d=>
 ob (ix d k) fun e=>
 ob (loop (fun (s:(List bO × List bL × List Edge × Int))=>gK b s.1 s.2.1 s.2.2.1 s.2.2.2) (([e]:List bO),([]:List bL),([]:List Edge),0)) fun r=>match r with|.inl r=>hJ r.1 r.2.1 r.2.2|.inr r=>some r
def sX (a:cW) (k:Int):Option (iW × Int):=
 ob (aHe a) fun d=>
 if (!d) then (some (⟨0,0,[],[]⟩,1)) else (ob (lQ k 0 (wr ((a.Components.length:Int) - 1))) fun e=>
 if (!e) then (some (⟨0,0,[],[]⟩,2)) else (ob (lM a k) fun c=>
 if (!c.2) then (some (⟨0,0,[],[]⟩,5)) else (some (c.1,0))))
def aIL (a:bS):Option bS:=
 some a
def aCy (a:List bS):Option (List bS):=
 some a
def aAb (a:(List bS)) (c:List bS) (b:Int):Option ((List bS × Int) ⊕ (List bS)):=
 if (decide (b < (a.length:Int))) then (ob (ix a b) fun f=>
 ob (aIL f) fun e=>
 ob (ix c b) fun h=>
 ob (st c b (⟨e.Kind,e.Value⟩:bS)) fun g=>
 some (.inl (g,wr (b+1)))) else (some (.inr c))
def aHf (a:(List bS)):Option (List bS):=
 ob (mkz (a.length:Int) (⟨0,0⟩:bS)) fun c=>
 ob (loop (fun (s:(List bS × Int))=>aAb a s.1 s.2) (c,0)) fun r=>aCy r
def aBk (a:List (List bS)):Option (List (List bS)):=
 some a
def vS (a:(List (List bS))) (c:List (List bS)) (b:Int):Option ((List (List bS) × Int) ⊕ (List (List bS))):=
 if (decide (b < (a.length:Int))) then (ob (ix a b) fun e=>
 ob (aHf e) fun f=>
 ob (ix c b) fun h=>
 ob (st c b f) fun g=>
 some (.inl (g,wr (b+1)))) else (some (.inr c))
def aFv (a:(List (List bS))):Option (List (List bS)):=
 ob (mkz (a.length:Int) ([]:(List bS))) fun c=>
 ob (loop (fun (s:(List (List bS) × Int))=>vS a s.1 s.2) (c,0)) fun r=>aBk r
def aIM (a:Part):Option Part:=
 ob (aFv a.Arguments) fun c=>
 some ⟨a.Kind,a.Number,a.Name,c⟩
def aCz (a:List Part):Option (List Part):=
 some a
def aAc (a:(List Part)) (c:List Part) (b:Int):Option ((List Part × Int) ⊕ (List Part)):=
 if (decide (b < (a.length:Int))) then (ob (ix a b) fun e=>
 ob (aIM e) fun f=>
 ob (ix c b) fun h=>
 ob (st c b (f:Part)) fun g=>
 some (.inl (g,wr (b+1)))) else (some (.inr c))
def aHg (a:(List Part)):Option (List Part):=
 ob (mkz (a.length:Int) (⟨0,0,[],[]⟩:Part)) fun c=>
 ob (loop (fun (s:(List Part × Int))=>aAc a s.1 s.2) (c,0)) fun r=>aCz r
def aAd (a:Definition):Option Definition:=
 ob (aHg a.Body) fun c=>
 some ⟨a.Name,a.Parameters,c⟩
def qQ (a:List Definition):Option (List Definition):=
 some a
def mZ (a:(List Definition)) (c:List Definition) (b:Int):Option ((List Definition × Int) ⊕ (List Definition)):=
 if (decide (b < (a.length:Int))) then (ob (ix a b) fun e=>
 ob (aAd e) fun f=>
 ob (ix c b) fun h=>
 ob (st c b (f:Definition)) fun g=>
 some (.inl (g,wr (b+1)))) else (some (.inr c))
def wQ (a:(List Definition)):Option (List Definition):=
 ob (mkz (a.length:Int) (⟨[],0,[]⟩:Definition)) fun c=>
 ob (loop (fun (s:(List Definition × Int))=>mZ a s.1 s.2) (c,0)) fun r=>qQ r
def aBl (a:List Int):Option (List Int):=
 some a
def vT (a:(List Int)) (c:List Int) (b:Int):Option ((List Int × Int) ⊕ (List Int)):=
 if (decide (b < (a.length:Int))) then (ob (ix a b) fun e=>
 ob (ix c b) fun g=>
 ob (st c b (e:Int)) fun f=>
 some (.inl (f,wr (b+1)))) else (some (.inr c))
def aFw (a:(List Int)):Option (List Int):=
 ob (mkz (a.length:Int) (0:Int)) fun c=>
 ob (loop (fun (s:(List Int × Int))=>vT a s.1 s.2) (c,0)) fun r=>aBl r
def aBm (a:bU):Option bU:=
 ob (aFw a.Values) fun c=>
 some ⟨a.Definition,c⟩
def sA (a:List bU):Option (List bU):=
 some a
def nZ (a:(List bU)) (c:List bU) (b:Int):Option ((List bU × Int) ⊕ (List bU)):=
 if (decide (b < (a.length:Int))) then (ob (ix a b) fun e=>
 ob (aBm e) fun f=>
 ob (ix c b) fun h=>
 ob (st c b (f:bU)) fun g=>
 some (.inl (g,wr (b+1)))) else (some (.inr c))
def aAe (a:(List bU)):Option (List bU):=
 ob (mkz (a.length:Int) (⟨0,[]⟩:bU)) fun c=>
 ob (loop (fun (s:(List bU × Int))=>nZ a s.1 s.2) (c,0)) fun r=>sA r
def aEg (a:cB):Option cB:=
 some a
def wR (a:List cB):Option (List cB):=
 some a
def rD (a:(List cB)) (c:List cB) (b:Int):Option ((List cB × Int) ⊕ (List cB)):=
 if (decide (b < (a.length:Int))) then (ob (ix a b) fun f=>
 ob (aEg f) fun d=>
 ob (ix c b) fun h=>
 ob (st c b (⟨d.Left,d.Right,d.Result⟩:cB)) fun g=>
 some (.inl (g,wr (b+1)))) else (some (.inr c))
def aCA (a:(List cB)):Option (List cB):=
 ob (mkz (a.length:Int) (⟨[],[],[]⟩:cB)) fun c=>
 ob (loop (fun (s:(List cB × Int))=>rD a s.1 s.2) (c,0)) fun r=>wR r
def aAf (a:List bL):Option (List bL):=
 some a
def aAg (a:(List bL)) (c:List bL) (b:Int):Option ((List bL × Int) ⊕ (List bL)):=
 if (decide (b < (a.length:Int))) then (ob (ix a b) fun e=>
 ob (ix c b) fun g=>
 ob (st c b (e:bL)) fun f=>
 some (.inl (f,wr (b+1)))) else (some (.inr c))
def yB (a:(List bL)):Option (List bL):=
 ob (mkz (a.length:Int) ([]:bL)) fun c=>
 ob (loop (fun (s:(List bL × Int))=>aAg a s.1 s.2) (c,0)) fun r=>aAf r
def qR (a:cW):Option cW:=
 ob (wQ a.Definitions) fun c=>
 ob (aAe a.Components) fun d=>
 ob (aCA a.Meetings) fun e=>
 ob (yB a.Allowed) fun f=>
 ob (yB a.Hidden) fun g=>
 some ⟨c,d,e,f,g⟩
def sB (d:Definition):Option Bool:=
 ob (jD d.Parameters 0 3) fun b=>
 some (!b)
def eD:Option Int:=
 some (-1)
def dH (b:(List Definition)) (a:Int):Option (Int ⊕ (Unit ⊕ Int)):=
 if (decide (a < (b.length:Int))) then (ob (ix b a) fun c=>
 ob (sB c) fun d=>
 if d then (some (.inr (.inr a))) else (some (.inl (wr (a+1))))) else (some (.inr (.inl ())))
def eJ (b:(List Definition)):Option Int:=
 ob (loop (fun (s:Int)=>dH b s) 0) fun r=>match r with|.inl r=>eD|.inr r=>some r
def dI (a:(List Definition)):Option Bool:=
 ob (eJ a) fun b=>
 some (decide (0<=b))
def sY (a:(List Definition)):Option Bool:=
 ob (dI a) fun b=>
 some (!b)
def oA (d:Definition) (p:bL):Option Bool:=
 some (d.Name == p)
def dX:Option Int:=
 some (-1)
def dD (b:(List Definition)) (c:bL) (a:Int):Option (Int ⊕ (Unit ⊕ Int)):=
 if (decide (a < (b.length:Int))) then (ob (ix b a) fun d=>
 ob (oA d c) fun e=>
 if e then (some (.inr (.inr a))) else (some (.inl (wr (a+1))))) else (some (.inr (.inl ())))
def eE (b:(List Definition)) (c:bL):Option Int:=
 ob (loop (fun (s:Int)=>dD b c s) 0) fun r=>match r with|.inl r=>dX|.inr r=>some r
def oB (a:(List Definition)) (b:bL):Option Int:=
 ob (eE a b) fun c=>
 some c
def pO (p:Part) (b:Bool):Option Int:=
 if b then (some 1) else (if (p.Kind == 2) then (some 2) else (some 0))
def vU (p:Part):Option Int:=
 if (p.Kind == 1) then (pO p (p.Kind == 1)) else (if (p.Kind == 3) then (pO p (p.Kind == 3)) else (pO p (p.Kind == 4)))
def kF (a:Int):Option Int:=
 some a
def iI (d:Definition) (a c:Int):Option ((Int × Int) ⊕ (Int ⊕ Int)):=
 if (decide (0 < c)) then (if (decide ((d.Body.length:Int)<=a)) then (some (.inr (.inr (-1)))) else (ob (ix d.Body a) fun e=>
 ob (vU e) fun f=>
 some (.inl (wr (a+1),wr (c+(wr (f - 1))))))) else (some (.inr (.inl a)))
def kV (d:Definition) (c:Int):Option Int:=
 ob (loop (fun (s:(Int × Int))=>iI d s.1 s.2) (c,1)) fun r=>match r with|.inl r=>kF r|.inr r=>some r
def hY (a:Int) (b:List eZ):Option (Int × (List eZ)):=
 some (a,b)
def gH (f:Int->eZ->(List eZ)->Definition->Definition->Option (Int × (List eZ))) (a:Definition) (g:Part) (h i b c:Int) (d:List eZ):Option ((Int × Int × List eZ) ⊕ (Int × List eZ)):=
 if (decide (c < i)) then (ob (f b ⟨h,g.Kind == 1⟩ d a a) fun e=>
 some (.inl (e.1,wr (c+1),e.2))) else (some (.inr (b,d)))
def eL (c:Int->eZ->(List eZ)->Definition->Definition->Option (Int × (List eZ))) (d:Int) (e:Definition) (f:List eZ) (a:Part) (g:Int):Option (Int × (List eZ)):=
 ob (vU a) fun h=>
 ob (loop (fun (s:(Int × Int × List eZ))=>gH c e a g h s.1 s.2.1 s.2.2) (wr (d+1),0,f)) fun r=>hY r.1 r.2
def fK (d:Int->eZ->(List eZ)->Definition->Definition->Option (Int × (List eZ))) (a:Int) (p:eZ) (e:(List eZ)) (h f:Definition):Option (Int × (List eZ)):=
 ob (ix e a) fun i=>
 ob (st e a (⟨p.scope,p.behind⟩:eZ)) fun g=>
 ob (ix h.Body a) fun c=>
 if (c.Kind == 4) then (eL d a f g c (wr (p.scope+1))) else (eL d a f g c p.scope)
def dW:Nat->Int->eZ->(List eZ)->Definition->Definition->Option (Int × (List eZ))
 |0=>fun _ _ _ _ _=>none
 |n+1=>fK (dW n)
def qS (a:Int) (p:eZ) (c:(List eZ)) (d e:Definition):Option (Int × (List eZ)):=
 dW 100000 a p c d e
def mA (d:Definition):Option (List eZ):=
 ob (mkz (d.Body.length:Int) (⟨0,false⟩:eZ)) fun b=>
 ob (qS 0 ⟨d.Parameters,false⟩ b d d) fun c=>
 some c.2
def aAh (i many:Int):Option Bool:=
 ob (jD i 0 (wr (many - 1))) fun b=>
 some b
def fC (a:Bool):Option Bool:=
 some a
def mO (p:Part) (c b:Bool):Option Bool:=
 ob (jD p.Kind 0 5) fun d=>
 if d then (if c then (if (p.Kind == 1) then (if b then (fC true) else (fC ((p.Arguments.length:Int) == 0))) else (if (p.Name == ([]:bL)) then (if b then (fC true) else (fC ((p.Arguments.length:Int) == 0))) else (fC false))) else (if (p.Number == 0) then (if (p.Kind == 1) then (if b then (fC true) else (fC ((p.Arguments.length:Int) == 0))) else (if (p.Name == ([]:bL)) then (if b then (fC true) else (fC ((p.Arguments.length:Int) == 0))) else (fC false))) else (fC false))) else (fC false)
def pP (p:Part) (b:Bool):Option Bool:=
 if (p.Kind == 1) then (mO p b true) else (if (p.Kind == 3) then (mO p b true) else (mO p b (p.Kind == 5)))
def vV (p:Part):Option Bool:=
 if (p.Kind == 4) then (pP p true) else (pP p (p.Kind == 5))
def lU (a:Bool):Option Bool:=
 some a
def sZ (p:Part) (b:(List Definition)):Option Bool:=
 if (p.Kind == 1) then (if ((p.Arguments.length:Int) == 0) then (lU true) else (if (!(p.Name == ([116,97,117]:bL))) then (lU (decide ((p.Arguments.length:Int)<=2))) else (lU false))) else (if (p.Kind == 3) then (some ((p.Arguments.length:Int) == 1)) else (if (p.Kind == 5) then (ob (ix b p.Number) fun c=>
 some ((p.Arguments.length:Int) == c.Parameters)) else (some true)))
def aAi (t:bS) (b:Int):Option Bool:=
 if (t.Kind == 0) then (ob (aAI t.Value) fun c=>
 some c) else (if (t.Kind == 1) then (ob (jD t.Value 0 (wr (b - 1))) fun d=>
 some d) else (if (t.Kind == 2) then (ob (jD t.Value 0 8) fun e=>
 some e) else (if (t.Kind == 3) then (some (t.Value == 0)) else (some false))))
def rE (t:bS):Option Int:=
 if (t.Kind == 2) then (some 2) else (if (t.Kind == 3) then (some 1) else (some 0))
def wS (a:Int):Option Bool:=
 some (a == 0)
def rF (a b:Int) (c:bS) (d:Bool):Option ((Int × Int) ⊕ (Int ⊕ Bool)):=
 if d then (some (.inr (.inr false))) else (ob (rE c) fun e=>
 some (.inl (wr (a+(wr (e - 1))),wr (b+1))))
def rG (e:(List bS)) (f a b:Int):Option ((Int × Int) ⊕ (Int ⊕ Bool)):=
 if (decide (b < (e.length:Int))) then (ob (ix e b) fun c=>
 if (a == 0) then (rF a b c true) else (ob (aAi c f) fun g=>
 rF a b c (!g))) else (some (.inr (.inl a)))
def nO (e:(List bS)) (c:Int) (d:Bool):Option Bool:=
 if d then (some false) else (ob (loop (fun (s:(Int × Int))=>rG e c s.1 s.2) (1,0)) fun r=>match r with|.inl r=>wS r|.inr r=>some r)
def aAj (e:(List bS)) (b c:Int):Option Bool:=
 ob (jD b 0 29) fun d=>
 if (!d) then (nO e b true) else (ob (jD c 1 60) fun f=>
 if (!f) then (nO e b true) else (ob (jD (e.length:Int) 1 c) fun g=>
 nO e b (!g)))
def uL (e:(List bS)) (p:eZ):Option Bool:=
 ob (aAj e p.scope 15) fun c=>
 some (!c)
def eY:Option Int:=
 some (-1)
def eA (b:(List (List bS))) (c:eZ) (a:Int):Option (Int ⊕ (Unit ⊕ Int)):=
 if (decide (a < (b.length:Int))) then (ob (ix b a) fun d=>
 ob (uL d c) fun e=>
 if e then (some (.inr (.inr a))) else (some (.inl (wr (a+1))))) else (some (.inr (.inl ())))
def fM (b:(List (List bS))) (c:eZ):Option Int:=
 ob (loop (fun (s:Int)=>eA b c s) 0) fun r=>match r with|.inl r=>eY|.inr r=>some r
def eB (a:(List (List bS))) (b:eZ):Option Bool:=
 ob (fM a b) fun c=>
 some (decide (0<=c))
def mP (p:Part) (b:eZ) (c:Bool):Option Int:=
 if c then (some 7) else (ob (eB p.Arguments b) fun d=>
 if d then (some 8) else (some 0))
def mQ (p:Part) (b:eZ) (c:Bool):Option Int:=
 if c then (some 6) else (if (p.Kind == 4) then (mP p b (decide (6<=b.scope))) else (mP p b false))
def iS (p:Part) (c:(List Definition)) (b:eZ) (d:Bool):Option Int:=
 if d then (some 4) else (ob (sZ p c) fun e=>
 if (!e) then (some 5) else (if (p.Kind == 5) then (mQ p b (!b.behind)) else (mQ p b false)))
def kW (p:Part) (b:(List Definition)) (c:eZ) (d:Bool):Option Int:=
 if d then (some 3) else (if (p.Kind == 4) then (ob (jD p.Number 1 7) fun e=>
 if (!e) then (iS p b c true) else (if (p.Kind == 5) then (ob (aAh p.Number (b.length:Int)) fun f=>
 iS p b c (!f)) else (iS p b c false))) else (if (p.Kind == 5) then (ob (aAh p.Number (b.length:Int)) fun g=>
 iS p b c (!g)) else (iS p b c false)))
def rQ (p:Part) (b:(List Definition)) (c:eZ):Option Int:=
 ob (vV p) fun d=>
 if (!d) then (some 2) else (if (p.Kind == 1) then (if (!(p.Name == ([116,97,117]:bL))) then (ob (oL p.Name) fun e=>
 kW p b c (!e)) else (kW p b c false)) else (kW p b c false))
def aAk:Option (Int × Int):=
 some (0,0)
def pQ (e:(List Definition)) (d:Definition) (f:(List eZ)) (a:Int):Option (Int ⊕ (Unit ⊕ (Int × Int))):=
 if (decide (a < (d.Body.length:Int))) then (ob (ix d.Body a) fun g=>
 ob (ix f a) fun h=>
 ob (rQ g e h) fun c=>
 if (c != 0) then (some (.inr (.inr (a,c)))) else (some (.inl (wr (a+1))))) else (some (.inr (.inl ())))
def tA (c:(List Definition)) (d:Definition) (e:Bool):Option (Int × Int):=
 if e then (some (0,1)) else (ob (mA d) fun f=>
 ob (loop (fun (s:Int)=>pQ c d f s) 0) fun r=>match r with|.inl r=>aAk|.inr r=>some r)
def yC (b:(List Definition)) (d:Definition):Option (Int × Int):=
 ob (jD (d.Body.length:Int) 1 20) fun c=>
 if (!c) then (tA b d true) else (ob (kV d 0) fun e=>
 tA b d (e != (d.Body.length:Int)))
def nI:Option Bool:=
 some true
def kO (a:(List Definition)) (b:Int) (c:Definition) (d:Bool):Option (Int ⊕ (Unit ⊕ Bool)):=
 if d then (some (.inr (.inr false))) else (ob (yC a c) fun e=>
 if (e.2 != 0) then (some (.inr (.inr false))) else (some (.inl (wr (b+1)))))
def kP (a:(List Definition)) (b:Int):Option (Int ⊕ (Unit ⊕ Bool)):=
 if (decide (b < (a.length:Int))) then (ob (ix a b) fun c=>
 ob (aEC c.Name) fun d=>
 if (!d) then (kO a b c true) else (ob (slc a 0 b) fun e=>
 ob (oB e c.Name) fun f=>
 kO a b c (decide (0<=f)))) else (some (.inr (.inl ())))
def kQ (b:(List Definition)) (c:Bool):Option Bool:=
 if c then (some false) else (ob (loop (fun (s:Int)=>kP b s) 0) fun r=>match r with|.inl r=>nI|.inr r=>some r)
def jL (a:(List Definition)):Option Bool:=
 ob (jD (a.length:Int) 1 4) fun b=>
 if (!b) then (kQ a true) else (ob (sY a) fun c=>
 kQ a (!c))
def mR (a:Bool):Option Bool:=
 some a
def vW (b:(List Definition)) (c:bU):Option Bool:=
 ob (aAh c.Definition (b.length:Int)) fun d=>
 if d then (ob (ix b c.Definition) fun e=>
 if ((c.Values.length:Int) == e.Parameters) then (ob (xO c.Values) fun f=>
 mR f) else (mR false)) else (mR false)
def mB (a:bL):Option Bool:=
 some (!(a == a))
def kR (a y:bL):Option Int:=
 ob (mB a) fun d=>
 ob (mB y) fun c=>
 if d then (if c then (some 0) else (some (-1))) else (if c then (some 1) else (if (lE a y) then (some (-1)) else (if (!(lE a y||a == y)) then (some 1) else (some 0))))
def gU (a b:(List bL)):Option Int:=
 if (decide ((a.length:Int) < (b.length:Int))) then (some (-1)) else (some 0)
def cX (b c:(List bL)) (a:Int):Option (Int ⊕ (Unit ⊕ Int)):=
 if (decide (a < (b.length:Int))) then (ob (ix b a) fun e=>
 if (decide ((c.length:Int)<=a)) then (some (.inr (.inr 1))) else (ob (ix c a) fun f=>
 ob (kR e f) fun d=>
 if (d != 0) then (some (.inr (.inr d))) else (some (.inl (wr (a+1)))))) else (some (.inr (.inl ())))
def iG (b c:(List bL)):Option Int:=
 ob (loop (fun (s:Int)=>cX b c s) 0) fun r=>match r with|.inl r=>gU b c|.inr r=>some r
def oC (a b:cB):Option Int:=
 ob (iG ([a.Left,a.Right]:List bL) ([b.Left,b.Right]:List bL)) fun e=>
 some e
def nA (a:Bool):Option Bool:=
 some a
def wT (o p:cB):Option Bool:=
 if (o.Left == p.Result) then (nA true) else (nA (o.Right == p.Result))
def eR:Option Int:=
 some (-1)
def dU (b:(List cB)) (c:cB) (a:Int):Option (Int ⊕ (Unit ⊕ Int)):=
 if (decide (a < (b.length:Int))) then (ob (ix b a) fun d=>
 ob (wT d c) fun e=>
 if e then (some (.inr (.inr a))) else (some (.inl (wr (a+1))))) else (some (.inr (.inl ())))
def fB (b:(List cB)) (c:cB):Option Int:=
 ob (loop (fun (s:Int)=>dU b c s) 0) fun r=>match r with|.inl r=>eR|.inr r=>some r
def dV (a:(List cB)) (b:cB):Option Bool:=
 ob (fB a b) fun c=>
 some (decide (0<=c))
def wU (a:(List cB)):Option Bool:=
 some (decide ((a.length:Int)<=6))
def iP (a:(List cB)) (b:Int) (c:cB) (d:Bool):Option (Int ⊕ (Unit ⊕ Bool)):=
 if d then (some (.inr (.inr false))) else (ob (dV a c) fun e=>
 if e then (some (.inr (.inr false))) else (some (.inl (wr (b+1)))))
def kJ (c:(List cB)) (b:Int):Option (Int ⊕ (Unit ⊕ Bool)):=
 if (decide (b < (c.length:Int))) then (ob (ix c b) fun a=>
 ob (oL a.Left) fun d=>
 if (!d) then (iP c b a true) else (ob (oL a.Right) fun e=>
 if (!e) then (iP c b a true) else (ob (oL a.Result) fun f=>
 if (!f) then (iP c b a true) else (if (!(lE a.Left a.Right||a.Left == a.Right)) then (iP c b a true) else (if (decide (0 < b)) then (ob (ix c (wr (b - 1))) fun g=>
 ob (oC g a) fun h=>
 iP c b a (decide (0<=h))) else (iP c b a false)))))) else (some (.inr (.inl ())))
def qT (b:(List cB)):Option Bool:=
 ob (loop (fun (s:Int)=>kJ b s) 0) fun r=>match r with|.inl r=>wU b|.inr r=>some r
def aAl (a:(List bL)):Option Bool:=
 some (decide ((a.length:Int)<=12))
def uM (a:Int) (b:Bool):Option (Int ⊕ (Unit ⊕ Bool)):=
 if b then (some (.inr (.inr false))) else (some (.inl (wr (a+1))))
def aAm (b:(List bL)) (a:Int):Option (Int ⊕ (Unit ⊕ Bool)):=
 if (decide (a < (b.length:Int))) then (ob (ix b a) fun c=>
 ob (oL c) fun e=>
 if (!e) then (uM a true) else (if (decide (0 < a)) then (ob (ix b (wr (a - 1))) fun d=>
 uM a (lE c d||c == d)) else (uM a false))) else (some (.inr (.inl ())))
def aCP (b:(List bL)):Option Bool:=
 ob (loop (fun (s:Int)=>aAm b s) 0) fun r=>match r with|.inl r=>aAl b|.inr r=>some r
def uN (c:bU) (p:cW):Option Bool:=
 ob (vW p.Definitions c) fun d=>
 some (!d)
def eH:Option Int:=
 some (-1)
def dM (b:(List bU)) (c:cW) (a:Int):Option (Int ⊕ (Unit ⊕ Int)):=
 if (decide (a < (b.length:Int))) then (ob (ix b a) fun d=>
 ob (uN d c) fun e=>
 if e then (some (.inr (.inr a))) else (some (.inl (wr (a+1))))) else (some (.inr (.inl ())))
def eO (b:(List bU)) (c:cW):Option Int:=
 ob (loop (fun (s:Int)=>dM b c s) 0) fun r=>match r with|.inl r=>eH|.inr r=>some r
def dN (a:(List bU)) (b:cW):Option Bool:=
 ob (eO a b) fun c=>
 some (decide (0<=c))
def pR (a:cW) (b:Bool):Option Int:=
 if b then (some 2) else (ob (qT a.Meetings) fun c=>
 if (!c) then (some 3) else (ob (aCP a.Allowed) fun d=>
 if (!d) then (some 4) else (ob (aCP a.Hidden) fun e=>
 if (!e) then (some 5) else (some 0))))
def vX (a:cW):Option Int:=
 ob (jL a.Definitions) fun b=>
 if (!b) then (some 1) else (ob (jD (a.Components.length:Int) 1 3) fun c=>
 if (!c) then (pR a true) else (ob (dN a.Components a) fun d=>
 pR a d))
def rR (a:cW):Option Bool:=
 ob (vX a) fun b=>
 some (b == 0)
def wV (a b:bL):Option Int:=
 if (a == b) then (some 0) else (if (a == ([116,97,117]:bL)) then (some (-1)) else (if (b == ([116,97,117]:bL)) then (some 1) else (ob (aNz a b) fun e=>
 some e)))
def nB (a:Int):Option Bool:=
 some (a != a)
def iO (a y:Int):Option Int:=
 ob (nB a) fun d=>
 ob (nB y) fun c=>
 if d then (if c then (some 0) else (some (-1))) else (if c then (some 1) else (if (decide (a < y)) then (some (-1)) else (if (decide (y < a)) then (some 1) else (some 0))))
def pS:Option Int:=
 some 0
def iT (b:(List Int)) (a:Int):Option (Int ⊕ (Unit ⊕ Int)):=
 if (decide (a < (b.length:Int))) then (ob (ix b a) fun c=>
 if (c != 0) then (some (.inr (.inr c))) else (some (.inl (wr (a+1))))) else (some (.inr (.inl ())))
def vY (b:(List Int)):Option Int:=
 ob (loop (fun (s:Int)=>iT b s) 0) fun r=>match r with|.inl r=>pS|.inr r=>some r
def tB (a b:Edge):Option Int:=
 ob (iO a.F b.F) fun e=>
 ob (iO a.B b.B) fun f=>
 ob (iO a.To b.To) fun g=>
 ob (vY ([e,f,g]:List Int)) fun h=>
 some h
def fV (a:(List Edge)):Option (List Edge):=
 some a
def fW (a:Int):Option (Int ⊕ (Unit ⊕ (List Edge))):=
 some (.inl (wr (a+1)))
def eT (a:List Edge) (b:Int):Option (Int ⊕ (Unit ⊕ (List Edge))):=
 ob (slc a b (a.length:Int)) fun c=>
 ob (ovw a b (List.replicate c.length (⟨0,0,0⟩:Edge))) fun d=>
 ob (slc d 0 b) fun e=>
 some (.inr (.inr e))
def eU (a:Int) (b:List Edge) (c:Int):Option ((List Edge × Int × Int) ⊕ (List Edge × Int)):=
 some (.inl (b,c,wr (a+1)))
def eV (f:Int) (e b:List Edge) (c a:Int):Option ((List Edge × Int × Int) ⊕ (List Edge × Int)):=
 if (decide (a < (e.length:Int))) then (ob (ix e a) fun i=>
 ob (ix b (f+a)) fun d=>
 ob (ix e (wr (a - 1))) fun j=>
 ob (ix b (f+(wr (a - 1)))) fun g=>
 if (!decide ((d:Edge)=g)) then (ob (ix b c) fun k=>
 ob (st b c (⟨d.F,d.B,d.To⟩:Edge)) fun h=>
 eU a h (wr (c+1))) else (eU a b c)) else (some (.inr (b,c)))
def eW (b:(List Edge)) (a:Int):Option (Int ⊕ (Unit ⊕ (List Edge))):=
 if (decide (a < (b.length:Int))) then (ob (ix b a) fun d=>
 ob (ix b (wr (a - 1))) fun e=>
 if (decide ((d:Edge)=e)) then (ob (slc b a (b.length:Int)) fun f=>
 ob (loop (fun (s:(List Edge × Int × Int))=>eV a f s.1 s.2.1 s.2.2) (b,a,1)) fun r=>eT r.1 r.2) else (fW a)) else (some (.inr (.inl ())))
def fE (a:(List Edge)):Option (List Edge):=
 if (decide ((a.length:Int) < 2)) then (some a) else (ob (loop (fun (s:Int)=>eW a s) 1) fun r=>match r with|.inl r=>fV a|.inr r=>some r)
def gV (a:(List bL)):Option (List bL):=
 some a
def gW (a:Int):Option (Int ⊕ (Unit ⊕ (List bL))):=
 some (.inl (wr (a+1)))
def fP (a:List bL) (b:Int):Option (Int ⊕ (Unit ⊕ (List bL))):=
 ob (slc a b (a.length:Int)) fun c=>
 ob (ovw a b (List.replicate c.length ([]:bL))) fun d=>
 ob (slc d 0 b) fun e=>
 some (.inr (.inr e))
def fQ (a:Int) (b:List bL) (c:Int):Option ((List bL × Int × Int) ⊕ (List bL × Int)):=
 some (.inl (b,c,wr (a+1)))
def fR (e:Int) (d b:List bL) (c a:Int):Option ((List bL × Int × Int) ⊕ (List bL × Int)):=
 if (decide (a < (d.length:Int))) then (ob (ix d a) fun i=>
 ob (ix b (e+a)) fun f=>
 ob (ix d (wr (a - 1))) fun j=>
 ob (ix b (e+(wr (a - 1)))) fun g=>
 if (!(f == g)) then (ob (ix b c) fun k=>
 ob (st b c (f:bL)) fun h=>
 fQ a h (wr (c+1))) else (fQ a b c)) else (some (.inr (b,c)))
def fT (b:(List bL)) (a:Int):Option (Int ⊕ (Unit ⊕ (List bL))):=
 if (decide (a < (b.length:Int))) then (ob (ix b a) fun d=>
 ob (ix b (wr (a - 1))) fun e=>
 if (d == e) then (ob (slc b a (b.length:Int)) fun f=>
 ob (loop (fun (s:(List bL × Int × Int))=>fR a f s.1 s.2.1 s.2.2) (b,a,1)) fun r=>fP r.1 r.2) else (gW a)) else (some (.inr (.inl ())))
def gE (a:(List bL)):Option (List bL):=
 if (decide ((a.length:Int) < 2)) then (some a) else (ob (loop (fun (s:Int)=>fT a s) 1) fun r=>match r with|.inl r=>gV a|.inr r=>some r)
def iC:Option Int:=
 some (-1)
def gC (b:(List bL)) (c:bL) (a:Int):Option (Int ⊕ (Unit ⊕ Int)):=
 if (decide (a < (b.length:Int))) then (ob (ix b a) fun d=>
 if (c == d) then (some (.inr (.inr a))) else (some (.inl (wr (a+1))))) else (some (.inr (.inl ())))
def gR (b:(List bL)) (c:bL):Option Int:=
 ob (loop (fun (s:Int)=>gC b c s) 0) fun r=>match r with|.inl r=>iC|.inr r=>some r
def aGv (a b:Int) (c:(List bL)) (d:List Edge):Option iW:=
 ob (aDd d) fun e=>
 ob (fE e) fun f=>
 some ⟨a,b,c,f⟩
def aGw (c:(List uT)) (e:(List bL)) (d:List Edge) (a:Int):Option ((List Edge × Int) ⊕ (List Edge)):=
 if (decide (a < (c.length:Int))) then (ob (ix c a) fun b=>
 ob (gR e b.label) fun f=>
 ob (apd d ([⟨b.from_,f,b.to_⟩]:List Edge)) fun g=>
 some (.inl (g,wr (a+1)))) else (some (.inr d))
def i_lts (b c:Int) (d:(List bL)) (e:(List uT)):Option iW:=
 ob (apd ([([116,97,117]:bL)]:List bL) d) fun f=>
 ob (aEy f) fun g=>
 ob (gE g) fun a=>
 ob (loop (fun (s:(List Edge × Int))=>aGw e a s.1 s.2) ([],0)) fun r=>aGv b c a r
def aBn (a:List bL):Option (List bL):=
 some a
def vZ (b:(List uT)) (c:List bL) (a:Int):Option ((List bL × Int) ⊕ (List bL)):=
 if (decide (a < (b.length:Int))) then (ob (ix b a) fun d=>
 ob (apd c ([d.label]:List bL)) fun e=>
 some (.inl (e,wr (a+1)))) else (some (.inr c))
def aAP (a:(List uT)):Option (List bL):=
 ob (loop (fun (s:(List bL × Int))=>vZ a s.1 s.2) ([],0)) fun r=>aBn r
def oN (t:iW) (k:Int):Option Bool:=
 ob (jD k 0 (wr (t.N - 1))) fun c=>
 some c
def aBo:Option Bool:=
 some true
def mM (a:Int) (b:Bool):Option (Int ⊕ (Unit ⊕ Bool)):=
 if b then (some (.inr (.inr false))) else (some (.inl (wr (a+1))))
def wA (t:iW) (a:Int):Option (Int ⊕ (Unit ⊕ Bool)):=
 if (decide (a < (t.E.length:Int))) then (ob (ix t.E a) fun c=>
 ob (oN t c.F) fun d=>
 if (!d) then (mM a true) else (ob (oN t c.To) fun e=>
 if (!e) then (mM a true) else (ob (aAh c.B (t.L.length:Int)) fun f=>
 if (!f) then (mM a true) else (if (decide (0 < a)) then (ob (ix t.E (wr (a - 1))) fun g=>
 ob (tB g c) fun h=>
 mM a (decide (0<=h))) else (mM a false))))) else (some (.inr (.inl ())))
def wB (t:iW):Option Bool:=
 ob (loop (fun (s:Int)=>wA t s) 0) fun r=>match r with|.inl r=>aBo|.inr r=>some r
def oO (a:Int) (b:Bool):Option (Int ⊕ (Unit ⊕ Bool)):=
 if b then (some (.inr (.inr false))) else (some (.inl (wr (a+1))))
def wC (t:iW) (a:Int):Option (Int ⊕ (Unit ⊕ Bool)):=
 if (decide (a < (t.L.length:Int))) then (ob (ix t.L a) fun b=>
 ob (aED b) fun e=>
 if (!e) then (oO a true) else (if ((b == ([116,97,117]:bL)) != (a == 0)) then (oO a true) else (if (decide (1 < a)) then (ob (ix t.L (wr (a - 1))) fun d=>
 oO a (lE b d||b == d)) else (oO a false)))) else (some (.inr (.inl ())))
def oP (t:iW) (c:Bool):Option Bool:=
 if c then (some false) else (ob (loop (fun (s:Int)=>wC t s) 0) fun r=>match r with|.inl r=>wB t|.inr r=>some r)
def aDv (t:iW):Option Bool:=
 ob (jD t.N 1 40) fun b=>
 if (!b) then (oP t true) else (ob (oN t t.I) fun c=>
 if (!c) then (oP t true) else (ob (jD (t.L.length:Int) 1 12) fun d=>
 if (!d) then (oP t true) else (oP t (decide (300 < (t.E.length:Int))))))
def eF (a:(List Int)):Option (List Int):=
 ob (apd ([]:List Int) a) fun b=>
 some b
def sC (a:List bO):Option (List bO):=
 some a
def oD (b:cW) (c:List bO) (a:Int):Option ((List bO × Int) ⊕ (List bO)):=
 if (decide (a < (b.Components.length:Int))) then (ob (ix b.Components a) fun d=>
 ob (eF d.Values) fun e=>
 ob (apd c ([⟨d.Definition,0,e⟩]:List bO)) fun f=>
 some (.inl (f,wr (a+1)))) else (some (.inr c))
def tC (a:cW):Option (List bO):=
 ob (loop (fun (s:(List bO × Int))=>oD a s.1 s.2) ([],0)) fun r=>sC r
def aEh (n:Int):Option Bool:=
 ob (jD n (-1000000000000) 1000000000000) fun b=>
 some (!b)
def gG:Option Int:=
 some (-1)
def fF (b:(List Int)) (a:Int):Option (Int ⊕ (Unit ⊕ Int)):=
 if (decide (a < (b.length:Int))) then (ob (ix b a) fun c=>
 ob (aEh c) fun d=>
 if d then (some (.inr (.inr a))) else (some (.inl (wr (a+1))))) else (some (.inr (.inl ())))
def gX (b:(List Int)):Option Int:=
 ob (loop (fun (s:Int)=>fF b s) 0) fun r=>match r with|.inl r=>gG|.inr r=>some r
def fG (a:(List Int)):Option Bool:=
 ob (gX a) fun b=>
 some (decide (0<=b))
def aEi (a:Bool):Option Bool:=
 some a
def aGx (a:(List Int)):Option Bool:=
 if (decide ((a.length:Int)<=64)) then (ob (fG a) fun b=>
 aEi (!b)) else (aEi false)
def aDw (a:(List Int)):Option bL:=
 ob (aGx a) fun b=>
 if (!b) then (some ([]:bL)) else (if ((a.length:Int) == 0) then (some ([45]:bL)) else (ob (aDh a ([44]:bL)) fun c=>
 some c))
def aEj (p:bO):Option bL:=
 ob (tV p.Part) fun b=>
 ob (cat b ([58]:bL)) fun c=>
 ob (aDw p.Values) fun d=>
 ob (cat c d) fun e=>
 some e
def aAQ (p:bO):Option bL:=
 ob (tV p.Definition) fun b=>
 ob (cat b ([58]:bL)) fun c=>
 ob (aEj p) fun d=>
 ob (cat c d) fun e=>
 some e
def aBp (a:bS) (b:List (Tr bS)) (c:List bS):Option ((Tr bS) × (List bS)):=
 some ((Tr.mk a b),c)
def wD (e:(List bS)->Option ((Tr bS) × (List bS))) (f:Int) (a:List (Tr bS)) (b:List bS) (c:Int):Option ((List (Tr bS) × List bS × Int) ⊕ (List (Tr bS) × List bS)):=
 if (decide (c < f)) then (ob (e b) fun d=>
 ob (apd a ([d.1]:List (Tr bS))) fun g=>
 some (.inl (g,d.2,wr (c+1)))) else (some (.inr (a,b)))
def mG (d:(List bS)->Option ((Tr bS) × (List bS))) (e:(List bS)):Option ((Tr bS) × (List bS)):=
 ob (ix e 0) fun b=>
 ob (slc e 1 (e.length:Int)) fun f=>
 ob (rE b) fun g=>
 ob (loop (fun (s:(List (Tr bS) × List bS × Int))=>wD d g s.1 s.2.1 s.2.2) ([],f,0)) fun r=>aBp b r.1 r.2
def mH:Nat->(List bS)->Option ((Tr bS) × (List bS))
 |0=>fun _=>none
 |n+1=>mG (mH n)
def aHY (e:(List bS)):Option ((Tr bS) × (List bS)):=
 mH 100000 e
def aOu (e:(List bS)):Option (Tr bS):=
 ob (aHY e) fun b=>
 some b.1
def wW (a:Bool):Option Int:=
 if a then (some 1) else (some 0)
def aCB (a:Int):Option Int:=
 some a
def aCC (a:Int):Option Int:=
 some a
def aHh (e a b:Int):Option Int:=
 if (e == 0) then (ob (rm (wr (a+b)) 64) fun f=>
 some f) else (if (e == 1) then (ob (rm (wr ((wr (a - b))+64)) 64) fun g=>
 some g) else (if (e == 2) then (ob (rm (wr (a * b)) 64) fun h=>
 some h) else (if (e == 3) then (ob (wW (a == b)) fun i=>
 some i) else (if (e == 4) then (ob (wW (a != b)) fun j=>
 some j) else (if (e == 5) then (ob (wW (decide (a < b))) fun k=>
 some k) else (if (e == 6) then (ob (wW (decide (a<=b))) fun l=>
 some l) else (if (e == 7) then (if (a != 0) then (ob (wW (b != 0)) fun m=>
 aCB m) else (ob (wW false) fun n=>
 aCB n)) else (if (a != 0) then (ob (wW true) fun o=>
 aCC o) else (ob (wW (b != 0)) fun p=>
 aCC p)))))))))
def kD (c:(Tr bS)->(List Int)->Option Int) (a:(Tr bS)) (b:(List Int)):Option Int:=
 if (a.val.Kind == 0) then (some a.val.Value) else (if (a.val.Kind == 1) then (ob (ix b a.val.Value) fun d=>
 some d) else (if (a.val.Kind == 3) then (ob (ix a.kids 0) fun e=>
 ob (c e b) fun f=>
 ob (wW (f == 0)) fun g=>
 some g) else (ob (ix a.kids 0) fun h=>
 ob (c h b) fun i=>
 ob (ix a.kids 1) fun j=>
 ob (c j b) fun k=>
 ob (aHh a.val.Value i k) fun l=>
 some l)))
def kE:Nat->(Tr bS)->(List Int)->Option Int
 |0=>fun _ _=>none
 |n+1=>kD (kE n)
def aFx (a:(Tr bS)) (b:(List Int)):Option Int:=
 kE 100000 a b
def xI (e:(List bS)) (b:(List Int)):Option Int:=
 ob (aOu e) fun c=>
 ob (aFx c b) fun d=>
 some d
def uO (a:List Int):Option (List Int):=
 some a
def pT (b:(List (List bS))) (d:(List Int)) (c:List Int) (a:Int):Option ((List Int × Int) ⊕ (List Int)):=
 if (decide (a < (b.length:Int))) then (ob (ix b a) fun e=>
 ob (xI e d) fun f=>
 ob (apd c ([f]:List Int)) fun g=>
 some (.inl (g,wr (a+1)))) else (some (.inr c))
def rS (a:(List (List bS))) (b:(List Int)):Option (List Int):=
 ob (loop (fun (s:(List Int × Int))=>pT a b s.1 s.2) ([],0)) fun r=>uO r
def jA (i:(List Definition)) (c:(List dK)) (a:(List (bL × Bool))) (b:dK):Option ((List dK) × (List (bL × Bool))):=
 ob (cat b.B ([32]:bL)) fun e=>
 ob (aAQ b.Next) fun f=>
 ob (cat e f) fun d=>
 if (!((nR a d).getD false)) then (ob (some (xC a d true)) fun g=>
 ob (apd c ([b]:List dK)) fun h=>
 some (h,g)) else (some (c,a))
def hQ (a:List dK) (b:(List (bL × Bool))):Option ((List dK) × (List (bL × Bool))):=
 some (a,b)
def oE (b:(List Definition)) (c:(List dK)) (d:(List (bL × Bool))) (e:(bL × Bool)) (f g:Int) (h:List Int):Option ((List dK) × (List (bL × Bool))):=
 ob (jA b c d ⟨e.1,⟨f,g,h⟩⟩) fun a=>
 hQ a.1 a.2
def oF (a:List dK) (b:(List (bL × Bool))):Option ((List dK) × (List (bL × Bool))):=
 hQ a b
def gJ (e:(List Definition)->(List dK)->(List (bL × Bool))->Int->Int->(List Int)->Option ((List dK) × (List (bL × Bool)))) (f:(List Definition)) (k h:Int) (i:(List Int)) (j:Part) (b:List dK) (c:(List (bL × Bool))) (a:Int):Option ((List dK × (List (bL × Bool)) × Int) ⊕ (List dK × (List (bL × Bool)))):=
 if (decide (a < wr (j.Number+1))) then (ob (eF i) fun l=>
 ob (apd l ([a]:List Int)) fun m=>
 ob (e f b c k (wr (h+1)) m) fun d=>
 some (.inl (d.1,d.2,wr (a+1)))) else (some (.inr (b,c)))
def dO (h:(List Definition)->(List dK)->(List (bL × Bool))->Int->Int->(List Int)->Option ((List dK) × (List (bL × Bool)))) (c:(List Definition)) (d:(List dK)) (e:(List (bL × Bool))) (k f:Int) (a:(List Int)):Option ((List dK) × (List (bL × Bool))):=
 ob (ix c k) fun i=>
 ob (ix i.Body f) fun b=>
 if (b.Kind == 1) then (ob (rS b.Arguments a) fun q=>
 ob (aAJ b.Name q) fun l=>
 ob (eF a) fun t=>
 ob (ix i.Body (wr (f+1))) fun j=>
 if (j.Kind == 5) then (ob (rS j.Arguments a) fun u=>
 oE c d e l j.Number 0 u) else (oE c d e l k (wr (f+1)) t)) else (if (b.Kind == 2) then (ob (h c d e k (wr (f+1)) a) fun m=>
 ob (kV i (wr (f+1))) fun v=>
 ob (h c m.1 m.2 k v a) fun n=>
 hQ n.1 n.2) else (if (b.Kind == 3) then (ob (ix b.Arguments 0) fun w=>
 ob (xI w a) fun x=>
 if (x != 0) then (ob (h c d e k (wr (f+1)) a) fun o=>
 hQ o.1 o.2) else (hQ d e)) else (if (b.Kind == 4) then (ob (loop (fun (s:(List dK × (List (bL × Bool)) × Int))=>gJ h c k f a b s.1 s.2.1 s.2.2) (d,e,0)) fun r=>oF r.1 r.2) else (hQ d e))))
def cE:Nat->(List Definition)->(List dK)->(List (bL × Bool))->Int->Int->(List Int)->Option ((List dK) × (List (bL × Bool)))
 |0=>fun _ _ _ _ _ _=>none
 |n+1=>dO (cE n)
def aAn (a:(List Definition)) (b:(List dK)) (c:(List (bL × Bool))) (k e:Int) (f:(List Int)):Option ((List dK) × (List (bL × Bool))):=
 cE 100000 a b c k e f
def aFy (c:(List Definition)) (p:bO):Option ((List dK) × Bool):=
 ob (aAn c [] ([]:(List (bL × Bool))) p.Definition p.Part p.Values) fun b=>
 some (b.1,decide ((b.1.length:Int)<=200))
def gF (a:Int) (b:List bO) (c:(List (bL × Int))):Option (Int × (List bO) × (List (bL × Int))):=
 some (a,b,c)
def fZ (a:(List bO)) (b:(List (bL × Int))) (g:(List uT)) (d:bO):Option (Int × (List bO) × (List (bL × Int))):=
 ob (aAQ d) fun c=>
 if (!((nR b c).isSome)) then (ob (some (xC b c (a.length:Int))) fun e=>
 ob (apd a ([d]:List bO)) fun f=>
 gF (a.length:Int) f e) else (gF ((nR b c).getD 0) a b)
def jI (a:List bO) (b:(List (bL × Int))) (c:List uT):Option ((List bO) × (List (bL × Int)) × (List uT)):=
 some (a,b,c)
def iX (c:bL) (d:bO) (e:(List bO)) (f:(List (bL × Int))) (b:(List uT)) (p:Int):Option ((List bO) × (List (bL × Int)) × (List uT)):=
 ob (fZ e f b d) fun a=>
 ob (apd b ([⟨p,c,a.1⟩]:List uT)) fun h=>
 jI a.2.1 a.2.2 h
def gM (a:((List dK) × Bool)) (b:List bO) (c:(List (bL × Int))) (d:List uT):Option (Bool × (List bO) × (List (bL × Int)) × (List uT)):=
 some (a.2,b,c,d)
def gN (h:Int) (c:((List dK) × Bool)) (d:List bO) (e:(List (bL × Int))) (f:List uT) (a:Int):Option ((List bO × (List (bL × Int)) × List uT × Int) ⊕ (List bO × (List (bL × Int)) × List uT)):=
 if (decide (a < (c.1.length:Int))) then (ob (ix c.1 a) fun g=>
 ob (iX g.B g.Next d e f h) fun b=>
 some (.inl (b.1,b.2.1,b.2.2,wr (a+1)))) else (some (.inr (d,e,f)))
def gL (p:bO) (d:(List bO)) (e:(List (bL × Int))) (f:(List uT)) (g:Int) (h:cW):Option (Bool × (List bO) × (List (bL × Int)) × (List uT)):=
 ob (aFy h.Definitions p) fun b=>
 ob (loop (fun (s:(List bO × (List (bL × Int)) × List uT × Int))=>gN g b s.1 s.2.1 s.2.2.1 s.2.2.2) (d,e,f,0)) fun r=>gM b r.1 r.2.1 r.2.2
def kK (e:List bO) (a b:Int) (c:List bL) (d:List Edge):Option (iW × (List bO) × Bool):=
 ob (aDv ⟨a,b,c,d⟩) fun f=>
 some (⟨a,b,c,d⟩,e,f)
def fN (b:List bO) (e:(List (bL × Int))) (c:List uT):Option (iW × (List bO) × Bool):=
 ob (aAP c) fun d=>
 ob (i_lts (b.length:Int) 0 d c) fun a=>
 kK b a.N a.I a.L a.E
def iA (b:Int) (a:(Bool × (List bO) × (List (bL × Int)) × (List uT))) (c:Bool):Option ((List bO × (List (bL × Int)) × List uT × Int) ⊕ ((List bO × (List (bL × Int)) × List uT) ⊕ (iW × (List bO) × Bool))):=
 if c then (some (.inr (.inr (⟨0,0,[],[]⟩,[],false)))) else (some (.inl (a.2.1,a.2.2.1,a.2.2.2,wr (b+1))))
def eC (f:cW) (b:List bO) (d:(List (bL × Int))) (e:List uT) (a:Int):Option ((List bO × (List (bL × Int)) × List uT × Int) ⊕ ((List bO × (List (bL × Int)) × List uT) ⊕ (iW × (List bO) × Bool))):=
 if (decide (a < (b.length:Int))) then (ob (ix b a) fun g=>
 ob (gL g b d e a f) fun c=>
 if (!c.1) then (iA a c true) else (iA a c (decide (40 < (c.2.1.length:Int))))) else (some (.inr (.inl (b,d,e))))
def iU (c:bO) (d:cW):Option (iW × (List bO) × Bool):=
 ob (fZ [] ([]:(List (bL × Int))) [] c) fun b=>
 ob (loop (fun (s:(List bO × (List (bL × Int)) × List uT × Int))=>eC d s.1 s.2.1 s.2.2.1 s.2.2.2) (b.2.1,b.2.2,[],0)) fun r=>match r with|.inl r=>fN r.1 r.2.1 r.2.2|.inr r=>some r
def jC (a:cW) (k:Int):Option (iW × Bool):=
 ob (tC a) fun d=>
 ob (ix d k) fun e=>
 ob (iU e a) fun b=>
 some (b.1,b.2.2)
def pU (a:cW) (k:Int):Option (iW × Int):=
 ob (rR a) fun d=>
 if (!d) then (some (⟨0,0,[],[]⟩,1)) else (ob (aAh k (a.Components.length:Int)) fun e=>
 if (!e) then (some (⟨0,0,[],[]⟩,2)) else (ob (jC a k) fun c=>
 if (!c.2) then (some (⟨0,0,[],[]⟩,5)) else (some (c.1,0))))
def aAo:Option Bool:=
 some true
def tD (a b:(List bL)) (c:Int):Option (Int ⊕ (Unit ⊕ Bool)):=
 if (decide (c < (a.length:Int))) then (ob (ix a c) fun f=>
 ob (ix b c) fun g=>
 if (!(f == g)) then (some (.inr (.inr false))) else (some (.inl (wr (c+1))))) else (some (.inr (.inl ())))
def tE (a b:(List bL)):Option Bool:=
 if ((a.length:Int) != (b.length:Int)) then (some false) else (ob (loop (fun (s:Int)=>tD a b s) 0) fun r=>match r with|.inl r=>aAo|.inr r=>some r)
def aGy (a b:Edge):Option Bool:=
 if (a.F != b.F) then (some false) else (if (a.B != b.B) then (some false) else (if (a.To != b.To) then (some false) else (some true)))
def aCD:Option Bool:=
 some true
def aAp (a b:(List Edge)) (c:Int):Option (Int ⊕ (Unit ⊕ Bool)):=
 if (decide (c < (a.length:Int))) then (ob (ix a c) fun f=>
 ob (ix b c) fun g=>
 ob (aGy f g) fun h=>
 if (!h) then (some (.inr (.inr false))) else (some (.inl (wr (c+1))))) else (some (.inr (.inl ())))
def aEP (a b:(List Edge)):Option Bool:=
 if ((a.length:Int) != (b.length:Int)) then (some false) else (ob (loop (fun (s:Int)=>aAp a b s) 0) fun r=>match r with|.inl r=>aCD|.inr r=>some r)
def aFz (a b:iW):Option Bool:=
 if (a.N != b.N) then (some false) else (if (a.I != b.I) then (some false) else (ob (tE a.L b.L) fun e=>
 if (!e) then (some false) else (ob (aEP a.E b.E) fun f=>
 if (!f) then (some false) else (some true))))
def aGz (a b:bS):Option Bool:=
 if (a.Kind != b.Kind) then (some false) else (if (a.Value != b.Value) then (some false) else (some true))
def aCE:Option Bool:=
 some true
def aAq (a b:(List bS)) (c:Int):Option (Int ⊕ (Unit ⊕ Bool)):=
 if (decide (c < (a.length:Int))) then (ob (ix a c) fun f=>
 ob (ix b c) fun g=>
 ob (aGz f g) fun h=>
 if (!h) then (some (.inr (.inr false))) else (some (.inl (wr (c+1))))) else (some (.inr (.inl ())))
def aHi (a b:(List bS)):Option Bool:=
 if ((a.length:Int) != (b.length:Int)) then (some false) else (ob (loop (fun (s:Int)=>aAq a b s) 0) fun r=>match r with|.inl r=>aCE|.inr r=>some r)
def aBq:Option Bool:=
 some true
def wE (a b:(List (List bS))) (c:Int):Option (Int ⊕ (Unit ⊕ Bool)):=
 if (decide (c < (a.length:Int))) then (ob (ix a c) fun f=>
 ob (ix b c) fun g=>
 ob (aHi f g) fun h=>
 if (!h) then (some (.inr (.inr false))) else (some (.inl (wr (c+1))))) else (some (.inr (.inl ())))
def aFA (a b:(List (List bS))):Option Bool:=
 if ((a.length:Int) != (b.length:Int)) then (some false) else (ob (loop (fun (s:Int)=>wE a b s) 0) fun r=>match r with|.inl r=>aBq|.inr r=>some r)
def aGA (a b:Part):Option Bool:=
 if (a.Kind != b.Kind) then (some false) else (if (a.Number != b.Number) then (some false) else (if (!(a.Name == b.Name)) then (some false) else (ob (aFA a.Arguments b.Arguments) fun e=>
 if (!e) then (some false) else (some true))))
def aCF:Option Bool:=
 some true
def aAr (a b:(List Part)) (c:Int):Option (Int ⊕ (Unit ⊕ Bool)):=
 if (decide (c < (a.length:Int))) then (ob (ix a c) fun f=>
 ob (ix b c) fun g=>
 ob (aGA f g) fun h=>
 if (!h) then (some (.inr (.inr false))) else (some (.inl (wr (c+1))))) else (some (.inr (.inl ())))
def aHj (a b:(List Part)):Option Bool:=
 if ((a.length:Int) != (b.length:Int)) then (some false) else (ob (loop (fun (s:Int)=>aAr a b s) 0) fun r=>match r with|.inl r=>aCF|.inr r=>some r)
def tF (a b:Definition):Option Bool:=
 if (!(a.Name == b.Name)) then (some false) else (if (a.Parameters != b.Parameters) then (some false) else (ob (aHj a.Body b.Body) fun e=>
 if (!e) then (some false) else (some true)))
def qU:Option Bool:=
 some true
def nC (a b:(List Definition)) (c:Int):Option (Int ⊕ (Unit ⊕ Bool)):=
 if (decide (c < (a.length:Int))) then (ob (ix a c) fun f=>
 ob (ix b c) fun g=>
 ob (tF f g) fun h=>
 if (!h) then (some (.inr (.inr false))) else (some (.inl (wr (c+1))))) else (some (.inr (.inl ())))
def wX (a b:(List Definition)):Option Bool:=
 if ((a.length:Int) != (b.length:Int)) then (some false) else (ob (loop (fun (s:Int)=>nC a b s) 0) fun r=>match r with|.inl r=>qU|.inr r=>some r)
def aBr:Option Bool:=
 some true
def wF (a b:(List Int)) (c:Int):Option (Int ⊕ (Unit ⊕ Bool)):=
 if (decide (c < (a.length:Int))) then (ob (ix a c) fun f=>
 ob (ix b c) fun g=>
 if (f != g) then (some (.inr (.inr false))) else (some (.inl (wr (c+1))))) else (some (.inr (.inl ())))
def aDx (a b:(List Int)):Option Bool:=
 if ((a.length:Int) != (b.length:Int)) then (some false) else (ob (loop (fun (s:Int)=>wF a b s) 0) fun r=>match r with|.inl r=>aBr|.inr r=>some r)
def wG (a b:bU):Option Bool:=
 if (a.Definition != b.Definition) then (some false) else (ob (aDx a.Values b.Values) fun e=>
 if (!e) then (some false) else (some true))
def sD:Option Bool:=
 some true
def oG (a b:(List bU)) (c:Int):Option (Int ⊕ (Unit ⊕ Bool)):=
 if (decide (c < (a.length:Int))) then (ob (ix a c) fun f=>
 ob (ix b c) fun g=>
 ob (wG f g) fun h=>
 if (!h) then (some (.inr (.inr false))) else (some (.inl (wr (c+1))))) else (some (.inr (.inl ())))
def aAs (a b:(List bU)):Option Bool:=
 if ((a.length:Int) != (b.length:Int)) then (some false) else (ob (loop (fun (s:Int)=>oG a b s) 0) fun r=>match r with|.inl r=>sD|.inr r=>some r)
def aBM (a b:cB):Option Bool:=
 if (!(a.Left == b.Left)) then (some false) else (if (!(a.Right == b.Right)) then (some false) else (if (!(a.Result == b.Result)) then (some false) else (some true)))
def wY:Option Bool:=
 some true
def rH (a b:(List cB)) (c:Int):Option (Int ⊕ (Unit ⊕ Bool)):=
 if (decide (c < (a.length:Int))) then (ob (ix a c) fun f=>
 ob (ix b c) fun g=>
 ob (aBM f g) fun h=>
 if (!h) then (some (.inr (.inr false))) else (some (.inl (wr (c+1))))) else (some (.inr (.inl ())))
def aCG (a b:(List cB)):Option Bool:=
 if ((a.length:Int) != (b.length:Int)) then (some false) else (ob (loop (fun (s:Int)=>rH a b s) 0) fun r=>match r with|.inl r=>wY|.inr r=>some r)
def aDy (a b:cW):Option Bool:=
 ob (wX a.Definitions b.Definitions) fun e=>
 if (!e) then (some false) else (ob (aAs a.Components b.Components) fun f=>
 if (!f) then (some false) else (ob (aCG a.Meetings b.Meetings) fun g=>
 if (!g) then (some false) else (ob (tE a.Allowed b.Allowed) fun h=>
 if (!h) then (some false) else (ob (tE a.Hidden b.Hidden) fun i=>
 if (!i) then (some false) else (some true)))))
def wH (a:bL):Option bL:=
 ob (cat ([109]:bL) a) fun b=>
 some b
def aBs (a:Int) (b:bL):Option ((Int × bL) ⊕ bL):=
 if (decide (0 < a)) then (ob (rm a 10) fun c=>
 ob (cat ([(UInt8.ofInt (wr (48+c)))]:List UInt8) b) fun d=>
 ob (qu a 10) fun e=>
 some (.inl (e,d))) else (some (.inr b))
def kX (k:Int):Option bL:=
 if (decide (k<=0)) then (some ([109,48]:bL)) else (ob (loop (fun (s:(Int × bL))=>aBs s.1 s.2) (k,([]:bL))) fun r=>wH r)
def aAt (a:Int) (b:List bS):Option (Int × (List bS)):=
 some (a,b)
def tG (b:List bS) (c a:Int):Option ((List bS × Int × Int) ⊕ (Int × List bS)):=
 if (decide (a < (b.length:Int))) then (ob (ix b a) fun e=>
 ob (st b a (⟨c,e.Value⟩:bS)) fun d=>
 ob (ix d a) fun f=>
 ob (st d a (⟨f.Kind,wr (c+1)⟩:bS)) fun g=>
 some (.inl (g,wr ((wr (c+1))+1),wr (a+1)))) else (some (.inr (c,b)))
def aBN (a:(List bS)) (k:Int):Option (Int × (List bS)):=
 ob (loop (fun (s:(List bS × Int × Int))=>tG s.1 s.2.1 s.2.2) (a,k,0)) fun r=>aAt r.1 r.2
def wZ (a:Int) (b:List (List bS)):Option (Int × (List (List bS))):=
 some (a,b)
def rI (a:List (List bS)) (c b:Int):Option ((List (List bS) × Int × Int) ⊕ (Int × List (List bS))):=
 if (decide (b < (a.length:Int))) then (ob (ix a b) fun e=>
 ob (aBN e c) fun d=>
 ob (st a b d.2) fun f=>
 some (.inl (f,d.1,wr (b+1)))) else (some (.inr (c,a)))
def aAu (a:(List (List bS))) (k:Int):Option (Int × (List (List bS))):=
 ob (loop (fun (s:(List (List bS) × Int × Int))=>rI s.1 s.2.1 s.2.2) (a,k,0)) fun r=>wZ r.1 r.2
def aAv (a:Int) (b:List Part):Option (Int × (List Part)):=
 some (a,b)
def tH (c:List Part) (b a:Int):Option ((List Part × Int × Int) ⊕ (Int × List Part)):=
 if (decide (a < (c.length:Int))) then (ob (ix c a) fun e=>
 ob (st c a (⟨b,e.Number,e.Name,e.Arguments⟩:Part)) fun h=>
 ob (ix h a) fun f=>
 ob (st h a (⟨f.Kind,wr (b+1),f.Name,f.Arguments⟩:Part)) fun i=>
 ob (kX (wr ((wr (b+1))+1))) fun l=>
 ob (ix i a) fun g=>
 ob (st i a (⟨g.Kind,g.Number,l,g.Arguments⟩:Part)) fun j=>
 ob (ix j a) fun d=>
 ob (aAu d.Arguments (wr ((wr ((wr (b+1))+1))+1))) fun k=>
 ob (st j a (⟨d.Kind,d.Number,d.Name,k.2⟩:Part)) fun m=>
 some (.inl (m,k.1,wr (a+1)))) else (some (.inr (b,c)))
def aBO (a:(List Part)) (k:Int):Option (Int × (List Part)):=
 ob (loop (fun (s:(List Part × Int × Int))=>tH s.1 s.2.1 s.2.2) (a,k,0)) fun r=>aAv r.1 r.2
def oH (a:Int) (b:List Definition):Option (Int × (List Definition)):=
 some (a,b)
def lN (b:List Definition) (c a:Int):Option ((List Definition × Int × Int) ⊕ (Int × List Definition)):=
 if (decide (a < (b.length:Int))) then (ob (kX c) fun j=>
 ob (ix b a) fun e=>
 ob (st b a (⟨j,e.Parameters,e.Body⟩:Definition)) fun f=>
 ob (ix f a) fun g=>
 ob (st f a (⟨g.Name,wr (c+1),g.Body⟩:Definition)) fun h=>
 ob (ix h a) fun d=>
 ob (aBO d.Body (wr ((wr (c+1))+1))) fun i=>
 ob (st h a (⟨d.Name,d.Parameters,i.2⟩:Definition)) fun k=>
 some (.inl (k,i.1,wr (a+1)))) else (some (.inr (c,b)))
def oI (a:(List Definition)) (k:Int):Option (Int × (List Definition)):=
 ob (loop (fun (s:(List Definition × Int × Int))=>lN s.1 s.2.1 s.2.2) (a,k,0)) fun r=>oH r.1 r.2
def rJ (a:Int) (b:List Int):Option (Int × (List Int)):=
 some (a,b)
def xA (a:List Int) (c b:Int):Option ((List Int × Int × Int) ⊕ (Int × List Int)):=
 if (decide (b < (a.length:Int))) then (ob (ix a b) fun e=>
 ob (st a b (c:Int)) fun d=>
 some (.inl (d,wr (c+1),wr (b+1)))) else (some (.inr (c,a)))
def aAw (a:(List Int)) (k:Int):Option (Int × (List Int)):=
 ob (loop (fun (s:(List Int × Int × Int))=>xA s.1 s.2.1 s.2.2) (a,k,0)) fun r=>rJ r.1 r.2
def oS (a:Int) (b:List bU):Option (Int × (List bU)):=
 some (a,b)
def mC (b:List bU) (c a:Int):Option ((List bU × Int × Int) ⊕ (Int × List bU)):=
 if (decide (a < (b.length:Int))) then (ob (ix b a) fun g=>
 ob (st b a (⟨c,g.Values⟩:bU)) fun d=>
 ob (ix d a) fun e=>
 ob (aAw e.Values (wr (c+1))) fun f=>
 ob (st d a (⟨e.Definition,f.2⟩:bU)) fun h=>
 some (.inl (h,f.1,wr (a+1)))) else (some (.inr (c,b)))
def pV (a:(List bU)) (k:Int):Option (Int × (List bU)):=
 ob (loop (fun (s:(List bU × Int × Int))=>mC s.1 s.2.1 s.2.2) (a,k,0)) fun r=>oS r.1 r.2
def sE (a:Int) (b:List cB):Option (Int × (List cB)):=
 some (a,b)
def oJ (c:List cB) (b a:Int):Option ((List cB × Int × Int) ⊕ (Int × List cB)):=
 if (decide (a < (c.length:Int))) then (ob (kX b) fun i=>
 ob (ix c a) fun d=>
 ob (st c a (⟨i,d.Right,d.Result⟩:cB)) fun e=>
 ob (kX (wr (b+1))) fun j=>
 ob (ix e a) fun f=>
 ob (st e a (⟨f.Left,j,f.Result⟩:cB)) fun g=>
 ob (kX (wr ((wr (b+1))+1))) fun k=>
 ob (ix g a) fun h=>
 ob (st g a (⟨h.Left,h.Right,k⟩:cB)) fun l=>
 some (.inl (l,wr ((wr ((wr (b+1))+1))+1),wr (a+1)))) else (some (.inr (b,c)))
def tI (a:(List cB)) (k:Int):Option (Int × (List cB)):=
 ob (loop (fun (s:(List cB × Int × Int))=>oJ s.1 s.2.1 s.2.2) (a,k,0)) fun r=>sE r.1 r.2
def pW (a:Int) (b:List bL):Option (Int × (List bL)):=
 some (a,b)
def uP (a:List bL) (c b:Int):Option ((List bL × Int × Int) ⊕ (Int × List bL)):=
 if (decide (b < (a.length:Int))) then (ob (kX c) fun d=>
 ob (ix a b) fun f=>
 ob (st a b (d:bL)) fun e=>
 some (.inl (e,wr (c+1),wr (b+1)))) else (some (.inr (c,a)))
def oQ (a:(List bL)) (k:Int):Option (Int × (List bL)):=
 ob (loop (fun (s:(List bL × Int × Int))=>uP s.1 s.2.1 s.2.2) (a,k,0)) fun r=>pW r.1 r.2
def aAx (f:(List Definition)) (g:(List bU)) (h:(List cB)) (i j:(List bL)) (k:Int):Option (Int × (List Definition) × (List bU) × (List cB) × (List bL) × (List bL)):=
 ob (oI f k) fun a=>
 ob (pV g a.1) fun b=>
 ob (tI h b.1) fun c=>
 ob (oQ i c.1) fun d=>
 ob (oQ j d.1) fun e=>
 some (e.1,a.2,b.2,c.2,d.2,e.2)
def tJ (a:Int) (b:List Edge):Option (Int × (List Edge)):=
 some (a,b)
def aAy (c:List Edge) (b a:Int):Option ((List Edge × Int × Int) ⊕ (Int × List Edge)):=
 if (decide (a < (c.length:Int))) then (ob (ix c a) fun d=>
 ob (st c a (⟨b,d.B,d.To⟩:Edge)) fun e=>
 ob (ix e a) fun f=>
 ob (st e a (⟨f.F,wr (b+1),f.To⟩:Edge)) fun g=>
 ob (ix g a) fun h=>
 ob (st g a (⟨h.F,h.B,wr ((wr (b+1))+1)⟩:Edge)) fun i=>
 some (.inl (i,wr ((wr ((wr (b+1))+1))+1),wr (a+1)))) else (some (.inr (b,c)))
def aBP (a:(List Edge)) (k:Int):Option (Int × (List Edge)):=
 ob (loop (fun (s:(List Edge × Int × Int))=>aAy s.1 s.2.1 s.2.2) (a,k,0)) fun r=>tJ r.1 r.2
def aCQ (f g:Int) (c:(List bL)) (d:(List Edge)) (k:Int):Option (Int × (List bL) × (List Edge)):=
 ob (oQ c k) fun a=>
 ob (aBP d a.1) fun b=>
 some (b.1,a.2,b.2)
def uQ (a:Int):Option Int:=
 some a
def pX (a:(List bL)) (b c:Int):Option ((Int × Int) ⊕ (Int ⊕ Int)):=
 if (decide (c < (a.length:Int))) then (ob (ix a c) fun e=>
 ob (kX b) fun f=>
 if (!(e == f)) then (some (.inr (.inr (-1)))) else (some (.inl (wr (b+1),wr (c+1))))) else (some (.inr (.inl b)))
def wI (a:(List bL)) (k:Int):Option Int:=
 ob (loop (fun (s:(Int × Int))=>pX a s.1 s.2) (k,0)) fun r=>match r with|.inl r=>uQ r|.inr r=>some r
def aAz (a:Int):Option Int:=
 some a
def tK (a:(List Edge)) (b c:Int):Option ((Int × Int) ⊕ (Int ⊕ Int)):=
 if (decide (c < (a.length:Int))) then (ob (ix a c) fun d=>
 if (d.F != b) then (some (.inr (.inr (-1)))) else (if (d.B != (wr (b+1))) then (some (.inr (.inr (-1)))) else (if (d.To != (wr ((wr (b+1))+1))) then (some (.inr (.inr (-1)))) else (some (.inl (wr ((wr ((wr (b+1))+1))+1),wr (c+1))))))) else (some (.inr (.inl b)))
def aBQ (a:(List Edge)) (k:Int):Option Int:=
 ob (loop (fun (s:(Int × Int))=>tK a s.1 s.2) (k,0)) fun r=>match r with|.inl r=>aAz r|.inr r=>some r
def aCR (a:iW) (k:Int):Option Int:=
 ob (wI a.L k) fun c=>
 if (decide (c < 0)) then (some (-1)) else (ob (aBQ a.E c) fun d=>
 if (decide (d < 0)) then (some (-1)) else (some d))
def jE (b:(iW × Int)) (a:(Int × (List bL) × (List Edge))) (d:Bool):Option Bool:=
 if d then (some false) else (ob (aCR ⟨b.1.N,b.1.I,a.2.1,a.2.2⟩ 1) fun c=>
 if (decide (c < 0)) then (some false) else (if (c != a.1) then (some false) else (some true)))
def iH (f:cW) (g:Int) (c a:(iW × Int)) (h:Bool):Option Bool:=
 if h then (some false) else (ob (aCQ a.1.N a.1.I a.1.L a.1.E 1) fun b=>
 ob (aCR ⟨a.1.N,a.1.I,b.2.1,b.2.2⟩ 1) fun d=>
 if (decide (d < 0)) then (some false) else (if (d != b.1) then (some false) else (ob (qR f) fun i=>
 ob (pU i g) fun e=>
 ob (aFz e.1 c.1) fun j=>
 if (!j) then (jE a b true) else (jE a b (e.2 != c.2)))))
def jF (d:cW) (e:Int) (b:(iW × Int)) (a:cW) (c:(iW × Int)) (f:Bool):Option Bool:=
 if f then (some false) else (ob (qR d) fun g=>
 ob (aDy a g) fun h=>
 if (!h) then (some false) else (ob (aAx a.Definitions a.Components a.Meetings a.Allowed a.Hidden 1) fun i=>
 if (decide (i.1 < 0)) then (iH d e b c true) else (ob (aFz c.1 b.1) fun j=>
 if (!j) then (iH d e b c true) else (iH d e b c (c.2 != b.2)))))
def nJ (a:cW) (b:Int):Option Bool:=
 ob (aDi a 1048576) fun f=>
 if (decide (f < 0)) then (some true) else (ob (qR a) fun g=>
 ob (sX g b) fun c=>
 ob (qR a) fun e=>
 ob (pU e b) fun d=>
 ob (aFz d.1 c.1) fun h=>
 if (!h) then (jF a b c e d true) else (jF a b c e d (d.2 != c.2)))
end
end Gv
