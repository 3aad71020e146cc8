/- Models of the functions, printed by program off their code. Plain Lean. -/
import Derived.Test.YtiipffjapfalhaaGreatDoorJLM
set_option linter.all false
namespace Gv
noncomputable section
def aGm (a:List Int):Option ((List Int) × Bool):=
 some (a,true)
def uX (b:(List aO)) (c:List Int) (a:Int):Option ((List Int × Int) ⊕ (List Int ⊕ ((List Int) × Bool))):=
 if (decide (a < (b.length:Int))) then (ob (ix b a) fun e=>
 ob (wA e) fun d=>
 if (!d.2) then (some (.inr (.inr ([],false)))) else (ob (zZ c ([d.1]:List Int)) fun f=>
 some (.inl (f,wr (a+1))))) else (some (.inr (.inl c)))
def wE (b:(List aO)):Option ((List Int) × Bool):=
 ob (loop (fun (s:(List Int × Int))=>uX b s.1 s.2) ([],0)) fun r=>match r with|.inl r=>aGm r|.inr r=>some r
def aIM (a:Bool):Option Bool:=
 some a
def jC (n low b:Int):Option Bool:=
 if (decide (low<=n)) then (aIM (decide (n<=b))) else (aIM false)
def aDZ (n:Int):Option Bool:=
 ob (jC n 0 63) fun b=>
 some b
def aEv (n:Int):Option Bool:=
 ob (aDZ n) fun b=>
 some (!b)
def mB:Option Int:=
 some (-1)
def eF (b:(List Int)) (a:Int):Option (Int ⊕ (Unit ⊕ Int)):=
 if (decide (a < (b.length:Int))) then (ob (ix b a) fun c=>
 ob (aEv c) fun d=>
 if d then (some (.inr (.inr a))) else (some (.inl (wr (a+1))))) else (some (.inr (.inl ())))
def gP (b:(List Int)):Option Int:=
 ob (loop (fun (s:Int)=>eF b s) 0) fun r=>match r with|.inl r=>mB|.inr r=>some r
def iT (a:(List Int)):Option Bool:=
 ob (gP a) fun b=>
 some (decide (0<=b))
def aCl (a:(List Int)):Option Bool:=
 ob (iT a) fun b=>
 some (!b)
def aHi (a:Bool):Option Bool:=
 some a
def aKc (c:UInt8):Option Bool:=
 if (decide (48<=(c.toNat:Int))) then (aHi (decide ((c.toNat:Int)<=57))) else (aHi false)
def aIN (a:Bool):Option Bool:=
 some a
def aFs (a:aO):Option Bool:=
 if (decide (1<=(a.length:Int))) then (aIN (decide ((a.length:Int)<=10))) else (aIN false)
def aCm (a:Int) (b:Bool):Option (Int ⊕ (Unit ⊕ Bool)):=
 if b then (some (.inr (.inr false))) else (some (.inl (wr (a+1))))
def qW (b:aO) (a:Int) (c:Bool):Option (Int ⊕ (Unit ⊕ Bool)):=
 if (!c) then (if (a == 0) then (aCm a true) else (ob (ix b a) fun d=>
 ob (aKc d) fun e=>
 aCm a (!e))) else (aCm a false)
def yS (a:aO) (b:Int):Option (Int ⊕ (Unit ⊕ Bool)):=
 if (decide (b < (a.length:Int))) then (ob (ix a b) fun c45=>
 if (decide (97<=(c45.toNat:Int))) then (qW a b (decide ((c45.toNat:Int)<=122))) else (qW a b false)) else (some (.inr (.inl ())))
def aGn (b:aO):Option Bool:=
 ob (loop (fun (s:Int)=>yS b s) 0) fun r=>match r with|.inl r=>aFs b|.inr r=>some r
def aBN (a:Bool):Option Bool:=
 some a
def pF (a:aO):Option Bool:=
 ob (aGn a) fun b=>
 if b then (aBN (!(a == ([116,97,117]:aO)))) else (aBN false)
def aIO (a:aO) (b:List aO):Option aO:=
 ob (aNE b a) fun c=>
 some c
def aCn (c:(List Int)) (b:List aO) (a:Int):Option ((List aO × Int) ⊕ (List aO)):=
 if (decide (a < (c.length:Int))) then (ob (ix c a) fun d=>
 ob (pV d) fun e=>
 ob (ix b a) fun g=>
 ob (st b a (e:aO)) fun f=>
 some (.inl (f,wr (a+1)))) else (some (.inr b))
def aEw (a:(List Int)) (b:aO):Option aO:=
 ob (mkz (a.length:Int) ([]:aO)) fun c=>
 ob (loop (fun (s:(List aO × Int))=>aCn a s.1 s.2) (c,0)) fun r=>aIO b r
def aAe (a:aO) (b:(List Int)) (c:Bool):Option (aO × Bool):=
 if c then (some (([]:aO),false)) else (if ((b.length:Int) == 0) then (some (a,true)) else (ob (cat a ([40]:aO)) fun d=>
 ob (aEw b ([44]:aO)) fun e=>
 ob (cat d e) fun f=>
 ob (cat f ([41]:aO)) fun g=>
 some (g,true)))
def yT (b:aO) (a:(List Int)):Option (aO × Bool):=
 if (b == ([116,97,117]:aO)) then (some (([116,97,117]:aO),(a.length:Int) == 0)) else (ob (pF b) fun c=>
 if (!c) then (aAe b a true) else (if (decide (2 < (a.length:Int))) then (aAe b a true) else (ob (aCl a) fun d=>
 aAe b a (!d))))
def fX (a:Bool):Option Bool:=
 some a
def gX (a b:aO):Option Bool:=
 if (decide ((b.length:Int)<=(a.length:Int))) then (ob (slc a (wr ((a.length:Int) - (b.length:Int))) (a.length:Int)) fun c=>
 fX (c == b)) else (fX false)
def jN (a b:aO):Option aO:=
 ob (gX a b) fun c=>
 if c then (ob (slc a 0 (wr ((a.length:Int) - (b.length:Int)))) fun d=>
 some d) else (some a)
def oH (a b:aO):Option aO:=
 ob (jN a b) fun c=>
 some c
def pW (a:(aO × aO × Bool)) (b:List Int) (c:Bool):Option (aO × (List Int) × Bool):=
 if c then (some (([]:aO),[],false)) else (some (a.1,b,true))
def lF (d:aO) (a:(aO × aO × Bool)) (b:List Int):Option (aO × (List Int) × Bool):=
 ob (yT a.1 b) fun c=>
 if (!c.2) then (pW a b true) else (pW a b (!(c.1 == d)))
def oI (b:aO):Option (aO × (List Int) × Bool):=
 ob (l_Cut b ([40]:aO)) fun a=>
 if a.2.2 then (ob (oH a.2.1 ([41]:aO)) fun d=>
 ob (aHd d ([44]:aO)) fun e=>
 ob (wE e) fun c=>
 if (!c.2) then (some (([]:aO),[],false)) else (lF b a c.1)) else (lF b a [])
def aKd (a:aO):Option Bool:=
 ob (oI a) fun b=>
 some b.2.2
def aGo (a:(List aW)) (c:Int):Option Int:=
 if (decide (wr (c - (a.length:Int)) < 0)) then (some (-1)) else (some (wr (c - (a.length:Int))))
def aKI (a:Int):Option Int:=
 some a
def aBO (a:(List (List aW))) (d b:Int):Option ((Int × Int) ⊕ (Int ⊕ Int)):=
 if (decide (b < (a.length:Int))) then (ob (ix a b) fun f=>
 ob (aGo f d) fun e=>
 if (decide (e < 0)) then (some (.inr (.inr (-1)))) else (some (.inl (e,wr (b+1))))) else (some (.inr (.inl d)))
def aHj (a:(List (List aW))) (d:Int):Option Int:=
 if (decide (wr (d - (a.length:Int)) < 0)) then (some (-1)) else (ob (loop (fun (s:(Int × Int))=>aBO a s.1 s.2) (wr (d - (a.length:Int)),0)) fun r=>match r with|.inl r=>aKI r|.inr r=>some r)
def aIP (a:Part) (c:Int):Option Int:=
 if (decide (wr (c - (a.Name.length:Int)) < 0)) then (some (-1)) else (ob (aHj a.Arguments (wr (c - (a.Name.length:Int)))) fun d=>
 if (decide (d < 0)) then (some (-1)) else (some d))
def aMr (a:Int):Option Int:=
 some a
def aDs (a:(List Part)) (d b:Int):Option ((Int × Int) ⊕ (Int ⊕ Int)):=
 if (decide (b < (a.length:Int))) then (ob (ix a b) fun f=>
 ob (aIP f d) fun e=>
 if (decide (e < 0)) then (some (.inr (.inr (-1)))) else (some (.inl (e,wr (b+1))))) else (some (.inr (.inl d)))
def aKe (a:(List Part)) (d:Int):Option Int:=
 if (decide (wr (d - (a.length:Int)) < 0)) then (some (-1)) else (ob (loop (fun (s:(Int × Int))=>aDs a s.1 s.2) (wr (d - (a.length:Int)),0)) fun r=>match r with|.inl r=>aMr r|.inr r=>some r)
def tQ (a:Definition) (c:Int):Option Int:=
 if (decide (wr (c - (a.Name.length:Int)) < 0)) then (some (-1)) else (ob (aKe a.Body (wr (c - (a.Name.length:Int)))) fun d=>
 if (decide (d < 0)) then (some (-1)) else (some d))
def aEx (a:Int):Option Int:=
 some a
def rE (a:(List Definition)) (d b:Int):Option ((Int × Int) ⊕ (Int ⊕ Int)):=
 if (decide (b < (a.length:Int))) then (ob (ix a b) fun f=>
 ob (tQ f d) fun e=>
 if (decide (e < 0)) then (some (.inr (.inr (-1)))) else (some (.inl (e,wr (b+1))))) else (some (.inr (.inl d)))
def xQ (a:(List Definition)) (d:Int):Option Int:=
 if (decide (wr (d - (a.length:Int)) < 0)) then (some (-1)) else (ob (loop (fun (s:(Int × Int))=>rE a s.1 s.2) (wr (d - (a.length:Int)),0)) fun r=>match r with|.inl r=>aEx r|.inr r=>some r)
def aLr (a:(List Int)) (c:Int):Option Int:=
 if (decide (wr (c - (a.length:Int)) < 0)) then (some (-1)) else (some (wr (c - (a.length:Int))))
def wF (a:aY) (d:Int):Option Int:=
 ob (aLr a.Values d) fun b=>
 if (decide (b < 0)) then (some (-1)) else (some b)
def aFt (a:Int):Option Int:=
 some a
def tE (a:(List aY)) (d b:Int):Option ((Int × Int) ⊕ (Int ⊕ Int)):=
 if (decide (b < (a.length:Int))) then (ob (ix a b) fun f=>
 ob (wF f d) fun e=>
 if (decide (e < 0)) then (some (.inr (.inr (-1)))) else (some (.inl (e,wr (b+1))))) else (some (.inr (.inl d)))
def aAf (a:(List aY)) (d:Int):Option Int:=
 if (decide (wr (d - (a.length:Int)) < 0)) then (some (-1)) else (ob (loop (fun (s:(Int × Int))=>tE a s.1 s.2) (wr (d - (a.length:Int)),0)) fun r=>match r with|.inl r=>aFt r|.inr r=>some r)
def aCo (a:bB) (c:Int):Option Int:=
 if (decide (wr (c - (a.Left.length:Int)) < 0)) then (some (-1)) else (if (decide (wr ((wr (c - (a.Left.length:Int))) - (a.Right.length:Int)) < 0)) then (some (-1)) else (if (decide (wr ((wr ((wr (c - (a.Left.length:Int))) - (a.Right.length:Int))) - (a.Result.length:Int)) < 0)) then (some (-1)) else (some (wr ((wr ((wr (c - (a.Left.length:Int))) - (a.Right.length:Int))) - (a.Result.length:Int))))))
def aHU (a:Int):Option Int:=
 some a
def xR (a:(List bB)) (d b:Int):Option ((Int × Int) ⊕ (Int ⊕ Int)):=
 if (decide (b < (a.length:Int))) then (ob (ix a b) fun f=>
 ob (aCo f d) fun e=>
 if (decide (e < 0)) then (some (.inr (.inr (-1)))) else (some (.inl (e,wr (b+1))))) else (some (.inr (.inl d)))
def aDt (a:(List bB)) (d:Int):Option Int:=
 if (decide (wr (d - (a.length:Int)) < 0)) then (some (-1)) else (ob (loop (fun (s:(Int × Int))=>xR a s.1 s.2) (wr (d - (a.length:Int)),0)) fun r=>match r with|.inl r=>aHU r|.inr r=>some r)
def aIQ (a:Int):Option Int:=
 some a
def aAg (a:(List aO)) (b c:Int):Option ((Int × Int) ⊕ (Int ⊕ Int)):=
 if (decide (c < (a.length:Int))) then (ob (ix a c) fun e=>
 if (decide (wr (b - (e.length:Int)) < 0)) then (some (.inr (.inr (-1)))) else (some (.inl (wr (b - (e.length:Int)),wr (c+1))))) else (some (.inr (.inl b)))
def aCp (a:(List aO)) (d:Int):Option Int:=
 if (decide (wr (d - (a.length:Int)) < 0)) then (some (-1)) else (ob (loop (fun (s:(Int × Int))=>aAg a s.1 s.2) (wr (d - (a.length:Int)),0)) fun r=>match r with|.inl r=>aIQ r|.inr r=>some r)
def aHk (a:bE) (h:Int):Option Int:=
 ob (xQ a.Definitions h) fun c=>
 if (decide (c < 0)) then (some (-1)) else (ob (aAf a.Components c) fun d=>
 if (decide (d < 0)) then (some (-1)) else (ob (aDt a.Meetings d) fun e=>
 if (decide (e < 0)) then (some (-1)) else (ob (aCp a.Allowed e) fun f=>
 if (decide (f < 0)) then (some (-1)) else (ob (aCp a.Hidden f) fun g=>
 if (decide (g < 0)) then (some (-1)) else (some g)))))
def aFY (a:Bool):Option Bool:=
 some a
def aEy (c:UInt8):Option Bool:=
 if (decide (97<=(c.toNat:Int))) then (aFY (decide ((c.toNat:Int)<=122))) else (aFY false)
def aFZ (a:Bool):Option Bool:=
 some a
def aEz (c:UInt8):Option Bool:=
 if (decide (48<=(c.toNat:Int))) then (aFZ (decide ((c.toNat:Int)<=57))) else (aFZ false)
def aHl:Option Bool:=
 some true
def aDu (a:Int) (b:Bool):Option (Int ⊕ (Unit ⊕ Bool)):=
 if b then (some (.inr (.inr false))) else (some (.inl (wr (a+1))))
def aAh (b:aO) (a:Int):Option (Int ⊕ (Unit ⊕ Bool)):=
 if (decide (a < (b.length:Int))) then (ob (ix b a) fun c=>
 ob (aEy c) fun d=>
 if (!d) then (ob (aEz c) fun e=>
 aDu a (!e)) else (aDu a false)) else (some (.inr (.inl ())))
def rF (b:aO) (c:Bool):Option Bool:=
 if c then (some false) else (ob (loop (fun (s:Int)=>aAh b s) 0) fun r=>match r with|.inl r=>aHl|.inr r=>some r)
def yU (a:aO):Option Bool:=
 if (a == ([]:aO)) then (rF a true) else (if (decide (10 < (a.length:Int))) then (rF a true) else (ob (ix a 0) fun b=>
 ob (aEy b) fun c=>
 rF a (!c)))
def aLs (a:Bool):Option Bool:=
 some a
def tF (n low b:Int):Option Bool:=
 if (decide (low<=n)) then (aLs (decide (n<=b))) else (aLs false)
def tR (p:Part) (b:Bool):Option Int:=
 if b then (some 1) else (if (p.Kind == 2) then (some 2) else (some 0))
def yV (p:Part):Option Int:=
 if (p.Kind == 1) then (tR p (p.Kind == 1)) else (if (p.Kind == 3) then (tR p (p.Kind == 3)) else (tR p (p.Kind == 4)))
def aKJ (a:Int):Option Bool:=
 some (a == 0)
def aBP (c:(List Part)) (a b:Int):Option ((Int × Int) ⊕ (Int ⊕ Bool)):=
 if (decide (b < (c.length:Int))) then (if (a == 0) then (some (.inr (.inr false))) else (ob (ix c b) fun d=>
 ob (yV d) fun e=>
 some (.inl (wr (a+(wr (e - 1))),wr (b+1))))) else (some (.inr (.inl a)))
def wG (b:(List Part)) (c:Bool):Option Bool:=
 if c then (some false) else (ob (loop (fun (s:(Int × Int))=>aBP b s.1 s.2) (1,0)) fun r=>match r with|.inl r=>aKJ r|.inr r=>some r)
def aEA (a:(List Part)):Option Bool:=
 if ((a.length:Int) == 0) then (wG a true) else (wG a (decide (20 < (a.length:Int))))
def aAi (a:Bool):Option Bool:=
 some a
def aDv (a:Bool):Option Bool:=
 some a
def aDw (a:Bool):Option Bool:=
 some a
def aAj (p:Part) (b:Bool):Option Bool:=
 if b then (if (p.Number == 0) then (if (p.Name == ([]:aO)) then (aAi ((p.Arguments.length:Int) == 0)) else (aAi false)) else (aAi false)) else (if (p.Kind == 1) then (some (p.Number == 0)) else (if (p.Kind == 3) then (if (p.Number == 0) then (aDv (p.Name == ([]:aO))) else (aDv false)) else (if (p.Kind == 4) then (if (p.Name == ([]:aO)) then (aDw ((p.Arguments.length:Int) == 0)) else (aDw false)) else (if (p.Kind == 5) then (some (p.Name == ([]:aO))) else (some false)))))
def aGp (p:Part):Option Bool:=
 if (p.Kind == 0) then (aAj p (p.Kind == 0)) else (aAj p (p.Kind == 2))
def aIR (a:Int):Option Int:=
 some a
def aIS (c:(List Part)) (a b:Int):Option ((Int × Int) ⊕ Int):=
 if (decide (0 < b)) then (ob (ix c a) fun d=>
 ob (yV d) fun e=>
 some (.inl (wr (a+1),wr (b+(wr (e - 1)))))) else (some (.inr a))
def aGq (a:(List Part)) (b:Int):Option Int:=
 ob (loop (fun (s:(Int × Int))=>aIS a s.1 s.2) (b,1)) fun r=>aIR r
def aKK (a:Int):Option Int:=
 some a
def wH (a b:Int):Option ((Int × Int) ⊕ Int):=
 some (.inl (b,wr (a+1)))
def aBQ (a b:Int) (c:Bool):Option ((Int × Int) ⊕ Int):=
 if c then (wH b (wr (a+1))) else (wH b a)
def lB (d:Definition) (e b a:Int):Option ((Int × Int) ⊕ Int):=
 if (decide (a < e)) then (ob (ix d.Body a) fun f=>
 if (f.Kind == 4) then (ob (aGq d.Body a) fun g=>
 aBQ b a (decide (e < g))) else (aBQ b a false)) else (some (.inr b))
def aBp (d:Definition) (b:Int):Option Int:=
 ob (loop (fun (s:(Int × Int))=>lB d b s.1 s.2) (d.Parameters,0)) fun r=>aKK r
def aKf (t:aW) (b:Int):Option Bool:=
 if (t.Kind == 0) then (ob (tF t.Value 0 63) fun c=>
 some c) else (if (t.Kind == 1) then (ob (tF t.Value 0 (wr (b - 1))) fun d=>
 some d) else (if (t.Kind == 2) then (ob (tF t.Value 0 8) fun e=>
 some e) else (if (t.Kind == 3) then (some (t.Value == 0)) else (some false))))
def aEB (t:aW):Option Int:=
 if (t.Kind == 2) then (some 2) else (if (t.Kind == 3) then (some 1) else (some 0))
def aQe (a:Int):Option Bool:=
 some (a == 0)
def aHm (e:(List aW)) (c a:Int) (d:Bool):Option ((Int × Int) ⊕ (Int ⊕ Bool)):=
 if d then (some (.inr (.inr false))) else (ob (ix e a) fun f=>
 ob (aEB f) fun g=>
 some (.inl (wr (c+(wr (g - 1))),wr (a+1))))
def aEC (e:(List aW)) (d b c:Int):Option ((Int × Int) ⊕ (Int ⊕ Bool)):=
 if (decide (c < (e.length:Int))) then (if (b == 0) then (aHm e b c true) else (ob (ix e c) fun f=>
 ob (aKf f d) fun g=>
 aHm e b c (!g))) else (some (.inr (.inl b)))
def aMs (e:(List aW)) (c d:Int):Option Bool:=
 if (decide (d < (e.length:Int))) then (some false) else (ob (loop (fun (s:(Int × Int))=>aEC e c s.1 s.2) (1,0)) fun r=>match r with|.inl r=>aQe r|.inr r=>some r)
def aED:Option Int:=
 some 0
def tS (b:Part) (c a:Int):Option (Int ⊕ (Unit ⊕ Int)):=
 if (decide (a < (b.Arguments.length:Int))) then (ob (ix b.Arguments a) fun d=>
 ob (aMs d c 15) fun e=>
 if (!e) then (some (.inr (.inr 8))) else (some (.inl (wr (a+1))))) else (some (.inr (.inl ())))
def pX (b:Part) (c:Int) (d:Bool):Option Int:=
 if d then (some 7) else (ob (loop (fun (s:Int)=>tS b c s) 0) fun r=>match r with|.inl r=>aED|.inr r=>some r)
def nH (d:Definition) (e:Int) (a:Part) (f:Bool):Option Int:=
 if f then (some 6) else (ob (aBp d e) fun b=>
 if (a.Kind == 4) then (pX a b (decide (6<=b))) else (pX a b false))
def jP (d:Definition) (a:Int) (c:Part):Option Int:=
 if (c.Kind == 5) then (if (a == 0) then (nH d a c true) else (ob (ix d.Body (wr (a - 1))) fun e=>
 nH d a c (e.Kind != 1))) else (nH d a c false)
def tT (d:Definition) (b:Int) (c:Part) (e:Bool):Option Int:=
 if e then (some 5) else (jP d b c)
def jQ (e:(List Definition)) (d:Definition) (c:Int) (a:Part) (f:Bool):Option Int:=
 if f then (some 4) else (if (a.Kind == 1) then (if (decide (2 < (a.Arguments.length:Int))) then (tT d c a true) else (if (decide (0 < (a.Arguments.length:Int))) then (tT d c a (a.Name == ([116,97,117]:aO))) else (tT d c a false))) else (if (a.Kind == 3) then (if ((a.Arguments.length:Int) != 1) then (some 5) else (jP d c a)) else (if (a.Kind == 5) then (ob (ix e a.Number) fun g=>
 if ((a.Arguments.length:Int) != g.Parameters) then (some 5) else (jP d c a)) else (jP d c a))))
def pY (b:(List Definition)) (d:Definition) (e:Int) (a:Part) (f:Bool):Option Int:=
 if f then (some 3) else (if (a.Kind == 4) then (ob (tF a.Number 1 7) fun g=>
 if (!g) then (jQ b d e a true) else (if (a.Kind == 5) then (ob (tF a.Number 0 (wr ((b.length:Int) - 1))) fun h=>
 jQ b d e a (!h)) else (jQ b d e a false))) else (if (a.Kind == 5) then (ob (tF a.Number 0 (wr ((b.length:Int) - 1))) fun i=>
 jQ b d e a (!i)) else (jQ b d e a false)))
def yW (e:(List Definition)) (d:Definition) (c:Int):Option Int:=
 ob (ix d.Body c) fun a=>
 ob (aGp a) fun f=>
 if (!f) then (some 2) else (if (a.Kind == 1) then (ob (yU a.Name) fun g=>
 pY e d c a (!g)) else (pY e d c a false))
def aMt:Option (Int × Int):=
 some (0,0)
def aAk (e:(List Definition)) (d:Definition) (a:Int):Option (Int ⊕ (Unit ⊕ (Int × Int))):=
 if (decide (a < (d.Body.length:Int))) then (ob (yW e d a) fun c=>
 if (decide (0 < c)) then (some (.inr (.inr (a,c)))) else (some (.inl (wr (a+1))))) else (some (.inr (.inl ())))
def aEa (c:(List Definition)) (d:Definition):Option (Int × Int):=
 ob (aEA d.Body) fun e=>
 if (!e) then (some (0,1)) else (ob (loop (fun (s:Int)=>aAk c d s) 0) fun r=>match r with|.inl r=>aMt|.inr r=>some r)
def aMu:Option Bool:=
 some true
def aDx (a:(List Definition)) (b:Int):Option (Int ⊕ (Unit ⊕ Bool)):=
 if (decide (b < (a.length:Int))) then (ob (ix a b) fun c=>
 ob (aEa a c) fun d=>
 if (decide (0 < d.2)) then (some (.inr (.inr false))) else (some (.inl (wr (b+1))))) else (some (.inr (.inl ())))
def aAl (b:(List Definition)):Option Bool:=
 ob (loop (fun (s:Int)=>aDx b s) 0) fun r=>match r with|.inl r=>aMu|.inr r=>some r
def aDy (a:Int):Option (Int ⊕ (Unit ⊕ Bool)):=
 some (.inl (wr (a+1)))
def aDz (a:Int):Option (Int ⊕ (Unit ⊕ Bool)):=
 aDy a
def aDA (b:(List Definition)) (c a:Int):Option (Int ⊕ (Unit ⊕ Bool)):=
 if (decide (a < c)) then (ob (ix b a) fun d=>
 ob (ix b c) fun e=>
 if (d.Name == e.Name) then (some (.inr (.inr false))) else (some (.inl (wr (a+1))))) else (some (.inr (.inl ())))
def aAm (c:(List Definition)) (b:Int) (d:Bool):Option (Int ⊕ (Unit ⊕ Bool)):=
 if d then (some (.inr (.inr false))) else (ob (loop (fun (s:Int)=>aDA c b s) 0) fun r=>match r with|.inl r=>aDz b|.inr r=>some (.inr (.inr r)))
def aAn (a:(List Definition)) (b:Int):Option (Int ⊕ (Unit ⊕ Bool)):=
 if (decide (b < (a.length:Int))) then (ob (ix a b) fun c=>
 ob (yU c.Name) fun d=>
 if (!d) then (aAm a b true) else (ob (tF c.Parameters 0 3) fun e=>
 aAm a b (!e))) else (some (.inr (.inl ())))
def uY (b:(List Definition)) (c:Bool):Option Bool:=
 if c then (some false) else (ob (loop (fun (s:Int)=>aAn b s) 0) fun r=>match r with|.inl r=>aAl b|.inr r=>some r)
def aBq (a:(List Definition)):Option Bool:=
 if ((a.length:Int) == 0) then (uY a true) else (uY a (decide (4 < (a.length:Int))))
def aMv:Option Bool:=
 some true
def aDB (b:(List Int)) (a:Int):Option (Int ⊕ (Unit ⊕ Bool)):=
 if (decide (a < (b.length:Int))) then (ob (ix b a) fun c=>
 ob (tF c 0 63) fun d=>
 if (!d) then (some (.inr (.inr false))) else (some (.inl (wr (a+1))))) else (some (.inr (.inl ())))
def aGr (b:(List Int)):Option Bool:=
 ob (loop (fun (s:Int)=>aDB b s) 0) fun r=>match r with|.inl r=>aMv|.inr r=>some r
def aEE:Option Bool:=
 some true
def rG (a:Int) (b:Bool):Option (Int ⊕ (Unit ⊕ Bool)):=
 if b then (some (.inr (.inr false))) else (some (.inl (wr (a+1))))
def nI (a:bE) (b:Int):Option (Int ⊕ (Unit ⊕ Bool)):=
 if (decide (b < (a.Components.length:Int))) then (ob (ix a.Components b) fun c=>
 ob (tF c.Definition 0 (wr ((a.Definitions.length:Int) - 1))) fun d=>
 if (!d) then (some (.inr (.inr false))) else (ob (ix a.Definitions c.Definition) fun e=>
 if ((c.Values.length:Int) != e.Parameters) then (rG b true) else (ob (aGr c.Values) fun f=>
 rG b (!f)))) else (some (.inr (.inl ())))
def nJ (b:bE) (c:Bool):Option Bool:=
 if c then (some false) else (ob (loop (fun (s:Int)=>nI b s) 0) fun r=>match r with|.inl r=>aEE|.inr r=>some r)
def sD (a:bE):Option Bool:=
 if ((a.Components.length:Int) == 0) then (nJ a true) else (nJ a (decide (3 < (a.Components.length:Int))))
def aAo (a:Bool):Option Bool:=
 some a
def oJ (a:aO):Option Bool:=
 ob (yU a) fun b=>
 if b then (aAo (!(a == ([116,97,117]:aO)))) else (aAo false)
def aGs:Option Bool:=
 some true
def uZ (a:Int):Option (Int ⊕ (Unit ⊕ Bool)):=
 some (.inl (wr (a+1)))
def aBr (a:Int):Option (Int ⊕ (Unit ⊕ Bool)):=
 uZ a
def vA (a:Int) (b:Bool):Option (Int ⊕ (Unit ⊕ Bool)):=
 if b then (some (.inr (.inr false))) else (some (.inl (wr (a+1))))
def pZ (b:(List bB)) (c:bB) (a:Int):Option (Int ⊕ (Unit ⊕ Bool)):=
 if (decide (a < (b.length:Int))) then (ob (ix b a) fun d=>
 if (d.Left == c.Result) then (vA a true) else (vA a (d.Right == c.Result))) else (some (.inr (.inl ())))
def jI (b:(List bB)) (c:Int) (d:bB) (e:Bool):Option (Int ⊕ (Unit ⊕ Bool)):=
 if e then (some (.inr (.inr false))) else (ob (loop (fun (s:Int)=>pZ b d s) 0) fun r=>match r with|.inl r=>aBr c|.inr r=>some (.inr (.inr r)))
def jJ (c:(List bB)) (b:Int) (a:bB) (e:Bool):Option (Int ⊕ (Unit ⊕ Bool)):=
 if e then (some (.inr (.inr false))) else (if (decide (0 < b)) then (ob (ix c (wr (b - 1))) fun d=>
 if (!(nR d.Left a.Left||d.Left == a.Left)) then (jI c b a true) else (if (d.Left == a.Left) then (jI c b a (!nR d.Right a.Right)) else (jI c b a false))) else (jI c b a false))
def nA (b:(List bB)) (c:Int):Option (Int ⊕ (Unit ⊕ Bool)):=
 if (decide (c < (b.length:Int))) then (ob (ix b c) fun a=>
 ob (oJ a.Left) fun d=>
 if (!d) then (jJ b c a true) else (ob (oJ a.Right) fun e=>
 if (!e) then (jJ b c a true) else (ob (oJ a.Result) fun f=>
 if (!f) then (jJ b c a true) else (jJ b c a (!(nR a.Left a.Right||a.Left == a.Right)))))) else (some (.inr (.inl ())))
def wI (b:(List bB)):Option Bool:=
 if (decide (6 < (b.length:Int))) then (some false) else (ob (loop (fun (s:Int)=>nA b s) 0) fun r=>match r with|.inl r=>aGs|.inr r=>some r)
def aHV:Option Bool:=
 some true
def xS (b:(List aO)) (a:Int):Option (Int ⊕ (Unit ⊕ Bool)):=
 if (decide (a < (b.length:Int))) then (ob (ix b a) fun c=>
 ob (oJ c) fun d=>
 if (!d) then (some (.inr (.inr false))) else (some (.inl (wr (a+1))))) else (some (.inr (.inl ())))
def aAp (b:(List aO)):Option Bool:=
 ob (loop (fun (s:Int)=>xS b s) 0) fun r=>match r with|.inl r=>aHV|.inr r=>some r
def aKL:Option Bool:=
 some true
def wJ (b:(List aO)) (a:Int):Option (Int ⊕ (Unit ⊕ Bool)):=
 if (decide (a < (b.length:Int))) then (ob (ix b (wr (a - 1))) fun c=>
 ob (ix b a) fun d=>
 if (!nR c d) then (some (.inr (.inr false))) else (some (.inl (wr (a+1))))) else (some (.inr (.inl ())))
def wK (b:(List aO)) (c:Bool):Option Bool:=
 if c then (some false) else (ob (loop (fun (s:Int)=>wJ b s) 1) fun r=>match r with|.inl r=>aKL|.inr r=>some r)
def aBs (a:(List aO)):Option Bool:=
 if (decide (12 < (a.length:Int))) then (wK a true) else (ob (aAp a) fun b=>
 wK a (!b))
def aHn (a:bE):Option Int:=
 ob (aBq a.Definitions) fun b=>
 if (!b) then (some 1) else (ob (sD a) fun c=>
 if (!c) then (some 2) else (ob (wI a.Meetings) fun d=>
 if (!d) then (some 3) else (ob (aBs a.Allowed) fun e=>
 if (!e) then (some 4) else (ob (aBs a.Hidden) fun f=>
 if (!f) then (some 5) else (some 0)))))
def aMw (a:bE):Option Bool:=
 ob (aHn a) fun b=>
 some (b == 0)
def aMx:Option Bool:=
 some true
def aDC (a b:(List Int)) (c:Int):Option (Int ⊕ (Unit ⊕ Bool)):=
 if (decide (c < (a.length:Int))) then (ob (ix a c) fun f=>
 ob (ix b c) fun g=>
 if (f != g) then (some (.inr (.inr false))) else (some (.inl (wr (c+1))))) else (some (.inr (.inl ())))
def aEb (a b:(List Int)):Option Bool:=
 if ((a.length:Int) != (b.length:Int)) then (some false) else (ob (loop (fun (s:Int)=>aDC a b s) 0) fun r=>match r with|.inl r=>aMx|.inr r=>some r)
def oK (a:Bool):Option Bool:=
 some a
def qA (a b:GPoint):Option Bool:=
 if (a.Definition == b.Definition) then (if (a.Part == b.Part) then (ob (aEb a.Values b.Values) fun e=>
 oK e) else (oK false)) else (oK false)
def aMy:Option Bool:=
 some true
def aDD (a b:(List GPoint)) (c:Int):Option (Int ⊕ (Unit ⊕ Bool)):=
 if (decide (c < (a.length:Int))) then (ob (ix a c) fun f=>
 ob (ix b c) fun g=>
 ob (qA f g) fun h=>
 if (!h) then (some (.inr (.inr false))) else (some (.inl (wr (c+1))))) else (some (.inr (.inl ())))
def aBt (a b:(List GPoint)):Option Bool:=
 if ((a.length:Int) != (b.length:Int)) then (some false) else (ob (loop (fun (s:Int)=>aDD a b s) 0) fun r=>match r with|.inl r=>aMy|.inr r=>some r)
def wL (a:(List Int)):Option (List Int):=
 ob (zZ ([]:List Int) a) fun b=>
 some b
def aKM (a:List GPoint):Option (List GPoint):=
 some a
def wM (b:bE) (c:List GPoint) (a:Int):Option ((List GPoint × Int) ⊕ (List GPoint)):=
 if (decide (a < (b.Components.length:Int))) then (ob (ix b.Components a) fun d=>
 ob (wL d.Values) fun e=>
 ob (zZ c ([⟨d.Definition,0,e⟩]:List GPoint)) fun f=>
 some (.inl (f,wr (a+1)))) else (some (.inr c))
def aEF (a:bE):Option (List GPoint):=
 ob (loop (fun (s:(List GPoint × Int))=>wM a s.1 s.2) (([]:List GPoint),0)) fun r=>aKM r
def aOC (a:List GPoint):Option (List GPoint):=
 some a
def aCq (c:(List GPoint)) (d:List GPoint) (a:Int):Option ((List GPoint × Int) ⊕ (List GPoint)):=
 if (decide (a < (c.length:Int))) then (ob (ix c a) fun b=>
 ob (wL b.Values) fun e=>
 ob (zZ d ([⟨b.Definition,b.Part,e⟩]:List GPoint)) fun f=>
 some (.inl (f,wr (a+1)))) else (some (.inr d))
def aAq (a:(List GPoint)):Option (List GPoint):=
 ob (loop (fun (s:(List GPoint × Int))=>aCq a s.1 s.2) (([]:List GPoint),0)) fun r=>aOC r
def aMz:Option Int:=
 some (-1)
def aDE (b:(List aO)) (c:aO) (a:Int):Option (Int ⊕ (Unit ⊕ Int)):=
 if (decide (a < (b.length:Int))) then (ob (ix b a) fun d=>
 if (d == c) then (some (.inr (.inr a))) else (some (.inl (wr (a+1))))) else (some (.inr (.inl ())))
def qB (b:(List aO)) (c:aO):Option Int:=
 ob (loop (fun (s:Int)=>aDE b c s) 0) fun r=>match r with|.inl r=>aMz|.inr r=>some r
def aIT (a:List UInt8):Option aO:=
 some a
def aFu (c b:List UInt8) (a:Int):Option ((List UInt8 × Int) ⊕ (List UInt8)):=
 if (decide (0<=a)) then (ob (ix c a) fun d=>
 ob (zZ b ([d]:List UInt8)) fun e=>
 some (.inl (e,wr (a - 1)))) else (some (.inr b))
def aCr (a:List UInt8):Option aO:=
 ob (loop (fun (s:(List UInt8 × Int))=>aFu a s.1 s.2) (([]:List UInt8),wr ((a.length:Int) - 1))) fun r=>aIT r
def aFv (n:Int) (a:List UInt8):Option aO:=
 if (decide (n < 0)) then (ob (zZ a ([(45:UInt8)]:List UInt8)) fun c=>
 aCr c) else (aCr a)
def aFw (a:List UInt8) (b c:Int):Option ((List UInt8 × Int) ⊕ (List UInt8)):=
 ob (zZ a ([(UInt8.ofInt (wr (48+c)))]:List UInt8)) fun d=>
 ob (qu b 10) fun e=>
 some (.inl (d,e))
def aCs (b:List UInt8) (a:Int):Option ((List UInt8 × Int) ⊕ (List UInt8)):=
 if (a != 0) then (ob (rm a 10) fun c=>
 if (decide (c < 0)) then (aFw b a (wr (0 - c))) else (aFw b a c)) else (some (.inr b))
def aIU (n:Int):Option aO:=
 if (n == 0) then (some ([48]:aO)) else (ob (loop (fun (s:(List UInt8 × Int))=>aCs s.1 s.2) (([]:List UInt8),n)) fun r=>aFv n r)
def aMA (a:aO):Option aO:=
 some a
def aDF (b:(List Int)) (a:Int) (c:aO):Option ((aO × Int) ⊕ aO):=
 ob (ix b a) fun d=>
 ob (aIU d) fun e=>
 ob (cat c e) fun f=>
 some (.inl (f,wr (a+1)))
def rH (b:(List Int)) (c:aO) (a:Int):Option ((aO × Int) ⊕ aO):=
 if (decide (a < (b.length:Int))) then (if (decide (0 < a)) then (ob (cat c ([44]:aO)) fun d=>
 aDF b a d) else (aDF b a c)) else (some (.inr c))
def aGt (a:(List Int)):Option aO:=
 if ((a.length:Int) == 0) then (some ([45]:aO)) else (ob (loop (fun (s:(aO × Int))=>rH a s.1 s.2) (([]:aO),0)) fun r=>aMA r)
def aGu (a:aO) (b:(List Int)):Option aO:=
 if ((b.length:Int) == 0) then (some a) else (ob (cat a ([40]:aO)) fun c=>
 ob (aGt b) fun d=>
 ob (cat c d) fun e=>
 ob (cat e ([41]:aO)) fun f=>
 some f)
def lX (b:Bool):Option Int:=
 if b then (some 1) else (some 0)
def aIV (a:Int):Option Int:=
 some a
def aIW (e:(List aW)) (a b:Int):Option ((Int × Int) ⊕ Int):=
 if (decide (0 < b)) then (ob (ix e a) fun d=>
 ob (aEB d) fun f=>
 some (.inl (wr (a+1),wr (b+(wr (f - 1)))))) else (some (.inr a))
def aIX (e:(List aW)) (k:Int):Option Int:=
 ob (loop (fun (s:(Int × Int))=>aIW e s.1 s.2) (k,1)) fun r=>aIV r
def aLt (a:Int):Option Int:=
 some a
def aLu (a:Int):Option Int:=
 some a
def aFx (e a b:Int):Option Int:=
 if (e == 0) then (ob (rm (wr (a+b)) 64) fun f=>
 some f) else (if (e == 1) then (ob (rm (wr ((wr (a - b))+64)) 64) fun g=>
 some g) else (if (e == 2) then (ob (rm (wr (a * b)) 64) fun h=>
 some h) else (if (e == 3) then (ob (lX (a == b)) fun i=>
 some i) else (if (e == 4) then (ob (lX (a != b)) fun j=>
 some j) else (if (e == 5) then (ob (lX (decide (a < b))) fun k=>
 some k) else (if (e == 6) then (ob (lX (decide (a<=b))) fun l=>
 some l) else (if (e == 7) then (if (a != 0) then (ob (lX (b != 0)) fun m=>
 aLt m) else (ob (lX false) fun n=>
 aLt n)) else (if (a != 0) then (ob (lX true) fun o=>
 aLu o) else (ob (lX (b != 0)) fun p=>
 aLu p)))))))))
def vB (f:(List aW)->(List Int)->Int->Option Int) (e:(List aW)) (c:(List Int)) (k:Int):Option Int:=
 ob (ix e k) fun a=>
 if (a.Kind == 0) then (some a.Value) else (if (a.Kind == 1) then (ob (ix c a.Value) fun g=>
 some g) else (if (a.Kind == 3) then (ob (f e c (wr (k+1))) fun h=>
 ob (lX (h == 0)) fun i=>
 some i) else (ob (f e c (wr (k+1))) fun j=>
 ob (aIX e (wr (k+1))) fun l=>
 ob (f e c l) fun m=>
 ob (aFx a.Value j m) fun n=>
 some n)))
def vC:Nat->(List aW)->(List Int)->Int->Option Int
 |0=>fun _ _ _=>none
 |n+1=>vB (vC n)
def aTe (e:(List aW)) (b:(List Int)) (k:Int):Option Int:=
 vC 100000 e b k
def aBu (e:(List aW)) (b:(List Int)):Option Int:=
 ob (aTe e b 0) fun c=>
 some c
def aMB (a:List Int):Option (List Int):=
 some a
def aDG (b:(List (List aW))) (d:(List Int)) (c:List Int) (a:Int):Option ((List Int × Int) ⊕ (List Int)):=
 if (decide (a < (b.length:Int))) then (ob (ix b a) fun e=>
 ob (aBu e d) fun f=>
 ob (zZ c ([f]:List Int)) fun g=>
 some (.inl (g,wr (a+1)))) else (some (.inr c))
def aEc (a:(List (List aW))) (b:(List Int)):Option (List Int):=
 ob (loop (fun (s:(List Int × Int))=>aDG a b s.1 s.2) (([]:List Int),0)) fun r=>aMB r
def tU (a:(List bR)) (b:bR):Option (List bR):=
 ob (zZ a ([b]:List bR)) fun c=>
 some c
def aAr (a:(List bR)) (b:Int) (c:Bool):Option (Int ⊕ (Unit ⊕ (List bR))):=
 if c then (some (.inr (.inr a))) else (some (.inl (wr (b+1))))
def tV (a:(List bR)) (c:bR) (b:Int):Option (Int ⊕ (Unit ⊕ (List bR))):=
 if (decide (b < (a.length:Int))) then (ob (ix a b) fun d=>
 if (d.B == c.B) then (ob (qA d.Next c.Next) fun e=>
 aAr a b e) else (aAr a b false)) else (some (.inr (.inl ())))
def yX (b:(List bR)) (c:bR):Option (List bR):=
 ob (loop (fun (s:Int)=>tV b c s) 0) fun r=>match r with|.inl r=>tU b c|.inr r=>some r
def xT (a:List bR):Option (List bR):=
 some a
def nY (b:(List Int)) (c:(List bR)) (a:Part) (d e:Int) (f:List Int):Option (List bR):=
 ob (aEc a.Arguments b) fun g=>
 ob (aGu a.Name g) fun h=>
 ob (yX c ⟨h,⟨d,e,f⟩⟩) fun i=>
 some i
def xU (a:List bR):Option (List bR):=
 xT a
def kE (c:(List Definition)->Int->Int->(List Int)->(List bR)->Option (List bR)) (e:(List Definition)) (d g:Int) (h:(List Int)) (i:Part) (b:List bR) (a:Int):Option ((List bR × Int) ⊕ (List bR)):=
 if (decide (a<=i.Number)) then (ob (wL h) fun j=>
 ob (zZ j ([a]:List Int)) fun k=>
 ob (c e d (wr (g+1)) k b) fun l=>
 some (.inl (l,wr (a+1)))) else (some (.inr b))
def bV (h:(List Definition)->Int->Int->(List Int)->(List bR)->Option (List bR)) (g:(List Definition)) (d e:Int) (a:(List Int)) (b:(List bR)):Option (List bR):=
 ob (ix g d) fun i=>
 ob (ix i.Body e) fun c=>
 if (decide (200 < (b.length:Int))) then (some b) else (if (c.Kind == 1) then (ob (wL a) fun k=>
 ob (ix i.Body (wr (e+1))) fun j=>
 if (j.Kind == 5) then (ob (aEc j.Arguments a) fun l=>
 nY a b c j.Number 0 l) else (nY a b c d (wr (e+1)) k)) else (if (c.Kind == 2) then (ob (h g d (wr (e+1)) a b) fun m=>
 ob (aGq i.Body (wr (e+1))) fun n=>
 ob (h g d n a m) fun o=>
 some o) else (if (c.Kind == 3) then (ob (ix c.Arguments 0) fun p=>
 ob (aBu p a) fun q=>
 if (q != 0) then (ob (h g d (wr (e+1)) a b) fun t=>
 some t) else (xT b)) else (if (c.Kind == 4) then (ob (loop (fun (s:(List bR × Int))=>kE h g d e a c s.1 s.2) (b,0)) fun r=>xU r) else (xT b)))))
def cG:Nat->(List Definition)->Int->Int->(List Int)->(List bR)->Option (List bR)
 |0=>fun _ _ _ _ _=>none
 |n+1=>bV (cG n)
def aHo (a:(List Definition)) (d c:Int) (e:(List Int)) (f:(List bR)):Option (List bR):=
 cG 100000 a d c e f
def rI (c:(List Definition)) (p:GPoint):Option ((List bR) × Bool):=
 ob (aHo c p.Definition p.Part p.Values ([]:List bR)) fun b=>
 some (b,decide ((b.length:Int)<=200))
def aMC (a:aO):Option Int:=
 some (a.length:Int)
def aDH (b:aO) (a:Int):Option (Int ⊕ (Unit ⊕ Int)):=
 if (decide (a < (b.length:Int))) then (ob (ix b a) fun c=>
 if ((c.toNat:Int) == 40) then (some (.inr (.inr a))) else (some (.inl (wr (a+1))))) else (some (.inr (.inl ())))
def aEd (b:aO):Option Int:=
 ob (loop (fun (s:Int)=>aDH b s) 0) fun r=>match r with|.inl r=>aMC b|.inr r=>some r
def lG (a:aO):Option aO:=
 ob (aEd a) fun b=>
 ob (slc a 0 b) fun c=>
 some c
def aGv (b:bE) (a:aO):Option aO:=
 ob (lG a) fun c=>
 ob (qB b.Hidden c) fun d=>
 if (decide (0<=d)) then (some ([116,97,117]:aO)) else (some a)
def aGa (a:aO) (b:List aO) (c:Int):Option (List aO):=
 ob (slc a c (a.length:Int)) fun d=>
 ob (zZ b ([d]:List aO)) fun e=>
 some e
def sO (a:Int) (b:List aO) (c:Int):Option ((List aO × Int × Int) ⊕ (List aO × Int)):=
 some (.inl (b,c,wr (a+1)))
def aBR (b:aO) (e:UInt8) (c:List aO) (d a:Int):Option ((List aO × Int × Int) ⊕ (List aO × Int)):=
 if (decide (a < (b.length:Int))) then (ob (ix b a) fun f=>
 if ((f.toNat:Int) == (e.toNat:Int)) then (ob (slc b d a) fun g=>
 ob (zZ c ([g]:List aO)) fun h=>
 sO a h (wr (a+1))) else (sO a c d)) else (some (.inr (c,d)))
def aEG (a:aO) (c:UInt8):Option (List aO):=
 ob (loop (fun (s:(List aO × Int × Int))=>aBR a c s.1 s.2.1 s.2.2) (([]:List aO),0,0)) fun r=>aGa a r.1 r.2
def aEH (a:Int):Option (Int × Bool):=
 some (a,true)
def aAs (b a:Int):Option (Int × Bool):=
 if (b == 1) then (aEH (wr (0 - a))) else (aEH a)
def qC (b:aO) (c a:Int):Option ((Int × Int) ⊕ (Int ⊕ (Int × Bool))):=
 if (decide (a < (b.length:Int))) then (ob (ix b a) fun c45=>
 ob (aEz c45) fun d=>
 if (!d) then (some (.inr (.inr (0,false)))) else (some (.inl (wr ((wr (10 * c))+(wr ((c45 - (48:UInt8)).toNat:Int))),wr (a+1))))) else (some (.inr (.inl c)))
def lH (c:aO) (b:Int) (d:Bool):Option (Int × Bool):=
 if d then (some (0,false)) else (ob (loop (fun (s:(Int × Int))=>qC c s.1 s.2) (0,b)) fun r=>match r with|.inl r=>aAs b r|.inr r=>some r)
def tW (a:aO) (b:Int):Option (Int × Bool):=
 if ((a.length:Int) == b) then (lH a b true) else (if (decide (18 < wr ((a.length:Int) - b))) then (lH a b true) else (ob (ix a b) fun c=>
 if ((c.toNat:Int) == 48) then (lH a b (decide (1 < (a.length:Int)))) else (lH a b false)))
def aAt (a:aO) (b:Bool):Option (Int × Bool):=
 if b then (tW a 1) else (tW a 0)
def aCt (a:aO):Option (Int × Bool):=
 if (decide (0 < (a.length:Int))) then (ob (ix a 0) fun b=>
 aAt a ((b.toNat:Int) == 45)) else (aAt a false)
def aIY (a:List Int):Option ((List Int) × Bool):=
 some (a,decide ((a.length:Int)<=2))
def aAu (a:List Int) (b:Int) (c:(Int × Bool)) (d:Bool):Option ((List Int × Int) ⊕ (List Int ⊕ ((List Int) × Bool))):=
 if d then (some (.inr (.inr ([],false)))) else (ob (zZ a ([c.1]:List Int)) fun e=>
 some (.inl (e,wr (b+1))))
def tX (d:(List aO)) (c:List Int) (a:Int):Option ((List Int × Int) ⊕ (List Int ⊕ ((List Int) × Bool))):=
 if (decide (a < (d.length:Int))) then (ob (ix d a) fun e=>
 ob (aCt e) fun b=>
 if (!b.2) then (aAu c a b true) else (ob (tF b.1 0 63) fun f=>
 aAu c a b (!f))) else (some (.inr (.inl c)))
def tY (b:aO) (c:Int) (d:Bool):Option ((List Int) × Bool):=
 if d then (some ([],false)) else (ob (slc b (wr (c+1)) (wr ((b.length:Int) - 1))) fun e=>
 ob (aEG e (44:UInt8)) fun f=>
 ob (loop (fun (s:(List Int × Int))=>tX f s.1 s.2) (([]:List Int),0)) fun r=>match r with|.inl r=>aIY r|.inr r=>some r)
def yY (a:aO):Option ((List Int) × Bool):=
 ob (aEd a) fun b=>
 if (b == (a.length:Int)) then (ob (yU a) fun c=>
 some (([]:List Int),c)) else (ob (slc a 0 b) fun d=>
 ob (oJ d) fun e=>
 if (!e) then (tY a b true) else (ob (ix a (wr ((a.length:Int) - 1))) fun f=>
 tY a b ((f.toNat:Int) != 41)))
def aHp:Option aO:=
 some ([]:aO)
def aDI (b:(List bB)) (a:Int) (c:Bool):Option (Int ⊕ (Unit ⊕ aO)):=
 if c then (ob (ix b a) fun d=>
 some (.inr (.inr d.Result))) else (some (.inl (wr (a+1))))
def vD (c:(List bB)) (a b:aO) (d:Int):Option (Int ⊕ (Unit ⊕ aO)):=
 if (decide (d < (c.length:Int))) then (ob (ix c d) fun e=>
 if (e.Left == a) then (aDI c d (e.Right == b)) else (aDI c d false)) else (some (.inr (.inl ())))
def tZ (g:(List bB)->aO->aO->Option aO) (f:(List bB)) (a b:aO):Option aO:=
 if (!(nR a b||a == b)) then (ob (g f b a) fun h=>
 some h) else (ob (loop (fun (s:Int)=>vD f a b s) 0) fun r=>match r with|.inl r=>aHp|.inr r=>some r)
def uA:Nat->(List bB)->aO->aO->Option aO
 |0=>fun _ _ _=>none
 |n+1=>tZ (uA n)
def aKg (c:(List bB)) (a b:aO):Option aO:=
 uA 100000 c a b
def aDJ (a:((List Int) × Bool)) (b:aO) (c:Bool):Option aO:=
 if c then (some ([]:aO)) else (ob (aGu b a.1) fun d=>
 some d)
def aGw (e:bE) (a b:aO):Option aO:=
 ob (yY a) fun d=>
 ob (yY b) fun h=>
 ob (aEb d.1 h.1) fun i=>
 if (!i) then (some ([]:aO)) else (ob (lG a) fun j=>
 ob (lG b) fun k=>
 ob (aKg e.Meetings j k) fun c=>
 if (c == ([]:aO)) then (aDJ d c true) else (ob (qB e.Allowed c) fun l=>
 aDJ d c (decide (l < 0))))
def uB (a:(List bC)) (b:bC):Option (List bC):=
 ob (zZ a ([b]:List bC)) fun c=>
 some c
def qD (a:(List bC)) (b:Int) (c:Bool):Option (Int ⊕ (Unit ⊕ (List bC))):=
 if c then (some (.inr (.inr a))) else (some (.inl (wr (b+1))))
def uC (a:(List bC)) (c:bC) (b:Int):Option (Int ⊕ (Unit ⊕ (List bC))):=
 if (decide (b < (a.length:Int))) then (ob (ix a b) fun d=>
 if (d.B == c.B) then (if (d.First == c.First) then (if (d.Second == c.Second) then (ob (aBt d.State c.State) fun e=>
 qD a b e) else (qD a b false)) else (qD a b false)) else (qD a b false)) else (some (.inr (.inl ())))
def yZ (b:(List bC)) (c:bC):Option (List bC):=
 ob (loop (fun (s:Int)=>uC b c s) 0) fun r=>match r with|.inl r=>uB b c|.inr r=>some r
def wN (a:List bC):Option ((List bC) × Bool):=
 some (a,decide ((a.length:Int)<=200))
def aBS (a:Int) (b:List bC):Option ((List bC × Int) ⊕ (List bC)):=
 some (.inl (b,wr (a+1)))
def wO (a:Int) (b:List bC):Option ((List bC × Int) ⊕ (List bC)):=
 aBS a b
def aBT (a:Int) (b:List bC):Option ((List bC × Int) ⊕ (List bC)):=
 some (.inl (b,wr (a+1)))
def wP (a:Int) (b:List bC):Option ((List bC × Int) ⊕ (List bC)):=
 aBT a b
def aBU (a:Int) (b:List bC):Option ((List bC × Int) ⊕ (List bC)):=
 some (.inl (b,wr (a+1)))
def wQ (a:Int) (b:List bC):Option ((List bC × Int) ⊕ (List bC)):=
 aBU a b
def wR (a:Int) (b:List bC):Option ((List bC × Int) ⊕ (List bC)):=
 some (.inl (b,wr (a+1)))
def pG (e:bE) (k:(List GPoint)) (l:List (List bR)) (b a m:Int) (n:(List bR)) (c:List bC) (d:Int) (o:Bool):Option ((List bC × Int) ⊕ (List bC)):=
 if o then (ob (ix n m) fun f=>
 ob (ix l a) fun p=>
 ob (ix p d) fun g=>
 ob (aGw e f.B g.B) fun h=>
 if (h == ([]:aO)) then (wR d c) else (ob (aAq k) fun i=>
 ob (ix i b) fun u=>
 ob (st i b (f.Next:GPoint)) fun j=>
 ob (ix j a) fun v=>
 ob (st j a (g.Next:GPoint)) fun q=>
 ob (aGv e h) fun r=>
 ob (aAq q) fun s=>
 ob (yZ c ⟨r,b,a,s⟩) fun t=>
 wR d t)) else (some (.inr c))
def jD (e:bE) (f:(List GPoint)) (a:List (List bR)) (g b h:Int) (i:(List bR)) (c:List bC) (d:Int):Option ((List bC × Int) ⊕ (List bC)):=
 ob (ix a b) fun j=>
 if (decide (d < (j.length:Int))) then (pG e f a g b h i c d (decide ((c.length:Int)<=200))) else (pG e f a g b h i c d false)
def jR (f:bE) (g:(List GPoint)) (b:List (List bR)) (c h:Int) (d:List bC) (a:Int):Option ((List bC × Int) ⊕ (List bC)):=
 ob (ix b c) fun e=>
 if (decide (a < (e.length:Int))) then (ob (loop (fun (s:(List bC × Int))=>jD f g b c h a e s.1 s.2) (d,0)) fun r=>wQ a r) else (some (.inr d))
def lI (d:bE) (b:(List GPoint)) (e:List (List bR)) (f:Int) (c:List bC) (a:Int):Option ((List bC × Int) ⊕ (List bC)):=
 if (decide (a < (b.length:Int))) then (ob (loop (fun (s:(List bC × Int))=>jR d b e f a s.1 s.2) (c,0)) fun r=>wP a r) else (some (.inr c))
def nK (d:bE) (b:(List GPoint)) (e:List (List bR)) (c:List bC) (a:Int):Option ((List bC × Int) ⊕ (List bC)):=
 if (decide (a < (b.length:Int))) then (ob (loop (fun (s:(List bC × Int))=>lI d b e a s.1 s.2) (c,wr (a+1))) fun r=>wO a r) else (some (.inr c))
def nL (a:bE) (b:(List GPoint)) (c:List (List bR)) (d:List bC):Option ((List bC) × Bool):=
 ob (loop (fun (s:(List bC × Int))=>nK a b c s.1 s.2) (d,0)) fun r=>wN r
def aAv (a:Int) (b:List bC):Option ((List bC × Int) ⊕ (List bC)):=
 some (.inl (b,wr (a+1)))
def qE (a:Int) (b:List bC):Option ((List bC × Int) ⊕ (List bC)):=
 aAv a b
def qF (a:Int) (b:List bC):Option ((List bC × Int) ⊕ (List bC)):=
 some (.inl (b,wr (a+1)))
def jS (f:bE) (g:(List GPoint)) (a:Int) (b:List bC) (c:Int) (d:bR) (h:Bool):Option ((List bC × Int) ⊕ (List bC)):=
 if h then (qF c b) else (ob (aAq g) fun e=>
 ob (ix e a) fun m=>
 ob (st e a (d.Next:GPoint)) fun i=>
 ob (aGv f d.B) fun j=>
 ob (aAq i) fun k=>
 ob (yZ b ⟨j,a,(-1),k⟩) fun l=>
 qF c l)
def qG (c:bE) (f:(List GPoint)) (h:List (List bR)) (d:Int) (e:List bC) (a:Int):Option ((List bC × Int) ⊕ (List bC)):=
 ob (ix h d) fun g=>
 if (decide (a < (g.length:Int))) then (ob (ix g a) fun b=>
 if (!(b.B == ([116,97,117]:aO))) then (ob (lG b.B) fun i=>
 ob (qB c.Allowed i) fun j=>
 jS c f d e a b (decide (j < 0))) else (jS c f d e a b false)) else (some (.inr e))
def qH (d:bE) (b:(List GPoint)) (e:List (List bR)) (c:List bC) (a:Int):Option ((List bC × Int) ⊕ (List bC)):=
 if (decide (a < (b.length:Int))) then (ob (loop (fun (s:(List bC × Int))=>qG d b e a s.1 s.2) (c,0)) fun r=>qE a r) else (some (.inr c))
def lJ (a:bE) (b:(List GPoint)) (c:List (List bR)):Option ((List bC) × Bool):=
 ob (loop (fun (s:(List bC × Int))=>qH a b c s.1 s.2) (([]:List bC),0)) fun r=>nL a b c r
def lK (e:bE) (b:(List GPoint)) (c:List (List bR)) (a:Int):Option ((List (List bR) × Int) ⊕ (List (List bR) ⊕ ((List bC) × Bool))):=
 if (decide (a < (b.length:Int))) then (ob (ix b a) fun f=>
 ob (rI e.Definitions f) fun d=>
 if (!d.2) then (some (.inr (.inr ([],false)))) else (ob (zZ c ([d.1]:List (List bR))) fun g=>
 some (.inl (g,wr (a+1))))) else (some (.inr (.inl c)))
def rJ (b:bE) (c:(List GPoint)):Option ((List bC) × Bool):=
 ob (loop (fun (s:(List (List bR) × Int))=>lK b c s.1 s.2) (([]:List (List bR)),0)) fun r=>match r with|.inl r=>lJ b c r|.inr r=>some r
def aKN (a:((List bC) × Bool)) (b:List aO) (c:List (List GPoint)):Option ((List aO) × (List (List GPoint)) × Bool):=
 some (b,c,a.2)
def sP (b:((List bC) × Bool)) (c:List aO) (d:List (List GPoint)) (a:Int):Option ((List aO × List (List GPoint) × Int) ⊕ (List aO × List (List GPoint))):=
 if (decide (a < (b.1.length:Int))) then (ob (ix b.1 a) fun e=>
 ob (zZ c ([e.B]:List aO)) fun f=>
 ob (zZ d ([e.State]:List (List GPoint))) fun g=>
 some (.inl (f,g,wr (a+1)))) else (some (.inr (c,d)))
def yK (c:bE) (d:(List GPoint)):Option ((List aO) × (List (List GPoint)) × Bool):=
 ob (rJ c d) fun a=>
 ob (loop (fun (s:(List aO × List (List GPoint) × Int))=>sP a s.1 s.2.1 s.2.2) (([]:List aO),([]:List (List GPoint)),0)) fun r=>aKN a r.1 r.2
def aKh (a:(List aO)) (b:aO):Option ((List aO) × Int):=
 ob (qB a b) fun c=>
 if (decide (0<=c)) then (some (a,c)) else (ob (zZ a ([b]:List aO)) fun d=>
 some (d,(a.length:Int)))
def aMD (a:List aO):Option (List aO):=
 some a
def vE (a:Int) (b:List aO):Option ((List aO × Int) ⊕ (List aO)):=
 some (.inl (b,wr (a+1)))
def aDK (c:Int) (d:aO) (a:Int) (b:List aO):Option ((List aO × Int) ⊕ (List aO)):=
 ob (ix b a) fun f=>
 ob (st b a (d:aO)) fun e=>
 vE c e
def aAw (c:Int) (b:List aO) (a:Int):Option ((List aO × Int) ⊕ (List aO)):=
 if (decide (c < a)) then (ob (ix b (wr (a - 1))) fun d=>
 ob (ix b a) fun f=>
 ob (st b a (d:aO)) fun e=>
 some (.inl (e,wr (a - 1)))) else (some (.inr b))
def aDL (c:List aO) (d:Int) (e:aO) (a:Int):Option ((List aO × Int) ⊕ (List aO)):=
 ob (zZ c ([([]:aO)]:List aO)) fun b=>
 ob (loop (fun (s:(List aO × Int))=>aAw a s.1 s.2) (b,wr ((b.length:Int) - 1))) fun r=>aDK d e a r
def aAx (a:Int) (b:Bool):Option (Int ⊕ Int):=
 if b then (some (.inl (wr (a+1)))) else (some (.inr a))
def vF (b:List aO) (c:aO) (a:Int):Option (Int ⊕ Int):=
 if (decide (a < (b.length:Int))) then (ob (ix b a) fun d=>
 aAx a (nR d c)) else (aAx a false)
def rK (d:(List aO)) (a:List aO) (b:Int):Option ((List aO × Int) ⊕ (List aO)):=
 if (decide (b < (d.length:Int))) then (ob (ix d b) fun c=>
 ob (qB a c) fun e=>
 if (decide (0<=e)) then (vE b a) else (ob (loop (fun (s:Int)=>vF a c s) 1) fun r=>aDL a b c r)) else (some (.inr a))
def aEe (a:(List aO)):Option (List aO):=
 ob (loop (fun (s:(List aO × Int))=>rK a s.1 s.2) (([([116,97,117]:aO)]:List aO),0)) fun r=>aMD r
def aKi (a b:Edge):Option Bool:=
 if (a.F != b.F) then (some (decide (a.F < b.F))) else (if (a.B != b.B) then (some (decide (a.B < b.B))) else (some (decide (a.To < b.To))))
def aFy (e:Edge) (b:Int) (c:List Edge):Option (List Edge):=
 ob (ix c b) fun f=>
 ob (st c b (⟨e.F,e.B,e.To⟩:Edge)) fun d=>
 some d
def aCu (d:Int) (b:List Edge) (a:Int):Option ((List Edge × Int) ⊕ (List Edge)):=
 if (decide (d < a)) then (ob (ix b (wr (a - 1))) fun c=>
 ob (ix b a) fun f=>
 ob (st b a (⟨c.F,c.B,c.To⟩:Edge)) fun e=>
 some (.inl (e,wr (a - 1)))) else (some (.inr b))
def zD (a:(List Edge)) (e:Edge) (b:Int) (f:Bool):Option (List Edge):=
 if f then (some a) else (ob (zZ a ([⟨0,0,0⟩]:List Edge)) fun c=>
 ob (loop (fun (s:(List Edge × Int))=>aCu b s.1 s.2) (c,wr ((c.length:Int) - 1))) fun r=>aFy e b r)
def aFz (b:(List Edge)) (e:Edge) (a:Int):Option (List Edge):=
 if (decide (0 < a)) then (ob (ix b (wr (a - 1))) fun d=>
 zD b e a (decide ((d:Edge)=e))) else (zD b e a false)
def aCv (a:Int) (b:Bool):Option (Int ⊕ Int):=
 if b then (some (.inl (wr (a - 1)))) else (some (.inr a))
def zF (b:(List Edge)) (e:Edge) (a:Int):Option (Int ⊕ Int):=
 if (decide (0 < a)) then (ob (ix b (wr (a - 1))) fun d=>
 ob (aKi e d) fun f=>
 aCv a f) else (aCv a false)
def aIZ (a:(List Edge)) (e:Edge):Option (List Edge):=
 ob (loop (fun (s:Int)=>zF a e s) (a.length:Int)) fun r=>aFz a e r
def aHq (a b:Int) (c:(List aO)) (d:List Edge):Option iZ:=
 some ⟨a,b,c,d⟩
def rL (e:(List aO)) (c:(List Edge)) (f:(List aO)) (d:List Edge) (a:Int):Option ((List Edge × Int) ⊕ (List Edge)):=
 if (decide (a < (c.length:Int))) then (ob (ix c a) fun b=>
 ob (ix e b.B) fun g=>
 ob (qB f g) fun h=>
 ob (aIZ d ⟨b.F,h,b.To⟩) fun i=>
 some (.inl (i,wr (a+1)))) else (some (.inr d))
def aBv (c d:Int) (a:(List aO)) (e:(List Edge)):Option iZ:=
 ob (aEe a) fun b=>
 ob (loop (fun (s:(List Edge × Int))=>rL a e b s.1 s.2) (([]:List Edge),0)) fun r=>aHq c d b r
def lL (a:List (List GPoint)) (b:List aO) (c:List Edge):Option (iZ × (List (List GPoint)) × Bool):=
 ob (aBv (a.length:Int) 0 b c) fun d=>
 some (d,a,true)
def aAy (a:Int) (b:List (List GPoint)) (c:List aO) (d:List Edge):Option ((List (List GPoint) × List aO × List Edge × Int) ⊕ ((List (List GPoint) × List aO × List Edge) ⊕ (iZ × (List (List GPoint)) × Bool))):=
 some (.inl (b,c,d,wr (a+1)))
def uD (a:Int) (b:List (List GPoint)) (c:List aO) (d:List Edge):Option ((List (List GPoint) × List aO × List Edge × Int) ⊕ ((List (List GPoint) × List aO × List Edge) ⊕ (iZ × (List (List GPoint)) × Bool))):=
 aAy a b c d
def aAz (a:Int) (b:List (List GPoint)) (c:List aO) (d:List Edge):Option ((List (List GPoint) × List aO × List Edge × Int) ⊕ ((List (List GPoint) × List aO × List Edge) ⊕ (iZ × (List (List GPoint)) × Bool))):=
 some (.inl (b,c,d,wr (a+1)))
def uE (a:Int) (b:List (List GPoint)) (c:((List aO) × Int)) (d:List Edge) (e:Bool):Option ((List (List GPoint) × List aO × List Edge × Int) ⊕ ((List (List GPoint) × List aO × List Edge) ⊕ (iZ × (List (List GPoint)) × Bool))):=
 if e then (some (.inr (.inr (⟨0,0,[],[]⟩,[],false)))) else (aAz a b c.1 d)
def qI (d:Int) (a:List (List GPoint)) (b:((List aO) × Int)) (c:List Edge):Option ((List (List GPoint) × List aO × List Edge × Int) ⊕ ((List (List GPoint) × List aO × List Edge) ⊕ (iZ × (List (List GPoint)) × Bool))):=
 if (decide (40 < (a.length:Int))) then (uE d a b c true) else (if (decide (12 < (b.1.length:Int))) then (uE d a b c true) else (uE d a b c (decide (300 < (c.length:Int)))))
def aAA (e:Int) (b:List Edge) (c:Int) (d:List (List GPoint)) (f:Int) (a:((List aO) × Int)) (g:Bool):Option ((List (List GPoint) × List aO × List Edge × Int) ⊕ ((List (List GPoint) × List aO × List Edge) ⊕ (iZ × (List (List GPoint)) × Bool))):=
 if (!g) then (ob (zZ b ([⟨e,a.2,f⟩]:List Edge)) fun h=>
 qI c d a h) else (qI c d a b)
def uF (a:Int) (b:Bool):Option ((Bool × Int) ⊕ Bool):=
 some (.inl (b,wr (a+1)))
def lM (d:Int) (b:List Edge) (e:Int) (f:((List aO) × Int)) (c:Bool) (a:Int):Option ((Bool × Int) ⊕ Bool):=
 if (decide (a < (b.length:Int))) then (if c then (uF a true) else (ob (ix b a) fun g=>
 uF a (decide ((g:Edge)=⟨d,f.2,e⟩)))) else (some (.inr c))
def nZ (a:Int) (f:((List aO) × (List (List GPoint)) × Bool)) (g:List aO) (b:List Edge) (c:Int) (h:List (List GPoint)) (d:Int):Option ((List (List GPoint) × List aO × List Edge × Int) ⊕ ((List (List GPoint) × List aO × List Edge) ⊕ (iZ × (List (List GPoint)) × Bool))):=
 ob (ix f.1 c) fun i=>
 ob (aKh g i) fun e=>
 ob (loop (fun (s:(Bool × Int))=>lM a b d e s.1 s.2) (false,0)) fun r=>aAA a b c h d e r
def sE (d:Int) (a:((List aO) × (List (List GPoint)) × Bool)) (b:List (List GPoint)) (e:List aO) (f:List Edge) (c g:Int):Option ((List (List GPoint) × List aO × List Edge × Int) ⊕ ((List (List GPoint) × List aO × List Edge) ⊕ (iZ × (List (List GPoint)) × Bool))):=
 if (decide (g < 0)) then (ob (ix a.2.1 c) fun h=>
 ob (zZ b ([h]:List (List GPoint))) fun i=>
 nZ d a e f c i (b.length:Int)) else (nZ d a e f c b g)
def sF (a b:Int):Option ((Int × Int) ⊕ Int):=
 some (.inl (b,wr (a+1)))
def kF (d:((List aO) × (List (List GPoint)) × Bool)) (b:List (List GPoint)) (e c a:Int):Option ((Int × Int) ⊕ Int):=
 if (decide (a < (b.length:Int))) then (ob (ix b a) fun f=>
 ob (ix d.2.1 e) fun g=>
 ob (aBt f g) fun h=>
 if h then (sF a a) else (sF a c)) else (some (.inr c))
def kG (f:Int) (a:((List aO) × (List (List GPoint)) × Bool)) (b:List (List GPoint)) (d:List aO) (e:List Edge) (c:Int):Option ((List (List GPoint) × List aO × List Edge × Int) ⊕ ((List (List GPoint) × List aO × List Edge) ⊕ (iZ × (List (List GPoint)) × Bool))):=
 if (decide (c < (a.1.length:Int))) then (ob (loop (fun (s:(Int × Int))=>kF a b c s.1 s.2) ((-1),0)) fun r=>sE f a b d e c r) else (some (.inr (.inl (b,d,e))))
def iL (g:bE) (b:List (List GPoint)) (d:List aO) (e:List Edge) (c:Int):Option ((List (List GPoint) × List aO × List Edge × Int) ⊕ ((List (List GPoint) × List aO × List Edge) ⊕ (iZ × (List (List GPoint)) × Bool))):=
 if (decide (c < (b.length:Int))) then (ob (ix b c) fun h=>
 ob (yK g h) fun f=>
 if (!f.2.2) then (some (.inr (.inr (⟨0,0,[],[]⟩,[],false)))) else (ob (loop (fun (s:(List (List GPoint) × List aO × List Edge × Int))=>kG c f s.1 s.2.1 s.2.2.1 s.2.2.2) (b,d,e,0)) fun r=>match r with|.inl r=>uD c r.1 r.2.1 r.2.2|.inr r=>some (.inr (.inr r)))) else (some (.inr (.inl (b,d,e))))
def uG (b:bE):Option (iZ × (List (List GPoint)) × Bool):=
 ob (aEF b) fun c=>
 ob (loop (fun (s:(List (List GPoint) × List aO × List Edge × Int))=>iL b s.1 s.2.1 s.2.2.1 s.2.2.2) (([c]:List (List GPoint)),([([116,97,117]:aO)]:List aO),([]:List Edge),0)) fun r=>match r with|.inl r=>lL r.1 r.2.1 r.2.2|.inr r=>some r
def xV (a b:(List Int)):Option Int:=
 if (decide ((a.length:Int) < (b.length:Int))) then (some (-1)) else (if (decide ((b.length:Int) < (a.length:Int))) then (some 1) else (some 0))
def oA (a b:(List Int)) (c:Int) (h:Bool):Option (Int ⊕ (Unit ⊕ Int)):=
 if h then (ob (ix a c) fun d=>
 ob (ix b c) fun e=>
 if (decide (d < e)) then (some (.inr (.inr (-1)))) else (if (decide (e < d)) then (some (.inr (.inr 1))) else (some (.inl (wr (c+1)))))) else (some (.inr (.inl ())))
def kH (a b:(List Int)) (c:Int):Option (Int ⊕ (Unit ⊕ Int)):=
 if (decide (c < (a.length:Int))) then (oA a b c (decide (c < (b.length:Int)))) else (oA a b c false)
def vG (a b:(List Int)):Option Int:=
 ob (loop (fun (s:Int)=>kH a b s) 0) fun r=>match r with|.inl r=>xV a b|.inr r=>some r
def aAB (a b:GPoint):Option Int:=
 ob (vG ([a.Definition,a.Part]:List Int) ([b.Definition,b.Part]:List Int)) fun e=>
 if (e != 0) then (some e) else (ob (vG a.Values b.Values) fun f=>
 some f)
def aME (a:List GPoint):Option (List GPoint):=
 some a
def aDM (a:Int) (b:List GPoint):Option ((List GPoint × Int) ⊕ (List GPoint)):=
 some (.inl (b,wr (a+1)))
def aDN (d:(List GPoint)) (a b:Int) (c:List GPoint):Option ((List GPoint × Int) ⊕ (List GPoint)):=
 ob (ix d a) fun e=>
 ob (ix c b) fun g=>
 ob (st c b (e:GPoint)) fun f=>
 aDM a f
def oL (c:Int) (b:List GPoint) (a:Int):Option ((List GPoint × Int) ⊕ (List GPoint)):=
 if (decide (c < a)) then (ob (ix b (wr (a - 1))) fun d=>
 ob (ix b a) fun f=>
 ob (st b a (d:GPoint)) fun e=>
 some (.inl (e,wr (a - 1)))) else (some (.inr b))
def aDO (c:(List GPoint)) (d:List GPoint) (e a:Int):Option ((List GPoint × Int) ⊕ (List GPoint)):=
 ob (zZ d ([⟨0,0,[]⟩]:List GPoint)) fun b=>
 ob (loop (fun (s:(List GPoint × Int))=>oL a s.1 s.2) (b,wr ((b.length:Int) - 1))) fun r=>aDN c e a r
def aAC (a:Int) (b:Bool):Option (Int ⊕ Int):=
 if b then (some (.inl (wr (a - 1)))) else (some (.inr a))
def rM (b:(List GPoint)) (c:List GPoint) (d a:Int):Option (Int ⊕ Int):=
 if (decide (0 < a)) then (ob (ix b d) fun e=>
 ob (ix c (wr (a - 1))) fun f=>
 ob (aAB e f) fun g=>
 aAC a (decide (g < 0))) else (aAC a false)
def oM (b:(List GPoint)) (a:List GPoint) (c:Int):Option ((List GPoint × Int) ⊕ (List GPoint)):=
 if (decide (c < (b.length:Int))) then (ob (loop (fun (s:Int)=>rM b a c s) (a.length:Int)) fun r=>aDO b a c r) else (some (.inr a))
def aEf (a:(List GPoint)):Option (List GPoint):=
 ob (aAq a) fun b=>
 ob (loop (fun (s:(List GPoint × Int))=>oM b s.1 s.2) (([]:List GPoint),0)) fun r=>aME r
def aMF (a:List Int):Option (List Int):=
 some a
def aAD (a:Int) (b:List Int) (c:Int):Option ((List Int × Int × Int) ⊕ (List Int)):=
 some (.inl (b,c,wr (a+1)))
def aDP (b:List Int) (c a d:Int):Option ((List Int × Int × Int) ⊕ (List Int)):=
 if (decide (0<=d)) then (ob (ix b d) fun e=>
 ob (ix b a) fun h=>
 ob (st b a (e:Int)) fun f=>
 aAD a f c) else (ob (ix b a) fun i=>
 ob (st b a (c:Int)) fun g=>
 aAD a g (wr (c+1)))
def jT (b:(List Int)) (c a:Int):Option (Int ⊕ Int):=
 if (decide (a < c)) then (ob (ix b a) fun d=>
 ob (ix b c) fun e=>
 if (d == e) then (some (.inr a)) else (some (.inl (wr (a+1))))) else (some (.inr (-1)))
def oN (b:(List Int)) (c:List Int) (d a:Int):Option ((List Int × Int × Int) ⊕ (List Int)):=
 if (decide (a < (b.length:Int))) then (ob (loop (fun (s:Int)=>jT b a s) 0) fun r=>aDP c d a r) else (some (.inr c))
def aGx (a:(List Int)):Option (List Int):=
 ob (mkz (a.length:Int) (0:Int)) fun b=>
 ob (loop (fun (s:(List Int × Int × Int))=>oN a s.1 s.2.1 s.2.2) (b,0,0)) fun r=>aMF r
def mN (a:List Int):Option ((List Int) × Int):=
 ob (aGx a) fun b=>
 some (b,0)
def mO (a:Int) (b:List Int):Option ((List Int × Int) ⊕ (List Int)):=
 some (.inl (b,wr (a+1)))
def rN (a:List Int) (b c:Int):Option ((List Int × Int) ⊕ (List Int)):=
 ob (zZ a ([c]:List Int)) fun d=>
 mO b d
def gG (c:(iZ × (List (List GPoint)) × Bool)) (d:List Int) (b a:Int):Option (Int ⊕ Int):=
 if (decide (a < b)) then (ob (ix c.2.1 b) fun e=>
 ob (ix c.2.1 a) fun f=>
 ob (aEf e) fun g=>
 ob (aEf f) fun h=>
 ob (aBt g h) fun i=>
 if i then (ob (ix d a) fun j=>
 some (.inr j)) else (some (.inl (wr (a+1))))) else (some (.inr b))
def fA (c:(iZ × (List (List GPoint)) × Bool)) (a:List Int) (b:Int):Option ((List Int × Int) ⊕ (List Int)):=
 if (decide (b < (c.2.1.length:Int))) then (ob (loop (fun (s:Int)=>gG c a b s) 0) fun r=>rN a b r) else (some (.inr a))
def mC (a:bE):Option ((List Int) × Int):=
 ob (aMw a) fun c=>
 if (!c) then (some ([],1)) else (ob (uG a) fun b=>
 if (!b.2.2) then (some ([],5)) else (ob (loop (fun (s:(List Int × Int))=>fA b s.1 s.2) (([]:List Int),0)) fun r=>mN r))
def aQf (a:aW):Option aW:=
 some a
def aMG (a:List aW):Option (List aW):=
 some a
def aAE (a:(List aW)) (c:List aW) (b:Int):Option ((List aW × Int) ⊕ (List aW)):=
 if (decide (b < (a.length:Int))) then (ob (ix a b) fun f=>
 ob (aQf f) fun e=>
 ob (ix c b) fun h=>
 ob (st c b (⟨e.Kind,e.Value⟩:aW)) fun g=>
 some (.inl (g,wr (b+1)))) else (some (.inr c))
def aKj (a:(List aW)):Option (List aW):=
 ob (mkz (a.length:Int) (⟨0,0⟩:aW)) fun c=>
 ob (loop (fun (s:(List aW × Int))=>aAE a s.1 s.2) (c,0)) fun r=>aMG r
def aKO (a:List (List aW)):Option (List (List aW)):=
 some a
def wS (a:(List (List aW))) (c:List (List aW)) (b:Int):Option ((List (List aW) × Int) ⊕ (List (List aW))):=
 if (decide (b < (a.length:Int))) then (ob (ix a b) fun e=>
 ob (aKj e) fun f=>
 ob (ix c b) fun h=>
 ob (st c b f) fun g=>
 some (.inl (g,wr (b+1)))) else (some (.inr c))
def aHr (a:(List (List aW))):Option (List (List aW)):=
 ob (mkz (a.length:Int) ([]:(List aW))) fun c=>
 ob (loop (fun (s:(List (List aW) × Int))=>wS a s.1 s.2) (c,0)) fun r=>aKO r
def aQg (a:Part):Option Part:=
 ob (aHr a.Arguments) fun c=>
 some ⟨a.Kind,a.Number,a.Name,c⟩
def aMH (a:List Part):Option (List Part):=
 some a
def aAF (a:(List Part)) (c:List Part) (b:Int):Option ((List Part × Int) ⊕ (List Part)):=
 if (decide (b < (a.length:Int))) then (ob (ix a b) fun e=>
 ob (aQg e) fun f=>
 ob (ix c b) fun h=>
 ob (st c b (f:Part)) fun g=>
 some (.inl (g,wr (b+1)))) else (some (.inr c))
def aKk (a:(List Part)):Option (List Part):=
 ob (mkz (a.length:Int) (⟨0,0,[],[]⟩:Part)) fun c=>
 ob (loop (fun (s:(List Part × Int))=>aAF a s.1 s.2) (c,0)) fun r=>aMH r
def aEI (a:Definition):Option Definition:=
 ob (aKk a.Body) fun c=>
 some ⟨a.Name,a.Parameters,c⟩
def aEJ (a:List Definition):Option (List Definition):=
 some a
def nM (a:(List Definition)) (c:List Definition) (b:Int):Option ((List Definition × Int) ⊕ (List Definition)):=
 if (decide (b < (a.length:Int))) then (ob (ix a b) fun e=>
 ob (aEI e) fun f=>
 ob (ix c b) fun h=>
 ob (st c b (f:Definition)) fun g=>
 some (.inl (g,wr (b+1)))) else (some (.inr c))
def xW (a:(List Definition)):Option (List Definition):=
 ob (mkz (a.length:Int) (⟨[],0,[]⟩:Definition)) fun c=>
 ob (loop (fun (s:(List Definition × Int))=>nM a s.1 s.2) (c,0)) fun r=>aEJ r
def aKP (a:List Int):Option (List Int):=
 some a
def wT (a:(List Int)) (c:List Int) (b:Int):Option ((List Int × Int) ⊕ (List Int)):=
 if (decide (b < (a.length:Int))) then (ob (ix a b) fun e=>
 ob (ix c b) fun g=>
 ob (st c b (e:Int)) fun f=>
 some (.inl (f,wr (b+1)))) else (some (.inr c))
def aHs (a:(List Int)):Option (List Int):=
 ob (mkz (a.length:Int) (0:Int)) fun c=>
 ob (loop (fun (s:(List Int × Int))=>wT a s.1 s.2) (c,0)) fun r=>aKP r
def aGb (a:aY):Option aY:=
 ob (aHs a.Values) fun c=>
 some ⟨a.Definition,c⟩
def aFA (a:List aY):Option (List aY):=
 some a
def oO (a:(List aY)) (c:List aY) (b:Int):Option ((List aY × Int) ⊕ (List aY)):=
 if (decide (b < (a.length:Int))) then (ob (ix a b) fun e=>
 ob (aGb e) fun f=>
 ob (ix c b) fun h=>
 ob (st c b (f:aY)) fun g=>
 some (.inl (g,wr (b+1)))) else (some (.inr c))
def aAG (a:(List aY)):Option (List aY):=
 ob (mkz (a.length:Int) (⟨0,[]⟩:aY)) fun c=>
 ob (loop (fun (s:(List aY × Int))=>oO a s.1 s.2) (c,0)) fun r=>aFA r
def aJa (a:bB):Option bB:=
 some a
def aHW (a:List bB):Option (List bB):=
 some a
def sG (a:(List bB)) (c:List bB) (b:Int):Option ((List bB × Int) ⊕ (List bB)):=
 if (decide (b < (a.length:Int))) then (ob (ix a b) fun f=>
 ob (aJa f) fun d=>
 ob (ix c b) fun h=>
 ob (st c b (⟨d.Left,d.Right,d.Result⟩:bB)) fun g=>
 some (.inl (g,wr (b+1)))) else (some (.inr c))
def aDQ (a:(List bB)):Option (List bB):=
 ob (mkz (a.length:Int) (⟨[],[],[]⟩:bB)) fun c=>
 ob (loop (fun (s:(List bB × Int))=>sG a s.1 s.2) (c,0)) fun r=>aHW r
def aJb (a:List aO):Option (List aO):=
 some a
def aAH (a:(List aO)) (c:List aO) (b:Int):Option ((List aO × Int) ⊕ (List aO)):=
 if (decide (b < (a.length:Int))) then (ob (ix a b) fun e=>
 ob (ix c b) fun g=>
 ob (st c b (e:aO)) fun f=>
 some (.inl (f,wr (b+1)))) else (some (.inr c))
def zH (a:(List aO)):Option (List aO):=
 ob (mkz (a.length:Int) ([]:aO)) fun c=>
 ob (loop (fun (s:(List aO × Int))=>aAH a s.1 s.2) (c,0)) fun r=>aJb r
def rO (a:bE):Option bE:=
 ob (xW a.Definitions) fun c=>
 ob (aAG a.Components) fun d=>
 ob (aDQ a.Meetings) fun e=>
 ob (zH a.Allowed) fun f=>
 ob (zH a.Hidden) fun g=>
 some ⟨c,d,e,f,g⟩
def aAI (d:Definition):Option Bool:=
 ob (jC d.Parameters 0 3) fun b=>
 some (!b)
def gA:Option Int:=
 some (-1)
def cH (b:(List Definition)) (a:Int):Option (Int ⊕ (Unit ⊕ Int)):=
 if (decide (a < (b.length:Int))) then (ob (ix b a) fun c=>
 ob (aAI c) fun d=>
 if d then (some (.inr (.inr a))) else (some (.inl (wr (a+1))))) else (some (.inr (.inl ())))
def dF (b:(List Definition)):Option Int:=
 ob (loop (fun (s:Int)=>cH b s) 0) fun r=>match r with|.inl r=>gA|.inr r=>some r
def cZ (a:(List Definition)):Option Bool:=
 ob (dF a) fun b=>
 some (decide (0<=b))
def aAJ (a:(List Definition)):Option Bool:=
 ob (cZ a) fun b=>
 some (!b)
def uH (d:Definition) (p:aO):Option Bool:=
 some (d.Name == p)
def fP:Option Int:=
 some (-1)
def cB (b:(List Definition)) (c:aO) (a:Int):Option (Int ⊕ (Unit ⊕ Int)):=
 if (decide (a < (b.length:Int))) then (ob (ix b a) fun d=>
 ob (uH d c) fun e=>
 if e then (some (.inr (.inr a))) else (some (.inl (wr (a+1))))) else (some (.inr (.inl ())))
def dA (b:(List Definition)) (c:aO):Option Int:=
 ob (loop (fun (s:Int)=>cB b c s) 0) fun r=>match r with|.inl r=>fP|.inr r=>some r
def oP (a:(List Definition)) (b:aO):Option Int:=
 ob (dA a b) fun c=>
 some c
def vH (p:Part) (b:Bool):Option Int:=
 if b then (some 1) else (if (p.Kind == 2) then (some 2) else (some 0))
def wU (p:Part):Option Int:=
 if (p.Kind == 1) then (vH p (p.Kind == 1)) else (if (p.Kind == 3) then (vH p (p.Kind == 3)) else (vH p (p.Kind == 4)))
def pM (a:Int):Option Int:=
 some a
def iU (d:Definition) (a c:Int):Option ((Int × Int) ⊕ (Int ⊕ Int)):=
 if (decide (0 < c)) then (if (decide ((d.Body.length:Int)<=a)) then (some (.inr (.inr (-1)))) else (ob (ix d.Body a) fun e=>
 ob (wU e) fun f=>
 some (.inl (wr (a+1),wr (c+(wr (f - 1))))))) else (some (.inr (.inl a)))
def kR (d:Definition) (c:Int):Option Int:=
 ob (loop (fun (s:(Int × Int))=>iU d s.1 s.2) (c,1)) fun r=>match r with|.inl r=>pM r|.inr r=>some r
def kL (a:Int) (b:List dV):Option (Int × (List dV)):=
 some (a,b)
def eZ (f:Int->dV->(List dV)->Definition->Definition->Option (Int × (List dV))) (a:Definition) (g:Part) (h i b c:Int) (d:List dV):Option ((Int × Int × List dV) ⊕ (Int × List dV)):=
 if (decide (c < i)) then (ob (f b ⟨h,g.Kind == 1⟩ d a a) fun e=>
 some (.inl (e.1,wr (c+1),e.2))) else (some (.inr (b,d)))
def dG (c:Int->dV->(List dV)->Definition->Definition->Option (Int × (List dV))) (d:Int) (e:Definition) (f:List dV) (a:Part) (g:Int):Option (Int × (List dV)):=
 ob (wU a) fun h=>
 ob (loop (fun (s:(Int × Int × List dV))=>eZ c e a g h s.1 s.2.1 s.2.2) (wr (d+1),0,f)) fun r=>kL r.1 r.2
def eA (d:Int->dV->(List dV)->Definition->Definition->Option (Int × (List dV))) (a:Int) (p:dV) (e:(List dV)) (h f:Definition):Option (Int × (List dV)):=
 ob (ix e a) fun i=>
 ob (st e a (⟨p.scope,p.behind⟩:dV)) fun g=>
 ob (ix h.Body a) fun c=>
 if (c.Kind == 4) then (dG d a f g c (wr (p.scope+1))) else (dG d a f g c p.scope)
def cW:Nat->Int->dV->(List dV)->Definition->Definition->Option (Int × (List dV))
 |0=>fun _ _ _ _ _=>none
 |n+1=>eA (cW n)
def rP (a:Int) (p:dV) (c:(List dV)) (d e:Definition):Option (Int × (List dV)):=
 cW 100000 a p c d e
def mD (d:Definition):Option (List dV):=
 ob (mkz (d.Body.length:Int) (⟨0,false⟩:dV)) fun b=>
 ob (rP 0 ⟨d.Parameters,false⟩ b d d) fun c=>
 some c.2
def aDR (i many:Int):Option Bool:=
 ob (jC i 0 (wr (many - 1))) fun b=>
 some b
def eC (a:Bool):Option Bool:=
 some a
def nB (p:Part) (c b:Bool):Option Bool:=
 ob (jC p.Kind 0 5) fun d=>
 if d then (if c then (if (p.Kind == 1) then (if b then (eC true) else (eC ((p.Arguments.length:Int) == 0))) else (if (p.Name == ([]:aO)) then (if b then (eC true) else (eC ((p.Arguments.length:Int) == 0))) else (eC false))) else (if (p.Number == 0) then (if (p.Kind == 1) then (if b then (eC true) else (eC ((p.Arguments.length:Int) == 0))) else (if (p.Name == ([]:aO)) then (if b then (eC true) else (eC ((p.Arguments.length:Int) == 0))) else (eC false))) else (eC false))) else (eC false)
def qJ (p:Part) (b:Bool):Option Bool:=
 if (p.Kind == 1) then (nB p b true) else (if (p.Kind == 3) then (nB p b true) else (nB p b (p.Kind == 5)))
def wV (p:Part):Option Bool:=
 if (p.Kind == 4) then (qJ p true) else (qJ p (p.Kind == 5))
def oQ (a:Bool):Option Bool:=
 some a
def uI (p:Part) (b:(List Definition)):Option Bool:=
 if (p.Kind == 1) then (if ((p.Arguments.length:Int) == 0) then (oQ true) else (if (!(p.Name == ([116,97,117]:aO))) then (oQ (decide ((p.Arguments.length:Int)<=2))) else (oQ false))) else (if (p.Kind == 3) then (some ((p.Arguments.length:Int) == 1)) else (if (p.Kind == 5) then (ob (ix b p.Number) fun c=>
 some ((p.Arguments.length:Int) == c.Parameters)) else (some true)))
def aDS (t:aW) (b:Int):Option Bool:=
 if (t.Kind == 0) then (ob (aDZ t.Value) fun c=>
 some c) else (if (t.Kind == 1) then (ob (jC t.Value 0 (wr (b - 1))) fun d=>
 some d) else (if (t.Kind == 2) then (ob (jC t.Value 0 8) fun e=>
 some e) else (if (t.Kind == 3) then (some (t.Value == 0)) else (some false))))
def xX (t:aW):Option Int:=
 if (t.Kind == 2) then (some 2) else (if (t.Kind == 3) then (some 1) else (some 0))
def aHX (a:Int):Option Bool:=
 some (a == 0)
def xY (a b:Int) (c:aW) (d:Bool):Option ((Int × Int) ⊕ (Int ⊕ Bool)):=
 if d then (some (.inr (.inr false))) else (ob (xX c) fun e=>
 some (.inl (wr (a+(wr (e - 1))),wr (b+1))))
def sH (e:(List aW)) (f a b:Int):Option ((Int × Int) ⊕ (Int ⊕ Bool)):=
 if (decide (b < (e.length:Int))) then (ob (ix e b) fun c=>
 if (a == 0) then (xY a b c true) else (ob (aDS c f) fun g=>
 xY a b c (!g))) else (some (.inr (.inl a)))
def oB (e:(List aW)) (c:Int) (d:Bool):Option Bool:=
 if d then (some false) else (ob (loop (fun (s:(Int × Int))=>sH e c s.1 s.2) (1,0)) fun r=>match r with|.inl r=>aHX r|.inr r=>some r)
def aAK (e:(List aW)) (b c:Int):Option Bool:=
 ob (jC b 0 29) fun d=>
 if (!d) then (oB e b true) else (ob (jC c 1 60) fun f=>
 if (!f) then (oB e b true) else (ob (jC (e.length:Int) 1 c) fun g=>
 oB e b (!g)))
def aBw (e:(List aW)) (p:dV):Option Bool:=
 ob (aAK e p.scope 15) fun c=>
 some (!c)
def iS:Option Int:=
 some (-1)
def cY (b:(List (List aW))) (c:dV) (a:Int):Option (Int ⊕ (Unit ⊕ Int)):=
 if (decide (a < (b.length:Int))) then (ob (ix b a) fun d=>
 ob (aBw d c) fun e=>
 if e then (some (.inr (.inr a))) else (some (.inl (wr (a+1))))) else (some (.inr (.inl ())))
def eB (b:(List (List aW))) (c:dV):Option Int:=
 ob (loop (fun (s:Int)=>cY b c s) 0) fun r=>match r with|.inl r=>iS|.inr r=>some r
def dR (a:(List (List aW))) (b:dV):Option Bool:=
 ob (eB a b) fun c=>
 some (decide (0<=c))
def nC (p:Part) (b:dV) (c:Bool):Option Int:=
 if c then (some 7) else (ob (dR p.Arguments b) fun d=>
 if d then (some 8) else (some 0))
def nD (p:Part) (b:dV) (c:Bool):Option Int:=
 if c then (some 6) else (if (p.Kind == 4) then (nC p b (decide (6<=b.scope))) else (nC p b false))
def iO (p:Part) (c:(List Definition)) (b:dV) (d:Bool):Option Int:=
 if d then (some 4) else (ob (uI p c) fun e=>
 if (!e) then (some 5) else (if (p.Kind == 5) then (nD p b (!b.behind)) else (nD p b false)))
def kS (p:Part) (b:(List Definition)) (c:dV) (d:Bool):Option Int:=
 if d then (some 3) else (if (p.Kind == 4) then (ob (jC p.Number 1 7) fun e=>
 if (!e) then (iO p b c true) else (if (p.Kind == 5) then (ob (aDR p.Number (b.length:Int)) fun f=>
 iO p b c (!f)) else (iO p b c false))) else (if (p.Kind == 5) then (ob (aDR p.Number (b.length:Int)) fun g=>
 iO p b c (!g)) else (iO p b c false)))
def sQ (p:Part) (b:(List Definition)) (c:dV):Option Int:=
 ob (wV p) fun d=>
 if (!d) then (some 2) else (if (p.Kind == 1) then (if (!(p.Name == ([116,97,117]:aO))) then (ob (pF p.Name) fun e=>
 kS p b c (!e)) else (kS p b c false)) else (kS p b c false))
def aJc:Option (Int × Int):=
 some (0,0)
def uJ (e:(List Definition)) (d:Definition) (f:(List dV)) (a:Int):Option (Int ⊕ (Unit ⊕ (Int × Int))):=
 if (decide (a < (d.Body.length:Int))) then (ob (ix d.Body a) fun g=>
 ob (ix f a) fun h=>
 ob (sQ g e h) fun c=>
 if (c != 0) then (some (.inr (.inr (a,c)))) else (some (.inl (wr (a+1))))) else (some (.inr (.inl ())))
def uK (c:(List Definition)) (d:Definition) (e:Bool):Option (Int × Int):=
 if e then (some (0,1)) else (ob (mD d) fun f=>
 ob (loop (fun (s:Int)=>uJ c d f s) 0) fun r=>match r with|.inl r=>aJc|.inr r=>some r)
def zJ (b:(List Definition)) (d:Definition):Option (Int × Int):=
 ob (jC (d.Body.length:Int) 1 20) fun c=>
 if (!c) then (uK b d true) else (ob (kR d 0) fun e=>
 uK b d (e != (d.Body.length:Int)))
def aBi:Option Bool:=
 some true
def nS (a:(List Definition)) (b:Int) (c:Definition) (d:Bool):Option (Int ⊕ (Unit ⊕ Bool)):=
 if d then (some (.inr (.inr false))) else (ob (zJ a c) fun e=>
 if (e.2 != 0) then (some (.inr (.inr false))) else (some (.inl (wr (b+1)))))
def kM (a:(List Definition)) (b:Int):Option (Int ⊕ (Unit ⊕ Bool)):=
 if (decide (b < (a.length:Int))) then (ob (ix a b) fun c=>
 ob (aGn c.Name) fun d=>
 if (!d) then (nS a b c true) else (ob (slc a 0 b) fun e=>
 ob (oP e c.Name) fun f=>
 nS a b c (decide (0<=f)))) else (some (.inr (.inl ())))
def kN (b:(List Definition)) (c:Bool):Option Bool:=
 if c then (some false) else (ob (loop (fun (s:Int)=>kM b s) 0) fun r=>match r with|.inl r=>aBi|.inr r=>some r)
def jG (a:(List Definition)):Option Bool:=
 ob (jC (a.length:Int) 1 4) fun b=>
 if (!b) then (kN a true) else (ob (aAJ a) fun c=>
 kN a (!c))
def qK (a:Bool):Option Bool:=
 some a
def wW (b:(List Definition)) (c:aY):Option Bool:=
 ob (aDR c.Definition (b.length:Int)) fun d=>
 if d then (ob (ix b c.Definition) fun e=>
 if ((c.Values.length:Int) == e.Parameters) then (ob (aCl c.Values) fun f=>
 qK f) else (qK false)) else (qK false)
def pN (a:aO):Option Bool:=
 some (!(a == a))
def kO (a y:aO):Option Int:=
 ob (pN a) fun d=>
 ob (pN y) fun c=>
 if d then (if c then (some 0) else (some (-1))) else (if c then (some 1) else (if (nR a y) then (some (-1)) else (if (!(nR a y||a == y)) then (some 1) else (some 0))))
def mE (a b:(List aO)):Option Int:=
 if (decide ((a.length:Int) < (b.length:Int))) then (some (-1)) else (some 0)
def cC (b c:(List aO)) (a:Int):Option (Int ⊕ (Unit ⊕ Int)):=
 if (decide (a < (b.length:Int))) then (ob (ix b a) fun e=>
 if (decide ((c.length:Int)<=a)) then (some (.inr (.inr 1))) else (ob (ix c a) fun f=>
 ob (kO e f) fun d=>
 if (d != 0) then (some (.inr (.inr d))) else (some (.inl (wr (a+1)))))) else (some (.inr (.inl ())))
def gQ (b c:(List aO)):Option Int:=
 ob (loop (fun (s:Int)=>cC b c s) 0) fun r=>match r with|.inl r=>mE b c|.inr r=>some r
def oR (a b:bB):Option Int:=
 ob (gQ ([a.Left,a.Right]:List aO) ([b.Left,b.Right]:List aO)) fun e=>
 some e
def rQ (a:Bool):Option Bool:=
 some a
def xZ (o p:bB):Option Bool:=
 if (o.Left == p.Result) then (rQ true) else (rQ (o.Right == p.Result))
def iF:Option Int:=
 some (-1)
def cT (b:(List bB)) (c:bB) (a:Int):Option (Int ⊕ (Unit ⊕ Int)):=
 if (decide (a < (b.length:Int))) then (ob (ix b a) fun d=>
 ob (xZ d c) fun e=>
 if e then (some (.inr (.inr a))) else (some (.inl (wr (a+1))))) else (some (.inr (.inl ())))
def dW (b:(List bB)) (c:bB):Option Int:=
 ob (loop (fun (s:Int)=>cT b c s) 0) fun r=>match r with|.inl r=>iF|.inr r=>some r
def dJ (a:(List bB)) (b:bB):Option Bool:=
 ob (dW a b) fun c=>
 some (decide (0<=c))
def aHY (a:(List bB)):Option Bool:=
 some (decide ((a.length:Int)<=6))
def iM (a:(List bB)) (b:Int) (c:bB) (d:Bool):Option (Int ⊕ (Unit ⊕ Bool)):=
 if d then (some (.inr (.inr false))) else (ob (dJ a c) fun e=>
 if e then (some (.inr (.inr false))) else (some (.inl (wr (b+1)))))
def kI (c:(List bB)) (b:Int):Option (Int ⊕ (Unit ⊕ Bool)):=
 if (decide (b < (c.length:Int))) then (ob (ix c b) fun a=>
 ob (pF a.Left) fun d=>
 if (!d) then (iM c b a true) else (ob (pF a.Right) fun e=>
 if (!e) then (iM c b a true) else (ob (pF a.Result) fun f=>
 if (!f) then (iM c b a true) else (if (!(nR a.Left a.Right||a.Left == a.Right)) then (iM c b a true) else (if (decide (0 < b)) then (ob (ix c (wr (b - 1))) fun g=>
 ob (oR g a) fun h=>
 iM c b a (decide (0<=h))) else (iM c b a false)))))) else (some (.inr (.inl ())))
def rR (b:(List bB)):Option Bool:=
 ob (loop (fun (s:Int)=>kI b s) 0) fun r=>match r with|.inl r=>aHY b|.inr r=>some r
def aHt (a:(List aO)):Option Bool:=
 some (decide ((a.length:Int)<=12))
def aAL (a:Int) (b:Bool):Option (Int ⊕ (Unit ⊕ Bool)):=
 if b then (some (.inr (.inr false))) else (some (.inl (wr (a+1))))
def aAM (b:(List aO)) (a:Int):Option (Int ⊕ (Unit ⊕ Bool)):=
 if (decide (a < (b.length:Int))) then (ob (ix b a) fun c=>
 ob (pF c) fun e=>
 if (!e) then (aAL a true) else (if (decide (0 < a)) then (ob (ix b (wr (a - 1))) fun d=>
 aAL a (nR c d||c == d)) else (aAL a false))) else (some (.inr (.inl ())))
def aEg (b:(List aO)):Option Bool:=
 ob (loop (fun (s:Int)=>aAM b s) 0) fun r=>match r with|.inl r=>aHt b|.inr r=>some r
def aBx (c:aY) (p:bE):Option Bool:=
 ob (wW p.Definitions c) fun d=>
 some (!d)
def gO:Option Int:=
 some (-1)
def cI (b:(List aY)) (c:bE) (a:Int):Option (Int ⊕ (Unit ⊕ Int)):=
 if (decide (a < (b.length:Int))) then (ob (ix b a) fun d=>
 ob (aBx d c) fun e=>
 if e then (some (.inr (.inr a))) else (some (.inl (wr (a+1))))) else (some (.inr (.inl ())))
def dI (b:(List aY)) (c:bE):Option Int:=
 ob (loop (fun (s:Int)=>cI b c s) 0) fun r=>match r with|.inl r=>gO|.inr r=>some r
def dE (a:(List aY)) (b:bE):Option Bool:=
 ob (dI a b) fun c=>
 some (decide (0<=c))
def vI (a:bE) (b:Bool):Option Int:=
 if b then (some 2) else (ob (rR a.Meetings) fun c=>
 if (!c) then (some 3) else (ob (aEg a.Allowed) fun d=>
 if (!d) then (some 4) else (ob (aEg a.Hidden) fun e=>
 if (!e) then (some 5) else (some 0))))
def wX (a:bE):Option Int:=
 ob (jG a.Definitions) fun b=>
 if (!b) then (some 1) else (ob (jC (a.Components.length:Int) 1 3) fun c=>
 if (!c) then (vI a true) else (ob (dE a.Components a) fun d=>
 vI a d))
def wY (a:bE):Option Bool:=
 ob (wX a) fun b=>
 some (b == 0)
def aJd (n:Int):Option Bool:=
 ob (jC n (-1000000000000) 1000000000000) fun b=>
 some (!b)
def kZ:Option Int:=
 some (-1)
def dY (b:(List Int)) (a:Int):Option (Int ⊕ (Unit ⊕ Int)):=
 if (decide (a < (b.length:Int))) then (ob (ix b a) fun c=>
 ob (aJd c) fun d=>
 if d then (some (.inr (.inr a))) else (some (.inl (wr (a+1))))) else (some (.inr (.inl ())))
def fR (b:(List Int)):Option Int:=
 ob (loop (fun (s:Int)=>dY b s) 0) fun r=>match r with|.inl r=>kZ|.inr r=>some r
def eY (a:(List Int)):Option Bool:=
 ob (fR a) fun b=>
 some (decide (0<=b))
def aJe (a:Bool):Option Bool:=
 some a
def aJf (a:(List Int)):Option Bool:=
 if (decide ((a.length:Int)<=64)) then (ob (eY a) fun b=>
 aJe (!b)) else (aJe false)
def aHu (a:(List Int)):Option aO:=
 ob (aJf a) fun b=>
 if (!b) then (some ([]:aO)) else (if ((a.length:Int) == 0) then (some ([45]:aO)) else (ob (aEw a ([44]:aO)) fun c=>
 some c))
def aJg (p:GPoint):Option aO:=
 ob (pV p.Part) fun b=>
 ob (cat b ([58]:aO)) fun c=>
 ob (aHu p.Values) fun d=>
 ob (cat c d) fun e=>
 some e
def aEK (p:GPoint):Option aO:=
 ob (pV p.Definition) fun b=>
 ob (cat b ([58]:aO)) fun c=>
 ob (aJg p) fun d=>
 ob (cat c d) fun e=>
 some e
def aGc (a:List aO):Option aO:=
 ob (aNE a ([32]:aO)) fun b=>
 some b
def aBV (b:(List GPoint)) (c:List aO) (a:Int):Option ((List aO × Int) ⊕ (List aO)):=
 if (decide (a < (b.length:Int))) then (ob (ix b a) fun d=>
 ob (aEK d) fun e=>
 ob (zZ c ([e]:List aO)) fun f=>
 some (.inl (f,wr (a+1)))) else (some (.inr c))
def yL (a:(List GPoint)):Option aO:=
 ob (loop (fun (s:(List aO × Int))=>aBV a s.1 s.2) ([],0)) fun r=>aGc r
def aCR (a b:aO):Option Int:=
 if (a == b) then (some 0) else (if (a == ([116,97,117]:aO)) then (some (-1)) else (if (b == ([116,97,117]:aO)) then (some 1) else (ob (aRU a b) fun e=>
 some e)))
def kT (a:Int):Option Bool:=
 some (a != a)
def dB (a y:Int):Option Int:=
 ob (kT a) fun d=>
 ob (kT y) fun c=>
 if d then (if c then (some 0) else (some (-1))) else (if c then (some 1) else (if (decide (a < y)) then (some (-1)) else (if (decide (y < a)) then (some 1) else (some 0))))
def aBy:Option Int:=
 some 0
def dO (b:(List Int)) (a:Int):Option (Int ⊕ (Unit ⊕ Int)):=
 if (decide (a < (b.length:Int))) then (ob (ix b a) fun c=>
 if (c != 0) then (some (.inr (.inr c))) else (some (.inl (wr (a+1))))) else (some (.inr (.inl ())))
def mZ (b:(List Int)):Option Int:=
 ob (loop (fun (s:Int)=>dO b s) 0) fun r=>match r with|.inl r=>aBy|.inr r=>some r
def uL (a b:Edge):Option Int:=
 ob (dB a.F b.F) fun e=>
 ob (dB a.B b.B) fun f=>
 ob (dB a.To b.To) fun g=>
 ob (mZ ([e,f,g]:List Int)) fun h=>
 some h
def jU (a:(List Edge)):Option (List Edge):=
 some a
def eM (a:Int):Option (Int ⊕ (Unit ⊕ (List Edge))):=
 some (.inl (wr (a+1)))
def eN (a:List Edge) (b:Int):Option (Int ⊕ (Unit ⊕ (List Edge))):=
 ob (slc a b (a.length:Int)) fun c=>
 ob (ovw a b (List.replicate c.length (⟨0,0,0⟩:Edge))) fun d=>
 ob (slc d 0 b) fun e=>
 some (.inr (.inr e))
def dK (a:Int) (b:List Edge) (c:Int):Option ((List Edge × Int × Int) ⊕ (List Edge × Int)):=
 some (.inl (b,c,wr (a+1)))
def dL (f:Int) (e b:List Edge) (c a:Int):Option ((List Edge × Int × Int) ⊕ (List Edge × Int)):=
 if (decide (a < (e.length:Int))) then (ob (ix e a) fun i=>
 ob (ix b (f+a)) fun d=>
 ob (ix e (wr (a - 1))) fun j=>
 ob (ix b (f+(wr (a - 1)))) fun g=>
 if (!decide ((d:Edge)=g)) then (ob (ix b c) fun k=>
 ob (st b c (⟨d.F,d.B,d.To⟩:Edge)) fun h=>
 dK a h (wr (c+1))) else (dK a b c)) else (some (.inr (b,c)))
def dM (b:(List Edge)) (a:Int):Option (Int ⊕ (Unit ⊕ (List Edge))):=
 if (decide (a < (b.length:Int))) then (ob (ix b a) fun d=>
 ob (ix b (wr (a - 1))) fun e=>
 if (decide ((d:Edge)=e)) then (ob (slc b a (b.length:Int)) fun f=>
 ob (loop (fun (s:(List Edge × Int × Int))=>dL a f s.1 s.2.1 s.2.2) (b,a,1)) fun r=>eN r.1 r.2) else (eM a)) else (some (.inr (.inl ())))
def dZ (a:(List Edge)):Option (List Edge):=
 if (decide ((a.length:Int) < 2)) then (some a) else (ob (loop (fun (s:Int)=>dM a s) 1) fun r=>match r with|.inl r=>jU a|.inr r=>some r)
def mF (a:(List aO)):Option (List aO):=
 some a
def fT (a:Int):Option (Int ⊕ (Unit ⊕ (List aO))):=
 some (.inl (wr (a+1)))
def fU (a:List aO) (b:Int):Option (Int ⊕ (Unit ⊕ (List aO))):=
 ob (slc a b (a.length:Int)) fun c=>
 ob (ovw a b (List.replicate c.length ([]:aO))) fun d=>
 ob (slc d 0 b) fun e=>
 some (.inr (.inr e))
def eG (a:Int) (b:List aO) (c:Int):Option ((List aO × Int × Int) ⊕ (List aO × Int)):=
 some (.inl (b,c,wr (a+1)))
def eH (e:Int) (d b:List aO) (c a:Int):Option ((List aO × Int × Int) ⊕ (List aO × Int)):=
 if (decide (a < (d.length:Int))) then (ob (ix d a) fun i=>
 ob (ix b (e+a)) fun f=>
 ob (ix d (wr (a - 1))) fun j=>
 ob (ix b (e+(wr (a - 1)))) fun g=>
 if (!(f == g)) then (ob (ix b c) fun k=>
 ob (st b c (f:aO)) fun h=>
 eG a h (wr (c+1))) else (eG a b c)) else (some (.inr (b,c)))
def eJ (b:(List aO)) (a:Int):Option (Int ⊕ (Unit ⊕ (List aO))):=
 if (decide (a < (b.length:Int))) then (ob (ix b a) fun d=>
 ob (ix b (wr (a - 1))) fun e=>
 if (d == e) then (ob (slc b a (b.length:Int)) fun f=>
 ob (loop (fun (s:(List aO × Int × Int))=>eH a f s.1 s.2.1 s.2.2) (b,a,1)) fun r=>fU r.1 r.2) else (fT a)) else (some (.inr (.inl ())))
def eX (a:(List aO)):Option (List aO):=
 if (decide ((a.length:Int) < 2)) then (some a) else (ob (loop (fun (s:Int)=>eJ a s) 1) fun r=>match r with|.inl r=>mF a|.inr r=>some r)
def nN:Option Int:=
 some (-1)
def gH (b:(List aO)) (c:aO) (a:Int):Option (Int ⊕ (Unit ⊕ Int)):=
 if (decide (a < (b.length:Int))) then (ob (ix b a) fun d=>
 if (c == d) then (some (.inr (.inr a))) else (some (.inl (wr (a+1))))) else (some (.inr (.inl ())))
def eK (b:(List aO)) (c:aO):Option Int:=
 ob (loop (fun (s:Int)=>gH b c s) 0) fun r=>match r with|.inl r=>nN|.inr r=>some r
def aMI (a b:Int) (c:(List aO)) (d:List Edge):Option iZ:=
 ob (aEr d) fun e=>
 ob (dZ e) fun f=>
 some ⟨a,b,c,f⟩
def aJh (c:(List lS)) (e:(List aO)) (d:List Edge) (a:Int):Option ((List Edge × Int) ⊕ (List Edge)):=
 if (decide (a < (c.length:Int))) then (ob (ix c a) fun b=>
 ob (eK e b.label) fun f=>
 ob (zZ d ([⟨b.from_,f,b.to_⟩]:List Edge)) fun g=>
 some (.inl (g,wr (a+1)))) else (some (.inr d))
def aRX (b c:Int) (d:(List aO)) (e:(List lS)):Option iZ:=
 ob (zZ ([([116,97,117]:aO)]:List aO) d) fun f=>
 ob (aGk f) fun g=>
 ob (eX g) fun a=>
 ob (loop (fun (s:(List Edge × Int))=>aJh e a s.1 s.2) ([],0)) fun r=>aMI b c a r
def aKQ (a:List aO):Option (List aO):=
 some a
def aBW (b:(List lS)) (c:List aO) (a:Int):Option ((List aO × Int) ⊕ (List aO)):=
 if (decide (a < (b.length:Int))) then (ob (ix b a) fun d=>
 ob (zZ c ([d.label]:List aO)) fun e=>
 some (.inl (e,wr (a+1)))) else (some (.inr c))
def aBz (a:(List lS)):Option (List aO):=
 ob (loop (fun (s:(List aO × Int))=>aBW a s.1 s.2) ([],0)) fun r=>aKQ r
def sT (t:iZ) (k:Int):Option Bool:=
 ob (jC k 0 (wr (t.N - 1))) fun c=>
 some c
def aKR:Option Bool:=
 some true
def pH (a:Int) (b:Bool):Option (Int ⊕ (Unit ⊕ Bool)):=
 if b then (some (.inr (.inr false))) else (some (.inl (wr (a+1))))
def wZ (t:iZ) (a:Int):Option (Int ⊕ (Unit ⊕ Bool)):=
 if (decide (a < (t.E.length:Int))) then (ob (ix t.E a) fun c=>
 ob (sT t c.F) fun d=>
 if (!d) then (pH a true) else (ob (sT t c.To) fun e=>
 if (!e) then (pH a true) else (ob (aDR c.B (t.L.length:Int)) fun f=>
 if (!f) then (pH a true) else (if (decide (0 < a)) then (ob (ix t.E (wr (a - 1))) fun g=>
 ob (uL g c) fun h=>
 pH a (decide (0<=h))) else (pH a false))))) else (some (.inr (.inl ())))
def aBX (t:iZ):Option Bool:=
 ob (loop (fun (s:Int)=>wZ t s) 0) fun r=>match r with|.inl r=>aKR|.inr r=>some r
def sU (a:Int) (b:Bool):Option (Int ⊕ (Unit ⊕ Bool)):=
 if b then (some (.inr (.inr false))) else (some (.inl (wr (a+1))))
def xA (t:iZ) (a:Int):Option (Int ⊕ (Unit ⊕ Bool)):=
 if (decide (a < (t.L.length:Int))) then (ob (ix t.L a) fun b=>
 ob (aKd b) fun e=>
 if (!e) then (sU a true) else (if ((b == ([116,97,117]:aO)) != (a == 0)) then (sU a true) else (if (decide (1 < a)) then (ob (ix t.L (wr (a - 1))) fun d=>
 sU a (nR b d||b == d)) else (sU a false)))) else (some (.inr (.inl ())))
def pI (t:iZ) (c:Bool):Option Bool:=
 if c then (some false) else (ob (loop (fun (s:Int)=>xA t s) 0) fun r=>match r with|.inl r=>aBX t|.inr r=>some r)
def aBA (t:iZ):Option Bool:=
 ob (jC t.N 1 40) fun b=>
 if (!b) then (pI t true) else (ob (sT t t.I) fun c=>
 if (!c) then (pI t true) else (ob (jC (t.L.length:Int) 1 12) fun d=>
 if (!d) then (pI t true) else (pI t (decide (300 < (t.E.length:Int))))))
def bY (a:(List Int)):Option (List Int):=
 ob (zZ ([]:List Int) a) fun b=>
 some b
def aFB (a:List GPoint):Option (List GPoint):=
 some a
def oS (b:bE) (c:List GPoint) (a:Int):Option ((List GPoint × Int) ⊕ (List GPoint)):=
 if (decide (a < (b.Components.length:Int))) then (ob (ix b.Components a) fun d=>
 ob (bY d.Values) fun e=>
 ob (zZ c ([⟨d.Definition,0,e⟩]:List GPoint)) fun f=>
 some (.inl (f,wr (a+1)))) else (some (.inr c))
def uM (a:bE):Option (List GPoint):=
 ob (loop (fun (s:(List GPoint × Int))=>oS a s.1 s.2) ([],0)) fun r=>aFB r
def aGd (a:aW) (b:List (Tr aW)) (c:List aW):Option ((Tr aW) × (List aW)):=
 some ((Tr.mk a b),c)
def xB (e:(List aW)->Option ((Tr aW) × (List aW))) (f:Int) (a:List (Tr aW)) (b:List aW) (c:Int):Option ((List (Tr aW) × List aW × Int) ⊕ (List (Tr aW) × List aW)):=
 if (decide (c < f)) then (ob (e b) fun d=>
 ob (zZ a ([d.1]:List (Tr aW))) fun g=>
 some (.inl (g,d.2,wr (c+1)))) else (some (.inr (a,b)))
def mP (d:(List aW)->Option ((Tr aW) × (List aW))) (e:(List aW)):Option ((Tr aW) × (List aW)):=
 ob (ix e 0) fun b=>
 ob (slc e 1 (e.length:Int)) fun f=>
 ob (xX b) fun g=>
 ob (loop (fun (s:(List (Tr aW) × List aW × Int))=>xB d g s.1 s.2.1 s.2.2) ([],f,0)) fun r=>aGd b r.1 r.2
def mQ:Nat->(List aW)->Option ((Tr aW) × (List aW))
 |0=>fun _=>none
 |n+1=>mP (mQ n)
def aLv (e:(List aW)):Option ((Tr aW) × (List aW)):=
 mQ 100000 e
def i_tree (e:(List aW)):Option (Tr aW):=
 ob (aLv e) fun b=>
 some b.1
def aAN (a:Bool):Option Int:=
 if a then (some 1) else (some 0)
def aHv (a:Int):Option Int:=
 some a
def aHw (a:Int):Option Int:=
 some a
def aKl (e a b:Int):Option Int:=
 if (e == 0) then (ob (rm (wr (a+b)) 64) fun f=>
 some f) else (if (e == 1) then (ob (rm (wr ((wr (a - b))+64)) 64) fun g=>
 some g) else (if (e == 2) then (ob (rm (wr (a * b)) 64) fun h=>
 some h) else (if (e == 3) then (ob (aAN (a == b)) fun i=>
 some i) else (if (e == 4) then (ob (aAN (a != b)) fun j=>
 some j) else (if (e == 5) then (ob (aAN (decide (a < b))) fun k=>
 some k) else (if (e == 6) then (ob (aAN (decide (a<=b))) fun l=>
 some l) else (if (e == 7) then (if (a != 0) then (ob (aAN (b != 0)) fun m=>
 aHv m) else (ob (aAN false) fun n=>
 aHv n)) else (if (a != 0) then (ob (aAN true) fun o=>
 aHw o) else (ob (aAN (b != 0)) fun p=>
 aHw p)))))))))
def jV (c:(Tr aW)->(List Int)->Option Int) (a:(Tr aW)) (b:(List Int)):Option Int:=
 if (a.val.Kind == 0) then (some a.val.Value) else (if (a.val.Kind == 1) then (ob (ix b a.val.Value) fun d=>
 some d) else (if (a.val.Kind == 3) then (ob (ix a.kids 0) fun e=>
 ob (c e b) fun f=>
 ob (aAN (f == 0)) fun g=>
 some g) else (ob (ix a.kids 0) fun h=>
 ob (c h b) fun i=>
 ob (ix a.kids 1) fun j=>
 ob (c j b) fun k=>
 ob (aKl a.val.Value i k) fun l=>
 some l)))
def jW:Nat->(Tr aW)->(List Int)->Option Int
 |0=>fun _ _=>none
 |n+1=>jV (jW n)
def aHx (a:(Tr aW)) (b:(List Int)):Option Int:=
 jW 100000 a b
def aBB (e:(List aW)) (b:(List Int)):Option Int:=
 ob (i_tree e) fun c=>
 ob (aHx c b) fun d=>
 some d
def aGy (a:List Int):Option (List Int):=
 some a
def vJ (b:(List (List aW))) (d:(List Int)) (c:List Int) (a:Int):Option ((List Int × Int) ⊕ (List Int)):=
 if (decide (a < (b.length:Int))) then (ob (ix b a) fun e=>
 ob (aBB e d) fun f=>
 ob (zZ c ([f]:List Int)) fun g=>
 some (.inl (g,wr (a+1)))) else (some (.inr c))
def sV (a:(List (List aW))) (b:(List Int)):Option (List Int):=
 ob (loop (fun (s:(List Int × Int))=>vJ a b s.1 s.2) ([],0)) fun r=>aGy r
def iX (i:(List Definition)) (c:(List bR)) (a:(List (aO × Bool))) (b:bR):Option ((List bR) × (List (aO × Bool))):=
 ob (cat b.B ([32]:aO)) fun e=>
 ob (aEK b.Next) fun f=>
 ob (cat e f) fun d=>
 if (!((iQ a d).getD false)) then (ob (some (rY a d true)) fun g=>
 ob (zZ c ([b]:List bR)) fun h=>
 some (h,g)) else (some (c,a))
def iG (a:List bR) (b:(List (aO × Bool))):Option ((List bR) × (List (aO × Bool))):=
 some (a,b)
def oT (b:(List Definition)) (c:(List bR)) (d:(List (aO × Bool))) (e:(aO × Bool)) (f g:Int) (h:List Int):Option ((List bR) × (List (aO × Bool))):=
 ob (iX b c d ⟨e.1,⟨f,g,h⟩⟩) fun a=>
 iG a.1 a.2
def oU (a:List bR) (b:(List (aO × Bool))):Option ((List bR) × (List (aO × Bool))):=
 iG a b
def fB (e:(List Definition)->(List bR)->(List (aO × Bool))->Int->Int->(List Int)->Option ((List bR) × (List (aO × Bool)))) (f:(List Definition)) (k h:Int) (i:(List Int)) (j:Part) (b:List bR) (c:(List (aO × Bool))) (a:Int):Option ((List bR × (List (aO × Bool)) × Int) ⊕ (List bR × (List (aO × Bool)))):=
 if (decide (a < wr (j.Number+1))) then (ob (bY i) fun l=>
 ob (zZ l ([a]:List Int)) fun m=>
 ob (e f b c k (wr (h+1)) m) fun d=>
 some (.inl (d.1,d.2,wr (a+1)))) else (some (.inr (b,c)))
def cL (h:(List Definition)->(List bR)->(List (aO × Bool))->Int->Int->(List Int)->Option ((List bR) × (List (aO × Bool)))) (c:(List Definition)) (d:(List bR)) (e:(List (aO × Bool))) (k f:Int) (a:(List Int)):Option ((List bR) × (List (aO × Bool))):=
 ob (ix c k) fun i=>
 ob (ix i.Body f) fun b=>
 if (b.Kind == 1) then (ob (sV b.Arguments a) fun q=>
 ob (yT b.Name q) fun l=>
 ob (bY a) fun t=>
 ob (ix i.Body (wr (f+1))) fun j=>
 if (j.Kind == 5) then (ob (sV j.Arguments a) fun u=>
 oT c d e l j.Number 0 u) else (oT c d e l k (wr (f+1)) t)) else (if (b.Kind == 2) then (ob (h c d e k (wr (f+1)) a) fun m=>
 ob (kR i (wr (f+1))) fun v=>
 ob (h c m.1 m.2 k v a) fun n=>
 iG n.1 n.2) else (if (b.Kind == 3) then (ob (ix b.Arguments 0) fun w=>
 ob (aBB w a) fun x=>
 if (x != 0) then (ob (h c d e k (wr (f+1)) a) fun o=>
 iG o.1 o.2) else (iG d e)) else (if (b.Kind == 4) then (ob (loop (fun (s:(List bR × (List (aO × Bool)) × Int))=>fB h c k f a b s.1 s.2.1 s.2.2) (d,e,0)) fun r=>oU r.1 r.2) else (iG d e))))
def bJ:Nat->(List Definition)->(List bR)->(List (aO × Bool))->Int->Int->(List Int)->Option ((List bR) × (List (aO × Bool)))
 |0=>fun _ _ _ _ _ _=>none
 |n+1=>cL (bJ n)
def aAO (a:(List Definition)) (b:(List bR)) (c:(List (aO × Bool))) (k e:Int) (f:(List Int)):Option ((List bR) × (List (aO × Bool))):=
 bJ 100000 a b c k e f
def aHy (c:(List Definition)) (p:GPoint):Option ((List bR) × Bool):=
 ob (aAO c [] ([]:(List (aO × Bool))) p.Definition p.Part p.Values) fun b=>
 some (b.1,decide ((b.1.length:Int)<=200))
def rS (p:GPoint):Option GPoint:=
 ob (bY p.Values) fun b=>
 some ⟨p.Definition,p.Part,b⟩
def aCS (a:List GPoint):Option (List GPoint):=
 some a
def kJ (b:(List GPoint)) (c:List GPoint) (a:Int):Option ((List GPoint × Int) ⊕ (List GPoint)):=
 if (decide (a < (b.length:Int))) then (ob (ix b a) fun d=>
 ob (rS d) fun e=>
 ob (zZ c ([e]:List GPoint)) fun f=>
 some (.inl (f,wr (a+1)))) else (some (.inr c))
def oV (a:(List GPoint)):Option (List GPoint):=
 ob (loop (fun (s:(List GPoint × Int))=>kJ a s.1 s.2) ([],0)) fun r=>aCS r
def mR (a:Bool):Option Bool:=
 some a
def pO (m:bB) (p c:aO):Option Bool:=
 if (m.Left == (mnS p c)) then (mR (m.Right == (mxS p c))) else (mR false)
def gT:Option Int:=
 some (-1)
def cM (b:(List bB)) (c d:aO) (a:Int):Option (Int ⊕ (Unit ⊕ Int)):=
 if (decide (a < (b.length:Int))) then (ob (ix b a) fun e=>
 ob (pO e c d) fun f=>
 if f then (some (.inr (.inr a))) else (some (.inl (wr (a+1))))) else (some (.inr (.inl ())))
def dN (b:(List bB)) (c d:aO):Option Int:=
 ob (loop (fun (s:Int)=>cM b c d s) 0) fun r=>match r with|.inl r=>gT|.inr r=>some r
def nE (c:bE) (a b:aO):Option (aO × Bool):=
 ob (dN c.Meetings a b) fun d=>
 if (decide (d < 0)) then (some (([]:aO),false)) else (ob (ix c.Meetings d) fun g=>
 some (g.Result,true))
def cU (a:(List aO)) (b:aO):Option Bool:=
 ob (eK a b) fun c=>
 some (decide (0<=c))
def kU (b:(List bC)) (a:(List (aO × Bool))) (c d:Int) (e:(aO × Bool)) (f:List GPoint):Option ((List bC) × (List (aO × Bool))):=
 ob (cat e.1 ([32]:aO)) fun h=>
 ob (pV c) fun i=>
 ob (cat h i) fun j=>
 ob (cat j ([32]:aO)) fun k=>
 ob (pV d) fun l=>
 ob (cat k l) fun m=>
 ob (cat m ([32]:aO)) fun n=>
 ob (yL f) fun o=>
 ob (cat n o) fun g=>
 if (!((iQ a g).getD false)) then (ob (some (rY a g true)) fun p=>
 ob (zZ b ([⟨e.1,c,d,f⟩]:List bC)) fun q=>
 some (q,p)) else (some (b,a))
def eE (i:(List GPoint)) (d:(List bC)) (e:(List (aO × Bool))) (b a:Int) (f:(List GPoint)) (j:aO) (k:List Int):Option ((List bC) × (List (aO × Bool))):=
 ob (yT j k) fun g=>
 ob (oV i) fun h=>
 ob (ix f 0) fun l=>
 ob (rS l) fun m=>
 ob (ix h b) fun q=>
 ob (st h b (m:GPoint)) fun c=>
 if (decide (0<=a)) then (ob (ix f 1) fun n=>
 ob (rS n) fun o=>
 ob (ix c a) fun r=>
 ob (st c a (o:GPoint)) fun p=>
 kU d e b a g p) else (kU d e b a g c)
def kV (h:(List aO)) (c:(List GPoint)) (a:(List bC)) (b:(List (aO × Bool))) (d:aO) (i:(List Int)) (e f:Int) (g:(List GPoint)) (j:Bool):Option ((List bC) × (List (aO × Bool))):=
 if j then (some (a,b)) else (ob (cU h d) fun k=>
 if k then (eE c a b e f g ([116,97,117]:aO) []) else (eE c a b e f g d i))
def kK (l:(List Definition)) (m:(List aY)) (n:(List bB)) (j b:(List aO)) (c:(List GPoint)) (d:(List bC)) (e:(List (aO × Bool))) (a:aO) (f:(List Int)) (g h:Int) (i:(List GPoint)):Option ((List bC) × (List (aO × Bool))):=
 if (!(a == ([116,97,117]:aO))) then (ob (cU j a) fun k=>
 kV b c d e a f g h i (!k)) else (kV b c d e a f g h i false)
def oW:Option Bool:=
 some true
def gY (b c:(List Int)) (a:Int):Option (Int ⊕ (Unit ⊕ Bool)):=
 if (decide (a < (b.length:Int))) then (ob (ix b a) fun d=>
 ob (ix c a) fun e=>
 if (d != e) then (some (.inr (.inr false))) else (some (.inl (wr (a+1))))) else (some (.inr (.inl ())))
def eR (b c:(List Int)):Option Bool:=
 if ((b.length:Int) != (c.length:Int)) then (some false) else (ob (loop (fun (s:Int)=>gY b c s) 0) fun r=>match r with|.inl r=>oW|.inr r=>some r)
def mT (a:List bC) (b:(List (aO × Bool))):Option ((List bC) × (List (aO × Bool))):=
 some (a,b)
def mU (a:Int) (b:List bC) (c:(List (aO × Bool))):Option ((List bC × (List (aO × Bool)) × Int) ⊕ (List bC × (List (aO × Bool)))):=
 some (.inl (b,c,wr (a+1)))
def mV (a:Int) (b:List bC) (c:(List (aO × Bool))):Option ((List bC × (List (aO × Bool)) × Int) ⊕ (List bC × (List (aO × Bool)))):=
 mU a b c
def iP (a:Int) (b:List bC) (c:(List (aO × Bool))):Option ((List bC × (List (aO × Bool)) × Int) ⊕ (List bC × (List (aO × Bool)))):=
 some (.inl (b,c,wr (a+1)))
def fC (e:(List Definition)) (f:(List aY)) (g:(List bB)) (h i:(List aO)) (j:(List GPoint)) (k l:Int) (m:bR) (n:(aO × (List Int) × Bool)) (a:List bC) (b:(List (aO × Bool))) (c:Int) (o:bR) (p:(aO × Bool)) (q:Bool):Option ((List bC × (List (aO × Bool)) × Int) ⊕ (List bC × (List (aO × Bool)))):=
 if q then (ob (kK e f g h i j a b p.1 n.2.1 k l ([m.Next,o.Next]:List GPoint)) fun d=>
 iP c d.1 d.2) else (iP c a b)
def fD (d:(List Definition)) (e:(List aY)) (f:(List bB)) (g h:(List aO)) (m:(List GPoint)) (n o:Int) (b:(List bR)) (q:bR) (a:(aO × (List Int) × Bool)) (i:List bC) (j:(List (aO × Bool))) (c:Int):Option ((List bC × (List (aO × Bool)) × Int) ⊕ (List bC × (List (aO × Bool)))):=
 if (decide (c < (b.length:Int))) then (ob (ix b c) fun k=>
 ob (oI k.B) fun r=>
 ob (nE ⟨d,e,f,g,h⟩ a.1 r.1) fun l=>
 if l.2 then (ob (eR a.2.1 r.2.1) fun s=>
 fC d e f g h m n o q a i j c k l s) else (fC d e f g h m n o q a i j c k l false)) else (some (.inr (i,j)))
def fE (i:(List Definition)) (j:(List aY)) (k:(List bB)) (l m:(List aO)) (n:(List GPoint)) (o p:Int) (a b:(List bR)) (e:List bC) (f:(List (aO × Bool))) (c:Int):Option ((List bC × (List (aO × Bool)) × Int) ⊕ (List bC × (List (aO × Bool)))):=
 if (decide (c < (a.length:Int))) then (ob (ix a c) fun g=>
 ob (oI g.B) fun t=>
 ob (loop (fun (s:(List bC × (List (aO × Bool)) × Int))=>fD i j k l m n o p b g t s.1 s.2.1 s.2.2) (e,f,0)) fun r=>mV c r.1 r.2) else (some (.inr (e,f)))
def pP (d:(List Definition)) (e:(List aY)) (f:(List bB)) (g h:(List aO)) (i:(List GPoint)) (j:(List bC)) (k:(List (aO × Bool))) (l m:Int) (a b:(List bR)):Option ((List bC) × (List (aO × Bool))):=
 ob (loop (fun (s:(List bC × (List (aO × Bool)) × Int))=>fE d e f g h i l m a b s.1 s.2.1 s.2.2) (j,k,0)) fun r=>mT r.1 r.2
def aAP (a:List bC) (b:(List (aO × Bool))):Option ((List bC) × Bool):=
 some (a,decide ((a.length:Int)<=200))
def tG (a:Int) (b:List bC) (c:(List (aO × Bool))):Option ((List bC × (List (aO × Bool)) × Int) ⊕ (List bC × (List (aO × Bool)))):=
 some (.inl (b,c,wr (a+1)))
def tH (a:Int) (b:List bC) (c:(List (aO × Bool))):Option ((List bC × (List (aO × Bool)) × Int) ⊕ (List bC × (List (aO × Bool)))):=
 tG a b c
def iY (a:bE) (c:(List GPoint)) (d:List (List bR)) (e:Int) (f:List bC) (g:(List (aO × Bool))) (b:Int):Option ((List bC × (List (aO × Bool)) × Int) ⊕ (List bC × (List (aO × Bool)))):=
 if (decide (b < (c.length:Int))) then (ob (ix d e) fun i=>
 ob (ix d b) fun j=>
 ob (pP a.Definitions a.Components a.Meetings a.Allowed a.Hidden c f g e b i j) fun h=>
 some (.inl (h.1,h.2,wr (b+1)))) else (some (.inr (f,g)))
def jX (f:bE) (b:(List GPoint)) (g:List (List bR)) (c:List bC) (d:(List (aO × Bool))) (a:Int):Option ((List bC × (List (aO × Bool)) × Int) ⊕ (List bC × (List (aO × Bool)))):=
 if (decide (a < (b.length:Int))) then (ob (loop (fun (s:(List bC × (List (aO × Bool)) × Int))=>iY f b g a s.1 s.2.1 s.2.2) (c,d,wr (a+1))) fun r=>tH a r.1 r.2) else (some (.inr (c,d)))
def jY (b:bE) (c:(List GPoint)) (d:List bC) (e:(List (aO × Bool))) (f:List (List bR)):Option ((List bC) × Bool):=
 ob (loop (fun (s:(List bC × (List (aO × Bool)) × Int))=>jX b c f s.1 s.2.1 s.2.2) (d,e,0)) fun r=>aAP r.1 r.2
def tI (a:Int) (b:List bC) (c:(List (aO × Bool))) (d:List (List bR)):Option ((List bC × (List (aO × Bool)) × List (List bR) × Int) ⊕ ((List bC × (List (aO × Bool)) × List (List bR)) ⊕ ((List bC) × Bool))):=
 some (.inl (b,c,d,wr (a+1)))
def oX (a:Int) (b:List (List bR)) (c:List bC) (d:(List (aO × Bool))):Option ((List bC × (List (aO × Bool)) × List (List bR) × Int) ⊕ ((List bC × (List (aO × Bool)) × List (List bR)) ⊕ ((List bC) × Bool))):=
 tI a c d b
def lV (a:bE) (i:(List GPoint)) (j:Int) (c:((List bR) × Bool)) (d:List bC) (e:(List (aO × Bool))) (b:Int):Option ((List bC × (List (aO × Bool)) × Int) ⊕ (List bC × (List (aO × Bool)))):=
 if (decide (b < (c.1.length:Int))) then (ob (ix c.1 b) fun f=>
 ob (oI f.B) fun g=>
 ob (kK a.Definitions a.Components a.Meetings a.Allowed a.Hidden i d e g.1 g.2.1 j (-1) ([f.Next]:List GPoint)) fun h=>
 some (.inl (h.1,h.2,wr (b+1)))) else (some (.inr (d,e)))
def iH (d:bE) (b:(List GPoint)) (e:List bC) (f:(List (aO × Bool))) (g:List (List bR)) (a:Int):Option ((List bC × (List (aO × Bool)) × List (List bR) × Int) ⊕ ((List bC × (List (aO × Bool)) × List (List bR)) ⊕ ((List bC) × Bool))):=
 if (decide (a < (b.length:Int))) then (ob (ix b a) fun i=>
 ob (aHy d.Definitions i) fun c=>
 if (!c.2) then (some (.inr (.inr ([],false)))) else (ob (zZ g ([c.1]:List (List bR))) fun j=>
 ob (loop (fun (s:(List bC × (List (aO × Bool)) × Int))=>lV d b a c s.1 s.2.1 s.2.2) (e,f,0)) fun r=>oX a j r.1 r.2)) else (some (.inr (.inl (e,f,g))))
def iI (b:bE) (c:(List GPoint)):Option ((List bC) × Bool):=
 ob (loop (fun (s:(List bC × (List (aO × Bool)) × List (List bR) × Int))=>iH b c s.1 s.2.1 s.2.2.1 s.2.2.2) ([],([]:(List (aO × Bool))),[],0)) fun r=>match r with|.inl r=>jY b c r.1 r.2.1 r.2.2|.inr r=>some r
def fY (a:Int) (b:List (List GPoint)) (c:(List (aO × Int))):Option (Int × (List (List GPoint)) × (List (aO × Int))):=
 some (a,b,c)
def eD (a:(List (List GPoint))) (b:(List (aO × Int))) (g:(List lS)) (d:(List GPoint)):Option (Int × (List (List GPoint)) × (List (aO × Int))):=
 ob (yL d) fun c=>
 if (!((iQ b c).isSome)) then (ob (some (rY b c (a.length:Int))) fun e=>
 ob (zZ a ([d]:List (List GPoint))) fun f=>
 fY (a.length:Int) f e) else (fY ((iQ b c).getD 0) a b)
def kW (a:List (List GPoint)) (b:(List (aO × Int))) (c:List lS):Option ((List (List GPoint)) × (List (aO × Int)) × (List lS)):=
 some (a,b,c)
def gZ (c:aO) (d:(List GPoint)) (e:(List (List GPoint))) (f:(List (aO × Int))) (b:(List lS)) (p:Int):Option ((List (List GPoint)) × (List (aO × Int)) × (List lS)):=
 ob (eD e f b d) fun a=>
 ob (zZ b ([⟨p,c,a.1⟩]:List lS)) fun h=>
 kW a.2.1 a.2.2 h
def mW (a:((List bC) × Bool)) (b:List (List GPoint)) (c:(List (aO × Int))) (d:List lS):Option (Bool × (List (List GPoint)) × (List (aO × Int)) × (List lS)):=
 some (a.2,b,c,d)
def fF (h:Int) (c:((List bC) × Bool)) (d:List (List GPoint)) (e:(List (aO × Int))) (f:List lS) (a:Int):Option ((List (List GPoint) × (List (aO × Int)) × List lS × Int) ⊕ (List (List GPoint) × (List (aO × Int)) × List lS)):=
 if (decide (a < (c.1.length:Int))) then (ob (ix c.1 a) fun g=>
 ob (gZ g.B g.State d e f h) fun b=>
 some (.inl (b.1,b.2.1,b.2.2,wr (a+1)))) else (some (.inr (d,e,f)))
def mG (c:(List GPoint)) (d:(List (List GPoint))) (e:(List (aO × Int))) (f:(List lS)) (g:Int) (p:bE):Option (Bool × (List (List GPoint)) × (List (aO × Int)) × (List lS)):=
 ob (iI p c) fun b=>
 ob (loop (fun (s:(List (List GPoint) × (List (aO × Int)) × List lS × Int))=>fF g b s.1 s.2.1 s.2.2.1 s.2.2.2) (d,e,f,0)) fun r=>mW b r.1 r.2.1 r.2.2
def jL (e:List (List GPoint)) (a b:Int) (c:List aO) (d:List Edge):Option (iZ × (List (List GPoint)) × Bool):=
 ob (aBA ⟨a,b,c,d⟩) fun f=>
 some (⟨a,b,c,d⟩,e,f)
def dX (b:List (List GPoint)) (e:(List (aO × Int))) (c:List lS):Option (iZ × (List (List GPoint)) × Bool):=
 ob (aBz c) fun d=>
 ob (aRX (b.length:Int) 0 d c) fun a=>
 jL b a.N a.I a.L a.E
def hQ (b:Int) (a:(Bool × (List (List GPoint)) × (List (aO × Int)) × (List lS))) (c:Bool):Option ((List (List GPoint) × (List (aO × Int)) × List lS × Int) ⊕ ((List (List GPoint) × (List (aO × Int)) × List lS) ⊕ (iZ × (List (List GPoint)) × Bool))):=
 if c then (some (.inr (.inr (⟨0,0,[],[]⟩,[],false)))) else (some (.inl (a.2.1,a.2.2.1,a.2.2.2,wr (b+1))))
def cO (f:bE) (b:List (List GPoint)) (d:(List (aO × Int))) (e:List lS) (a:Int):Option ((List (List GPoint) × (List (aO × Int)) × List lS × Int) ⊕ ((List (List GPoint) × (List (aO × Int)) × List lS) ⊕ (iZ × (List (List GPoint)) × Bool))):=
 if (decide (a < (b.length:Int))) then (ob (ix b a) fun g=>
 ob (mG g b d e a f) fun c=>
 if (!c.1) then (hQ a c true) else (hQ a c (decide (40 < (c.2.1.length:Int))))) else (some (.inr (.inl (b,d,e))))
def lC (c:(List GPoint)) (d:bE):Option (iZ × (List (List GPoint)) × Bool):=
 ob (eD [] ([]:(List (aO × Int))) [] c) fun b=>
 ob (loop (fun (s:(List (List GPoint) × (List (aO × Int)) × List lS × Int))=>cO d s.1 s.2.1 s.2.2.1 s.2.2.2) (b.2.1,b.2.2,[],0)) fun r=>match r with|.inl r=>dX r.1 r.2.1 r.2.2|.inr r=>some r
def kX (b:bE):Option (iZ × (List (List GPoint)) × Bool):=
 ob (uM b) fun c=>
 ob (lC c b) fun a=>
 some (a.1,a.2.1,a.2.2)
def aCT (b:bE):Option (iZ × (List (List GPoint)) × Int):=
 ob (wY b) fun c=>
 if (!c) then (some (⟨0,0,[],[]⟩,[],1)) else (ob (kX b) fun a=>
 if (!a.2.2) then (some (⟨0,0,[],[]⟩,[],5)) else (some (a.1,a.2.1,0)))
def gJ (a b:(List Int)):Option Int:=
 if (decide ((a.length:Int) < (b.length:Int))) then (some (-1)) else (some 0)
def cV (b c:(List Int)) (a:Int):Option (Int ⊕ (Unit ⊕ Int)):=
 if (decide (a < (b.length:Int))) then (ob (ix b a) fun e=>
 if (decide ((c.length:Int)<=a)) then (some (.inr (.inr 1))) else (ob (ix c a) fun f=>
 ob (dB e f) fun d=>
 if (d != 0) then (some (.inr (.inr d))) else (some (.inl (wr (a+1)))))) else (some (.inr (.inl ())))
def fN (b c:(List Int)):Option Int:=
 ob (loop (fun (s:Int)=>cV b c s) 0) fun r=>match r with|.inl r=>gJ b c|.inr r=>some r
def yA (a b:GPoint):Option Int:=
 ob (dB a.Definition b.Definition) fun e=>
 ob (dB a.Part b.Part) fun f=>
 ob (fN a.Values b.Values) fun g=>
 ob (mZ ([e,f,g]:List Int)) fun h=>
 some h
def aCw (a:(List GPoint)):Option (List GPoint):=
 ob (oV a) fun b=>
 ob (aJZ b) fun c=>
 some c
def aOD (a:List Int):Option (List Int):=
 some a
def aCx (b:List Int) (a:Int) (c:(List (Int × Int))) (d:Int):Option (((List (Int × Int)) × List Int × Int) ⊕ (List Int)):=
 ob (ix b a) fun f=>
 ob (st b a (d:Int)) fun e=>
 some (.inl (c,e,wr (a+1)))
def qX (e:(List Int)) (a:(List (Int × Int))) (c:List Int) (b:Int):Option (((List (Int × Int)) × List Int × Int) ⊕ (List Int)):=
 if (decide (b < (e.length:Int))) then (ob (ix e b) fun d=>
 if (!((iQ a d).isSome)) then (ob (some (rY a d (a.length:Int))) fun f=>
 aCx c b f (a.length:Int)) else (aCx c b a ((iQ a d).getD 0))) else (some (.inr c))
def aJi (a:(List Int)):Option (List Int):=
 ob (mkz (a.length:Int) (0:Int)) fun b=>
 ob (loop (fun (s:((List (Int × Int)) × List Int × Int))=>qX a s.1 s.2.1 s.2.2) (([]:(List (Int × Int))),b,0)) fun r=>aOD r
def rT (a:List Int):Option ((List Int) × Int):=
 ob (aJi a) fun b=>
 some (b,0)
def jZ (b:List Int) (c:Int) (d:aO) (a:(List (aO × Int))):Option (((List (aO × Int)) × List Int × Int) ⊕ (List Int)):=
 ob (zZ b ([((iQ a d).getD 0)]:List Int)) fun e=>
 some (.inl (a,e,wr (c+1)))
def fG (e:(iZ × (List (List GPoint)) × Int)) (a:(List (aO × Int))) (d:List Int) (b:Int):Option (((List (aO × Int)) × List Int × Int) ⊕ (List Int)):=
 if (decide (b < (e.2.1.length:Int))) then (ob (ix e.2.1 b) fun f=>
 ob (aCw f) fun g=>
 ob (yL g) fun c=>
 if (!((iQ a c).isSome)) then (ob (some (rY a c (a.length:Int))) fun h=>
 jZ d b c h) else (jZ d b c a)) else (some (.inr d))
def kB (b:bE):Option ((List Int) × Int):=
 ob (aCT b) fun a=>
 if (a.2.2 != 0) then (some ([],a.2.2)) else (ob (loop (fun (s:((List (aO × Int)) × List Int × Int))=>fG a s.1 s.2.1 s.2.2) (([]:(List (aO × Int))),[],0)) fun r=>rT r)
def aKS:Option Bool:=
 some true
def aBY (a b:(List Int)) (c:Int):Option (Int ⊕ (Unit ⊕ Bool)):=
 if (decide (c < (a.length:Int))) then (ob (ix a c) fun f=>
 ob (ix b c) fun g=>
 if (f != g) then (some (.inr (.inr false))) else (some (.inl (wr (c+1))))) else (some (.inr (.inl ())))
def uN (a b:(List Int)):Option Bool:=
 if ((a.length:Int) != (b.length:Int)) then (some false) else (ob (loop (fun (s:Int)=>aBY a b s) 0) fun r=>match r with|.inl r=>aKS|.inr r=>some r)
def aMJ (a b:aW):Option Bool:=
 if (a.Kind != b.Kind) then (some false) else (if (a.Value != b.Value) then (some false) else (some true))
def aMK:Option Bool:=
 some true
def aDT (a b:(List aW)) (c:Int):Option (Int ⊕ (Unit ⊕ Bool)):=
 if (decide (c < (a.length:Int))) then (ob (ix a c) fun f=>
 ob (ix b c) fun g=>
 ob (aMJ f g) fun h=>
 if (!h) then (some (.inr (.inr false))) else (some (.inl (wr (c+1))))) else (some (.inr (.inl ())))
def aKm (a b:(List aW)):Option Bool:=
 if ((a.length:Int) != (b.length:Int)) then (some false) else (ob (loop (fun (s:Int)=>aDT a b s) 0) fun r=>match r with|.inl r=>aMK|.inr r=>some r)
def aKT:Option Bool:=
 some true
def aBZ (a b:(List (List aW))) (c:Int):Option (Int ⊕ (Unit ⊕ Bool)):=
 if (decide (c < (a.length:Int))) then (ob (ix a c) fun f=>
 ob (ix b c) fun g=>
 ob (aKm f g) fun h=>
 if (!h) then (some (.inr (.inr false))) else (some (.inl (wr (c+1))))) else (some (.inr (.inl ())))
def aHz (a b:(List (List aW))):Option Bool:=
 if ((a.length:Int) != (b.length:Int)) then (some false) else (ob (loop (fun (s:Int)=>aBZ a b s) 0) fun r=>match r with|.inl r=>aKT|.inr r=>some r)
def aML (a b:Part):Option Bool:=
 if (a.Kind != b.Kind) then (some false) else (if (a.Number != b.Number) then (some false) else (if (!(a.Name == b.Name)) then (some false) else (ob (aHz a.Arguments b.Arguments) fun e=>
 if (!e) then (some false) else (some true))))
def aMM:Option Bool:=
 some true
def aDU (a b:(List Part)) (c:Int):Option (Int ⊕ (Unit ⊕ Bool)):=
 if (decide (c < (a.length:Int))) then (ob (ix a c) fun f=>
 ob (ix b c) fun g=>
 ob (aML f g) fun h=>
 if (!h) then (some (.inr (.inr false))) else (some (.inl (wr (c+1))))) else (some (.inr (.inl ())))
def aKn (a b:(List Part)):Option Bool:=
 if ((a.length:Int) != (b.length:Int)) then (some false) else (ob (loop (fun (s:Int)=>aDU a b s) 0) fun r=>match r with|.inl r=>aMM|.inr r=>some r)
def aAQ (a b:Definition):Option Bool:=
 if (!(a.Name == b.Name)) then (some false) else (if (a.Parameters != b.Parameters) then (some false) else (ob (aKn a.Body b.Body) fun e=>
 if (!e) then (some false) else (some true)))
def aEL:Option Bool:=
 some true
def rU (a b:(List Definition)) (c:Int):Option (Int ⊕ (Unit ⊕ Bool)):=
 if (decide (c < (a.length:Int))) then (ob (ix a c) fun f=>
 ob (ix b c) fun g=>
 ob (aAQ f g) fun h=>
 if (!h) then (some (.inr (.inr false))) else (some (.inl (wr (c+1))))) else (some (.inr (.inl ())))
def yB (a b:(List Definition)):Option Bool:=
 if ((a.length:Int) != (b.length:Int)) then (some false) else (ob (loop (fun (s:Int)=>rU a b s) 0) fun r=>match r with|.inl r=>aEL|.inr r=>some r)
def aCa (a b:aY):Option Bool:=
 if (a.Definition != b.Definition) then (some false) else (ob (uN a.Values b.Values) fun e=>
 if (!e) then (some false) else (some true))
def aFC:Option Bool:=
 some true
def tJ (a b:(List aY)) (c:Int):Option (Int ⊕ (Unit ⊕ Bool)):=
 if (decide (c < (a.length:Int))) then (ob (ix a c) fun f=>
 ob (ix b c) fun g=>
 ob (aCa f g) fun h=>
 if (!h) then (some (.inr (.inr false))) else (some (.inl (wr (c+1))))) else (some (.inr (.inl ())))
def aAR (a b:(List aY)):Option Bool:=
 if ((a.length:Int) != (b.length:Int)) then (some false) else (ob (loop (fun (s:Int)=>tJ a b s) 0) fun r=>match r with|.inl r=>aFC|.inr r=>some r)
def aFD (a b:bB):Option Bool:=
 if (!(a.Left == b.Left)) then (some false) else (if (!(a.Right == b.Right)) then (some false) else (if (!(a.Result == b.Result)) then (some false) else (some true)))
def aHZ:Option Bool:=
 some true
def yC (a b:(List bB)) (c:Int):Option (Int ⊕ (Unit ⊕ Bool)):=
 if (decide (c < (a.length:Int))) then (ob (ix a c) fun f=>
 ob (ix b c) fun g=>
 ob (aFD f g) fun h=>
 if (!h) then (some (.inr (.inr false))) else (some (.inl (wr (c+1))))) else (some (.inr (.inl ())))
def aDV (a b:(List bB)):Option Bool:=
 if ((a.length:Int) != (b.length:Int)) then (some false) else (ob (loop (fun (s:Int)=>yC a b s) 0) fun r=>match r with|.inl r=>aHZ|.inr r=>some r)
def aJj:Option Bool:=
 some true
def aAS (a b:(List aO)) (c:Int):Option (Int ⊕ (Unit ⊕ Bool)):=
 if (decide (c < (a.length:Int))) then (ob (ix a c) fun f=>
 ob (ix b c) fun g=>
 if (!(f == g)) then (some (.inr (.inr false))) else (some (.inl (wr (c+1))))) else (some (.inr (.inl ())))
def zN (a b:(List aO)):Option Bool:=
 if ((a.length:Int) != (b.length:Int)) then (some false) else (ob (loop (fun (s:Int)=>aAS a b s) 0) fun r=>match r with|.inl r=>aJj|.inr r=>some r)
def aHA (a b:bE):Option Bool:=
 ob (yB a.Definitions b.Definitions) fun e=>
 if (!e) then (some false) else (ob (aAR a.Components b.Components) fun f=>
 if (!f) then (some false) else (ob (aDV a.Meetings b.Meetings) fun g=>
 if (!g) then (some false) else (ob (zN a.Allowed b.Allowed) fun h=>
 if (!h) then (some false) else (ob (zN a.Hidden b.Hidden) fun i=>
 if (!i) then (some false) else (some true)))))
def aGe (a:aO):Option aO:=
 ob (cat ([109]:aO) a) fun b=>
 some b
def aCb (a:Int) (b:aO):Option ((Int × aO) ⊕ aO):=
 if (decide (0 < a)) then (ob (rm a 10) fun c=>
 ob (cat ([(UInt8.ofInt (wr (48+c)))]:List UInt8) b) fun d=>
 ob (qu a 10) fun e=>
 some (.inl (e,d))) else (some (.inr b))
def lY (k:Int):Option aO:=
 if (decide (k<=0)) then (some ([109,48]:aO)) else (ob (loop (fun (s:(Int × aO))=>aCb s.1 s.2) (k,([]:aO))) fun r=>aGe r)
def aJk (a:Int) (b:List aW):Option (Int × (List aW)):=
 some (a,b)
def uO (b:List aW) (c a:Int):Option ((List aW × Int × Int) ⊕ (Int × List aW)):=
 if (decide (a < (b.length:Int))) then (ob (ix b a) fun e=>
 ob (st b a (⟨c,e.Value⟩:aW)) fun d=>
 ob (ix d a) fun f=>
 ob (st d a (⟨f.Kind,wr (c+1)⟩:aW)) fun g=>
 some (.inl (g,wr ((wr (c+1))+1),wr (a+1)))) else (some (.inr (c,b)))
def aCy (a:(List aW)) (k:Int):Option (Int × (List aW)):=
 ob (loop (fun (s:(List aW × Int × Int))=>uO s.1 s.2.1 s.2.2) (a,k,0)) fun r=>aJk r.1 r.2
def aIa (a:Int) (b:List (List aW)):Option (Int × (List (List aW))):=
 some (a,b)
def sJ (a:List (List aW)) (c b:Int):Option ((List (List aW) × Int × Int) ⊕ (Int × List (List aW))):=
 if (decide (b < (a.length:Int))) then (ob (ix a b) fun e=>
 ob (aCy e c) fun d=>
 ob (st a b d.2) fun f=>
 some (.inl (f,d.1,wr (b+1)))) else (some (.inr (c,a)))
def aAT (a:(List (List aW))) (k:Int):Option (Int × (List (List aW))):=
 ob (loop (fun (s:(List (List aW) × Int × Int))=>sJ s.1 s.2.1 s.2.2) (a,k,0)) fun r=>aIa r.1 r.2
def aJl (a:Int) (b:List Part):Option (Int × (List Part)):=
 some (a,b)
def uP (c:List Part) (b a:Int):Option ((List Part × Int × Int) ⊕ (Int × List Part)):=
 if (decide (a < (c.length:Int))) then (ob (ix c a) fun e=>
 ob (st c a (⟨b,e.Number,e.Name,e.Arguments⟩:Part)) fun h=>
 ob (ix h a) fun f=>
 ob (st h a (⟨f.Kind,wr (b+1),f.Name,f.Arguments⟩:Part)) fun i=>
 ob (lY (wr ((wr (b+1))+1))) fun l=>
 ob (ix i a) fun g=>
 ob (st i a (⟨g.Kind,g.Number,l,g.Arguments⟩:Part)) fun j=>
 ob (ix j a) fun d=>
 ob (aAT d.Arguments (wr ((wr ((wr (b+1))+1))+1))) fun k=>
 ob (st j a (⟨d.Kind,d.Number,d.Name,k.2⟩:Part)) fun m=>
 some (.inl (m,k.1,wr (a+1)))) else (some (.inr (b,c)))
def aCz (a:(List Part)) (k:Int):Option (Int × (List Part)):=
 ob (loop (fun (s:(List Part × Int × Int))=>uP s.1 s.2.1 s.2.2) (a,k,0)) fun r=>aJl r.1 r.2
def aCA (a:Int) (b:List Definition):Option (Int × (List Definition)):=
 some (a,b)
def lN (b:List Definition) (c a:Int):Option ((List Definition × Int × Int) ⊕ (Int × List Definition)):=
 if (decide (a < (b.length:Int))) then (ob (lY c) fun j=>
 ob (ix b a) fun e=>
 ob (st b a (⟨j,e.Parameters,e.Body⟩:Definition)) fun f=>
 ob (ix f a) fun g=>
 ob (st f a (⟨g.Name,wr (c+1),g.Body⟩:Definition)) fun h=>
 ob (ix h a) fun d=>
 ob (aCz d.Body (wr ((wr (c+1))+1))) fun i=>
 ob (st h a (⟨d.Name,d.Parameters,i.2⟩:Definition)) fun k=>
 some (.inl (k,i.1,wr (a+1)))) else (some (.inr (c,b)))
def oY (a:(List Definition)) (k:Int):Option (Int × (List Definition)):=
 ob (loop (fun (s:(List Definition × Int × Int))=>lN s.1 s.2.1 s.2.2) (a,k,0)) fun r=>aCA r.1 r.2
def aCU (a:Int) (b:List Int):Option (Int × (List Int)):=
 some (a,b)
def yD (a:List Int) (c b:Int):Option ((List Int × Int × Int) ⊕ (Int × List Int)):=
 if (decide (b < (a.length:Int))) then (ob (ix a b) fun e=>
 ob (st a b (c:Int)) fun d=>
 some (.inl (d,wr (c+1),wr (b+1)))) else (some (.inr (c,a)))
def vK (a:(List Int)) (k:Int):Option (Int × (List Int)):=
 ob (loop (fun (s:(List Int × Int × Int))=>yD s.1 s.2.1 s.2.2) (a,k,0)) fun r=>aCU r.1 r.2
def aDc (a:Int) (b:List aY):Option (Int × (List aY)):=
 some (a,b)
def mH (b:List aY) (c a:Int):Option ((List aY × Int × Int) ⊕ (Int × List aY)):=
 if (decide (a < (b.length:Int))) then (ob (ix b a) fun g=>
 ob (st b a (⟨c,g.Values⟩:aY)) fun d=>
 ob (ix d a) fun e=>
 ob (vK e.Values (wr (c+1))) fun f=>
 ob (st d a (⟨e.Definition,f.2⟩:aY)) fun h=>
 some (.inl (h,f.1,wr (a+1)))) else (some (.inr (c,b)))
def qL (a:(List aY)) (k:Int):Option (Int × (List aY)):=
 ob (loop (fun (s:(List aY × Int × Int))=>mH s.1 s.2.1 s.2.2) (a,k,0)) fun r=>aDc r.1 r.2
def aFE (a:Int) (b:List bB):Option (Int × (List bB)):=
 some (a,b)
def oZ (c:List bB) (b a:Int):Option ((List bB × Int × Int) ⊕ (Int × List bB)):=
 if (decide (a < (c.length:Int))) then (ob (lY b) fun i=>
 ob (ix c a) fun d=>
 ob (st c a (⟨i,d.Right,d.Result⟩:bB)) fun e=>
 ob (lY (wr (b+1))) fun j=>
 ob (ix e a) fun f=>
 ob (st e a (⟨f.Left,j,f.Result⟩:bB)) fun g=>
 ob (lY (wr ((wr (b+1))+1))) fun k=>
 ob (ix g a) fun h=>
 ob (st g a (⟨h.Left,h.Right,k⟩:bB)) fun l=>
 some (.inl (l,wr ((wr ((wr (b+1))+1))+1),wr (a+1)))) else (some (.inr (b,c)))
def uQ (a:(List bB)) (k:Int):Option (Int × (List bB)):=
 ob (loop (fun (s:(List bB × Int × Int))=>oZ s.1 s.2.1 s.2.2) (a,k,0)) fun r=>aFE r.1 r.2
def aBC (a:Int) (b:List aO):Option (Int × (List aO)):=
 some (a,b)
def vL (a:List aO) (c b:Int):Option ((List aO × Int × Int) ⊕ (Int × List aO)):=
 if (decide (b < (a.length:Int))) then (ob (lY c) fun d=>
 ob (ix a b) fun f=>
 ob (st a b (d:aO)) fun e=>
 some (.inl (e,wr (c+1),wr (b+1)))) else (some (.inr (c,a)))
def sW (a:(List aO)) (k:Int):Option (Int × (List aO)):=
 ob (loop (fun (s:(List aO × Int × Int))=>vL s.1 s.2.1 s.2.2) (a,k,0)) fun r=>aBC r.1 r.2
def aAU (f:(List Definition)) (g:(List aY)) (h:(List bB)) (i j:(List aO)) (k:Int):Option (Int × (List Definition) × (List aY) × (List bB) × (List aO) × (List aO)):=
 ob (oY f k) fun a=>
 ob (qL g a.1) fun b=>
 ob (uQ h b.1) fun c=>
 ob (sW i c.1) fun d=>
 ob (sW j d.1) fun e=>
 some (e.1,a.2,b.2,c.2,d.2,e.2)
def aIb (a:Int):Option Int:=
 some a
def yE (a:(List Int)) (b c:Int):Option ((Int × Int) ⊕ (Int ⊕ Int)):=
 if (decide (c < (a.length:Int))) then (ob (ix a c) fun e=>
 if (e != b) then (some (.inr (.inr (-1)))) else (some (.inl (wr (b+1),wr (c+1))))) else (some (.inr (.inl b)))
def vM (a:(List Int)) (k:Int):Option Int:=
 ob (loop (fun (s:(Int × Int))=>yE a s.1 s.2) (k,0)) fun r=>match r with|.inl r=>aIb r|.inr r=>some r
def gC (a:(Int × (List Int))) (c:Bool):Option Bool:=
 if c then (some false) else (ob (vM a.2 1) fun b=>
 if (decide (b < 0)) then (some false) else (if (b != a.1) then (some false) else (some true)))
def eT (e:bE) (b f:((List Int) × Int)) (g:Bool):Option Bool:=
 if g then (some false) else (ob (vK f.1 1) fun a=>
 ob (vM a.2 1) fun c=>
 if (decide (c < 0)) then (some false) else (if (c != a.1) then (some false) else (ob (rO e) fun h=>
 ob (kB h) fun d=>
 ob (uN d.1 b.1) fun i=>
 if (!i) then (gC a true) else (gC a (d.2 != b.2)))))
def gD (d:bE) (b:((List Int) × Int)) (a:bE) (c:((List Int) × Int)) (e:Bool):Option Bool:=
 if e then (some false) else (ob (rO d) fun f=>
 ob (aHA a f) fun g=>
 if (!g) then (some false) else (ob (aAU a.Definitions a.Components a.Meetings a.Allowed a.Hidden 1) fun h=>
 if (decide (h.1 < 0)) then (eT d b c true) else (ob (uN c.1 b.1) fun i=>
 if (!i) then (eT d b c true) else (eT d b c (c.2 != b.2)))))
def kA (a:bE):Option Bool:=
 ob (aHk a 1048576) fun e=>
 if (decide (e < 0)) then (some true) else (ob (rO a) fun f=>
 ob (mC f) fun b=>
 ob (rO a) fun d=>
 ob (kB d) fun c=>
 ob (uN c.1 b.1) fun g=>
 if (!g) then (gD a b d c true) else (gD a b d c (c.2 != b.2)))
end
end Gv
