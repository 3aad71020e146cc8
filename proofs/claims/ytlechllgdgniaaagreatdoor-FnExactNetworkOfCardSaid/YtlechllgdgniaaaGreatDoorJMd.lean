/- Models of the functions, printed by program off their code. Plain Lean. -/
import Derived.Test.YtlechllgdgniaaaGreatDoorJLM
set_option linter.all false
namespace Gv
noncomputable section
def aET (a:Bool):Option Bool:=
 some a
def jM (n low b:Int):Option Bool:=
 if (decide (low<=n)) then (aET (decide (n<=b))) else (aET false)
def aBp (n:Int):Option Bool:=
 ob (jM n 0 63) fun b=>
 some b
def aAf (n:Int):Option Bool:=
 ob (aBp n) fun b=>
 some (!b)
def gV:Option Int:=
 some (-1)
def fQ (b:(List Int)) (a:Int):Option (Int ⊕ (Unit ⊕ Int)):=
 if (decide (a < (b.length:Int))) then (ob (ix b a) fun c=>
 ob (aAf c) fun d=>
 if d then (some (.inr (.inr a))) else (some (.inl (wr (a+1))))) else (some (.inr (.inl ())))
def iJ (b:(List Int)):Option Int:=
 ob (loop (fun (s:Int)=>fQ b s) 0) fun r=>match r with|.inl r=>gV|.inr r=>some r
def gW (a:(List Int)):Option Bool:=
 ob (iJ a) fun b=>
 some (decide (0<=b))
def yS (a:(List Int)):Option Bool:=
 ob (gW a) fun b=>
 some (!b)
def aDe (a:Bool):Option Bool:=
 some a
def aIg (c:UInt8):Option Bool:=
 if (decide (48<=(c.toNat:Int))) then (aDe (decide ((c.toNat:Int)<=57))) else (aDe false)
def aEU (a:Bool):Option Bool:=
 some a
def aCs (a:bK):Option Bool:=
 if (decide (1<=(a.length:Int))) then (aEU (decide ((a.length:Int)<=10))) else (aEU false)
def yT (a:Int) (b:Bool):Option (Int ⊕ (Unit ⊕ Bool)):=
 if b then (some (.inr (.inr false))) else (some (.inl (wr (a+1))))
def rA (b:bK) (a:Int) (c:Bool):Option (Int ⊕ (Unit ⊕ Bool)):=
 if (!c) then (if (a == 0) then (yT a true) else (ob (ix b a) fun d=>
 ob (aIg d) fun e=>
 yT a (!e))) else (yT a false)
def yU (a:bK) (b:Int):Option (Int ⊕ (Unit ⊕ Bool)):=
 if (decide (b < (a.length:Int))) then (ob (ix a b) fun c45=>
 if (decide (97<=(c45.toNat:Int))) then (rA a b (decide ((c45.toNat:Int)<=122))) else (rA a b false)) else (some (.inr (.inl ())))
def aFB (b:bK):Option Bool:=
 ob (loop (fun (s:Int)=>yU b s) 0) fun r=>match r with|.inl r=>aCs b|.inr r=>some r
def wC (a:Bool):Option Bool:=
 some a
def pD (a:bK):Option Bool:=
 ob (aFB a) fun b=>
 if b then (wC (!(a == ([116,97,117]:bK)))) else (wC false)
def aCt (a:bK) (b:List bK):Option bK:=
 ob (aPG b a) fun c=>
 some c
def aCu (c:(List Int)) (b:List bK) (a:Int):Option ((List bK × Int) ⊕ (List bK)):=
 if (decide (a < (c.length:Int))) then (ob (ix c a) fun d=>
 ob (uS d) fun e=>
 ob (ix b a) fun g=>
 ob (st b a (e:bK)) fun f=>
 some (.inl (f,wr (a+1)))) else (some (.inr b))
def aEc (a:(List Int)) (b:bK):Option bK:=
 ob (mkz (a.length:Int) ([]:bK)) fun c=>
 ob (loop (fun (s:(List bK × Int))=>aCu a s.1 s.2) (c,0)) fun r=>aCt b r
def uT (a:bK) (b:(List Int)) (c:Bool):Option (bK × Bool):=
 if c then (some (([]:bK),false)) else (if ((b.length:Int) == 0) then (some (a,true)) else (ob (cat a ([40]:bK)) fun d=>
 ob (aEc b ([44]:bK)) fun e=>
 ob (cat d e) fun f=>
 ob (cat f ([41]:bK)) fun g=>
 some (g,true)))
def aBq (b:bK) (a:(List Int)):Option (bK × Bool):=
 if (b == ([116,97,117]:bK)) then (some (([116,97,117]:bK),(a.length:Int) == 0)) else (ob (pD b) fun c=>
 if (!c) then (uT b a true) else (if (decide (2 < (a.length:Int))) then (uT b a true) else (ob (yS a) fun d=>
 uT b a (!d))))
def uU (a:List Int):Option ((List Int) × Bool):=
 some (a,true)
def pR (b:(List bK)) (c:List Int) (a:Int):Option ((List Int × Int) ⊕ (List Int ⊕ ((List Int) × Bool))):=
 if (decide (a < (b.length:Int))) then (ob (ix b a) fun e=>
 ob (vX e) fun d=>
 if (!d.2) then (some (.inr (.inr ([],false)))) else (ob (apd c ([d.1]:List Int)) fun f=>
 some (.inl (f,wr (a+1))))) else (some (.inr (.inl c)))
def wD (b:(List bK)):Option ((List Int) × Bool):=
 ob (loop (fun (s:(List Int × Int))=>pR b s.1 s.2) ([],0)) fun r=>match r with|.inl r=>uU r|.inr r=>some r
def fZ (a:Bool):Option Bool:=
 some a
def iO (a b:bK):Option Bool:=
 if (decide ((b.length:Int)<=(a.length:Int))) then (ob (slc a (wr ((a.length:Int) - (b.length:Int))) (a.length:Int)) fun c=>
 fZ (c == b)) else (fZ false)
def iK (a b:bK):Option bK:=
 ob (iO a b) fun c=>
 if c then (ob (slc a 0 (wr ((a.length:Int) - (b.length:Int)))) fun d=>
 some d) else (some a)
def lW (a b:bK):Option bK:=
 ob (iK a b) fun c=>
 some c
def pS (a:(bK × bK × Bool)) (b:List Int) (c:Bool):Option (bK × (List Int) × Bool):=
 if c then (some (([]:bK),[],false)) else (some (a.1,b,true))
def pT (d:bK) (a:(bK × bK × Bool)) (b:List Int):Option (bK × (List Int) × Bool):=
 ob (aBq a.1 b) fun c=>
 if (!c.2) then (pS a b true) else (pS a b (!(c.1 == d)))
def aEV (b:bK):Option (bK × (List Int) × Bool):=
 ob (l_Cut b ([40]:bK)) fun a=>
 if a.2.2 then (ob (lW a.2.1 ([41]:bK)) fun d=>
 ob (aJE d ([44]:bK)) fun e=>
 ob (wD e) fun c=>
 if (!c.2) then (some (([]:bK),[],false)) else (pT b a c.1)) else (pT b a [])
def aFC (a:bK):Option Bool:=
 ob (aEV a) fun b=>
 some b.2.2
def aDG (a:(List bP)) (c:Int):Option Int:=
 if (decide (wr (c - (a.length:Int)) < 0)) then (some (-1)) else (some (wr (c - (a.length:Int))))
def aBR (a:Int):Option Int:=
 some a
def wE (a:(List (List bP))) (d b:Int):Option ((Int × Int) ⊕ (Int ⊕ Int)):=
 if (decide (b < (a.length:Int))) then (ob (ix a b) fun f=>
 ob (aDG f d) fun e=>
 if (decide (e < 0)) then (some (.inr (.inr (-1)))) else (some (.inl (e,wr (b+1))))) else (some (.inr (.inl d)))
def aGp (a:(List (List bP))) (d:Int):Option Int:=
 if (decide (wr (d - (a.length:Int)) < 0)) then (some (-1)) else (ob (loop (fun (s:(Int × Int))=>wE a s.1 s.2) (wr (d - (a.length:Int)),0)) fun r=>match r with|.inl r=>aBR r|.inr r=>some r)
def aFD (a:Part) (c:Int):Option Int:=
 if (decide (wr (c - (a.Name.length:Int)) < 0)) then (some (-1)) else (ob (aGp a.Arguments (wr (c - (a.Name.length:Int)))) fun d=>
 if (decide (d < 0)) then (some (-1)) else (some d))
def aDf (a:Int):Option Int:=
 some a
def aAg (a:(List Part)) (d b:Int):Option ((Int × Int) ⊕ (Int ⊕ Int)):=
 if (decide (b < (a.length:Int))) then (ob (ix a b) fun f=>
 ob (aFD f d) fun e=>
 if (decide (e < 0)) then (some (.inr (.inr (-1)))) else (some (.inl (e,wr (b+1))))) else (some (.inr (.inl d)))
def aIh (a:(List Part)) (d:Int):Option Int:=
 if (decide (wr (d - (a.length:Int)) < 0)) then (some (-1)) else (ob (loop (fun (s:(Int × Int))=>aAg a s.1 s.2) (wr (d - (a.length:Int)),0)) fun r=>match r with|.inl r=>aDf r|.inr r=>some r)
def pU (a:Definition) (c:Int):Option Int:=
 if (decide (wr (c - (a.Name.length:Int)) < 0)) then (some (-1)) else (ob (aIh a.Body (wr (c - (a.Name.length:Int)))) fun d=>
 if (decide (d < 0)) then (some (-1)) else (some d))
def rE (a:Int):Option Int:=
 some a
def nH (a:(List Definition)) (d b:Int):Option ((Int × Int) ⊕ (Int ⊕ Int)):=
 if (decide (b < (a.length:Int))) then (ob (ix a b) fun f=>
 ob (pU f d) fun e=>
 if (decide (e < 0)) then (some (.inr (.inr (-1)))) else (some (.inl (e,wr (b+1))))) else (some (.inr (.inl d)))
def xN (a:(List Definition)) (d:Int):Option Int:=
 if (decide (wr (d - (a.length:Int)) < 0)) then (some (-1)) else (ob (loop (fun (s:(Int × Int))=>nH a s.1 s.2) (wr (d - (a.length:Int)),0)) fun r=>match r with|.inl r=>rE r|.inr r=>some r)
def aGq (a:(List Int)) (c:Int):Option Int:=
 if (decide (wr (c - (a.length:Int)) < 0)) then (some (-1)) else (some (wr (c - (a.length:Int))))
def sF (a:bL) (d:Int):Option Int:=
 ob (aGq a.Values d) fun b=>
 if (decide (b < 0)) then (some (-1)) else (some b)
def sU (a:Int):Option Int:=
 some a
def oM (a:(List bL)) (d b:Int):Option ((Int × Int) ⊕ (Int ⊕ Int)):=
 if (decide (b < (a.length:Int))) then (ob (ix a b) fun f=>
 ob (sF f d) fun e=>
 if (decide (e < 0)) then (some (.inr (.inr (-1)))) else (some (.inl (e,wr (b+1))))) else (some (.inr (.inl d)))
def aAh (a:(List bL)) (d:Int):Option Int:=
 if (decide (wr (d - (a.length:Int)) < 0)) then (some (-1)) else (ob (loop (fun (s:(Int × Int))=>oM a s.1 s.2) (wr (d - (a.length:Int)),0)) fun r=>match r with|.inl r=>sU r|.inr r=>some r)
def yV (a:bV) (c:Int):Option Int:=
 if (decide (wr (c - (a.Left.length:Int)) < 0)) then (some (-1)) else (if (decide (wr ((wr (c - (a.Left.length:Int))) - (a.Right.length:Int)) < 0)) then (some (-1)) else (if (decide (wr ((wr ((wr (c - (a.Left.length:Int))) - (a.Right.length:Int))) - (a.Result.length:Int)) < 0)) then (some (-1)) else (some (wr ((wr ((wr (c - (a.Left.length:Int))) - (a.Right.length:Int))) - (a.Result.length:Int))))))
def xO (a:Int):Option Int:=
 some a
def rS (a:(List bV)) (d b:Int):Option ((Int × Int) ⊕ (Int ⊕ Int)):=
 if (decide (b < (a.length:Int))) then (ob (ix a b) fun f=>
 ob (yV f d) fun e=>
 if (decide (e < 0)) then (some (.inr (.inr (-1)))) else (some (.inl (e,wr (b+1))))) else (some (.inr (.inl d)))
def aDg (a:(List bV)) (d:Int):Option Int:=
 if (decide (wr (d - (a.length:Int)) < 0)) then (some (-1)) else (ob (loop (fun (s:(Int × Int))=>rS a s.1 s.2) (wr (d - (a.length:Int)),0)) fun r=>match r with|.inl r=>xO r|.inr r=>some r)
def aAi (a:Int):Option Int:=
 some a
def tJ (a:(List bK)) (b c:Int):Option ((Int × Int) ⊕ (Int ⊕ Int)):=
 if (decide (c < (a.length:Int))) then (ob (ix a c) fun e=>
 if (decide (wr (b - (e.length:Int)) < 0)) then (some (.inr (.inr (-1)))) else (some (.inl (wr (b - (e.length:Int)),wr (c+1))))) else (some (.inr (.inl b)))
def aCv (a:(List bK)) (d:Int):Option Int:=
 if (decide (wr (d - (a.length:Int)) < 0)) then (some (-1)) else (ob (loop (fun (s:(Int × Int))=>tJ a s.1 s.2) (wr (d - (a.length:Int)),0)) fun r=>match r with|.inl r=>aAi r|.inr r=>some r)
def aEd (a:cP) (h:Int):Option Int:=
 ob (xN a.Definitions h) fun c=>
 if (decide (c < 0)) then (some (-1)) else (ob (aAh a.Components c) fun d=>
 if (decide (d < 0)) then (some (-1)) else (ob (aDg a.Meetings d) fun e=>
 if (decide (e < 0)) then (some (-1)) else (ob (aCv a.Allowed e) fun f=>
 if (decide (f < 0)) then (some (-1)) else (ob (aCv a.Hidden f) fun g=>
 if (decide (g < 0)) then (some (-1)) else (some g)))))
def aBS (a:Bool):Option Bool:=
 some a
def aEe (c:UInt8):Option Bool:=
 if (decide (97<=(c.toNat:Int))) then (aBS (decide ((c.toNat:Int)<=122))) else (aBS false)
def aBT (a:Bool):Option Bool:=
 some a
def aEf (c:UInt8):Option Bool:=
 if (decide (48<=(c.toNat:Int))) then (aBT (decide ((c.toNat:Int)<=57))) else (aBT false)
def aAj:Option Bool:=
 some true
def aAk (a:Int) (b:Bool):Option (Int ⊕ (Unit ⊕ Bool)):=
 if b then (some (.inr (.inr false))) else (some (.inl (wr (a+1))))
def aAl (b:bK) (a:Int):Option (Int ⊕ (Unit ⊕ Bool)):=
 if (decide (a < (b.length:Int))) then (ob (ix b a) fun c=>
 ob (aEe c) fun d=>
 if (!d) then (ob (aEf c) fun e=>
 aAk a (!e)) else (aAk a false)) else (some (.inr (.inl ())))
def rF (b:bK) (c:Bool):Option Bool:=
 if c then (some false) else (ob (loop (fun (s:Int)=>aAl b s) 0) fun r=>match r with|.inl r=>aAj|.inr r=>some r)
def yW (a:bK):Option Bool:=
 if (a == ([]:bK)) then (rF a true) else (if (decide (10 < (a.length:Int))) then (rF a true) else (ob (ix a 0) fun b=>
 ob (aEe b) fun c=>
 rF a (!c)))
def aGr (a:Bool):Option Bool:=
 some a
def mV (n low b:Int):Option Bool:=
 if (decide (low<=n)) then (aGr (decide (n<=b))) else (aGr false)
def pV (p:Part) (b:Bool):Option Int:=
 if b then (some 1) else (if (p.Kind == 2) then (some 2) else (some 0))
def yX (p:Part):Option Int:=
 if (p.Kind == 1) then (pV p (p.Kind == 1)) else (if (p.Kind == 3) then (pV p (p.Kind == 3)) else (pV p (p.Kind == 4)))
def aBU (a:Int):Option Bool:=
 some (a == 0)
def wF (c:(List Part)) (a b:Int):Option ((Int × Int) ⊕ (Int ⊕ Bool)):=
 if (decide (b < (c.length:Int))) then (if (a == 0) then (some (.inr (.inr false))) else (ob (ix c b) fun d=>
 ob (yX d) fun e=>
 some (.inl (wr (a+(wr (e - 1))),wr (b+1))))) else (some (.inr (.inl a)))
def wG (b:(List Part)) (c:Bool):Option Bool:=
 if c then (some false) else (ob (loop (fun (s:(Int × Int))=>wF b s.1 s.2) (1,0)) fun r=>match r with|.inl r=>aBU r|.inr r=>some r)
def aEg (a:(List Part)):Option Bool:=
 if ((a.length:Int) == 0) then (wG a true) else (wG a (decide (20 < (a.length:Int))))
def uV (a:Bool):Option Bool:=
 some a
def aAm (a:Bool):Option Bool:=
 some a
def aAn (a:Bool):Option Bool:=
 some a
def aAo (p:Part) (b:Bool):Option Bool:=
 if b then (if (p.Number == 0) then (if (p.Name == ([]:bK)) then (uV ((p.Arguments.length:Int) == 0)) else (uV false)) else (uV false)) else (if (p.Kind == 1) then (some (p.Number == 0)) else (if (p.Kind == 3) then (if (p.Number == 0) then (aAm (p.Name == ([]:bK))) else (aAm false)) else (if (p.Kind == 4) then (if (p.Name == ([]:bK)) then (aAn ((p.Arguments.length:Int) == 0)) else (aAn false)) else (if (p.Kind == 5) then (some (p.Name == ([]:bK))) else (some false)))))
def aFE (p:Part):Option Bool:=
 if (p.Kind == 0) then (aAo p (p.Kind == 0)) else (aAo p (p.Kind == 2))
def aCw (a:Int):Option Int:=
 some a
def aEW (c:(List Part)) (a b:Int):Option ((Int × Int) ⊕ Int):=
 if (decide (0 < b)) then (ob (ix c a) fun d=>
 ob (yX d) fun e=>
 some (.inl (wr (a+1),wr (b+(wr (e - 1)))))) else (some (.inr a))
def aFF (a:(List Part)) (b:Int):Option Int:=
 ob (loop (fun (s:(Int × Int))=>aEW a s.1 s.2) (b,1)) fun r=>aCw r
def aBV (a:Int):Option Int:=
 some a
def wH (a b:Int):Option ((Int × Int) ⊕ Int):=
 some (.inl (b,wr (a+1)))
def wI (a b:Int) (c:Bool):Option ((Int × Int) ⊕ Int):=
 if c then (wH b (wr (a+1))) else (wH b a)
def lN (d:Definition) (e b a:Int):Option ((Int × Int) ⊕ Int):=
 if (decide (a < e)) then (ob (ix d.Body a) fun f=>
 if (f.Kind == 4) then (ob (aFF d.Body a) fun g=>
 wI b a (decide (e < g))) else (wI b a false)) else (some (.inr b))
def aBr (d:Definition) (b:Int):Option Int:=
 ob (loop (fun (s:(Int × Int))=>lN d b s.1 s.2) (d.Parameters,0)) fun r=>aBV r
def aFG (t:bP) (b:Int):Option Bool:=
 if (t.Kind == 0) then (ob (mV t.Value 0 63) fun c=>
 some c) else (if (t.Kind == 1) then (ob (mV t.Value 0 (wr (b - 1))) fun d=>
 some d) else (if (t.Kind == 2) then (ob (mV t.Value 0 8) fun e=>
 some e) else (if (t.Kind == 3) then (some (t.Value == 0)) else (some false))))
def aBs (t:bP):Option Int:=
 if (t.Kind == 2) then (some 2) else (if (t.Kind == 3) then (some 1) else (some 0))
def aGs (a:Int):Option Bool:=
 some (a == 0)
def aEh (e:(List bP)) (c a:Int) (d:Bool):Option ((Int × Int) ⊕ (Int ⊕ Bool)):=
 if d then (some (.inr (.inr false))) else (ob (ix e a) fun f=>
 ob (aBs f) fun g=>
 some (.inl (wr (c+(wr (g - 1))),wr (a+1))))
def aEi (e:(List bP)) (d b c:Int):Option ((Int × Int) ⊕ (Int ⊕ Bool)):=
 if (decide (c < (e.length:Int))) then (if (b == 0) then (aEh e b c true) else (ob (ix e c) fun f=>
 ob (aFG f d) fun g=>
 aEh e b c (!g))) else (some (.inr (.inl b)))
def aJM (e:(List bP)) (c d:Int):Option Bool:=
 if (decide (d < (e.length:Int))) then (some false) else (ob (loop (fun (s:(Int × Int))=>aEi e c s.1 s.2) (1,0)) fun r=>match r with|.inl r=>aGs r|.inr r=>some r)
def tK:Option Int:=
 some 0
def pW (b:Part) (c a:Int):Option (Int ⊕ (Unit ⊕ Int)):=
 if (decide (a < (b.Arguments.length:Int))) then (ob (ix b.Arguments a) fun d=>
 ob (aJM d c 15) fun e=>
 if (!e) then (some (.inr (.inr 8))) else (some (.inl (wr (a+1))))) else (some (.inr (.inl ())))
def pX (b:Part) (c:Int) (d:Bool):Option Int:=
 if d then (some 7) else (ob (loop (fun (s:Int)=>pW b c s) 0) fun r=>match r with|.inl r=>tK|.inr r=>some r)
def nI (d:Definition) (e:Int) (a:Part) (f:Bool):Option Int:=
 if f then (some 6) else (ob (aBr d e) fun b=>
 if (a.Kind == 4) then (pX a b (decide (6<=b))) else (pX a b false))
def kF (d:Definition) (a:Int) (c:Part):Option Int:=
 if (c.Kind == 5) then (if (a == 0) then (nI d a c true) else (ob (ix d.Body (wr (a - 1))) fun e=>
 nI d a c (e.Kind != 1))) else (nI d a c false)
def pY (d:Definition) (b:Int) (c:Part) (e:Bool):Option Int:=
 if e then (some 5) else (kF d b c)
def kG (e:(List Definition)) (d:Definition) (c:Int) (a:Part) (f:Bool):Option Int:=
 if f then (some 4) else (if (a.Kind == 1) then (if (decide (2 < (a.Arguments.length:Int))) then (pY d c a true) else (if (decide (0 < (a.Arguments.length:Int))) then (pY d c a (a.Name == ([116,97,117]:bK))) else (pY d c a false))) else (if (a.Kind == 3) then (if ((a.Arguments.length:Int) != 1) then (some 5) else (kF d c a)) else (if (a.Kind == 5) then (ob (ix e a.Number) fun g=>
 if ((a.Arguments.length:Int) != g.Parameters) then (some 5) else (kF d c a)) else (kF d c a))))
def pZ (b:(List Definition)) (d:Definition) (e:Int) (a:Part) (f:Bool):Option Int:=
 if f then (some 3) else (if (a.Kind == 4) then (ob (mV a.Number 1 7) fun g=>
 if (!g) then (kG b d e a true) else (if (a.Kind == 5) then (ob (mV a.Number 0 (wr ((b.length:Int) - 1))) fun h=>
 kG b d e a (!h)) else (kG b d e a false))) else (if (a.Kind == 5) then (ob (mV a.Number 0 (wr ((b.length:Int) - 1))) fun i=>
 kG b d e a (!i)) else (kG b d e a false)))
def yY (e:(List Definition)) (d:Definition) (c:Int):Option Int:=
 ob (ix d.Body c) fun a=>
 ob (aFE a) fun f=>
 if (!f) then (some 2) else (if (a.Kind == 1) then (ob (yW a.Name) fun g=>
 pZ e d c a (!g)) else (pZ e d c a false))
def aDh:Option (Int × Int):=
 some (0,0)
def uW (e:(List Definition)) (d:Definition) (a:Int):Option (Int ⊕ (Unit ⊕ (Int × Int))):=
 if (decide (a < (d.Body.length:Int))) then (ob (yY e d a) fun c=>
 if (decide (0 < c)) then (some (.inr (.inr (a,c)))) else (some (.inl (wr (a+1))))) else (some (.inr (.inl ())))
def aDH (c:(List Definition)) (d:Definition):Option (Int × Int):=
 ob (aEg d.Body) fun e=>
 if (!e) then (some (0,1)) else (ob (loop (fun (s:Int)=>uW c d s) 0) fun r=>match r with|.inl r=>aDh|.inr r=>some r)
def aDi:Option Bool:=
 some true
def aAp (a:(List Definition)) (b:Int):Option (Int ⊕ (Unit ⊕ Bool)):=
 if (decide (b < (a.length:Int))) then (ob (ix a b) fun c=>
 ob (aDH a c) fun d=>
 if (decide (0 < d.2)) then (some (.inr (.inr false))) else (some (.inl (wr (b+1))))) else (some (.inr (.inl ())))
def uX (b:(List Definition)):Option Bool:=
 ob (loop (fun (s:Int)=>aAp b s) 0) fun r=>match r with|.inl r=>aDi|.inr r=>some r
def aDj (a:Int):Option (Int ⊕ (Unit ⊕ Bool)):=
 some (.inl (wr (a+1)))
def uY (a:Int):Option (Int ⊕ (Unit ⊕ Bool)):=
 aDj a
def aAq (b:(List Definition)) (c a:Int):Option (Int ⊕ (Unit ⊕ Bool)):=
 if (decide (a < c)) then (ob (ix b a) fun d=>
 ob (ix b c) fun e=>
 if (d.Name == e.Name) then (some (.inr (.inr false))) else (some (.inl (wr (a+1))))) else (some (.inr (.inl ())))
def aAr (c:(List Definition)) (b:Int) (d:Bool):Option (Int ⊕ (Unit ⊕ Bool)):=
 if d then (some (.inr (.inr false))) else (ob (loop (fun (s:Int)=>aAq c b s) 0) fun r=>match r with|.inl r=>uY b|.inr r=>some (.inr (.inr r)))
def aAs (a:(List Definition)) (b:Int):Option (Int ⊕ (Unit ⊕ Bool)):=
 if (decide (b < (a.length:Int))) then (ob (ix a b) fun c=>
 ob (yW c.Name) fun d=>
 if (!d) then (aAr a b true) else (ob (mV c.Parameters 0 3) fun e=>
 aAr a b (!e))) else (some (.inr (.inl ())))
def uZ (b:(List Definition)) (c:Bool):Option Bool:=
 if c then (some false) else (ob (loop (fun (s:Int)=>aAs b s) 0) fun r=>match r with|.inl r=>uX b|.inr r=>some r)
def aBt (a:(List Definition)):Option Bool:=
 if ((a.length:Int) == 0) then (uZ a true) else (uZ a (decide (4 < (a.length:Int))))
def aDk:Option Bool:=
 some true
def aAt (b:(List Int)) (a:Int):Option (Int ⊕ (Unit ⊕ Bool)):=
 if (decide (a < (b.length:Int))) then (ob (ix b a) fun c=>
 ob (mV c 0 63) fun d=>
 if (!d) then (some (.inr (.inr false))) else (some (.inl (wr (a+1))))) else (some (.inr (.inl ())))
def aFH (b:(List Int)):Option Bool:=
 ob (loop (fun (s:Int)=>aAt b s) 0) fun r=>match r with|.inl r=>aDk|.inr r=>some r
def rG:Option Bool:=
 some true
def nJ (a:Int) (b:Bool):Option (Int ⊕ (Unit ⊕ Bool)):=
 if b then (some (.inr (.inr false))) else (some (.inl (wr (a+1))))
def nK (a:cP) (b:Int):Option (Int ⊕ (Unit ⊕ Bool)):=
 if (decide (b < (a.Components.length:Int))) then (ob (ix a.Components b) fun c=>
 ob (mV c.Definition 0 (wr ((a.Definitions.length:Int) - 1))) fun d=>
 if (!d) then (some (.inr (.inr false))) else (ob (ix a.Definitions c.Definition) fun e=>
 if ((c.Values.length:Int) != e.Parameters) then (nJ b true) else (ob (aFH c.Values) fun f=>
 nJ b (!f)))) else (some (.inr (.inl ())))
def nL (b:cP) (c:Bool):Option Bool:=
 if c then (some false) else (ob (loop (fun (s:Int)=>nK b s) 0) fun r=>match r with|.inl r=>rG|.inr r=>some r)
def rT (a:cP):Option Bool:=
 if ((a.Components.length:Int) == 0) then (nL a true) else (nL a (decide (3 < (a.Components.length:Int))))
def tL (a:Bool):Option Bool:=
 some a
def oN (a:bK):Option Bool:=
 ob (yW a) fun b=>
 if b then (tL (!(a == ([116,97,117]:bK)))) else (tL false)
def vA:Option Bool:=
 some true
def vB (a:Int):Option (Int ⊕ (Unit ⊕ Bool)):=
 some (.inl (wr (a+1)))
def qA (a:Int):Option (Int ⊕ (Unit ⊕ Bool)):=
 vB a
def qB (a:Int) (b:Bool):Option (Int ⊕ (Unit ⊕ Bool)):=
 if b then (some (.inr (.inr false))) else (some (.inl (wr (a+1))))
def qC (b:(List bV)) (c:bV) (a:Int):Option (Int ⊕ (Unit ⊕ Bool)):=
 if (decide (a < (b.length:Int))) then (ob (ix b a) fun d=>
 if (d.Left == c.Result) then (qB a true) else (qB a (d.Right == c.Result))) else (some (.inr (.inl ())))
def jX (b:(List bV)) (c:Int) (d:bV) (e:Bool):Option (Int ⊕ (Unit ⊕ Bool)):=
 if e then (some (.inr (.inr false))) else (ob (loop (fun (s:Int)=>qC b d s) 0) fun r=>match r with|.inl r=>qA c|.inr r=>some (.inr (.inr r)))
def jY (c:(List bV)) (b:Int) (a:bV) (e:Bool):Option (Int ⊕ (Unit ⊕ Bool)):=
 if e then (some (.inr (.inr false))) else (if (decide (0 < b)) then (ob (ix c (wr (b - 1))) fun d=>
 if (!(lQ d.Left a.Left||d.Left == a.Left)) then (jX c b a true) else (if (d.Left == a.Left) then (jX c b a (!lQ d.Right a.Right)) else (jX c b a false))) else (jX c b a false))
def nC (b:(List bV)) (c:Int):Option (Int ⊕ (Unit ⊕ Bool)):=
 if (decide (c < (b.length:Int))) then (ob (ix b c) fun a=>
 ob (oN a.Left) fun d=>
 if (!d) then (jY b c a true) else (ob (oN a.Right) fun e=>
 if (!e) then (jY b c a true) else (ob (oN a.Result) fun f=>
 if (!f) then (jY b c a true) else (jY b c a (!(lQ a.Left a.Right||a.Left == a.Right)))))) else (some (.inr (.inl ())))
def wJ (b:(List bV)):Option Bool:=
 if (decide (6 < (b.length:Int))) then (some false) else (ob (loop (fun (s:Int)=>nC b s) 0) fun r=>match r with|.inl r=>vA|.inr r=>some r)
def xP:Option Bool:=
 some true
def rU (b:(List bK)) (a:Int):Option (Int ⊕ (Unit ⊕ Bool)):=
 if (decide (a < (b.length:Int))) then (ob (ix b a) fun c=>
 ob (oN c) fun d=>
 if (!d) then (some (.inr (.inr false))) else (some (.inl (wr (a+1))))) else (some (.inr (.inl ())))
def aAu (b:(List bK)):Option Bool:=
 ob (loop (fun (s:Int)=>rU b s) 0) fun r=>match r with|.inl r=>xP|.inr r=>some r
def aBW:Option Bool:=
 some true
def sG (b:(List bK)) (a:Int):Option (Int ⊕ (Unit ⊕ Bool)):=
 if (decide (a < (b.length:Int))) then (ob (ix b (wr (a - 1))) fun c=>
 ob (ix b a) fun d=>
 if (!lQ c d) then (some (.inr (.inr false))) else (some (.inl (wr (a+1))))) else (some (.inr (.inl ())))
def wK (b:(List bK)) (c:Bool):Option Bool:=
 if c then (some false) else (ob (loop (fun (s:Int)=>sG b s) 1) fun r=>match r with|.inl r=>aBW|.inr r=>some r)
def aBu (a:(List bK)):Option Bool:=
 if (decide (12 < (a.length:Int))) then (wK a true) else (ob (aAu a) fun b=>
 wK a (!b))
def aEj (a:cP):Option Int:=
 ob (aBt a.Definitions) fun b=>
 if (!b) then (some 1) else (ob (rT a) fun c=>
 if (!c) then (some 2) else (ob (wJ a.Meetings) fun d=>
 if (!d) then (some 3) else (ob (aBu a.Allowed) fun e=>
 if (!e) then (some 4) else (ob (aBu a.Hidden) fun f=>
 if (!f) then (some 5) else (some 0)))))
def aIi (a:cP):Option Bool:=
 ob (aEj a) fun b=>
 some (b == 0)
def aHw (e:(List bP)):Option (List bP):=
 ob (apd ([]:List bP) e) fun b=>
 some b
def aAv (a:List (List bP)):Option (List (List bP)):=
 some a
def aAw (b:(List (List bP))) (c:List (List bP)) (a:Int):Option ((List (List bP) × Int) ⊕ (List (List bP))):=
 if (decide (a < (b.length:Int))) then (ob (ix b a) fun d=>
 ob (aHw d) fun e=>
 ob (apd c ([e]:List (List bP))) fun f=>
 some (.inl (f,wr (a+1)))) else (some (.inr c))
def aCx (a:(List (List bP))):Option (List (List bP)):=
 ob (loop (fun (s:(List (List bP) × Int))=>aAw a s.1 s.2) (([]:List (List bP)),0)) fun r=>aAv r
def xQ (a:List Part):Option (List Part):=
 some a
def xR (c:(List Part)) (d:List Part) (b:Int):Option ((List Part × Int) ⊕ (List Part)):=
 if (decide (b < (c.length:Int))) then (ob (ix c b) fun a=>
 ob (aCx a.Arguments) fun e=>
 ob (apd d ([⟨a.Kind,a.Number,a.Name,e⟩]:List Part)) fun f=>
 some (.inl (f,wr (b+1)))) else (some (.inr d))
def aAx (a:(List Part)):Option (List Part):=
 ob (loop (fun (s:(List Part × Int))=>xR a s.1 s.2) (([]:List Part),0)) fun r=>xQ r
def tM (a:(List Int)):Option (List Int):=
 ob (apd ([]:List Int) a) fun b=>
 some b
def aCy (a:cP) (b:List Definition) (c:List bL):Option cP:=
 ob (apd ([]:List bV) a.Meetings) fun d=>
 ob (apd ([]:List bK) a.Allowed) fun e=>
 ob (apd ([]:List bK) a.Hidden) fun f=>
 some ⟨b,c,d,e,f⟩
def aEX (b:cP) (c:List bL) (a:Int):Option ((List bL × Int) ⊕ (List bL)):=
 if (decide (a < (b.Components.length:Int))) then (ob (ix b.Components a) fun d=>
 ob (tM d.Values) fun e=>
 ob (apd c ([⟨d.Definition,e⟩]:List bL)) fun f=>
 some (.inl (f,wr (a+1)))) else (some (.inr c))
def aCz (a:cP) (b:List Definition):Option cP:=
 ob (loop (fun (s:(List bL × Int))=>aEX a s.1 s.2) (([]:List bL),0)) fun r=>aCy a b r
def aEY (c:cP) (d:List Definition) (a:Int):Option ((List Definition × Int) ⊕ (List Definition)):=
 if (decide (a < (c.Definitions.length:Int))) then (ob (ix c.Definitions a) fun b=>
 ob (aAx b.Body) fun e=>
 ob (apd d ([⟨b.Name,b.Parameters,e⟩]:List Definition)) fun f=>
 some (.inl (f,wr (a+1)))) else (some (.inr d))
def aHx (a:cP):Option cP:=
 ob (loop (fun (s:(List Definition × Int))=>aEY a s.1 s.2) (([]:List Definition),0)) fun r=>aCz a r
def aBX (a:List bS):Option (List bS):=
 some a
def wM (b:cP) (c:List bS) (a:Int):Option ((List bS × Int) ⊕ (List bS)):=
 if (decide (a < (b.Components.length:Int))) then (ob (ix b.Components a) fun d=>
 ob (tM d.Values) fun e=>
 ob (apd c ([⟨d.Definition,0,e⟩]:List bS)) fun f=>
 some (.inl (f,wr (a+1)))) else (some (.inr c))
def aEk (a:cP):Option (List bS):=
 ob (loop (fun (s:(List bS × Int))=>wM a s.1 s.2) (([]:List bS),0)) fun r=>aBX r
def lF (b:Bool):Option Int:=
 if b then (some 1) else (some 0)
def aCA (a:Int):Option Int:=
 some a
def aEZ (e:(List bP)) (a b:Int):Option ((Int × Int) ⊕ Int):=
 if (decide (0 < b)) then (ob (ix e a) fun d=>
 ob (aBs d) fun f=>
 some (.inl (wr (a+1),wr (b+(wr (f - 1)))))) else (some (.inr a))
def aHy (e:(List bP)) (k:Int):Option Int:=
 ob (loop (fun (s:(Int × Int))=>aEZ e s.1 s.2) (k,1)) fun r=>aCA r
def aGt (a:Int):Option Int:=
 some a
def aGu (a:Int):Option Int:=
 some a
def aFa (e a b:Int):Option Int:=
 if (e == 0) then (ob (rm (wr (a+b)) 64) fun f=>
 some f) else (if (e == 1) then (ob (rm (wr ((wr (a - b))+64)) 64) fun g=>
 some g) else (if (e == 2) then (ob (rm (wr (a * b)) 64) fun h=>
 some h) else (if (e == 3) then (ob (lF (a == b)) fun i=>
 some i) else (if (e == 4) then (ob (lF (a != b)) fun j=>
 some j) else (if (e == 5) then (ob (lF (decide (a < b))) fun k=>
 some k) else (if (e == 6) then (ob (lF (decide (a<=b))) fun l=>
 some l) else (if (e == 7) then (if (a != 0) then (ob (lF (b != 0)) fun m=>
 aGt m) else (ob (lF false) fun n=>
 aGt n)) else (if (a != 0) then (ob (lF true) fun o=>
 aGu o) else (ob (lF (b != 0)) fun p=>
 aGu p)))))))))
def vC (f:(List bP)->(List Int)->Int->Option Int) (e:(List bP)) (c:(List Int)) (k:Int):Option Int:=
 ob (ix e k) fun a=>
 if (a.Kind == 0) then (some a.Value) else (if (a.Kind == 1) then (ob (ix c a.Value) fun g=>
 some g) else (if (a.Kind == 3) then (ob (f e c (wr (k+1))) fun h=>
 ob (lF (h == 0)) fun i=>
 some i) else (ob (f e c (wr (k+1))) fun j=>
 ob (aHy e (wr (k+1))) fun l=>
 ob (f e c l) fun m=>
 ob (aFa a.Value j m) fun n=>
 some n)))
def vD:Nat->(List bP)->(List Int)->Int->Option Int
 |0=>fun _ _ _=>none
 |n+1=>vC (vD n)
def aPN (e:(List bP)) (b:(List Int)) (k:Int):Option Int:=
 vD 100000 e b k
def yZ (e:(List bP)) (b:(List Int)):Option Int:=
 ob (aPN e b 0) fun c=>
 some c
def aDl (a:List Int):Option (List Int):=
 some a
def aAy (b:(List (List bP))) (d:(List Int)) (c:List Int) (a:Int):Option ((List Int × Int) ⊕ (List Int)):=
 if (decide (a < (b.length:Int))) then (ob (ix b a) fun e=>
 ob (yZ e d) fun f=>
 ob (apd c ([f]:List Int)) fun g=>
 some (.inl (g,wr (a+1)))) else (some (.inr c))
def aDI (a:(List (List bP))) (b:(List Int)):Option (List Int):=
 ob (loop (fun (s:(List Int × Int))=>aAy a b s.1 s.2) (([]:List Int),0)) fun r=>aDl r
def aDm:Option Bool:=
 some true
def aAz (a b:(List Int)) (c:Int):Option (Int ⊕ (Unit ⊕ Bool)):=
 if (decide (c < (a.length:Int))) then (ob (ix a c) fun f=>
 ob (ix b c) fun g=>
 if (f != g) then (some (.inr (.inr false))) else (some (.inl (wr (c+1))))) else (some (.inr (.inl ())))
def aFI (a b:(List Int)):Option Bool:=
 if ((a.length:Int) != (b.length:Int)) then (some false) else (ob (loop (fun (s:Int)=>aAz a b s) 0) fun r=>match r with|.inl r=>aDm|.inr r=>some r)
def mF (a:Bool):Option Bool:=
 some a
def qD (a b:bS):Option Bool:=
 if (a.Definition == b.Definition) then (if (a.Part == b.Part) then (ob (aFI a.Values b.Values) fun e=>
 mF e) else (mF false)) else (mF false)
def aFb (a:List UInt8):Option bK:=
 some a
def aCB (c b:List UInt8) (a:Int):Option ((List UInt8 × Int) ⊕ (List UInt8)):=
 if (decide (0<=a)) then (ob (ix c a) fun d=>
 ob (apd b ([d]:List UInt8)) fun e=>
 some (.inl (e,wr (a - 1)))) else (some (.inr b))
def aCC (a:List UInt8):Option bK:=
 ob (loop (fun (s:(List UInt8 × Int))=>aCB a s.1 s.2) (([]:List UInt8),wr ((a.length:Int) - 1))) fun r=>aFb r
def aCD (n:Int) (a:List UInt8):Option bK:=
 if (decide (n < 0)) then (ob (apd a ([(45:UInt8)]:List UInt8)) fun c=>
 aCC c) else (aCC a)
def aCE (a:List UInt8) (b c:Int):Option ((List UInt8 × Int) ⊕ (List UInt8)):=
 ob (apd a ([(UInt8.ofInt (wr (48+c)))]:List UInt8)) fun d=>
 ob (qu b 10) fun e=>
 some (.inl (d,e))
def aCF (b:List UInt8) (a:Int):Option ((List UInt8 × Int) ⊕ (List UInt8)):=
 if (a != 0) then (ob (rm a 10) fun c=>
 if (decide (c < 0)) then (aCE b a (wr (0 - c))) else (aCE b a c)) else (some (.inr b))
def aHz (n:Int):Option bK:=
 if (n == 0) then (some ([48]:bK)) else (ob (loop (fun (s:(List UInt8 × Int))=>aCF s.1 s.2) (([]:List UInt8),n)) fun r=>aCD n r)
def aDn (a:bK):Option bK:=
 some a
def aAA (b:(List Int)) (a:Int) (c:bK):Option ((bK × Int) ⊕ bK):=
 ob (ix b a) fun d=>
 ob (aHz d) fun e=>
 ob (cat c e) fun f=>
 some (.inl (f,wr (a+1)))
def rH (b:(List Int)) (c:bK) (a:Int):Option ((bK × Int) ⊕ bK):=
 if (decide (a < (b.length:Int))) then (if (decide (0 < a)) then (ob (cat c ([44]:bK)) fun d=>
 aAA b a d) else (aAA b a c)) else (some (.inr c))
def aFJ (a:(List Int)):Option bK:=
 if ((a.length:Int) == 0) then (some ([45]:bK)) else (ob (loop (fun (s:(bK × Int))=>rH a s.1 s.2) (([]:bK),0)) fun r=>aDn r)
def aFK (a:bK) (b:(List Int)):Option bK:=
 if ((b.length:Int) == 0) then (some a) else (ob (cat a ([40]:bK)) fun c=>
 ob (aFJ b) fun d=>
 ob (cat c d) fun e=>
 ob (cat e ([41]:bK)) fun f=>
 some f)
def qE (a:(List dM)) (b:dM):Option (List dM):=
 ob (apd a ([b]:List dM)) fun c=>
 some c
def tN (a:(List dM)) (b:Int) (c:Bool):Option (Int ⊕ (Unit ⊕ (List dM))):=
 if c then (some (.inr (.inr a))) else (some (.inl (wr (b+1))))
def tO (a:(List dM)) (c:dM) (b:Int):Option (Int ⊕ (Unit ⊕ (List dM))):=
 if (decide (b < (a.length:Int))) then (ob (ix a b) fun d=>
 if (d.B == c.B) then (ob (qD d.Next c.Next) fun e=>
 tN a b e) else (tN a b false)) else (some (.inr (.inl ())))
def zD (b:(List dM)) (c:dM):Option (List dM):=
 ob (loop (fun (s:Int)=>tO b c s) 0) fun r=>match r with|.inl r=>qE b c|.inr r=>some r
def rV (a:List dM):Option (List dM):=
 some a
def oD (b:(List Int)) (c:(List dM)) (a:Part) (d e:Int) (f:List Int):Option (List dM):=
 ob (aDI a.Arguments b) fun g=>
 ob (aFK a.Name g) fun h=>
 ob (zD c ⟨h,⟨d,e,f⟩⟩) fun i=>
 some i
def xS (a:List dM):Option (List dM):=
 rV a
def kQ (c:(List Definition)->Int->Int->(List Int)->(List dM)->Option (List dM)) (e:(List Definition)) (d g:Int) (h:(List Int)) (i:Part) (b:List dM) (a:Int):Option ((List dM × Int) ⊕ (List dM)):=
 if (decide (a<=i.Number)) then (ob (tM h) fun j=>
 ob (apd j ([a]:List Int)) fun k=>
 ob (c e d (wr (g+1)) k b) fun l=>
 some (.inl (l,wr (a+1)))) else (some (.inr b))
def cY (h:(List Definition)->Int->Int->(List Int)->(List dM)->Option (List dM)) (g:(List Definition)) (d e:Int) (a:(List Int)) (b:(List dM)):Option (List dM):=
 ob (ix g d) fun i=>
 ob (ix i.Body e) fun c=>
 if (decide (200 < (b.length:Int))) then (some b) else (if (c.Kind == 1) then (ob (tM a) fun k=>
 ob (ix i.Body (wr (e+1))) fun j=>
 if (j.Kind == 5) then (ob (aDI j.Arguments a) fun l=>
 oD a b c j.Number 0 l) else (oD a b c d (wr (e+1)) k)) else (if (c.Kind == 2) then (ob (h g d (wr (e+1)) a b) fun m=>
 ob (aFF i.Body (wr (e+1))) fun n=>
 ob (h g d n a m) fun o=>
 some o) else (if (c.Kind == 3) then (ob (ix c.Arguments 0) fun p=>
 ob (yZ p a) fun q=>
 if (q != 0) then (ob (h g d (wr (e+1)) a b) fun t=>
 some t) else (rV b)) else (if (c.Kind == 4) then (ob (loop (fun (s:(List dM × Int))=>kQ h g d e a c s.1 s.2) (b,0)) fun r=>xS r) else (rV b)))))
def dI:Nat->(List Definition)->Int->Int->(List Int)->(List dM)->Option (List dM)
 |0=>fun _ _ _ _ _=>none
 |n+1=>cY (dI n)
def aDo (a:(List Definition)) (d c:Int) (e:(List Int)) (f:(List dM)):Option (List dM):=
 dI 100000 a d c e f
def aDp (c:(List Definition)) (p:bS):Option ((List dM) × Bool):=
 ob (aDo c p.Definition p.Part p.Values ([]:List dM)) fun b=>
 some (b,decide ((b.length:Int)<=200))
def aDq:Option Int:=
 some (-1)
def aAB (b:(List bK)) (c:bK) (a:Int):Option (Int ⊕ (Unit ⊕ Int)):=
 if (decide (a < (b.length:Int))) then (ob (ix b a) fun d=>
 if (d == c) then (some (.inr (.inr a))) else (some (.inl (wr (a+1))))) else (some (.inr (.inl ())))
def aDJ (b:(List bK)) (c:bK):Option Int:=
 ob (loop (fun (s:Int)=>aAB b c s) 0) fun r=>match r with|.inl r=>aDq|.inr r=>some r
def aDr (a:List bK):Option (List bK):=
 some a
def vE (a:Int) (b:List bK):Option ((List bK × Int) ⊕ (List bK)):=
 some (.inl (b,wr (a+1)))
def aAC (c:Int) (d:bK) (a:Int) (b:List bK):Option ((List bK × Int) ⊕ (List bK)):=
 ob (ix b a) fun f=>
 ob (st b a (d:bK)) fun e=>
 vE c e
def aAD (c:Int) (b:List bK) (a:Int):Option ((List bK × Int) ⊕ (List bK)):=
 if (decide (c < a)) then (ob (ix b (wr (a - 1))) fun d=>
 ob (ix b a) fun f=>
 ob (st b a (d:bK)) fun e=>
 some (.inl (e,wr (a - 1)))) else (some (.inr b))
def aAE (c:List bK) (d:Int) (e:bK) (a:Int):Option ((List bK × Int) ⊕ (List bK)):=
 ob (apd c ([([]:bK)]:List bK)) fun b=>
 ob (loop (fun (s:(List bK × Int))=>aAD a s.1 s.2) (b,wr ((b.length:Int) - 1))) fun r=>aAC d e a r
def vF (a:Int) (b:Bool):Option (Int ⊕ Int):=
 if b then (some (.inl (wr (a+1)))) else (some (.inr a))
def vG (b:List bK) (c:bK) (a:Int):Option (Int ⊕ Int):=
 if (decide (a < (b.length:Int))) then (ob (ix b a) fun d=>
 vF a (lQ d c)) else (vF a false)
def rI (d:(List bK)) (a:List bK) (b:Int):Option ((List bK × Int) ⊕ (List bK)):=
 if (decide (b < (d.length:Int))) then (ob (ix d b) fun c=>
 ob (aDJ a c) fun e=>
 if (decide (0<=e)) then (vE b a) else (ob (loop (fun (s:Int)=>vG a c s) 1) fun r=>aAE a b c r)) else (some (.inr a))
def aFL (a:(List bK)):Option (List bK):=
 ob (loop (fun (s:(List bK × Int))=>rI a s.1 s.2) (([([116,97,117]:bK)]:List bK),0)) fun r=>aDr r
def aDK (a b:Edge):Option Bool:=
 if (a.F != b.F) then (some (decide (a.F < b.F))) else (if (a.B != b.B) then (some (decide (a.B < b.B))) else (some (decide (a.To < b.To))))
def aCG (e:Edge) (b:Int) (c:List Edge):Option (List Edge):=
 ob (ix c b) fun f=>
 ob (st c b (⟨e.F,e.B,e.To⟩:Edge)) fun d=>
 some d
def aCH (d:Int) (b:List Edge) (a:Int):Option ((List Edge × Int) ⊕ (List Edge)):=
 if (decide (d < a)) then (ob (ix b (wr (a - 1))) fun c=>
 ob (ix b a) fun f=>
 ob (st b a (⟨c.F,c.B,c.To⟩:Edge)) fun e=>
 some (.inl (e,wr (a - 1)))) else (some (.inr b))
def zF (a:(List Edge)) (e:Edge) (b:Int) (f:Bool):Option (List Edge):=
 if f then (some a) else (ob (apd a ([⟨0,0,0⟩]:List Edge)) fun c=>
 ob (loop (fun (s:(List Edge × Int))=>aCH b s.1 s.2) (c,wr ((c.length:Int) - 1))) fun r=>aCG e b r)
def aCI (b:(List Edge)) (e:Edge) (a:Int):Option (List Edge):=
 if (decide (0 < a)) then (ob (ix b (wr (a - 1))) fun d=>
 zF b e a (decide ((d:Edge)=e))) else (zF b e a false)
def zH (a:Int) (b:Bool):Option (Int ⊕ Int):=
 if b then (some (.inl (wr (a - 1)))) else (some (.inr a))
def zJ (b:(List Edge)) (e:Edge) (a:Int):Option (Int ⊕ Int):=
 if (decide (0 < a)) then (ob (ix b (wr (a - 1))) fun d=>
 ob (aDK e d) fun f=>
 zH a f) else (zH a false)
def aHA (a:(List Edge)) (e:Edge):Option (List Edge):=
 ob (loop (fun (s:Int)=>zJ a e s) (a.length:Int)) fun r=>aCI a e r
def aDs (a b:Int) (c:(List bK)) (d:List Edge):Option eP:=
 some ⟨a,b,c,d⟩
def vH (e:(List bK)) (c:(List Edge)) (f:(List bK)) (d:List Edge) (a:Int):Option ((List Edge × Int) ⊕ (List Edge)):=
 if (decide (a < (c.length:Int))) then (ob (ix c a) fun b=>
 ob (ix e b.B) fun g=>
 ob (aDJ f g) fun h=>
 ob (aHA d ⟨b.F,h,b.To⟩) fun i=>
 some (.inl (i,wr (a+1)))) else (some (.inr d))
def aFM (c d:Int) (a:(List bK)) (e:(List Edge)):Option eP:=
 ob (aFL a) fun b=>
 ob (loop (fun (s:(List Edge × Int))=>vH a e b s.1 s.2) (([]:List Edge),0)) fun r=>aDs c d b r
def aDt (a:bK):Option Int:=
 some (a.length:Int)
def aAF (b:bK) (a:Int):Option (Int ⊕ (Unit ⊕ Int)):=
 if (decide (a < (b.length:Int))) then (ob (ix b a) fun c=>
 if ((c.toNat:Int) == 40) then (some (.inr (.inr a))) else (some (.inl (wr (a+1))))) else (some (.inr (.inl ())))
def aFN (b:bK):Option Int:=
 ob (loop (fun (s:Int)=>aAF b s) 0) fun r=>match r with|.inl r=>aDt b|.inr r=>some r
def wN (a:bK) (b:List bK) (c:Int):Option (List bK):=
 ob (slc a c (a.length:Int)) fun d=>
 ob (apd b ([d]:List bK)) fun e=>
 some e
def sH (a:Int) (b:List bK) (c:Int):Option ((List bK × Int × Int) ⊕ (List bK × Int)):=
 some (.inl (b,c,wr (a+1)))
def aBY (b:bK) (e:UInt8) (c:List bK) (d a:Int):Option ((List bK × Int × Int) ⊕ (List bK × Int)):=
 if (decide (a < (b.length:Int))) then (ob (ix b a) fun f=>
 if ((f.toNat:Int) == (e.toNat:Int)) then (ob (slc b d a) fun g=>
 ob (apd c ([g]:List bK)) fun h=>
 sH a h (wr (a+1))) else (sH a c d)) else (some (.inr (c,d)))
def aEl (a:bK) (c:UInt8):Option (List bK):=
 ob (loop (fun (s:(List bK × Int × Int))=>aBY a c s.1 s.2.1 s.2.2) (([]:List bK),0,0)) fun r=>wN a r.1 r.2
def aAG (a:Int):Option (Int × Bool):=
 some (a,true)
def tP (b a:Int):Option (Int × Bool):=
 if (b == 1) then (aAG (wr (0 - a))) else (aAG a)
def qF (b:bK) (c a:Int):Option ((Int × Int) ⊕ (Int ⊕ (Int × Bool))):=
 if (decide (a < (b.length:Int))) then (ob (ix b a) fun c45=>
 ob (aEf c45) fun d=>
 if (!d) then (some (.inr (.inr (0,false)))) else (some (.inl (wr ((wr (10 * c))+(wr ((c45 - (48:UInt8)).toNat:Int))),wr (a+1))))) else (some (.inr (.inl c)))
def lX (c:bK) (b:Int) (d:Bool):Option (Int × Bool):=
 if d then (some (0,false)) else (ob (loop (fun (s:(Int × Int))=>qF c s.1 s.2) (0,b)) fun r=>match r with|.inl r=>tP b r|.inr r=>some r)
def qG (a:bK) (b:Int):Option (Int × Bool):=
 if ((a.length:Int) == b) then (lX a b true) else (if (decide (18 < wr ((a.length:Int) - b))) then (lX a b true) else (ob (ix a b) fun c=>
 if ((c.toNat:Int) == 48) then (lX a b (decide (1 < (a.length:Int)))) else (lX a b false)))
def qH (a:bK) (b:Bool):Option (Int × Bool):=
 if b then (qG a 1) else (qG a 0)
def zN (a:bK):Option (Int × Bool):=
 if (decide (0 < (a.length:Int))) then (ob (ix a 0) fun b=>
 qH a ((b.toNat:Int) == 45)) else (qH a false)
def tQ (a:List Int):Option ((List Int) × Bool):=
 some (a,decide ((a.length:Int)<=2))
def tR (a:List Int) (b:Int) (c:(Int × Bool)) (d:Bool):Option ((List Int × Int) ⊕ (List Int ⊕ ((List Int) × Bool))):=
 if d then (some (.inr (.inr ([],false)))) else (ob (apd a ([c.1]:List Int)) fun e=>
 some (.inl (e,wr (b+1))))
def tS (d:(List bK)) (c:List Int) (a:Int):Option ((List Int × Int) ⊕ (List Int ⊕ ((List Int) × Bool))):=
 if (decide (a < (d.length:Int))) then (ob (ix d a) fun e=>
 ob (zN e) fun b=>
 if (!b.2) then (tR c a b true) else (ob (mV b.1 0 63) fun f=>
 tR c a b (!f))) else (some (.inr (.inl c)))
def qI (b:bK) (c:Int) (d:Bool):Option ((List Int) × Bool):=
 if d then (some ([],false)) else (ob (slc b (wr (c+1)) (wr ((b.length:Int) - 1))) fun e=>
 ob (aEl e (44:UInt8)) fun f=>
 ob (loop (fun (s:(List Int × Int))=>tS f s.1 s.2) (([]:List Int),0)) fun r=>match r with|.inl r=>tQ r|.inr r=>some r)
def aFc (a:bK):Option ((List Int) × Bool):=
 ob (aFN a) fun b=>
 if (b == (a.length:Int)) then (ob (yW a) fun c=>
 some (([]:List Int),c)) else (ob (slc a 0 b) fun d=>
 ob (oN d) fun e=>
 if (!e) then (qI a b true) else (ob (ix a (wr ((a.length:Int) - 1))) fun f=>
 qI a b ((f.toNat:Int) != 41)))
def aEm (a:bK):Option Bool:=
 ob (aFc a) fun b=>
 some b.2
def aBZ:Option Bool:=
 some true
def pE (a:Int) (b:Bool):Option (Int ⊕ (Unit ⊕ Bool)):=
 if b then (some (.inr (.inr false))) else (some (.inl (wr (a+1))))
def wO (b:(List bK)) (a:Int):Option (Int ⊕ (Unit ⊕ Bool)):=
 if (decide (a < (b.length:Int))) then (ob (ix b a) fun c=>
 ob (aEm c) fun d=>
 if (!d) then (pE a true) else (if (c == ([116,97,117]:bK)) then (pE a true) else (if (decide (1 < a)) then (ob (ix b (wr (a - 1))) fun e=>
 pE a (!lQ e c)) else (pE a false)))) else (some (.inr (.inl ())))
def sI (b:(List bK)) (c:Bool):Option Bool:=
 if c then (some false) else (ob (loop (fun (s:Int)=>wO b s) 1) fun r=>match r with|.inl r=>aBZ|.inr r=>some r)
def aEn (a:(List bK)):Option Bool:=
 if ((a.length:Int) == 0) then (sI a true) else (if (decide (12 < (a.length:Int))) then (sI a true) else (ob (ix a 0) fun b=>
 sI a (!(b == ([116,97,117]:bK)))))
def aGv:Option Bool:=
 some true
def aEo (a:Int) (b:Bool):Option (Int ⊕ (Unit ⊕ Bool)):=
 if b then (some (.inr (.inr false))) else (some (.inl (wr (a+1))))
def aBv (t:eP) (a:Int) (c:Edge) (d:Bool):Option (Int ⊕ (Unit ⊕ Bool)):=
 if d then (some (.inr (.inr false))) else (if (decide (0 < a)) then (ob (ix t.E (wr (a - 1))) fun e=>
 ob (aDK e c) fun f=>
 aEo a (!f)) else (aEo a false))
def aEp (t:eP) (c:Int):Option (Int ⊕ (Unit ⊕ Bool)):=
 if (decide (c < (t.E.length:Int))) then (ob (ix t.E c) fun b=>
 ob (mV b.F 0 (wr (t.N - 1))) fun d=>
 if (!d) then (aBv t c b true) else (ob (mV b.To 0 (wr (t.N - 1))) fun e=>
 if (!e) then (aBv t c b true) else (ob (mV b.B 0 (wr ((t.L.length:Int) - 1))) fun f=>
 aBv t c b (!f)))) else (some (.inr (.inl ())))
def yI (t:eP) (c:Bool):Option Bool:=
 if c then (some false) else (ob (loop (fun (s:Int)=>aEp t s) 0) fun r=>match r with|.inl r=>aGv|.inr r=>some r)
def aJN (t:eP):Option Bool:=
 ob (mV t.N 1 40) fun b=>
 if (!b) then (yI t true) else (ob (mV t.I 0 (wr (t.N - 1))) fun c=>
 if (!c) then (yI t true) else (ob (aEn t.L) fun d=>
 if (!d) then (yI t true) else (yI t (decide (300 < (t.E.length:Int))))))
def rW (c:(List Definition)) (p:bS):Option ((List dM) × Bool):=
 ob (aDo c p.Definition p.Part p.Values ([]:List dM)) fun b=>
 some (b,decide ((b.length:Int)<=200))
def iB (b:List bS) (c:List bK) (d:List Edge):Option (eP × Bool):=
 ob (aFM (b.length:Int) 0 c d) fun a=>
 ob (aJN a) fun e=>
 some (a,e)
def sV (a:Int) (b:List bS) (c:List bK) (d:List Edge):Option ((List bS × List bK × List Edge × Int) ⊕ ((List bS × List bK × List Edge) ⊕ (eP × Bool))):=
 some (.inl (b,c,d,wr (a+1)))
def kH (a:Int) (b:List bS) (c:List bK) (d:List Edge) (e:Bool):Option ((List bS × List bK × List Edge × Int) ⊕ ((List bS × List bK × List Edge) ⊕ (eP × Bool))):=
 if e then (some (.inr (.inr (⟨0,0,[],[]⟩,false)))) else (sV a b c d)
def iP (c:Int) (a:List bS) (d:List bK) (b:List Edge):Option ((List bS × List bK × List Edge × Int) ⊕ ((List bS × List bK × List Edge) ⊕ (eP × Bool))):=
 if (decide (40 < (a.length:Int))) then (kH c a d b true) else (kH c a d b (decide (300 < (b.length:Int))))
def sW (a:Int) (b:List bS) (c:List bK) (d:List Edge):Option ((List bS × List bK × List Edge × Int) ⊕ (List bS × List bK × List Edge)):=
 some (.inl (b,c,d,wr (a+1)))
def mG (c:Int) (d:((List dM) × Bool)) (e:List bK) (f:List Edge) (a:Int) (g:List bS) (h:Int):Option ((List bS × List bK × List Edge × Int) ⊕ (List bS × List bK × List Edge)):=
 ob (ix d.1 a) fun i=>
 ob (apd e ([i.B]:List bK)) fun b=>
 ob (apd f ([⟨c,wr ((b.length:Int) - 1),h⟩]:List Edge)) fun j=>
 sW a g b j
def mH (d:Int) (a:((List dM) × Bool)) (b:List bS) (e:List bK) (f:List Edge) (c g:Int):Option ((List bS × List bK × List Edge × Int) ⊕ (List bS × List bK × List Edge)):=
 if (decide (g < 0)) then (ob (ix a.1 c) fun h=>
 ob (apd b ([h.Next]:List bS)) fun i=>
 mG d a e f c i (b.length:Int)) else (mG d a e f c b g)
def oO (a b:Int):Option ((Int × Int) ⊕ Int):=
 some (.inl (b,wr (a+1)))
def kI (c:((List dM) × Bool)) (d:List bS) (e b a:Int) (f:Bool):Option ((Int × Int) ⊕ Int):=
 if f then (ob (ix d a) fun g=>
 ob (ix c.1 e) fun h=>
 ob (qD g h.Next) fun i=>
 if i then (oO a a) else (oO a b)) else (some (.inr b))
def iS (d:((List dM) × Bool)) (a:List bS) (e b c:Int):Option ((Int × Int) ⊕ Int):=
 if (decide (c < (a.length:Int))) then (kI d a e b c (decide (b < 0))) else (kI d a e b c false)
def lG (f:Int) (a:((List dM) × Bool)) (b:List bS) (d:List bK) (e:List Edge) (c:Int):Option ((List bS × List bK × List Edge × Int) ⊕ (List bS × List bK × List Edge)):=
 if (decide (c < (a.1.length:Int))) then (ob (loop (fun (s:(Int × Int))=>iS a b c s.1 s.2) ((-1),0)) fun r=>mH f a b d e c r) else (some (.inr (b,d,e)))
def gO (g:cP) (a:List bS) (d:List bK) (e:List Edge) (b:Int):Option ((List bS × List bK × List Edge × Int) ⊕ ((List bS × List bK × List Edge) ⊕ (eP × Bool))):=
 if (decide (b < (a.length:Int))) then (ob (ix a b) fun h=>
 ob (rW g.Definitions h) fun f=>
 if (!f.2) then (some (.inr (.inr (⟨0,0,[],[]⟩,false)))) else (ob (loop (fun (s:(List bS × List bK × List Edge × Int))=>lG b f s.1 s.2.1 s.2.2.1 s.2.2.2) (a,d,e,0)) fun r=>iP b r.1 r.2.1 r.2.2)) else (some (.inr (.inl (a,d,e))))
def lY (b:cP) (k:Int):Option (eP × Bool):=
 ob (aEk b) fun d=>
 ob (ix d k) fun e=>
 ob (loop (fun (s:(List bS × List bK × List Edge × Int))=>gO b s.1 s.2.1 s.2.2.1 s.2.2.2) (([e]:List bS),([]:List bK),([]:List Edge),0)) fun r=>match r with|.inl r=>iB r.1 r.2.1 r.2.2|.inr r=>some r
def aBw (a:cP) (b:List eP):Option (iY × Bool):=
 some (⟨b,a.Meetings,a.Allowed,a.Hidden⟩,true)
def yJ (c:cP) (d:List eP) (b:Int):Option ((List eP × Int) ⊕ (List eP ⊕ (iY × Bool))):=
 if (decide (b < (c.Components.length:Int))) then (ob (lY c b) fun a=>
 if (!a.2) then (some (.inr (.inr (⟨[],[],[],[]⟩,false)))) else (ob (apd d ([⟨a.1.N,a.1.I,a.1.L,a.1.E⟩]:List eP)) fun e=>
 some (.inl (e,wr (b+1))))) else (some (.inr (.inl d)))
def aMn (b:cP):Option (iY × Bool):=
 ob (aHx b) fun c=>
 ob (loop (fun (s:(List eP × Int))=>yJ b s.1 s.2) (([]:List eP),0)) fun r=>match r with|.inl r=>aBw c r|.inr r=>some r
def aCJ (a:cP):Option (iY × Int):=
 ob (aIi a) fun c=>
 if (!c) then (some (⟨[],[],[],[]⟩,1)) else (ob (aMn a) fun b=>
 if (!b.2) then (some (⟨[],[],[],[]⟩,5)) else (some (b.1,0)))
def aJO (a:bP):Option bP:=
 some a
def aDu (a:List bP):Option (List bP):=
 some a
def aAH (a:(List bP)) (c:List bP) (b:Int):Option ((List bP × Int) ⊕ (List bP)):=
 if (decide (b < (a.length:Int))) then (ob (ix a b) fun f=>
 ob (aJO f) fun e=>
 ob (ix c b) fun h=>
 ob (st c b (⟨e.Kind,e.Value⟩:bP)) fun g=>
 some (.inl (g,wr (b+1)))) else (some (.inr c))
def aIj (a:(List bP)):Option (List bP):=
 ob (mkz (a.length:Int) (⟨0,0⟩:bP)) fun c=>
 ob (loop (fun (s:(List bP × Int))=>aAH a s.1 s.2) (c,0)) fun r=>aDu r
def aCa (a:List (List bP)):Option (List (List bP)):=
 some a
def wP (a:(List (List bP))) (c:List (List bP)) (b:Int):Option ((List (List bP) × Int) ⊕ (List (List bP))):=
 if (decide (b < (a.length:Int))) then (ob (ix a b) fun e=>
 ob (aIj e) fun f=>
 ob (ix c b) fun h=>
 ob (st c b f) fun g=>
 some (.inl (g,wr (b+1)))) else (some (.inr c))
def aGw (a:(List (List bP))):Option (List (List bP)):=
 ob (mkz (a.length:Int) ([]:(List bP))) fun c=>
 ob (loop (fun (s:(List (List bP) × Int))=>wP a s.1 s.2) (c,0)) fun r=>aCa r
def aJP (a:Part):Option Part:=
 ob (aGw a.Arguments) fun c=>
 some ⟨a.Kind,a.Number,a.Name,c⟩
def aDv (a:List Part):Option (List Part):=
 some a
def aAI (a:(List Part)) (c:List Part) (b:Int):Option ((List Part × Int) ⊕ (List Part)):=
 if (decide (b < (a.length:Int))) then (ob (ix a b) fun e=>
 ob (aJP e) fun f=>
 ob (ix c b) fun h=>
 ob (st c b (f:Part)) fun g=>
 some (.inl (g,wr (b+1)))) else (some (.inr c))
def aIk (a:(List Part)):Option (List Part):=
 ob (mkz (a.length:Int) (⟨0,0,[],[]⟩:Part)) fun c=>
 ob (loop (fun (s:(List Part × Int))=>aAI a s.1 s.2) (c,0)) fun r=>aDv r
def aAJ (a:Definition):Option Definition:=
 ob (aIk a.Body) fun c=>
 some ⟨a.Name,a.Parameters,c⟩
def rJ (a:List Definition):Option (List Definition):=
 some a
def nM (a:(List Definition)) (c:List Definition) (b:Int):Option ((List Definition × Int) ⊕ (List Definition)):=
 if (decide (b < (a.length:Int))) then (ob (ix a b) fun e=>
 ob (aAJ e) fun f=>
 ob (ix c b) fun h=>
 ob (st c b (f:Definition)) fun g=>
 some (.inl (g,wr (b+1)))) else (some (.inr c))
def xT (a:(List Definition)):Option (List Definition):=
 ob (mkz (a.length:Int) (⟨[],0,[]⟩:Definition)) fun c=>
 ob (loop (fun (s:(List Definition × Int))=>nM a s.1 s.2) (c,0)) fun r=>rJ r
def aCb (a:List Int):Option (List Int):=
 some a
def wQ (a:(List Int)) (c:List Int) (b:Int):Option ((List Int × Int) ⊕ (List Int)):=
 if (decide (b < (a.length:Int))) then (ob (ix a b) fun e=>
 ob (ix c b) fun g=>
 ob (st c b (e:Int)) fun f=>
 some (.inl (f,wr (b+1)))) else (some (.inr c))
def aGx (a:(List Int)):Option (List Int):=
 ob (mkz (a.length:Int) (0:Int)) fun c=>
 ob (loop (fun (s:(List Int × Int))=>wQ a s.1 s.2) (c,0)) fun r=>aCb r
def aCc (a:bL):Option bL:=
 ob (aGx a.Values) fun c=>
 some ⟨a.Definition,c⟩
def sX (a:List bL):Option (List bL):=
 some a
def oP (a:(List bL)) (c:List bL) (b:Int):Option ((List bL × Int) ⊕ (List bL)):=
 if (decide (b < (a.length:Int))) then (ob (ix a b) fun e=>
 ob (aCc e) fun f=>
 ob (ix c b) fun h=>
 ob (st c b (f:bL)) fun g=>
 some (.inl (g,wr (b+1)))) else (some (.inr c))
def aAK (a:(List bL)):Option (List bL):=
 ob (mkz (a.length:Int) (⟨0,[]⟩:bL)) fun c=>
 ob (loop (fun (s:(List bL × Int))=>oP a s.1 s.2) (c,0)) fun r=>sX r
def aFd (a:bV):Option bV:=
 some a
def xU (a:List bV):Option (List bV):=
 some a
def rX (a:(List bV)) (c:List bV) (b:Int):Option ((List bV × Int) ⊕ (List bV)):=
 if (decide (b < (a.length:Int))) then (ob (ix a b) fun f=>
 ob (aFd f) fun d=>
 ob (ix c b) fun h=>
 ob (st c b (⟨d.Left,d.Right,d.Result⟩:bV)) fun g=>
 some (.inl (g,wr (b+1)))) else (some (.inr c))
def aDw (a:(List bV)):Option (List bV):=
 ob (mkz (a.length:Int) (⟨[],[],[]⟩:bV)) fun c=>
 ob (loop (fun (s:(List bV × Int))=>rX a s.1 s.2) (c,0)) fun r=>xU r
def aAL (a:List bK):Option (List bK):=
 some a
def aAM (a:(List bK)) (c:List bK) (b:Int):Option ((List bK × Int) ⊕ (List bK)):=
 if (decide (b < (a.length:Int))) then (ob (ix a b) fun e=>
 ob (ix c b) fun g=>
 ob (st c b (e:bK)) fun f=>
 some (.inl (f,wr (b+1)))) else (some (.inr c))
def zO (a:(List bK)):Option (List bK):=
 ob (mkz (a.length:Int) ([]:bK)) fun c=>
 ob (loop (fun (s:(List bK × Int))=>aAM a s.1 s.2) (c,0)) fun r=>aAL r
def rK (a:cP):Option cP:=
 ob (xT a.Definitions) fun c=>
 ob (aAK a.Components) fun d=>
 ob (aDw a.Meetings) fun e=>
 ob (zO a.Allowed) fun f=>
 ob (zO a.Hidden) fun g=>
 some ⟨c,d,e,f,g⟩
def sY (d:Definition):Option Bool:=
 ob (jM d.Parameters 0 3) fun b=>
 some (!b)
def eE:Option Int:=
 some (-1)
def dJ (b:(List Definition)) (a:Int):Option (Int ⊕ (Unit ⊕ Int)):=
 if (decide (a < (b.length:Int))) then (ob (ix b a) fun c=>
 ob (sY c) fun d=>
 if d then (some (.inr (.inr a))) else (some (.inl (wr (a+1))))) else (some (.inr (.inl ())))
def eN (b:(List Definition)):Option Int:=
 ob (loop (fun (s:Int)=>dJ b s) 0) fun r=>match r with|.inl r=>eE|.inr r=>some r
def dK (a:(List Definition)):Option Bool:=
 ob (eN a) fun b=>
 some (decide (0<=b))
def tT (a:(List Definition)):Option Bool:=
 ob (dK a) fun b=>
 some (!b)
def oQ (d:Definition) (p:bK):Option Bool:=
 some (d.Name == p)
def eA:Option Int:=
 some (-1)
def dD (b:(List Definition)) (c:bK) (a:Int):Option (Int ⊕ (Unit ⊕ Int)):=
 if (decide (a < (b.length:Int))) then (ob (ix b a) fun d=>
 ob (oQ d c) fun e=>
 if e then (some (.inr (.inr a))) else (some (.inl (wr (a+1))))) else (some (.inr (.inl ())))
def eF (b:(List Definition)) (c:bK):Option Int:=
 ob (loop (fun (s:Int)=>dD b c s) 0) fun r=>match r with|.inl r=>eA|.inr r=>some r
def oR (a:(List Definition)) (b:bK):Option Int:=
 ob (eF a b) fun c=>
 some c
def qJ (p:Part) (b:Bool):Option Int:=
 if b then (some 1) else (if (p.Kind == 2) then (some 2) else (some 0))
def wR (p:Part):Option Int:=
 if (p.Kind == 1) then (qJ p (p.Kind == 1)) else (if (p.Kind == 3) then (qJ p (p.Kind == 3)) else (qJ p (p.Kind == 4)))
def kN (a:Int):Option Int:=
 some a
def iM (d:Definition) (a c:Int):Option ((Int × Int) ⊕ (Int ⊕ Int)):=
 if (decide (0 < c)) then (if (decide ((d.Body.length:Int)<=a)) then (some (.inr (.inr (-1)))) else (ob (ix d.Body a) fun e=>
 ob (wR e) fun f=>
 some (.inl (wr (a+1),wr (c+(wr (f - 1))))))) else (some (.inr (.inl a)))
def lH (d:Definition) (c:Int):Option Int:=
 ob (loop (fun (s:(Int × Int))=>iM d s.1 s.2) (c,1)) fun r=>match r with|.inl r=>kN r|.inr r=>some r
def iD (a:Int) (b:List fD):Option (Int × (List fD)):=
 some (a,b)
def gJ (f:Int->fD->(List fD)->Definition->Definition->Option (Int × (List fD))) (a:Definition) (g:Part) (h i b c:Int) (d:List fD):Option ((Int × Int × List fD) ⊕ (Int × List fD)):=
 if (decide (c < i)) then (ob (f b ⟨h,g.Kind == 1⟩ d a a) fun e=>
 some (.inl (e.1,wr (c+1),e.2))) else (some (.inr (b,d)))
def eQ (c:Int->fD->(List fD)->Definition->Definition->Option (Int × (List fD))) (d:Int) (e:Definition) (f:List fD) (a:Part) (g:Int):Option (Int × (List fD)):=
 ob (wR a) fun h=>
 ob (loop (fun (s:(Int × Int × List fD))=>gJ c e a g h s.1 s.2.1 s.2.2) (wr (d+1),0,f)) fun r=>iD r.1 r.2
def fM (d:Int->fD->(List fD)->Definition->Definition->Option (Int × (List fD))) (a:Int) (p:fD) (e:(List fD)) (h f:Definition):Option (Int × (List fD)):=
 ob (ix e a) fun i=>
 ob (st e a (⟨p.scope,p.behind⟩:fD)) fun g=>
 ob (ix h.Body a) fun c=>
 if (c.Kind == 4) then (eQ d a f g c (wr (p.scope+1))) else (eQ d a f g c p.scope)
def dZ:Nat->Int->fD->(List fD)->Definition->Definition->Option (Int × (List fD))
 |0=>fun _ _ _ _ _=>none
 |n+1=>fM (dZ n)
def rL (a:Int) (p:fD) (c:(List fD)) (d e:Definition):Option (Int × (List fD)):=
 dZ 100000 a p c d e
def mN (d:Definition):Option (List fD):=
 ob (mkz (d.Body.length:Int) (⟨0,false⟩:fD)) fun b=>
 ob (rL 0 ⟨d.Parameters,false⟩ b d d) fun c=>
 some c.2
def aCd (i many:Int):Option Bool:=
 ob (jM i 0 (wr (many - 1))) fun b=>
 some b
def fH (a:Bool):Option Bool:=
 some a
def nD (p:Part) (c b:Bool):Option Bool:=
 ob (jM p.Kind 0 5) fun d=>
 if d then (if c then (if (p.Kind == 1) then (if b then (fH true) else (fH ((p.Arguments.length:Int) == 0))) else (if (p.Name == ([]:bK)) then (if b then (fH true) else (fH ((p.Arguments.length:Int) == 0))) else (fH false))) else (if (p.Number == 0) then (if (p.Kind == 1) then (if b then (fH true) else (fH ((p.Arguments.length:Int) == 0))) else (if (p.Name == ([]:bK)) then (if b then (fH true) else (fH ((p.Arguments.length:Int) == 0))) else (fH false))) else (fH false))) else (fH false)
def qK (p:Part) (b:Bool):Option Bool:=
 if (p.Kind == 1) then (nD p b true) else (if (p.Kind == 3) then (nD p b true) else (nD p b (p.Kind == 5)))
def wS (p:Part):Option Bool:=
 if (p.Kind == 4) then (qK p true) else (qK p (p.Kind == 5))
def mJ (a:Bool):Option Bool:=
 some a
def tU (p:Part) (b:(List Definition)):Option Bool:=
 if (p.Kind == 1) then (if ((p.Arguments.length:Int) == 0) then (mJ true) else (if (!(p.Name == ([116,97,117]:bK))) then (mJ (decide ((p.Arguments.length:Int)<=2))) else (mJ false))) else (if (p.Kind == 3) then (some ((p.Arguments.length:Int) == 1)) else (if (p.Kind == 5) then (ob (ix b p.Number) fun c=>
 some ((p.Arguments.length:Int) == c.Parameters)) else (some true)))
def aAN (t:bP) (b:Int):Option Bool:=
 if (t.Kind == 0) then (ob (aBp t.Value) fun c=>
 some c) else (if (t.Kind == 1) then (ob (jM t.Value 0 (wr (b - 1))) fun d=>
 some d) else (if (t.Kind == 2) then (ob (jM t.Value 0 8) fun e=>
 some e) else (if (t.Kind == 3) then (some (t.Value == 0)) else (some false))))
def rY (t:bP):Option Int:=
 if (t.Kind == 2) then (some 2) else (if (t.Kind == 3) then (some 1) else (some 0))
def xV (a:Int):Option Bool:=
 some (a == 0)
def rZ (a b:Int) (c:bP) (d:Bool):Option ((Int × Int) ⊕ (Int ⊕ Bool)):=
 if d then (some (.inr (.inr false))) else (ob (rY c) fun e=>
 some (.inl (wr (a+(wr (e - 1))),wr (b+1))))
def sA (e:(List bP)) (f a b:Int):Option ((Int × Int) ⊕ (Int ⊕ Bool)):=
 if (decide (b < (e.length:Int))) then (ob (ix e b) fun c=>
 if (a == 0) then (rZ a b c true) else (ob (aAN c f) fun g=>
 rZ a b c (!g))) else (some (.inr (.inl a)))
def oE (e:(List bP)) (c:Int) (d:Bool):Option Bool:=
 if d then (some false) else (ob (loop (fun (s:(Int × Int))=>sA e c s.1 s.2) (1,0)) fun r=>match r with|.inl r=>xV r|.inr r=>some r)
def aAO (e:(List bP)) (b c:Int):Option Bool:=
 ob (jM b 0 29) fun d=>
 if (!d) then (oE e b true) else (ob (jM c 1 60) fun f=>
 if (!f) then (oE e b true) else (ob (jM (e.length:Int) 1 c) fun g=>
 oE e b (!g)))
def vI (e:(List bP)) (p:fD):Option Bool:=
 ob (aAO e p.scope 15) fun c=>
 some (!c)
def fB:Option Int:=
 some (-1)
def eB (b:(List (List bP))) (c:fD) (a:Int):Option (Int ⊕ (Unit ⊕ Int)):=
 if (decide (a < (b.length:Int))) then (ob (ix b a) fun d=>
 ob (vI d c) fun e=>
 if e then (some (.inr (.inr a))) else (some (.inl (wr (a+1))))) else (some (.inr (.inl ())))
def fN (b:(List (List bP))) (c:fD):Option Int:=
 ob (loop (fun (s:Int)=>eB b c s) 0) fun r=>match r with|.inl r=>fB|.inr r=>some r
def eC (a:(List (List bP))) (b:fD):Option Bool:=
 ob (fN a b) fun c=>
 some (decide (0<=c))
def nE (p:Part) (b:fD) (c:Bool):Option Int:=
 if c then (some 7) else (ob (eC p.Arguments b) fun d=>
 if d then (some 8) else (some 0))
def nF (p:Part) (b:fD) (c:Bool):Option Int:=
 if c then (some 6) else (if (p.Kind == 4) then (nE p b (decide (6<=b.scope))) else (nE p b false))
def iZ (p:Part) (c:(List Definition)) (b:fD) (d:Bool):Option Int:=
 if d then (some 4) else (ob (tU p c) fun e=>
 if (!e) then (some 5) else (if (p.Kind == 5) then (nF p b (!b.behind)) else (nF p b false)))
def lI (p:Part) (b:(List Definition)) (c:fD) (d:Bool):Option Int:=
 if d then (some 3) else (if (p.Kind == 4) then (ob (jM p.Number 1 7) fun e=>
 if (!e) then (iZ p b c true) else (if (p.Kind == 5) then (ob (aCd p.Number (b.length:Int)) fun f=>
 iZ p b c (!f)) else (iZ p b c false))) else (if (p.Kind == 5) then (ob (aCd p.Number (b.length:Int)) fun g=>
 iZ p b c (!g)) else (iZ p b c false)))
def sJ (p:Part) (b:(List Definition)) (c:fD):Option Int:=
 ob (wS p) fun d=>
 if (!d) then (some 2) else (if (p.Kind == 1) then (if (!(p.Name == ([116,97,117]:bK))) then (ob (pD p.Name) fun e=>
 lI p b c (!e)) else (lI p b c false)) else (lI p b c false))
def aAP:Option (Int × Int):=
 some (0,0)
def qL (e:(List Definition)) (d:Definition) (f:(List fD)) (a:Int):Option (Int ⊕ (Unit ⊕ (Int × Int))):=
 if (decide (a < (d.Body.length:Int))) then (ob (ix d.Body a) fun g=>
 ob (ix f a) fun h=>
 ob (sJ g e h) fun c=>
 if (c != 0) then (some (.inr (.inr (a,c)))) else (some (.inl (wr (a+1))))) else (some (.inr (.inl ())))
def tV (c:(List Definition)) (d:Definition) (e:Bool):Option (Int × Int):=
 if e then (some (0,1)) else (ob (mN d) fun f=>
 ob (loop (fun (s:Int)=>qL c d f s) 0) fun r=>match r with|.inl r=>aAP|.inr r=>some r)
def zQ (b:(List Definition)) (d:Definition):Option (Int × Int):=
 ob (jM (d.Body.length:Int) 1 20) fun c=>
 if (!c) then (tV b d true) else (ob (lH d 0) fun e=>
 tV b d (e != (d.Body.length:Int)))
def nY:Option Bool:=
 some true
def kX (a:(List Definition)) (b:Int) (c:Definition) (d:Bool):Option (Int ⊕ (Unit ⊕ Bool)):=
 if d then (some (.inr (.inr false))) else (ob (zQ a c) fun e=>
 if (e.2 != 0) then (some (.inr (.inr false))) else (some (.inl (wr (b+1)))))
def kY (a:(List Definition)) (b:Int):Option (Int ⊕ (Unit ⊕ Bool)):=
 if (decide (b < (a.length:Int))) then (ob (ix a b) fun c=>
 ob (aFB c.Name) fun d=>
 if (!d) then (kX a b c true) else (ob (slc a 0 b) fun e=>
 ob (oR e c.Name) fun f=>
 kX a b c (decide (0<=f)))) else (some (.inr (.inl ())))
def kZ (b:(List Definition)) (c:Bool):Option Bool:=
 if c then (some false) else (ob (loop (fun (s:Int)=>kY b s) 0) fun r=>match r with|.inl r=>nY|.inr r=>some r)
def jS (a:(List Definition)):Option Bool:=
 ob (jM (a.length:Int) 1 4) fun b=>
 if (!b) then (kZ a true) else (ob (tT a) fun c=>
 kZ a (!c))
def nG (a:Bool):Option Bool:=
 some a
def wT (b:(List Definition)) (c:bL):Option Bool:=
 ob (aCd c.Definition (b.length:Int)) fun d=>
 if d then (ob (ix b c.Definition) fun e=>
 if ((c.Values.length:Int) == e.Parameters) then (ob (yS c.Values) fun f=>
 nG f) else (nG false)) else (nG false)
def mO (a:bK):Option Bool:=
 some (!(a == a))
def lA (a y:bK):Option Int:=
 ob (mO a) fun d=>
 ob (mO y) fun c=>
 if d then (if c then (some 0) else (some (-1))) else (if c then (some 1) else (if (lQ a y) then (some (-1)) else (if (!(lQ a y||a == y)) then (some 1) else (some 0))))
def gX (a b:(List bK)):Option Int:=
 if (decide ((a.length:Int) < (b.length:Int))) then (some (-1)) else (some 0)
def cZ (b c:(List bK)) (a:Int):Option (Int ⊕ (Unit ⊕ Int)):=
 if (decide (a < (b.length:Int))) then (ob (ix b a) fun e=>
 if (decide ((c.length:Int)<=a)) then (some (.inr (.inr 1))) else (ob (ix c a) fun f=>
 ob (lA e f) fun d=>
 if (d != 0) then (some (.inr (.inr d))) else (some (.inl (wr (a+1)))))) else (some (.inr (.inl ())))
def iL (b c:(List bK)):Option Int:=
 ob (loop (fun (s:Int)=>cZ b c s) 0) fun r=>match r with|.inl r=>gX b c|.inr r=>some r
def oS (a b:bV):Option Int:=
 ob (iL ([a.Left,a.Right]:List bK) ([b.Left,b.Right]:List bK)) fun e=>
 some e
def nN (a:Bool):Option Bool:=
 some a
def xW (o p:bV):Option Bool:=
 if (o.Left == p.Result) then (nN true) else (nN (o.Right == p.Result))
def eW:Option Int:=
 some (-1)
def dX (b:(List bV)) (c:bV) (a:Int):Option (Int ⊕ (Unit ⊕ Int)):=
 if (decide (a < (b.length:Int))) then (ob (ix b a) fun d=>
 ob (xW d c) fun e=>
 if e then (some (.inr (.inr a))) else (some (.inl (wr (a+1))))) else (some (.inr (.inl ())))
def fG (b:(List bV)) (c:bV):Option Int:=
 ob (loop (fun (s:Int)=>dX b c s) 0) fun r=>match r with|.inl r=>eW|.inr r=>some r
def dY (a:(List bV)) (b:bV):Option Bool:=
 ob (fG a b) fun c=>
 some (decide (0<=c))
def xX (a:(List bV)):Option Bool:=
 some (decide ((a.length:Int)<=6))
def iU (a:(List bV)) (b:Int) (c:bV) (d:Bool):Option (Int ⊕ (Unit ⊕ Bool)):=
 if d then (some (.inr (.inr false))) else (ob (dY a c) fun e=>
 if e then (some (.inr (.inr false))) else (some (.inl (wr (b+1)))))
def kR (c:(List bV)) (b:Int):Option (Int ⊕ (Unit ⊕ Bool)):=
 if (decide (b < (c.length:Int))) then (ob (ix c b) fun a=>
 ob (pD a.Left) fun d=>
 if (!d) then (iU c b a true) else (ob (pD a.Right) fun e=>
 if (!e) then (iU c b a true) else (ob (pD a.Result) fun f=>
 if (!f) then (iU c b a true) else (if (!(lQ a.Left a.Right||a.Left == a.Right)) then (iU c b a true) else (if (decide (0 < b)) then (ob (ix c (wr (b - 1))) fun g=>
 ob (oS g a) fun h=>
 iU c b a (decide (0<=h))) else (iU c b a false)))))) else (some (.inr (.inl ())))
def rM (b:(List bV)):Option Bool:=
 ob (loop (fun (s:Int)=>kR b s) 0) fun r=>match r with|.inl r=>xX b|.inr r=>some r
def aAQ (a:(List bK)):Option Bool:=
 some (decide ((a.length:Int)<=12))
def vJ (a:Int) (b:Bool):Option (Int ⊕ (Unit ⊕ Bool)):=
 if b then (some (.inr (.inr false))) else (some (.inl (wr (a+1))))
def aAR (b:(List bK)) (a:Int):Option (Int ⊕ (Unit ⊕ Bool)):=
 if (decide (a < (b.length:Int))) then (ob (ix b a) fun c=>
 ob (pD c) fun e=>
 if (!e) then (vJ a true) else (if (decide (0 < a)) then (ob (ix b (wr (a - 1))) fun d=>
 vJ a (lQ c d||c == d)) else (vJ a false))) else (some (.inr (.inl ())))
def aDL (b:(List bK)):Option Bool:=
 ob (loop (fun (s:Int)=>aAR b s) 0) fun r=>match r with|.inl r=>aAQ b|.inr r=>some r
def vK (c:bL) (p:cP):Option Bool:=
 ob (wT p.Definitions c) fun d=>
 some (!d)
def eM:Option Int:=
 some (-1)
def dO (b:(List bL)) (c:cP) (a:Int):Option (Int ⊕ (Unit ⊕ Int)):=
 if (decide (a < (b.length:Int))) then (ob (ix b a) fun d=>
 ob (vK d c) fun e=>
 if e then (some (.inr (.inr a))) else (some (.inl (wr (a+1))))) else (some (.inr (.inl ())))
def eU (b:(List bL)) (c:cP):Option Int:=
 ob (loop (fun (s:Int)=>dO b c s) 0) fun r=>match r with|.inl r=>eM|.inr r=>some r
def dP (a:(List bL)) (b:cP):Option Bool:=
 ob (eU a b) fun c=>
 some (decide (0<=c))
def qM (a:cP) (b:Bool):Option Int:=
 if b then (some 2) else (ob (rM a.Meetings) fun c=>
 if (!c) then (some 3) else (ob (aDL a.Allowed) fun d=>
 if (!d) then (some 4) else (ob (aDL a.Hidden) fun e=>
 if (!e) then (some 5) else (some 0))))
def wU (a:cP):Option Int:=
 ob (jS a.Definitions) fun b=>
 if (!b) then (some 1) else (ob (jM (a.Components.length:Int) 1 3) fun c=>
 if (!c) then (qM a true) else (ob (dP a.Components a) fun d=>
 qM a d))
def sK (a:cP):Option Bool:=
 ob (wU a) fun b=>
 some (b == 0)
def xY (a b:bK):Option Int:=
 if (a == b) then (some 0) else (if (a == ([116,97,117]:bK)) then (some (-1)) else (if (b == ([116,97,117]:bK)) then (some 1) else (ob (aOO a b) fun e=>
 some e)))
def nO (a:Int):Option Bool:=
 some (a != a)
def iT (a y:Int):Option Int:=
 ob (nO a) fun d=>
 ob (nO y) fun c=>
 if d then (if c then (some 0) else (some (-1))) else (if c then (some 1) else (if (decide (a < y)) then (some (-1)) else (if (decide (y < a)) then (some 1) else (some 0))))
def qN:Option Int:=
 some 0
def jA (b:(List Int)) (a:Int):Option (Int ⊕ (Unit ⊕ Int)):=
 if (decide (a < (b.length:Int))) then (ob (ix b a) fun c=>
 if (c != 0) then (some (.inr (.inr c))) else (some (.inl (wr (a+1))))) else (some (.inr (.inl ())))
def wV (b:(List Int)):Option Int:=
 ob (loop (fun (s:Int)=>jA b s) 0) fun r=>match r with|.inl r=>qN|.inr r=>some r
def tW (a b:Edge):Option Int:=
 ob (iT a.F b.F) fun e=>
 ob (iT a.B b.B) fun f=>
 ob (iT a.To b.To) fun g=>
 ob (wV ([e,f,g]:List Int)) fun h=>
 some h
def fW (a:(List Edge)):Option (List Edge):=
 some a
def fX (a:Int):Option (Int ⊕ (Unit ⊕ (List Edge))):=
 some (.inl (wr (a+1)))
def eX (a:List Edge) (b:Int):Option (Int ⊕ (Unit ⊕ (List Edge))):=
 ob (slc a b (a.length:Int)) fun c=>
 ob (ovw a b (List.replicate c.length (⟨0,0,0⟩:Edge))) fun d=>
 ob (slc d 0 b) fun e=>
 some (.inr (.inr e))
def eY (a:Int) (b:List Edge) (c:Int):Option ((List Edge × Int × Int) ⊕ (List Edge × Int)):=
 some (.inl (b,c,wr (a+1)))
def eZ (f:Int) (e b:List Edge) (c a:Int):Option ((List Edge × Int × Int) ⊕ (List Edge × Int)):=
 if (decide (a < (e.length:Int))) then (ob (ix e a) fun i=>
 ob (ix b (f+a)) fun d=>
 ob (ix e (wr (a - 1))) fun j=>
 ob (ix b (f+(wr (a - 1)))) fun g=>
 if (!decide ((d:Edge)=g)) then (ob (ix b c) fun k=>
 ob (st b c (⟨d.F,d.B,d.To⟩:Edge)) fun h=>
 eY a h (wr (c+1))) else (eY a b c)) else (some (.inr (b,c)))
def fA (b:(List Edge)) (a:Int):Option (Int ⊕ (Unit ⊕ (List Edge))):=
 if (decide (a < (b.length:Int))) then (ob (ix b a) fun d=>
 ob (ix b (wr (a - 1))) fun e=>
 if (decide ((d:Edge)=e)) then (ob (slc b a (b.length:Int)) fun f=>
 ob (loop (fun (s:(List Edge × Int × Int))=>eZ a f s.1 s.2.1 s.2.2) (b,a,1)) fun r=>eX r.1 r.2) else (fX a)) else (some (.inr (.inl ())))
def fJ (a:(List Edge)):Option (List Edge):=
 if (decide ((a.length:Int) < 2)) then (some a) else (ob (loop (fun (s:Int)=>fA a s) 1) fun r=>match r with|.inl r=>fW a|.inr r=>some r)
def gY (a:(List bK)):Option (List bK):=
 some a
def gZ (a:Int):Option (Int ⊕ (Unit ⊕ (List bK))):=
 some (.inl (wr (a+1)))
def fR (a:List bK) (b:Int):Option (Int ⊕ (Unit ⊕ (List bK))):=
 ob (slc a b (a.length:Int)) fun c=>
 ob (ovw a b (List.replicate c.length ([]:bK))) fun d=>
 ob (slc d 0 b) fun e=>
 some (.inr (.inr e))
def fT (a:Int) (b:List bK) (c:Int):Option ((List bK × Int × Int) ⊕ (List bK × Int)):=
 some (.inl (b,c,wr (a+1)))
def fU (e:Int) (d b:List bK) (c a:Int):Option ((List bK × Int × Int) ⊕ (List bK × Int)):=
 if (decide (a < (d.length:Int))) then (ob (ix d a) fun i=>
 ob (ix b (e+a)) fun f=>
 ob (ix d (wr (a - 1))) fun j=>
 ob (ix b (e+(wr (a - 1)))) fun g=>
 if (!(f == g)) then (ob (ix b c) fun k=>
 ob (st b c (f:bK)) fun h=>
 fT a h (wr (c+1))) else (fT a b c)) else (some (.inr (b,c)))
def fV (b:(List bK)) (a:Int):Option (Int ⊕ (Unit ⊕ (List bK))):=
 if (decide (a < (b.length:Int))) then (ob (ix b a) fun d=>
 ob (ix b (wr (a - 1))) fun e=>
 if (d == e) then (ob (slc b a (b.length:Int)) fun f=>
 ob (loop (fun (s:(List bK × Int × Int))=>fU a f s.1 s.2.1 s.2.2) (b,a,1)) fun r=>fR r.1 r.2) else (gZ a)) else (some (.inr (.inl ())))
def gG (a:(List bK)):Option (List bK):=
 if (decide ((a.length:Int) < 2)) then (some a) else (ob (loop (fun (s:Int)=>fV a s) 1) fun r=>match r with|.inl r=>gY a|.inr r=>some r)
def iG:Option Int:=
 some (-1)
def gD (b:(List bK)) (c:bK) (a:Int):Option (Int ⊕ (Unit ⊕ Int)):=
 if (decide (a < (b.length:Int))) then (ob (ix b a) fun d=>
 if (c == d) then (some (.inr (.inr a))) else (some (.inl (wr (a+1))))) else (some (.inr (.inl ())))
def gT (b:(List bK)) (c:bK):Option Int:=
 ob (loop (fun (s:Int)=>gD b c s) 0) fun r=>match r with|.inl r=>iG|.inr r=>some r
def aHB (a b:Int) (c:(List bK)) (d:List Edge):Option eP:=
 ob (aDX d) fun e=>
 ob (fJ e) fun f=>
 some ⟨a,b,c,f⟩
def aHC (c:(List vQ)) (e:(List bK)) (d:List Edge) (a:Int):Option ((List Edge × Int) ⊕ (List Edge)):=
 if (decide (a < (c.length:Int))) then (ob (ix c a) fun b=>
 ob (gT e b.label) fun f=>
 ob (apd d ([⟨b.from_,f,b.to_⟩]:List Edge)) fun g=>
 some (.inl (g,wr (a+1)))) else (some (.inr d))
def i_lts (b c:Int) (d:(List bK)) (e:(List vQ)):Option eP:=
 ob (apd ([([116,97,117]:bK)]:List bK) d) fun f=>
 ob (aFw f) fun g=>
 ob (gG g) fun a=>
 ob (loop (fun (s:(List Edge × Int))=>aHC e a s.1 s.2) ([],0)) fun r=>aHB b c a r
def aCe (a:List bK):Option (List bK):=
 some a
def wW (b:(List vQ)) (c:List bK) (a:Int):Option ((List bK × Int) ⊕ (List bK)):=
 if (decide (a < (b.length:Int))) then (ob (ix b a) fun d=>
 ob (apd c ([d.label]:List bK)) fun e=>
 some (.inl (e,wr (a+1)))) else (some (.inr c))
def aBx (a:(List vQ)):Option (List bK):=
 ob (loop (fun (s:(List bK × Int))=>wW a s.1 s.2) ([],0)) fun r=>aCe r
def pF (t:eP) (k:Int):Option Bool:=
 ob (jM k 0 (wr (t.N - 1))) fun c=>
 some c
def aCf:Option Bool:=
 some true
def nB (a:Int) (b:Bool):Option (Int ⊕ (Unit ⊕ Bool)):=
 if b then (some (.inr (.inr false))) else (some (.inl (wr (a+1))))
def wX (t:eP) (a:Int):Option (Int ⊕ (Unit ⊕ Bool)):=
 if (decide (a < (t.E.length:Int))) then (ob (ix t.E a) fun c=>
 ob (pF t c.F) fun d=>
 if (!d) then (nB a true) else (ob (pF t c.To) fun e=>
 if (!e) then (nB a true) else (ob (aCd c.B (t.L.length:Int)) fun f=>
 if (!f) then (nB a true) else (if (decide (0 < a)) then (ob (ix t.E (wr (a - 1))) fun g=>
 ob (tW g c) fun h=>
 nB a (decide (0<=h))) else (nB a false))))) else (some (.inr (.inl ())))
def wY (t:eP):Option Bool:=
 ob (loop (fun (s:Int)=>wX t s) 0) fun r=>match r with|.inl r=>aCf|.inr r=>some r
def pG (a:Int) (b:Bool):Option (Int ⊕ (Unit ⊕ Bool)):=
 if b then (some (.inr (.inr false))) else (some (.inl (wr (a+1))))
def wZ (t:eP) (a:Int):Option (Int ⊕ (Unit ⊕ Bool)):=
 if (decide (a < (t.L.length:Int))) then (ob (ix t.L a) fun b=>
 ob (aFC b) fun e=>
 if (!e) then (pG a true) else (if ((b == ([116,97,117]:bK)) != (a == 0)) then (pG a true) else (if (decide (1 < a)) then (ob (ix t.L (wr (a - 1))) fun d=>
 pG a (lQ b d||b == d)) else (pG a false)))) else (some (.inr (.inl ())))
def pH (t:eP) (c:Bool):Option Bool:=
 if c then (some false) else (ob (loop (fun (s:Int)=>wZ t s) 0) fun r=>match r with|.inl r=>wY t|.inr r=>some r)
def aEq (t:eP):Option Bool:=
 ob (jM t.N 1 40) fun b=>
 if (!b) then (pH t true) else (ob (pF t t.I) fun c=>
 if (!c) then (pH t true) else (ob (jM (t.L.length:Int) 1 12) fun d=>
 if (!d) then (pH t true) else (pH t (decide (300 < (t.E.length:Int))))))
def eG (a:(List Int)):Option (List Int):=
 ob (apd ([]:List Int) a) fun b=>
 some b
def sZ (a:List bS):Option (List bS):=
 some a
def oT (b:cP) (c:List bS) (a:Int):Option ((List bS × Int) ⊕ (List bS)):=
 if (decide (a < (b.Components.length:Int))) then (ob (ix b.Components a) fun d=>
 ob (eG d.Values) fun e=>
 ob (apd c ([⟨d.Definition,0,e⟩]:List bS)) fun f=>
 some (.inl (f,wr (a+1)))) else (some (.inr c))
def tX (a:cP):Option (List bS):=
 ob (loop (fun (s:(List bS × Int))=>oT a s.1 s.2) ([],0)) fun r=>sZ r
def aFe (n:Int):Option Bool:=
 ob (jM n (-1000000000000) 1000000000000) fun b=>
 some (!b)
def gI:Option Int:=
 some (-1)
def fK (b:(List Int)) (a:Int):Option (Int ⊕ (Unit ⊕ Int)):=
 if (decide (a < (b.length:Int))) then (ob (ix b a) fun c=>
 ob (aFe c) fun d=>
 if d then (some (.inr (.inr a))) else (some (.inl (wr (a+1))))) else (some (.inr (.inl ())))
def hJ (b:(List Int)):Option Int:=
 ob (loop (fun (s:Int)=>fK b s) 0) fun r=>match r with|.inl r=>gI|.inr r=>some r
def fL (a:(List Int)):Option Bool:=
 ob (hJ a) fun b=>
 some (decide (0<=b))
def aFf (a:Bool):Option Bool:=
 some a
def aHD (a:(List Int)):Option Bool:=
 if (decide ((a.length:Int)<=64)) then (ob (fL a) fun b=>
 aFf (!b)) else (aFf false)
def aEr (a:(List Int)):Option bK:=
 ob (aHD a) fun b=>
 if (!b) then (some ([]:bK)) else (if ((a.length:Int) == 0) then (some ([45]:bK)) else (ob (aEc a ([44]:bK)) fun c=>
 some c))
def aFg (p:bS):Option bK:=
 ob (uS p.Part) fun b=>
 ob (cat b ([58]:bK)) fun c=>
 ob (aEr p.Values) fun d=>
 ob (cat c d) fun e=>
 some e
def aBy (p:bS):Option bK:=
 ob (uS p.Definition) fun b=>
 ob (cat b ([58]:bK)) fun c=>
 ob (aFg p) fun d=>
 ob (cat c d) fun e=>
 some e
def aCg (a:bP) (b:List (Tr bP)) (c:List bP):Option ((Tr bP) × (List bP)):=
 some ((Tr.mk a b),c)
def xA (e:(List bP)->Option ((Tr bP) × (List bP))) (f:Int) (a:List (Tr bP)) (b:List bP) (c:Int):Option ((List (Tr bP) × List bP × Int) ⊕ (List (Tr bP) × List bP)):=
 if (decide (c < f)) then (ob (e b) fun d=>
 ob (apd a ([d.1]:List (Tr bP))) fun g=>
 some (.inl (g,d.2,wr (c+1)))) else (some (.inr (a,b)))
def mW (d:(List bP)->Option ((Tr bP) × (List bP))) (e:(List bP)):Option ((Tr bP) × (List bP)):=
 ob (ix e 0) fun b=>
 ob (slc e 1 (e.length:Int)) fun f=>
 ob (rY b) fun g=>
 ob (loop (fun (s:(List (Tr bP) × List bP × Int))=>xA d g s.1 s.2.1 s.2.2) ([],f,0)) fun r=>aCg b r.1 r.2
def mX:Nat->(List bP)->Option ((Tr bP) × (List bP))
 |0=>fun _=>none
 |n+1=>mW (mX n)
def aJe (e:(List bP)):Option ((Tr bP) × (List bP)):=
 mX 100000 e
def aPO (e:(List bP)):Option (Tr bP):=
 ob (aJe e) fun b=>
 some b.1
def xZ (a:Bool):Option Int:=
 if a then (some 1) else (some 0)
def aDx (a:Int):Option Int:=
 some a
def aDy (a:Int):Option Int:=
 some a
def aIl (e a b:Int):Option Int:=
 if (e == 0) then (ob (rm (wr (a+b)) 64) fun f=>
 some f) else (if (e == 1) then (ob (rm (wr ((wr (a - b))+64)) 64) fun g=>
 some g) else (if (e == 2) then (ob (rm (wr (a * b)) 64) fun h=>
 some h) else (if (e == 3) then (ob (xZ (a == b)) fun i=>
 some i) else (if (e == 4) then (ob (xZ (a != b)) fun j=>
 some j) else (if (e == 5) then (ob (xZ (decide (a < b))) fun k=>
 some k) else (if (e == 6) then (ob (xZ (decide (a<=b))) fun l=>
 some l) else (if (e == 7) then (if (a != 0) then (ob (xZ (b != 0)) fun m=>
 aDx m) else (ob (xZ false) fun n=>
 aDx n)) else (if (a != 0) then (ob (xZ true) fun o=>
 aDy o) else (ob (xZ (b != 0)) fun p=>
 aDy p)))))))))
def kJ (c:(Tr bP)->(List Int)->Option Int) (a:(Tr bP)) (b:(List Int)):Option Int:=
 if (a.val.Kind == 0) then (some a.val.Value) else (if (a.val.Kind == 1) then (ob (ix b a.val.Value) fun d=>
 some d) else (if (a.val.Kind == 3) then (ob (ix a.kids 0) fun e=>
 ob (c e b) fun f=>
 ob (xZ (f == 0)) fun g=>
 some g) else (ob (ix a.kids 0) fun h=>
 ob (c h b) fun i=>
 ob (ix a.kids 1) fun j=>
 ob (c j b) fun k=>
 ob (aIl a.val.Value i k) fun l=>
 some l)))
def kK:Nat->(Tr bP)->(List Int)->Option Int
 |0=>fun _ _=>none
 |n+1=>kJ (kK n)
def aGy (a:(Tr bP)) (b:(List Int)):Option Int:=
 kK 100000 a b
def yK (e:(List bP)) (b:(List Int)):Option Int:=
 ob (aPO e) fun c=>
 ob (aGy c b) fun d=>
 some d
def vL (a:List Int):Option (List Int):=
 some a
def qO (b:(List (List bP))) (d:(List Int)) (c:List Int) (a:Int):Option ((List Int × Int) ⊕ (List Int)):=
 if (decide (a < (b.length:Int))) then (ob (ix b a) fun e=>
 ob (yK e d) fun f=>
 ob (apd c ([f]:List Int)) fun g=>
 some (.inl (g,wr (a+1)))) else (some (.inr c))
def sL (a:(List (List bP))) (b:(List Int)):Option (List Int):=
 ob (loop (fun (s:(List Int × Int))=>qO a b s.1 s.2) ([],0)) fun r=>vL r
def jH (i:(List Definition)) (c:(List dM)) (a:(List (bK × Bool))) (b:dM):Option ((List dM) × (List (bK × Bool))):=
 ob (cat b.B ([32]:bK)) fun e=>
 ob (aBy b.Next) fun f=>
 ob (cat e f) fun d=>
 if (!((oG a d).getD false)) then (ob (some (yF a d true)) fun g=>
 ob (apd c ([b]:List dM)) fun h=>
 some (h,g)) else (some (c,a))
def iC (a:List dM) (b:(List (bK × Bool))):Option ((List dM) × (List (bK × Bool))):=
 some (a,b)
def oU (b:(List Definition)) (c:(List dM)) (d:(List (bK × Bool))) (e:(bK × Bool)) (f g:Int) (h:List Int):Option ((List dM) × (List (bK × Bool))):=
 ob (jH b c d ⟨e.1,⟨f,g,h⟩⟩) fun a=>
 iC a.1 a.2
def oV (a:List dM) (b:(List (bK × Bool))):Option ((List dM) × (List (bK × Bool))):=
 iC a b
def gN (e:(List Definition)->(List dM)->(List (bK × Bool))->Int->Int->(List Int)->Option ((List dM) × (List (bK × Bool)))) (f:(List Definition)) (k h:Int) (i:(List Int)) (j:Part) (b:List dM) (c:(List (bK × Bool))) (a:Int):Option ((List dM × (List (bK × Bool)) × Int) ⊕ (List dM × (List (bK × Bool)))):=
 if (decide (a < wr (j.Number+1))) then (ob (eG i) fun l=>
 ob (apd l ([a]:List Int)) fun m=>
 ob (e f b c k (wr (h+1)) m) fun d=>
 some (.inl (d.1,d.2,wr (a+1)))) else (some (.inr (b,c)))
def dR (h:(List Definition)->(List dM)->(List (bK × Bool))->Int->Int->(List Int)->Option ((List dM) × (List (bK × Bool)))) (c:(List Definition)) (d:(List dM)) (e:(List (bK × Bool))) (k f:Int) (a:(List Int)):Option ((List dM) × (List (bK × Bool))):=
 ob (ix c k) fun i=>
 ob (ix i.Body f) fun b=>
 if (b.Kind == 1) then (ob (sL b.Arguments a) fun q=>
 ob (aBq b.Name q) fun l=>
 ob (eG a) fun t=>
 ob (ix i.Body (wr (f+1))) fun j=>
 if (j.Kind == 5) then (ob (sL j.Arguments a) fun u=>
 oU c d e l j.Number 0 u) else (oU c d e l k (wr (f+1)) t)) else (if (b.Kind == 2) then (ob (h c d e k (wr (f+1)) a) fun m=>
 ob (lH i (wr (f+1))) fun v=>
 ob (h c m.1 m.2 k v a) fun n=>
 iC n.1 n.2) else (if (b.Kind == 3) then (ob (ix b.Arguments 0) fun w=>
 ob (yK w a) fun x=>
 if (x != 0) then (ob (h c d e k (wr (f+1)) a) fun o=>
 iC o.1 o.2) else (iC d e)) else (if (b.Kind == 4) then (ob (loop (fun (s:(List dM × (List (bK × Bool)) × Int))=>gN h c k f a b s.1 s.2.1 s.2.2) (d,e,0)) fun r=>oV r.1 r.2) else (iC d e))))
def cG:Nat->(List Definition)->(List dM)->(List (bK × Bool))->Int->Int->(List Int)->Option ((List dM) × (List (bK × Bool)))
 |0=>fun _ _ _ _ _ _=>none
 |n+1=>dR (cG n)
def aAS (a:(List Definition)) (b:(List dM)) (c:(List (bK × Bool))) (k e:Int) (f:(List Int)):Option ((List dM) × (List (bK × Bool))):=
 cG 100000 a b c k e f
def aGz (c:(List Definition)) (p:bS):Option ((List dM) × Bool):=
 ob (aAS c [] ([]:(List (bK × Bool))) p.Definition p.Part p.Values) fun b=>
 some (b.1,decide ((b.1.length:Int)<=200))
def gH (a:Int) (b:List bS) (c:(List (bK × Int))):Option (Int × (List bS) × (List (bK × Int))):=
 some (a,b,c)
def gC (a:(List bS)) (b:(List (bK × Int))) (g:(List vQ)) (d:bS):Option (Int × (List bS) × (List (bK × Int))):=
 ob (aBy d) fun c=>
 if (!((oG b c).isSome)) then (ob (some (yF b c (a.length:Int))) fun e=>
 ob (apd a ([d]:List bS)) fun f=>
 gH (a.length:Int) f e) else (gH ((oG b c).getD 0) a b)
def jO (a:List bS) (b:(List (bK × Int))) (c:List vQ):Option ((List bS) × (List (bK × Int)) × (List vQ)):=
 some (a,b,c)
def jD (c:bK) (d:bS) (e:(List bS)) (f:(List (bK × Int))) (b:(List vQ)) (p:Int):Option ((List bS) × (List (bK × Int)) × (List vQ)):=
 ob (gC e f b d) fun a=>
 ob (apd b ([⟨p,c,a.1⟩]:List vQ)) fun h=>
 jO a.2.1 a.2.2 h
def gQ (a:((List dM) × Bool)) (b:List bS) (c:(List (bK × Int))) (d:List vQ):Option (Bool × (List bS) × (List (bK × Int)) × (List vQ)):=
 some (a.2,b,c,d)
def gR (h:Int) (c:((List dM) × Bool)) (d:List bS) (e:(List (bK × Int))) (f:List vQ) (a:Int):Option ((List bS × (List (bK × Int)) × List vQ × Int) ⊕ (List bS × (List (bK × Int)) × List vQ)):=
 if (decide (a < (c.1.length:Int))) then (ob (ix c.1 a) fun g=>
 ob (jD g.B g.Next d e f h) fun b=>
 some (.inl (b.1,b.2.1,b.2.2,wr (a+1)))) else (some (.inr (d,e,f)))
def gP (p:bS) (d:(List bS)) (e:(List (bK × Int))) (f:(List vQ)) (g:Int) (h:cP):Option (Bool × (List bS) × (List (bK × Int)) × (List vQ)):=
 ob (aGz h.Definitions p) fun b=>
 ob (loop (fun (s:(List bS × (List (bK × Int)) × List vQ × Int))=>gR g b s.1 s.2.1 s.2.2.1 s.2.2.2) (d,e,f,0)) fun r=>gQ b r.1 r.2.1 r.2.2
def kU (e:List bS) (a b:Int) (c:List bK) (d:List Edge):Option (eP × (List bS) × Bool):=
 ob (aEq ⟨a,b,c,d⟩) fun f=>
 some (⟨a,b,c,d⟩,e,f)
def fO (b:List bS) (e:(List (bK × Int))) (c:List vQ):Option (eP × (List bS) × Bool):=
 ob (aBx c) fun d=>
 ob (i_lts (b.length:Int) 0 d c) fun a=>
 kU b a.N a.I a.L a.E
def iE (b:Int) (a:(Bool × (List bS) × (List (bK × Int)) × (List vQ))) (c:Bool):Option ((List bS × (List (bK × Int)) × List vQ × Int) ⊕ ((List bS × (List (bK × Int)) × List vQ) ⊕ (eP × (List bS) × Bool))):=
 if c then (some (.inr (.inr (⟨0,0,[],[]⟩,[],false)))) else (some (.inl (a.2.1,a.2.2.1,a.2.2.2,wr (b+1))))
def eD (f:cP) (b:List bS) (d:(List (bK × Int))) (e:List vQ) (a:Int):Option ((List bS × (List (bK × Int)) × List vQ × Int) ⊕ ((List bS × (List (bK × Int)) × List vQ) ⊕ (eP × (List bS) × Bool))):=
 if (decide (a < (b.length:Int))) then (ob (ix b a) fun g=>
 ob (gP g b d e a f) fun c=>
 if (!c.1) then (iE a c true) else (iE a c (decide (40 < (c.2.1.length:Int))))) else (some (.inr (.inl (b,d,e))))
def jB (c:bS) (d:cP):Option (eP × (List bS) × Bool):=
 ob (gC [] ([]:(List (bK × Int))) [] c) fun b=>
 ob (loop (fun (s:(List bS × (List (bK × Int)) × List vQ × Int))=>eD d s.1 s.2.1 s.2.2.1 s.2.2.2) (b.2.1,b.2.2,[],0)) fun r=>match r with|.inl r=>fO r.1 r.2.1 r.2.2|.inr r=>some r
def jK (a:cP) (k:Int):Option (eP × Bool):=
 ob (tX a) fun d=>
 ob (ix d k) fun e=>
 ob (jB e a) fun b=>
 some (b.1,b.2.2)
def fP (a:(List bV)):Option (List bV):=
 ob (apd ([]:List bV) a) fun b=>
 some b
def gU (a:(List bK)):Option (List bK):=
 ob (apd ([]:List bK) a) fun b=>
 some b
def tY (n:iY) (b:(List eP)):Option iY:=
 ob (fP n.Meetings) fun c=>
 ob (gU n.Allowed) fun d=>
 ob (gU n.Hidden) fun e=>
 some ⟨b,c,d,e⟩
def qP (a:cP) (b:List eP):Option (iY × Int):=
 ob (tY ⟨[],a.Meetings,a.Allowed,a.Hidden⟩ b) fun c=>
 some (c,0)
def nP (b:cP) (c:List eP) (a:Int):Option ((List eP × Int) ⊕ (List eP ⊕ (iY × Int))):=
 if (decide (a < (b.Components.length:Int))) then (ob (jK b a) fun d=>
 if (!d.2) then (some (.inr (.inr (⟨[],[],[],[]⟩,5)))) else (ob (apd c ([d.1]:List eP)) fun e=>
 some (.inl (e,wr (a+1))))) else (some (.inr (.inl c)))
def zU (b:cP):Option (iY × Int):=
 ob (sK b) fun c=>
 if (!c) then (some (⟨[],[],[],[]⟩,1)) else (ob (loop (fun (s:(List eP × Int))=>nP b s.1 s.2) ([],0)) fun r=>match r with|.inl r=>qP b r|.inr r=>some r)
def aAT:Option Bool:=
 some true
def tZ (a b:(List bK)) (c:Int):Option (Int ⊕ (Unit ⊕ Bool)):=
 if (decide (c < (a.length:Int))) then (ob (ix a c) fun f=>
 ob (ix b c) fun g=>
 if (!(f == g)) then (some (.inr (.inr false))) else (some (.inl (wr (c+1))))) else (some (.inr (.inl ())))
def oW (a b:(List bK)):Option Bool:=
 if ((a.length:Int) != (b.length:Int)) then (some false) else (ob (loop (fun (s:Int)=>tZ a b s) 0) fun r=>match r with|.inl r=>aAT|.inr r=>some r)
def aHE (a b:Edge):Option Bool:=
 if (a.F != b.F) then (some false) else (if (a.B != b.B) then (some false) else (if (a.To != b.To) then (some false) else (some true)))
def aDz:Option Bool:=
 some true
def aAU (a b:(List Edge)) (c:Int):Option (Int ⊕ (Unit ⊕ Bool)):=
 if (decide (c < (a.length:Int))) then (ob (ix a c) fun f=>
 ob (ix b c) fun g=>
 ob (aHE f g) fun h=>
 if (!h) then (some (.inr (.inr false))) else (some (.inl (wr (c+1))))) else (some (.inr (.inl ())))
def aFO (a b:(List Edge)):Option Bool:=
 if ((a.length:Int) != (b.length:Int)) then (some false) else (ob (loop (fun (s:Int)=>aAU a b s) 0) fun r=>match r with|.inl r=>aDz|.inr r=>some r)
def aJQ (a b:eP):Option Bool:=
 if (a.N != b.N) then (some false) else (if (a.I != b.I) then (some false) else (ob (oW a.L b.L) fun e=>
 if (!e) then (some false) else (ob (aFO a.E b.E) fun f=>
 if (!f) then (some false) else (some true))))
def aFh:Option Bool:=
 some true
def aCK (a b:(List eP)) (c:Int):Option (Int ⊕ (Unit ⊕ Bool)):=
 if (decide (c < (a.length:Int))) then (ob (ix a c) fun f=>
 ob (ix b c) fun g=>
 ob (aJQ f g) fun h=>
 if (!h) then (some (.inr (.inr false))) else (some (.inl (wr (c+1))))) else (some (.inr (.inl ())))
def aHF (a b:(List eP)):Option Bool:=
 if ((a.length:Int) != (b.length:Int)) then (some false) else (ob (loop (fun (s:Int)=>aCK a b s) 0) fun r=>match r with|.inl r=>aFh|.inr r=>some r)
def uA (a b:bV):Option Bool:=
 if (!(a.Left == b.Left)) then (some false) else (if (!(a.Right == b.Right)) then (some false) else (if (!(a.Result == b.Result)) then (some false) else (some true)))
def yA:Option Bool:=
 some true
def kS (a b:(List bV)) (c:Int):Option (Int ⊕ (Unit ⊕ Bool)):=
 if (decide (c < (a.length:Int))) then (ob (ix a c) fun f=>
 ob (ix b c) fun g=>
 ob (uA f g) fun h=>
 if (!h) then (some (.inr (.inr false))) else (some (.inl (wr (c+1))))) else (some (.inr (.inl ())))
def rN (a b:(List bV)):Option Bool:=
 if ((a.length:Int) != (b.length:Int)) then (some false) else (ob (loop (fun (s:Int)=>kS a b s) 0) fun r=>match r with|.inl r=>yA|.inr r=>some r)
def uB (a b:iY):Option Bool:=
 ob (aHF a.Parts b.Parts) fun e=>
 if (!e) then (some false) else (ob (rN a.Meetings b.Meetings) fun f=>
 if (!f) then (some false) else (ob (oW a.Allowed b.Allowed) fun g=>
 if (!g) then (some false) else (ob (oW a.Hidden b.Hidden) fun h=>
 if (!h) then (some false) else (some true))))
def aHG (a b:bP):Option Bool:=
 if (a.Kind != b.Kind) then (some false) else (if (a.Value != b.Value) then (some false) else (some true))
def aDA:Option Bool:=
 some true
def aAV (a b:(List bP)) (c:Int):Option (Int ⊕ (Unit ⊕ Bool)):=
 if (decide (c < (a.length:Int))) then (ob (ix a c) fun f=>
 ob (ix b c) fun g=>
 ob (aHG f g) fun h=>
 if (!h) then (some (.inr (.inr false))) else (some (.inl (wr (c+1))))) else (some (.inr (.inl ())))
def aIm (a b:(List bP)):Option Bool:=
 if ((a.length:Int) != (b.length:Int)) then (some false) else (ob (loop (fun (s:Int)=>aAV a b s) 0) fun r=>match r with|.inl r=>aDA|.inr r=>some r)
def aCh:Option Bool:=
 some true
def xB (a b:(List (List bP))) (c:Int):Option (Int ⊕ (Unit ⊕ Bool)):=
 if (decide (c < (a.length:Int))) then (ob (ix a c) fun f=>
 ob (ix b c) fun g=>
 ob (aIm f g) fun h=>
 if (!h) then (some (.inr (.inr false))) else (some (.inl (wr (c+1))))) else (some (.inr (.inl ())))
def aGA (a b:(List (List bP))):Option Bool:=
 if ((a.length:Int) != (b.length:Int)) then (some false) else (ob (loop (fun (s:Int)=>xB a b s) 0) fun r=>match r with|.inl r=>aCh|.inr r=>some r)
def aHH (a b:Part):Option Bool:=
 if (a.Kind != b.Kind) then (some false) else (if (a.Number != b.Number) then (some false) else (if (!(a.Name == b.Name)) then (some false) else (ob (aGA a.Arguments b.Arguments) fun e=>
 if (!e) then (some false) else (some true))))
def aDB:Option Bool:=
 some true
def aAW (a b:(List Part)) (c:Int):Option (Int ⊕ (Unit ⊕ Bool)):=
 if (decide (c < (a.length:Int))) then (ob (ix a c) fun f=>
 ob (ix b c) fun g=>
 ob (aHH f g) fun h=>
 if (!h) then (some (.inr (.inr false))) else (some (.inl (wr (c+1))))) else (some (.inr (.inl ())))
def aIn (a b:(List Part)):Option Bool:=
 if ((a.length:Int) != (b.length:Int)) then (some false) else (ob (loop (fun (s:Int)=>aAW a b s) 0) fun r=>match r with|.inl r=>aDB|.inr r=>some r)
def uC (a b:Definition):Option Bool:=
 if (!(a.Name == b.Name)) then (some false) else (if (a.Parameters != b.Parameters) then (some false) else (ob (aIn a.Body b.Body) fun e=>
 if (!e) then (some false) else (some true)))
def rO:Option Bool:=
 some true
def nR (a b:(List Definition)) (c:Int):Option (Int ⊕ (Unit ⊕ Bool)):=
 if (decide (c < (a.length:Int))) then (ob (ix a c) fun f=>
 ob (ix b c) fun g=>
 ob (uC f g) fun h=>
 if (!h) then (some (.inr (.inr false))) else (some (.inl (wr (c+1))))) else (some (.inr (.inl ())))
def yB (a b:(List Definition)):Option Bool:=
 if ((a.length:Int) != (b.length:Int)) then (some false) else (ob (loop (fun (s:Int)=>nR a b s) 0) fun r=>match r with|.inl r=>rO|.inr r=>some r)
def aCi:Option Bool:=
 some true
def xC (a b:(List Int)) (c:Int):Option (Int ⊕ (Unit ⊕ Bool)):=
 if (decide (c < (a.length:Int))) then (ob (ix a c) fun f=>
 ob (ix b c) fun g=>
 if (f != g) then (some (.inr (.inr false))) else (some (.inl (wr (c+1))))) else (some (.inr (.inl ())))
def aEs (a b:(List Int)):Option Bool:=
 if ((a.length:Int) != (b.length:Int)) then (some false) else (ob (loop (fun (s:Int)=>xC a b s) 0) fun r=>match r with|.inl r=>aCi|.inr r=>some r)
def xD (a b:bL):Option Bool:=
 if (a.Definition != b.Definition) then (some false) else (ob (aEs a.Values b.Values) fun e=>
 if (!e) then (some false) else (some true))
def tA:Option Bool:=
 some true
def oX (a b:(List bL)) (c:Int):Option (Int ⊕ (Unit ⊕ Bool)):=
 if (decide (c < (a.length:Int))) then (ob (ix a c) fun f=>
 ob (ix b c) fun g=>
 ob (xD f g) fun h=>
 if (!h) then (some (.inr (.inr false))) else (some (.inl (wr (c+1))))) else (some (.inr (.inl ())))
def aAX (a b:(List bL)):Option Bool:=
 if ((a.length:Int) != (b.length:Int)) then (some false) else (ob (loop (fun (s:Int)=>oX a b s) 0) fun r=>match r with|.inl r=>tA|.inr r=>some r)
def aEt (a b:cP):Option Bool:=
 ob (yB a.Definitions b.Definitions) fun e=>
 if (!e) then (some false) else (ob (aAX a.Components b.Components) fun f=>
 if (!f) then (some false) else (ob (rN a.Meetings b.Meetings) fun g=>
 if (!g) then (some false) else (ob (oW a.Allowed b.Allowed) fun h=>
 if (!h) then (some false) else (ob (oW a.Hidden b.Hidden) fun i=>
 if (!i) then (some false) else (some true)))))
def xE (a:bK):Option bK:=
 ob (cat ([109]:bK) a) fun b=>
 some b
def aCj (a:Int) (b:bK):Option ((Int × bK) ⊕ bK):=
 if (decide (0 < a)) then (ob (rm a 10) fun c=>
 ob (cat ([(UInt8.ofInt (wr (48+c)))]:List UInt8) b) fun d=>
 ob (qu a 10) fun e=>
 some (.inl (e,d))) else (some (.inr b))
def jE (k:Int):Option bK:=
 if (decide (k<=0)) then (some ([109,48]:bK)) else (ob (loop (fun (s:(Int × bK))=>aCj s.1 s.2) (k,([]:bK))) fun r=>xE r)
def aAY (a:Int) (b:List bP):Option (Int × (List bP)):=
 some (a,b)
def uD (b:List bP) (c a:Int):Option ((List bP × Int × Int) ⊕ (Int × List bP)):=
 if (decide (a < (b.length:Int))) then (ob (ix b a) fun e=>
 ob (st b a (⟨c,e.Value⟩:bP)) fun d=>
 ob (ix d a) fun f=>
 ob (st d a (⟨f.Kind,wr (c+1)⟩:bP)) fun g=>
 some (.inl (g,wr ((wr (c+1))+1),wr (a+1)))) else (some (.inr (c,b)))
def aCL (a:(List bP)) (k:Int):Option (Int × (List bP)):=
 ob (loop (fun (s:(List bP × Int × Int))=>uD s.1 s.2.1 s.2.2) (a,k,0)) fun r=>aAY r.1 r.2
def yC (a:Int) (b:List (List bP)):Option (Int × (List (List bP))):=
 some (a,b)
def sB (a:List (List bP)) (c b:Int):Option ((List (List bP) × Int × Int) ⊕ (Int × List (List bP))):=
 if (decide (b < (a.length:Int))) then (ob (ix a b) fun e=>
 ob (aCL e c) fun d=>
 ob (st a b d.2) fun f=>
 some (.inl (f,d.1,wr (b+1)))) else (some (.inr (c,a)))
def aAZ (a:(List (List bP))) (k:Int):Option (Int × (List (List bP))):=
 ob (loop (fun (s:(List (List bP) × Int × Int))=>sB s.1 s.2.1 s.2.2) (a,k,0)) fun r=>yC r.1 r.2
def aBa (a:Int) (b:List Part):Option (Int × (List Part)):=
 some (a,b)
def uE (c:List Part) (b a:Int):Option ((List Part × Int × Int) ⊕ (Int × List Part)):=
 if (decide (a < (c.length:Int))) then (ob (ix c a) fun e=>
 ob (st c a (⟨b,e.Number,e.Name,e.Arguments⟩:Part)) fun h=>
 ob (ix h a) fun f=>
 ob (st h a (⟨f.Kind,wr (b+1),f.Name,f.Arguments⟩:Part)) fun i=>
 ob (jE (wr ((wr (b+1))+1))) fun l=>
 ob (ix i a) fun g=>
 ob (st i a (⟨g.Kind,g.Number,l,g.Arguments⟩:Part)) fun j=>
 ob (ix j a) fun d=>
 ob (aAZ d.Arguments (wr ((wr ((wr (b+1))+1))+1))) fun k=>
 ob (st j a (⟨d.Kind,d.Number,d.Name,k.2⟩:Part)) fun m=>
 some (.inl (m,k.1,wr (a+1)))) else (some (.inr (b,c)))
def aCM (a:(List Part)) (k:Int):Option (Int × (List Part)):=
 ob (loop (fun (s:(List Part × Int × Int))=>uE s.1 s.2.1 s.2.2) (a,k,0)) fun r=>aBa r.1 r.2
def oY (a:Int) (b:List Definition):Option (Int × (List Definition)):=
 some (a,b)
def lZ (b:List Definition) (c a:Int):Option ((List Definition × Int × Int) ⊕ (Int × List Definition)):=
 if (decide (a < (b.length:Int))) then (ob (jE c) fun j=>
 ob (ix b a) fun e=>
 ob (st b a (⟨j,e.Parameters,e.Body⟩:Definition)) fun f=>
 ob (ix f a) fun g=>
 ob (st f a (⟨g.Name,wr (c+1),g.Body⟩:Definition)) fun h=>
 ob (ix h a) fun d=>
 ob (aCM d.Body (wr ((wr (c+1))+1))) fun i=>
 ob (st h a (⟨d.Name,d.Parameters,i.2⟩:Definition)) fun k=>
 some (.inl (k,i.1,wr (a+1)))) else (some (.inr (c,b)))
def oZ (a:(List Definition)) (k:Int):Option (Int × (List Definition)):=
 ob (loop (fun (s:(List Definition × Int × Int))=>lZ s.1 s.2.1 s.2.2) (a,k,0)) fun r=>oY r.1 r.2
def sC (a:Int) (b:List Int):Option (Int × (List Int)):=
 some (a,b)
def yD (a:List Int) (c b:Int):Option ((List Int × Int × Int) ⊕ (Int × List Int)):=
 if (decide (b < (a.length:Int))) then (ob (ix a b) fun e=>
 ob (st a b (c:Int)) fun d=>
 some (.inl (d,wr (c+1),wr (b+1)))) else (some (.inr (c,a)))
def aBb (a:(List Int)) (k:Int):Option (Int × (List Int)):=
 ob (loop (fun (s:(List Int × Int × Int))=>yD s.1 s.2.1 s.2.2) (a,k,0)) fun r=>sC r.1 r.2
def pM (a:Int) (b:List bL):Option (Int × (List bL)):=
 some (a,b)
def mP (b:List bL) (c a:Int):Option ((List bL × Int × Int) ⊕ (Int × List bL)):=
 if (decide (a < (b.length:Int))) then (ob (ix b a) fun g=>
 ob (st b a (⟨c,g.Values⟩:bL)) fun d=>
 ob (ix d a) fun e=>
 ob (aBb e.Values (wr (c+1))) fun f=>
 ob (st d a (⟨e.Definition,f.2⟩:bL)) fun h=>
 some (.inl (h,f.1,wr (a+1)))) else (some (.inr (c,b)))
def qQ (a:(List bL)) (k:Int):Option (Int × (List bL)):=
 ob (loop (fun (s:(List bL × Int × Int))=>mP s.1 s.2.1 s.2.2) (a,k,0)) fun r=>pM r.1 r.2
def pA (a:Int) (b:List bV):Option (Int × (List bV)):=
 some (a,b)
def kM (c:List bV) (b a:Int):Option ((List bV × Int × Int) ⊕ (Int × List bV)):=
 if (decide (a < (c.length:Int))) then (ob (jE b) fun i=>
 ob (ix c a) fun d=>
 ob (st c a (⟨i,d.Right,d.Result⟩:bV)) fun e=>
 ob (jE (wr (b+1))) fun j=>
 ob (ix e a) fun f=>
 ob (st e a (⟨f.Left,j,f.Result⟩:bV)) fun g=>
 ob (jE (wr ((wr (b+1))+1))) fun k=>
 ob (ix g a) fun h=>
 ob (st g a (⟨h.Left,h.Right,k⟩:bV)) fun l=>
 some (.inl (l,wr ((wr ((wr (b+1))+1))+1),wr (a+1)))) else (some (.inr (b,c)))
def mA (a:(List bV)) (k:Int):Option (Int × (List bV)):=
 ob (loop (fun (s:(List bV × Int × Int))=>kM s.1 s.2.1 s.2.2) (a,k,0)) fun r=>pA r.1 r.2
def qR (a:Int) (b:List bK):Option (Int × (List bK)):=
 some (a,b)
def vM (a:List bK) (c b:Int):Option ((List bK × Int × Int) ⊕ (Int × List bK)):=
 if (decide (b < (a.length:Int))) then (ob (jE c) fun d=>
 ob (ix a b) fun f=>
 ob (st a b (d:bK)) fun e=>
 some (.inl (e,wr (c+1),wr (b+1)))) else (some (.inr (c,a)))
def lO (a:(List bK)) (k:Int):Option (Int × (List bK)):=
 ob (loop (fun (s:(List bK × Int × Int))=>vM s.1 s.2.1 s.2.2) (a,k,0)) fun r=>qR r.1 r.2
def aBc (f:(List Definition)) (g:(List bL)) (h:(List bV)) (i j:(List bK)) (k:Int):Option (Int × (List Definition) × (List bL) × (List bV) × (List bK) × (List bK)):=
 ob (oZ f k) fun a=>
 ob (qQ g a.1) fun b=>
 ob (mA h b.1) fun c=>
 ob (lO i c.1) fun d=>
 ob (lO j d.1) fun e=>
 some (e.1,a.2,b.2,c.2,d.2,e.2)
def uF (a:Int) (b:List Edge):Option (Int × (List Edge)):=
 some (a,b)
def aBd (c:List Edge) (b a:Int):Option ((List Edge × Int × Int) ⊕ (Int × List Edge)):=
 if (decide (a < (c.length:Int))) then (ob (ix c a) fun d=>
 ob (st c a (⟨b,d.B,d.To⟩:Edge)) fun e=>
 ob (ix e a) fun f=>
 ob (st e a (⟨f.F,wr (b+1),f.To⟩:Edge)) fun g=>
 ob (ix g a) fun h=>
 ob (st g a (⟨h.F,h.B,wr ((wr (b+1))+1)⟩:Edge)) fun i=>
 some (.inl (i,wr ((wr ((wr (b+1))+1))+1),wr (a+1)))) else (some (.inr (b,c)))
def aCN (a:(List Edge)) (k:Int):Option (Int × (List Edge)):=
 ob (loop (fun (s:(List Edge × Int × Int))=>aBd s.1 s.2.1 s.2.2) (a,k,0)) fun r=>uF r.1 r.2
def aCk (a:Int) (b:List eP):Option (Int × (List eP)):=
 some (a,b)
def xF (b:List eP) (c a:Int):Option ((List eP × Int × Int) ⊕ (Int × List eP)):=
 if (decide (a < (b.length:Int))) then (ob (ix b a) fun f=>
 ob (st b a (⟨c,f.I,f.L,f.E⟩:eP)) fun h=>
 ob (ix h a) fun g=>
 ob (st h a (⟨g.N,wr (c+1),g.L,g.E⟩:eP)) fun i=>
 ob (ix i a) fun d=>
 ob (lO d.L (wr ((wr (c+1))+1))) fun j=>
 ob (st i a (⟨d.N,d.I,j.2,d.E⟩:eP)) fun k=>
 ob (ix k a) fun e=>
 ob (aCN e.E j.1) fun l=>
 ob (st k a (⟨e.N,e.I,e.L,l.2⟩:eP)) fun m=>
 some (.inl (m,l.1,wr (a+1)))) else (some (.inr (c,b)))
def aEu (a:(List eP)) (k:Int):Option (Int × (List eP)):=
 ob (loop (fun (s:(List eP × Int × Int))=>xF s.1 s.2.1 s.2.2) (a,k,0)) fun r=>aCk r.1 r.2
def xG (e:(List eP)) (f:(List bV)) (g h:(List bK)) (k:Int):Option (Int × (List eP) × (List bV) × (List bK) × (List bK)):=
 ob (aEu e k) fun a=>
 ob (mA f a.1) fun b=>
 ob (lO g b.1) fun c=>
 ob (lO h c.1) fun d=>
 some (d.1,a.2,b.2,c.2,d.2)
def vN (a:Int):Option Int:=
 some a
def qS (a:(List bK)) (b c:Int):Option ((Int × Int) ⊕ (Int ⊕ Int)):=
 if (decide (c < (a.length:Int))) then (ob (ix a c) fun e=>
 ob (jE b) fun f=>
 if (!(e == f)) then (some (.inr (.inr (-1)))) else (some (.inl (wr (b+1),wr (c+1))))) else (some (.inr (.inl b)))
def pI (a:(List bK)) (k:Int):Option Int:=
 ob (loop (fun (s:(Int × Int))=>qS a s.1 s.2) (k,0)) fun r=>match r with|.inl r=>vN r|.inr r=>some r
def aBe (a:Int):Option Int:=
 some a
def uG (a:(List Edge)) (b c:Int):Option ((Int × Int) ⊕ (Int ⊕ Int)):=
 if (decide (c < (a.length:Int))) then (ob (ix a c) fun d=>
 if (d.F != b) then (some (.inr (.inr (-1)))) else (if (d.B != (wr (b+1))) then (some (.inr (.inr (-1)))) else (if (d.To != (wr ((wr (b+1))+1))) then (some (.inr (.inr (-1)))) else (some (.inl (wr ((wr ((wr (b+1))+1))+1),wr (c+1))))))) else (some (.inr (.inl b)))
def aCO (a:(List Edge)) (k:Int):Option Int:=
 ob (loop (fun (s:(Int × Int))=>uG a s.1 s.2) (k,0)) fun r=>match r with|.inl r=>aBe r|.inr r=>some r
def aCl (a:Int):Option Int:=
 some a
def xH (a:(List eP)) (b d:Int):Option ((Int × Int) ⊕ (Int ⊕ Int)):=
 if (decide (d < (a.length:Int))) then (ob (ix a d) fun c=>
 if (c.N != b) then (some (.inr (.inr (-1)))) else (if (c.I != (wr (b+1))) then (some (.inr (.inr (-1)))) else (ob (pI c.L (wr ((wr (b+1))+1))) fun f=>
 if (decide (f < 0)) then (some (.inr (.inr (-1)))) else (ob (aCO c.E f) fun g=>
 if (decide (g < 0)) then (some (.inr (.inr (-1)))) else (some (.inl (g,wr (d+1)))))))) else (some (.inr (.inl b)))
def aEv (a:(List eP)) (k:Int):Option Int:=
 ob (loop (fun (s:(Int × Int))=>xH a s.1 s.2) (k,0)) fun r=>match r with|.inl r=>aCl r|.inr r=>some r
def tB (a:Int):Option Int:=
 some a
def pB (a:(List bV)) (b c:Int):Option ((Int × Int) ⊕ (Int ⊕ Int)):=
 if (decide (c < (a.length:Int))) then (ob (ix a c) fun d=>
 ob (jE b) fun f=>
 if (!(d.Left == f)) then (some (.inr (.inr (-1)))) else (ob (jE (wr (b+1))) fun g=>
 if (!(d.Right == g)) then (some (.inr (.inr (-1)))) else (ob (jE (wr ((wr (b+1))+1))) fun h=>
 if (!(d.Result == h)) then (some (.inr (.inr (-1)))) else (some (.inl (wr ((wr ((wr (b+1))+1))+1),wr (c+1))))))) else (some (.inr (.inl b)))
def uH (a:(List bV)) (k:Int):Option Int:=
 ob (loop (fun (s:(Int × Int))=>pB a s.1 s.2) (k,0)) fun r=>match r with|.inl r=>tB r|.inr r=>some r
def sM (a:iY) (k:Int):Option Int:=
 ob (aEv a.Parts k) fun c=>
 if (decide (c < 0)) then (some (-1)) else (ob (uH a.Meetings c) fun d=>
 if (decide (d < 0)) then (some (-1)) else (ob (pI a.Allowed d) fun e=>
 if (decide (e < 0)) then (some (-1)) else (ob (pI a.Hidden e) fun f=>
 if (decide (f < 0)) then (some (-1)) else (some f))))
def lB (a:(Int × (List eP) × (List bV) × (List bK) × (List bK))) (c:Bool):Option Bool:=
 if c then (some false) else (ob (sM ⟨a.2.1,a.2.2.1,a.2.2.2.1,a.2.2.2.2⟩ 1) fun b=>
 if (decide (b < 0)) then (some false) else (if (b != a.1) then (some false) else (some true)))
def jL (f:cP) (c b:(iY × Int)) (g:Bool):Option Bool:=
 if g then (some false) else (ob (xG b.1.Parts b.1.Meetings b.1.Allowed b.1.Hidden 1) fun a=>
 ob (sM ⟨a.2.1,a.2.2.1,a.2.2.2.1,a.2.2.2.2⟩ 1) fun d=>
 if (decide (d < 0)) then (some false) else (if (d != a.1) then (some false) else (ob (rK f) fun h=>
 ob (zU h) fun e=>
 ob (uB e.1 c.1) fun i=>
 if (!i) then (lB a true) else (lB a (e.2 != c.2)))))
def lC (d:cP) (b:(iY × Int)) (a:cP) (c:(iY × Int)) (e:Bool):Option Bool:=
 if e then (some false) else (ob (rK d) fun f=>
 ob (aEt a f) fun g=>
 if (!g) then (some false) else (ob (aBc a.Definitions a.Components a.Meetings a.Allowed a.Hidden 1) fun h=>
 if (decide (h.1 < 0)) then (jL d b c true) else (ob (uB c.1 b.1) fun i=>
 if (!i) then (jL d b c true) else (jL d b c (c.2 != b.2)))))
def rP (a:cP):Option Bool:=
 ob (aEd a 1048576) fun f=>
 if (decide (f < 0)) then (some true) else (ob (rK a) fun b=>
 ob (aCJ ⟨b.Definitions,b.Components,b.Meetings,b.Allowed,b.Hidden⟩) fun c=>
 ob (rK a) fun e=>
 ob (zU e) fun d=>
 ob (uB d.1 c.1) fun g=>
 if (!g) then (lC a c e d true) else (lC a c e d (d.2 != c.2)))
end
end Gv
