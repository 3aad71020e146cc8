/- Models of the functions, printed by program off their code. Plain Lean. -/
import Derived.Test.YtokmmhfhaoanmaaGreatDoorJLM
set_option linter.all false
namespace Gv
noncomputable section
def aFP (a:List Int):Option ((List Int) × Bool):=
 some (a,true)
def uE (b:(List aH)) (c:List Int) (a:Int):Option ((List Int × Int) ⊕ (List Int ⊕ ((List Int) × Bool))):=
 if (decide (a < (b.length:Int))) then (ob (ix b a) fun e=>
 ob (vG e) fun d=>
 if (!d.2) then (some (.inr (.inr ([],false)))) else (ob (wR c ([d.1]:List Int)) fun f=>
 some (.inl (f,wr (a+1))))) else (some (.inr (.inl c)))
def vK (b:(List aH)):Option ((List Int) × Bool):=
 ob (loop (fun (s:(List Int × Int))=>uE b s.1 s.2) ([],0)) fun r=>match r with|.inl r=>aFP r|.inr r=>some r
def aIl (a:Bool):Option Bool:=
 some a
def iO (n low b:Int):Option Bool:=
 if (decide (low<=n)) then (aIl (decide (n<=b))) else (aIl false)
def aDp (n:Int):Option Bool:=
 ob (iO n 0 63) fun b=>
 some b
def aDK (n:Int):Option Bool:=
 ob (aDp n) fun b=>
 some (!b)
def lO:Option Int:=
 some (-1)
def dZ (b:(List Int)) (a:Int):Option (Int ⊕ (Unit ⊕ Int)):=
 if (decide (a < (b.length:Int))) then (ob (ix b a) fun c=>
 ob (aDK c) fun d=>
 if d then (some (.inr (.inr a))) else (some (.inl (wr (a+1))))) else (some (.inr (.inl ())))
def gD (b:(List Int)):Option Int:=
 ob (loop (fun (s:Int)=>dZ b s) 0) fun r=>match r with|.inl r=>lO|.inr r=>some r
def iH (a:(List Int)):Option Bool:=
 ob (gD a) fun b=>
 some (decide (0<=b))
def aBJ (a:(List Int)):Option Bool:=
 ob (iH a) fun b=>
 some (!b)
def aGH (a:Bool):Option Bool:=
 some a
def aJy (c:UInt8):Option Bool:=
 if (decide (48<=(c.toNat:Int))) then (aGH (decide ((c.toNat:Int)<=57))) else (aGH false)
def aIm (a:Bool):Option Bool:=
 some a
def aEO (a:aH):Option Bool:=
 if (decide (1<=(a.length:Int))) then (aIm (decide ((a.length:Int)<=10))) else (aIm false)
def aBK (a:Int) (b:Bool):Option (Int ⊕ (Unit ⊕ Bool)):=
 if b then (some (.inr (.inr false))) else (some (.inl (wr (a+1))))
def qN (b:aH) (a:Int) (c:Bool):Option (Int ⊕ (Unit ⊕ Bool)):=
 if (!c) then (if (a == 0) then (aBK a true) else (ob (ix b a) fun d=>
 ob (aJy d) fun e=>
 aBK a (!e))) else (aBK a false)
def xV (a:aH) (b:Int):Option (Int ⊕ (Unit ⊕ Bool)):=
 if (decide (b < (a.length:Int))) then (ob (ix a b) fun c45=>
 if (decide (97<=(c45.toNat:Int))) then (qN a b (decide ((c45.toNat:Int)<=122))) else (qN a b false)) else (some (.inr (.inl ())))
def aFQ (b:aH):Option Bool:=
 ob (loop (fun (s:Int)=>xV b s) 0) fun r=>match r with|.inl r=>aEO b|.inr r=>some r
def aBp (a:Bool):Option Bool:=
 some a
def oU (a:aH):Option Bool:=
 ob (aFQ a) fun b=>
 if b then (aBp (!(a == ([116,97,117]:aH)))) else (aBp false)
def aIn (a:aH) (b:List aH):Option aH:=
 ob (aNb b a) fun c=>
 some c
def aBL (c:(List Int)) (b:List aH) (a:Int):Option ((List aH × Int) ⊕ (List aH)):=
 if (decide (a < (c.length:Int))) then (ob (ix c a) fun d=>
 ob (pN d) fun e=>
 ob (ix b a) fun g=>
 ob (st b a (e:aH)) fun f=>
 some (.inl (f,wr (a+1)))) else (some (.inr b))
def aDL (a:(List Int)) (b:aH):Option aH:=
 ob (mkz (a.length:Int) ([]:aH)) fun c=>
 ob (loop (fun (s:(List aH × Int))=>aBL a s.1 s.2) (c,0)) fun r=>aIn b r
def zD (a:aH) (b:(List Int)) (c:Bool):Option (aH × Bool):=
 if c then (some (([]:aH),false)) else (if ((b.length:Int) == 0) then (some (a,true)) else (ob (cat a ([40]:aH)) fun d=>
 ob (aDL b ([44]:aH)) fun e=>
 ob (cat d e) fun f=>
 ob (cat f ([41]:aH)) fun g=>
 some (g,true)))
def xW (b:aH) (a:(List Int)):Option (aH × Bool):=
 if (b == ([116,97,117]:aH)) then (some (([116,97,117]:aH),(a.length:Int) == 0)) else (ob (oU b) fun c=>
 if (!c) then (zD b a true) else (if (decide (2 < (a.length:Int))) then (zD b a true) else (ob (aBJ a) fun d=>
 zD b a (!d))))
def fT (a:Bool):Option Bool:=
 some a
def gM (a b:aH):Option Bool:=
 if (decide ((b.length:Int)<=(a.length:Int))) then (ob (slc a (wr ((a.length:Int) - (b.length:Int))) (a.length:Int)) fun c=>
 fT (c == b)) else (fT false)
def jB (a b:aH):Option aH:=
 ob (gM a b) fun c=>
 if c then (ob (slc a 0 (wr ((a.length:Int) - (b.length:Int)))) fun d=>
 some d) else (some a)
def nT (a b:aH):Option aH:=
 ob (jB a b) fun c=>
 some c
def pP (a:(aH × aH × Bool)) (b:List Int) (c:Bool):Option (aH × (List Int) × Bool):=
 if c then (some (([]:aH),[],false)) else (some (a.1,b,true))
def kU (d:aH) (a:(aH × aH × Bool)) (b:List Int):Option (aH × (List Int) × Bool):=
 ob (xW a.1 b) fun c=>
 if (!c.2) then (pP a b true) else (pP a b (!(c.1 == d)))
def nU (b:aH):Option (aH × (List Int) × Bool):=
 ob (l_Cut b ([40]:aH)) fun a=>
 if a.2.2 then (ob (nT a.2.1 ([41]:aH)) fun d=>
 ob (aGF d ([44]:aH)) fun e=>
 ob (vK e) fun c=>
 if (!c.2) then (some (([]:aH),[],false)) else (kU b a c.1)) else (kU b a [])
def aJz (a:aH):Option Bool:=
 ob (nU a) fun b=>
 some b.2.2
def aFR (a:(List aP)) (c:Int):Option Int:=
 if (decide (wr (c - (a.length:Int)) < 0)) then (some (-1)) else (some (wr (c - (a.length:Int))))
def aKb (a:Int):Option Int:=
 some a
def aBq (a:(List (List aP))) (d b:Int):Option ((Int × Int) ⊕ (Int ⊕ Int)):=
 if (decide (b < (a.length:Int))) then (ob (ix a b) fun f=>
 ob (aFR f d) fun e=>
 if (decide (e < 0)) then (some (.inr (.inr (-1)))) else (some (.inl (e,wr (b+1))))) else (some (.inr (.inl d)))
def aGI (a:(List (List aP))) (d:Int):Option Int:=
 if (decide (wr (d - (a.length:Int)) < 0)) then (some (-1)) else (ob (loop (fun (s:(Int × Int))=>aBq a s.1 s.2) (wr (d - (a.length:Int)),0)) fun r=>match r with|.inl r=>aKb r|.inr r=>some r)
def aIo (a:Part) (c:Int):Option Int:=
 if (decide (wr (c - (a.Name.length:Int)) < 0)) then (some (-1)) else (ob (aGI a.Arguments (wr (c - (a.Name.length:Int)))) fun d=>
 if (decide (d < 0)) then (some (-1)) else (some d))
def aLI (a:Int):Option Int:=
 some a
def aCD (a:(List Part)) (d b:Int):Option ((Int × Int) ⊕ (Int ⊕ Int)):=
 if (decide (b < (a.length:Int))) then (ob (ix a b) fun f=>
 ob (aIo f d) fun e=>
 if (decide (e < 0)) then (some (.inr (.inr (-1)))) else (some (.inl (e,wr (b+1))))) else (some (.inr (.inl d)))
def aJA (a:(List Part)) (d:Int):Option Int:=
 if (decide (wr (d - (a.length:Int)) < 0)) then (some (-1)) else (ob (loop (fun (s:(Int × Int))=>aCD a s.1 s.2) (wr (d - (a.length:Int)),0)) fun r=>match r with|.inl r=>aLI r|.inr r=>some r)
def tC (a:Definition) (c:Int):Option Int:=
 if (decide (wr (c - (a.Name.length:Int)) < 0)) then (some (-1)) else (ob (aJA a.Body (wr (c - (a.Name.length:Int)))) fun d=>
 if (decide (d < 0)) then (some (-1)) else (some d))
def aDM (a:Int):Option Int:=
 some a
def qX (a:(List Definition)) (d b:Int):Option ((Int × Int) ⊕ (Int ⊕ Int)):=
 if (decide (b < (a.length:Int))) then (ob (ix a b) fun f=>
 ob (tC f d) fun e=>
 if (decide (e < 0)) then (some (.inr (.inr (-1)))) else (some (.inl (e,wr (b+1))))) else (some (.inr (.inl d)))
def wU (a:(List Definition)) (d:Int):Option Int:=
 if (decide (wr (d - (a.length:Int)) < 0)) then (some (-1)) else (ob (loop (fun (s:(Int × Int))=>qX a s.1 s.2) (wr (d - (a.length:Int)),0)) fun r=>match r with|.inl r=>aDM r|.inr r=>some r)
def aKK (a:(List Int)) (c:Int):Option Int:=
 if (decide (wr (c - (a.length:Int)) < 0)) then (some (-1)) else (some (wr (c - (a.length:Int))))
def vL (a:aZ) (d:Int):Option Int:=
 ob (aKK a.Values d) fun b=>
 if (decide (b < 0)) then (some (-1)) else (some b)
def aEP (a:Int):Option Int:=
 some a
def sQ (a:(List aZ)) (d b:Int):Option ((Int × Int) ⊕ (Int ⊕ Int)):=
 if (decide (b < (a.length:Int))) then (ob (ix a b) fun f=>
 ob (vL f d) fun e=>
 if (decide (e < 0)) then (some (.inr (.inr (-1)))) else (some (.inl (e,wr (b+1))))) else (some (.inr (.inl d)))
def zF (a:(List aZ)) (d:Int):Option Int:=
 if (decide (wr (d - (a.length:Int)) < 0)) then (some (-1)) else (ob (loop (fun (s:(Int × Int))=>sQ a s.1 s.2) (wr (d - (a.length:Int)),0)) fun r=>match r with|.inl r=>aEP r|.inr r=>some r)
def aBM (a:aT) (c:Int):Option Int:=
 if (decide (wr (c - (a.Left.length:Int)) < 0)) then (some (-1)) else (if (decide (wr ((wr (c - (a.Left.length:Int))) - (a.Right.length:Int)) < 0)) then (some (-1)) else (if (decide (wr ((wr ((wr (c - (a.Left.length:Int))) - (a.Right.length:Int))) - (a.Result.length:Int)) < 0)) then (some (-1)) else (some (wr ((wr ((wr (c - (a.Left.length:Int))) - (a.Right.length:Int))) - (a.Result.length:Int))))))
def aHv (a:Int):Option Int:=
 some a
def wV (a:(List aT)) (d b:Int):Option ((Int × Int) ⊕ (Int ⊕ Int)):=
 if (decide (b < (a.length:Int))) then (ob (ix a b) fun f=>
 ob (aBM f d) fun e=>
 if (decide (e < 0)) then (some (.inr (.inr (-1)))) else (some (.inl (e,wr (b+1))))) else (some (.inr (.inl d)))
def aCE (a:(List aT)) (d:Int):Option Int:=
 if (decide (wr (d - (a.length:Int)) < 0)) then (some (-1)) else (ob (loop (fun (s:(Int × Int))=>wV a s.1 s.2) (wr (d - (a.length:Int)),0)) fun r=>match r with|.inl r=>aHv r|.inr r=>some r)
def aIp (a:Int):Option Int:=
 some a
def zH (a:(List aH)) (b c:Int):Option ((Int × Int) ⊕ (Int ⊕ Int)):=
 if (decide (c < (a.length:Int))) then (ob (ix a c) fun e=>
 if (decide (wr (b - (e.length:Int)) < 0)) then (some (.inr (.inr (-1)))) else (some (.inl (wr (b - (e.length:Int)),wr (c+1))))) else (some (.inr (.inl b)))
def aBN (a:(List aH)) (d:Int):Option Int:=
 if (decide (wr (d - (a.length:Int)) < 0)) then (some (-1)) else (ob (loop (fun (s:(Int × Int))=>zH a s.1 s.2) (wr (d - (a.length:Int)),0)) fun r=>match r with|.inl r=>aIp r|.inr r=>some r)
def aGJ (a:aR) (h:Int):Option Int:=
 ob (wU a.Definitions h) fun c=>
 if (decide (c < 0)) then (some (-1)) else (ob (zF a.Components c) fun d=>
 if (decide (d < 0)) then (some (-1)) else (ob (aCE a.Meetings d) fun e=>
 if (decide (e < 0)) then (some (-1)) else (ob (aBN a.Allowed e) fun f=>
 if (decide (f < 0)) then (some (-1)) else (ob (aBN a.Hidden f) fun g=>
 if (decide (g < 0)) then (some (-1)) else (some g)))))
def aFx (a:Bool):Option Bool:=
 some a
def aDN (c:UInt8):Option Bool:=
 if (decide (97<=(c.toNat:Int))) then (aFx (decide ((c.toNat:Int)<=122))) else (aFx false)
def aFy (a:Bool):Option Bool:=
 some a
def aDO (c:UInt8):Option Bool:=
 if (decide (48<=(c.toNat:Int))) then (aFy (decide ((c.toNat:Int)<=57))) else (aFy false)
def aGK:Option Bool:=
 some true
def aCF (a:Int) (b:Bool):Option (Int ⊕ (Unit ⊕ Bool)):=
 if b then (some (.inr (.inr false))) else (some (.inl (wr (a+1))))
def zJ (b:aH) (a:Int):Option (Int ⊕ (Unit ⊕ Bool)):=
 if (decide (a < (b.length:Int))) then (ob (ix b a) fun c=>
 ob (aDN c) fun d=>
 if (!d) then (ob (aDO c) fun e=>
 aCF a (!e)) else (aCF a false)) else (some (.inr (.inl ())))
def qY (b:aH) (c:Bool):Option Bool:=
 if c then (some false) else (ob (loop (fun (s:Int)=>zJ b s) 0) fun r=>match r with|.inl r=>aGK|.inr r=>some r)
def xX (a:aH):Option Bool:=
 if (a == ([]:aH)) then (qY a true) else (if (decide (10 < (a.length:Int))) then (qY a true) else (ob (ix a 0) fun b=>
 ob (aDN b) fun c=>
 qY a (!c)))
def aKL (a:Bool):Option Bool:=
 some a
def sT (n low b:Int):Option Bool:=
 if (decide (low<=n)) then (aKL (decide (n<=b))) else (aKL false)
def tD (p:Part) (b:Bool):Option Int:=
 if b then (some 1) else (if (p.Kind == 2) then (some 2) else (some 0))
def xY (p:Part):Option Int:=
 if (p.Kind == 1) then (tD p (p.Kind == 1)) else (if (p.Kind == 3) then (tD p (p.Kind == 3)) else (tD p (p.Kind == 4)))
def aKc (a:Int):Option Bool:=
 some (a == 0)
def aBr (c:(List Part)) (a b:Int):Option ((Int × Int) ⊕ (Int ⊕ Bool)):=
 if (decide (b < (c.length:Int))) then (if (a == 0) then (some (.inr (.inr false))) else (ob (ix c b) fun d=>
 ob (xY d) fun e=>
 some (.inl (wr (a+(wr (e - 1))),wr (b+1))))) else (some (.inr (.inl a)))
def vM (b:(List Part)) (c:Bool):Option Bool:=
 if c then (some false) else (ob (loop (fun (s:(Int × Int))=>aBr b s.1 s.2) (1,0)) fun r=>match r with|.inl r=>aKc r|.inr r=>some r)
def aDP (a:(List Part)):Option Bool:=
 if ((a.length:Int) == 0) then (vM a true) else (vM a (decide (20 < (a.length:Int))))
def zN (a:Bool):Option Bool:=
 some a
def aCG (a:Bool):Option Bool:=
 some a
def aCH (a:Bool):Option Bool:=
 some a
def zO (p:Part) (b:Bool):Option Bool:=
 if b then (if (p.Number == 0) then (if (p.Name == ([]:aH)) then (zN ((p.Arguments.length:Int) == 0)) else (zN false)) else (zN false)) else (if (p.Kind == 1) then (some (p.Number == 0)) else (if (p.Kind == 3) then (if (p.Number == 0) then (aCG (p.Name == ([]:aH))) else (aCG false)) else (if (p.Kind == 4) then (if (p.Name == ([]:aH)) then (aCH ((p.Arguments.length:Int) == 0)) else (aCH false)) else (if (p.Kind == 5) then (some (p.Name == ([]:aH))) else (some false)))))
def aFS (p:Part):Option Bool:=
 if (p.Kind == 0) then (zO p (p.Kind == 0)) else (zO p (p.Kind == 2))
def aIq (a:Int):Option Int:=
 some a
def aIr (c:(List Part)) (a b:Int):Option ((Int × Int) ⊕ Int):=
 if (decide (0 < b)) then (ob (ix c a) fun d=>
 ob (xY d) fun e=>
 some (.inl (wr (a+1),wr (b+(wr (e - 1)))))) else (some (.inr a))
def aFT (a:(List Part)) (b:Int):Option Int:=
 ob (loop (fun (s:(Int × Int))=>aIr a s.1 s.2) (b,1)) fun r=>aIq r
def aKd (a:Int):Option Int:=
 some a
def vN (a b:Int):Option ((Int × Int) ⊕ Int):=
 some (.inl (b,wr (a+1)))
def aBs (a b:Int) (c:Bool):Option ((Int × Int) ⊕ Int):=
 if c then (vN b (wr (a+1))) else (vN b a)
def kR (d:Definition) (e b a:Int):Option ((Int × Int) ⊕ Int):=
 if (decide (a < e)) then (ob (ix d.Body a) fun f=>
 if (f.Kind == 4) then (ob (aFT d.Body a) fun g=>
 aBs b a (decide (e < g))) else (aBs b a false)) else (some (.inr b))
def aAR (d:Definition) (b:Int):Option Int:=
 ob (loop (fun (s:(Int × Int))=>kR d b s.1 s.2) (d.Parameters,0)) fun r=>aKd r
def aJB (t:aP) (b:Int):Option Bool:=
 if (t.Kind == 0) then (ob (sT t.Value 0 63) fun c=>
 some c) else (if (t.Kind == 1) then (ob (sT t.Value 0 (wr (b - 1))) fun d=>
 some d) else (if (t.Kind == 2) then (ob (sT t.Value 0 8) fun e=>
 some e) else (if (t.Kind == 3) then (some (t.Value == 0)) else (some false))))
def aDQ (t:aP):Option Int:=
 if (t.Kind == 2) then (some 2) else (if (t.Kind == 3) then (some 1) else (some 0))
def aPq (a:Int):Option Bool:=
 some (a == 0)
def aGL (e:(List aP)) (c a:Int) (d:Bool):Option ((Int × Int) ⊕ (Int ⊕ Bool)):=
 if d then (some (.inr (.inr false))) else (ob (ix e a) fun f=>
 ob (aDQ f) fun g=>
 some (.inl (wr (c+(wr (g - 1))),wr (a+1))))
def aDR (e:(List aP)) (d b c:Int):Option ((Int × Int) ⊕ (Int ⊕ Bool)):=
 if (decide (c < (e.length:Int))) then (if (b == 0) then (aGL e b c true) else (ob (ix e c) fun f=>
 ob (aJB f d) fun g=>
 aGL e b c (!g))) else (some (.inr (.inl b)))
def aLJ (e:(List aP)) (c d:Int):Option Bool:=
 if (decide (d < (e.length:Int))) then (some false) else (ob (loop (fun (s:(Int × Int))=>aDR e c s.1 s.2) (1,0)) fun r=>match r with|.inl r=>aPq r|.inr r=>some r)
def aDS:Option Int:=
 some 0
def tE (b:Part) (c a:Int):Option (Int ⊕ (Unit ⊕ Int)):=
 if (decide (a < (b.Arguments.length:Int))) then (ob (ix b.Arguments a) fun d=>
 ob (aLJ d c 15) fun e=>
 if (!e) then (some (.inr (.inr 8))) else (some (.inl (wr (a+1))))) else (some (.inr (.inl ())))
def pQ (b:Part) (c:Int) (d:Bool):Option Int:=
 if d then (some 7) else (ob (loop (fun (s:Int)=>tE b c s) 0) fun r=>match r with|.inl r=>aDS|.inr r=>some r)
def mN (d:Definition) (e:Int) (a:Part) (f:Bool):Option Int:=
 if f then (some 6) else (ob (aAR d e) fun b=>
 if (a.Kind == 4) then (pQ a b (decide (6<=b))) else (pQ a b false))
def jE (d:Definition) (a:Int) (c:Part):Option Int:=
 if (c.Kind == 5) then (if (a == 0) then (mN d a c true) else (ob (ix d.Body (wr (a - 1))) fun e=>
 mN d a c (e.Kind != 1))) else (mN d a c false)
def tF (d:Definition) (b:Int) (c:Part) (e:Bool):Option Int:=
 if e then (some 5) else (jE d b c)
def jF (e:(List Definition)) (d:Definition) (c:Int) (a:Part) (f:Bool):Option Int:=
 if f then (some 4) else (if (a.Kind == 1) then (if (decide (2 < (a.Arguments.length:Int))) then (tF d c a true) else (if (decide (0 < (a.Arguments.length:Int))) then (tF d c a (a.Name == ([116,97,117]:aH))) else (tF d c a false))) else (if (a.Kind == 3) then (if ((a.Arguments.length:Int) != 1) then (some 5) else (jE d c a)) else (if (a.Kind == 5) then (ob (ix e a.Number) fun g=>
 if ((a.Arguments.length:Int) != g.Parameters) then (some 5) else (jE d c a)) else (jE d c a))))
def pR (b:(List Definition)) (d:Definition) (e:Int) (a:Part) (f:Bool):Option Int:=
 if f then (some 3) else (if (a.Kind == 4) then (ob (sT a.Number 1 7) fun g=>
 if (!g) then (jF b d e a true) else (if (a.Kind == 5) then (ob (sT a.Number 0 (wr ((b.length:Int) - 1))) fun h=>
 jF b d e a (!h)) else (jF b d e a false))) else (if (a.Kind == 5) then (ob (sT a.Number 0 (wr ((b.length:Int) - 1))) fun i=>
 jF b d e a (!i)) else (jF b d e a false)))
def xZ (e:(List Definition)) (d:Definition) (c:Int):Option Int:=
 ob (ix d.Body c) fun a=>
 ob (aFS a) fun f=>
 if (!f) then (some 2) else (if (a.Kind == 1) then (ob (xX a.Name) fun g=>
 pR e d c a (!g)) else (pR e d c a false))
def aLK:Option (Int × Int):=
 some (0,0)
def zQ (e:(List Definition)) (d:Definition) (a:Int):Option (Int ⊕ (Unit ⊕ (Int × Int))):=
 if (decide (a < (d.Body.length:Int))) then (ob (xZ e d a) fun c=>
 if (decide (0 < c)) then (some (.inr (.inr (a,c)))) else (some (.inl (wr (a+1))))) else (some (.inr (.inl ())))
def aDq (c:(List Definition)) (d:Definition):Option (Int × Int):=
 ob (aDP d.Body) fun e=>
 if (!e) then (some (0,1)) else (ob (loop (fun (s:Int)=>zQ c d s) 0) fun r=>match r with|.inl r=>aLK|.inr r=>some r)
def aLL:Option Bool:=
 some true
def aCI (a:(List Definition)) (b:Int):Option (Int ⊕ (Unit ⊕ Bool)):=
 if (decide (b < (a.length:Int))) then (ob (ix a b) fun c=>
 ob (aDq a c) fun d=>
 if (decide (0 < d.2)) then (some (.inr (.inr false))) else (some (.inl (wr (b+1))))) else (some (.inr (.inl ())))
def zU (b:(List Definition)):Option Bool:=
 ob (loop (fun (s:Int)=>aCI b s) 0) fun r=>match r with|.inl r=>aLL|.inr r=>some r
def aCJ (a:Int):Option (Int ⊕ (Unit ⊕ Bool)):=
 some (.inl (wr (a+1)))
def aCK (a:Int):Option (Int ⊕ (Unit ⊕ Bool)):=
 aCJ a
def aCL (b:(List Definition)) (c a:Int):Option (Int ⊕ (Unit ⊕ Bool)):=
 if (decide (a < c)) then (ob (ix b a) fun d=>
 ob (ix b c) fun e=>
 if (d.Name == e.Name) then (some (.inr (.inr false))) else (some (.inl (wr (a+1))))) else (some (.inr (.inl ())))
def zV (c:(List Definition)) (b:Int) (d:Bool):Option (Int ⊕ (Unit ⊕ Bool)):=
 if d then (some (.inr (.inr false))) else (ob (loop (fun (s:Int)=>aCL c b s) 0) fun r=>match r with|.inl r=>aCK b|.inr r=>some (.inr (.inr r)))
def zW (a:(List Definition)) (b:Int):Option (Int ⊕ (Unit ⊕ Bool)):=
 if (decide (b < (a.length:Int))) then (ob (ix a b) fun c=>
 ob (xX c.Name) fun d=>
 if (!d) then (zV a b true) else (ob (sT c.Parameters 0 3) fun e=>
 zV a b (!e))) else (some (.inr (.inl ())))
def uF (b:(List Definition)) (c:Bool):Option Bool:=
 if c then (some false) else (ob (loop (fun (s:Int)=>zW b s) 0) fun r=>match r with|.inl r=>zU b|.inr r=>some r)
def aAS (a:(List Definition)):Option Bool:=
 if ((a.length:Int) == 0) then (uF a true) else (uF a (decide (4 < (a.length:Int))))
def aLM:Option Bool:=
 some true
def aCM (b:(List Int)) (a:Int):Option (Int ⊕ (Unit ⊕ Bool)):=
 if (decide (a < (b.length:Int))) then (ob (ix b a) fun c=>
 ob (sT c 0 63) fun d=>
 if (!d) then (some (.inr (.inr false))) else (some (.inl (wr (a+1))))) else (some (.inr (.inl ())))
def aFU (b:(List Int)):Option Bool:=
 ob (loop (fun (s:Int)=>aCM b s) 0) fun r=>match r with|.inl r=>aLM|.inr r=>some r
def aDT:Option Bool:=
 some true
def qZ (a:Int) (b:Bool):Option (Int ⊕ (Unit ⊕ Bool)):=
 if b then (some (.inr (.inr false))) else (some (.inl (wr (a+1))))
def mO (a:aR) (b:Int):Option (Int ⊕ (Unit ⊕ Bool)):=
 if (decide (b < (a.Components.length:Int))) then (ob (ix a.Components b) fun c=>
 ob (sT c.Definition 0 (wr ((a.Definitions.length:Int) - 1))) fun d=>
 if (!d) then (some (.inr (.inr false))) else (ob (ix a.Definitions c.Definition) fun e=>
 if ((c.Values.length:Int) != e.Parameters) then (qZ b true) else (ob (aFU c.Values) fun f=>
 qZ b (!f)))) else (some (.inr (.inl ())))
def mP (b:aR) (c:Bool):Option Bool:=
 if c then (some false) else (ob (loop (fun (s:Int)=>mO b s) 0) fun r=>match r with|.inl r=>aDT|.inr r=>some r)
def rQ (a:aR):Option Bool:=
 if ((a.Components.length:Int) == 0) then (mP a true) else (mP a (decide (3 < (a.Components.length:Int))))
def zX (a:Bool):Option Bool:=
 some a
def nV (a:aH):Option Bool:=
 ob (xX a) fun b=>
 if b then (zX (!(a == ([116,97,117]:aH)))) else (zX false)
def aFV:Option Bool:=
 some true
def uG (a:Int):Option (Int ⊕ (Unit ⊕ Bool)):=
 some (.inl (wr (a+1)))
def aAT (a:Int):Option (Int ⊕ (Unit ⊕ Bool)):=
 uG a
def uH (a:Int) (b:Bool):Option (Int ⊕ (Unit ⊕ Bool)):=
 if b then (some (.inr (.inr false))) else (some (.inl (wr (a+1))))
def pS (b:(List aT)) (c:aT) (a:Int):Option (Int ⊕ (Unit ⊕ Bool)):=
 if (decide (a < (b.length:Int))) then (ob (ix b a) fun d=>
 if (d.Left == c.Result) then (uH a true) else (uH a (d.Right == c.Result))) else (some (.inr (.inl ())))
def iV (b:(List aT)) (c:Int) (d:aT) (e:Bool):Option (Int ⊕ (Unit ⊕ Bool)):=
 if e then (some (.inr (.inr false))) else (ob (loop (fun (s:Int)=>pS b d s) 0) fun r=>match r with|.inl r=>aAT c|.inr r=>some (.inr (.inr r)))
def iW (c:(List aT)) (b:Int) (a:aT) (e:Bool):Option (Int ⊕ (Unit ⊕ Bool)):=
 if e then (some (.inr (.inr false))) else (if (decide (0 < b)) then (ob (ix c (wr (b - 1))) fun d=>
 if (!(mW d.Left a.Left||d.Left == a.Left)) then (iV c b a true) else (if (d.Left == a.Left) then (iV c b a (!mW d.Right a.Right)) else (iV c b a false))) else (iV c b a false))
def mF (b:(List aT)) (c:Int):Option (Int ⊕ (Unit ⊕ Bool)):=
 if (decide (c < (b.length:Int))) then (ob (ix b c) fun a=>
 ob (nV a.Left) fun d=>
 if (!d) then (iW b c a true) else (ob (nV a.Right) fun e=>
 if (!e) then (iW b c a true) else (ob (nV a.Result) fun f=>
 if (!f) then (iW b c a true) else (iW b c a (!(mW a.Left a.Right||a.Left == a.Right)))))) else (some (.inr (.inl ())))
def vO (b:(List aT)):Option Bool:=
 if (decide (6 < (b.length:Int))) then (some false) else (ob (loop (fun (s:Int)=>mF b s) 0) fun r=>match r with|.inl r=>aFV|.inr r=>some r)
def aHw:Option Bool:=
 some true
def wW (b:(List aH)) (a:Int):Option (Int ⊕ (Unit ⊕ Bool)):=
 if (decide (a < (b.length:Int))) then (ob (ix b a) fun c=>
 ob (nV c) fun d=>
 if (!d) then (some (.inr (.inr false))) else (some (.inl (wr (a+1))))) else (some (.inr (.inl ())))
def zY (b:(List aH)):Option Bool:=
 ob (loop (fun (s:Int)=>wW b s) 0) fun r=>match r with|.inl r=>aHw|.inr r=>some r
def aKe:Option Bool:=
 some true
def vP (b:(List aH)) (a:Int):Option (Int ⊕ (Unit ⊕ Bool)):=
 if (decide (a < (b.length:Int))) then (ob (ix b (wr (a - 1))) fun c=>
 ob (ix b a) fun d=>
 if (!mW c d) then (some (.inr (.inr false))) else (some (.inl (wr (a+1))))) else (some (.inr (.inl ())))
def vQ (b:(List aH)) (c:Bool):Option Bool:=
 if c then (some false) else (ob (loop (fun (s:Int)=>vP b s) 1) fun r=>match r with|.inl r=>aKe|.inr r=>some r)
def aAU (a:(List aH)):Option Bool:=
 if (decide (12 < (a.length:Int))) then (vQ a true) else (ob (zY a) fun b=>
 vQ a (!b))
def aGM (a:aR):Option Int:=
 ob (aAS a.Definitions) fun b=>
 if (!b) then (some 1) else (ob (rQ a) fun c=>
 if (!c) then (some 2) else (ob (vO a.Meetings) fun d=>
 if (!d) then (some 3) else (ob (aAU a.Allowed) fun e=>
 if (!e) then (some 4) else (ob (aAU a.Hidden) fun f=>
 if (!f) then (some 5) else (some 0)))))
def aLN (a:aR):Option Bool:=
 ob (aGM a) fun b=>
 some (b == 0)
def rR (a:(List Int)):Option (List Int):=
 ob (wR ([]:List Int) a) fun b=>
 some b
def aNR (a:List GPoint):Option (List GPoint):=
 some a
def aBO (c:(List GPoint)) (d:List GPoint) (a:Int):Option ((List GPoint × Int) ⊕ (List GPoint)):=
 if (decide (a < (c.length:Int))) then (ob (ix c a) fun b=>
 ob (rR b.Values) fun e=>
 ob (wR d ([⟨b.Definition,b.Part,e⟩]:List GPoint)) fun f=>
 some (.inl (f,wr (a+1)))) else (some (.inr d))
def zZ (a:(List GPoint)):Option (List GPoint):=
 ob (loop (fun (s:(List GPoint × Int))=>aBO a s.1 s.2) (([]:List GPoint),0)) fun r=>aNR r
def wX (a b:(List Int)):Option Int:=
 if (decide ((a.length:Int) < (b.length:Int))) then (some (-1)) else (if (decide ((b.length:Int) < (a.length:Int))) then (some 1) else (some 0))
def nF (a b:(List Int)) (c:Int) (h:Bool):Option (Int ⊕ (Unit ⊕ Int)):=
 if h then (ob (ix a c) fun d=>
 ob (ix b c) fun e=>
 if (decide (d < e)) then (some (.inr (.inr (-1)))) else (if (decide (e < d)) then (some (.inr (.inr 1))) else (some (.inl (wr (c+1)))))) else (some (.inr (.inl ())))
def jR (a b:(List Int)) (c:Int):Option (Int ⊕ (Unit ⊕ Int)):=
 if (decide (c < (a.length:Int))) then (nF a b c (decide (c < (b.length:Int)))) else (nF a b c false)
def uI (a b:(List Int)):Option Int:=
 ob (loop (fun (s:Int)=>jR a b s) 0) fun r=>match r with|.inl r=>wX a b|.inr r=>some r
def uJ (a b:GPoint):Option Int:=
 ob (uI ([a.Definition,a.Part]:List Int) ([b.Definition,b.Part]:List Int)) fun e=>
 if (e != 0) then (some e) else (ob (uI a.Values b.Values) fun f=>
 some f)
def aLO (a:List GPoint):Option (List GPoint):=
 some a
def aCN (a:Int) (b:List GPoint):Option ((List GPoint × Int) ⊕ (List GPoint)):=
 some (.inl (b,wr (a+1)))
def aCO (d:(List GPoint)) (a b:Int) (c:List GPoint):Option ((List GPoint × Int) ⊕ (List GPoint)):=
 ob (ix d a) fun e=>
 ob (ix c b) fun g=>
 ob (st c b (e:GPoint)) fun f=>
 aCN a f
def nW (c:Int) (b:List GPoint) (a:Int):Option ((List GPoint × Int) ⊕ (List GPoint)):=
 if (decide (c < a)) then (ob (ix b (wr (a - 1))) fun d=>
 ob (ix b a) fun f=>
 ob (st b a (d:GPoint)) fun e=>
 some (.inl (e,wr (a - 1)))) else (some (.inr b))
def aCP (c:(List GPoint)) (d:List GPoint) (e a:Int):Option ((List GPoint × Int) ⊕ (List GPoint)):=
 ob (wR d ([⟨0,0,[]⟩]:List GPoint)) fun b=>
 ob (loop (fun (s:(List GPoint × Int))=>nW a s.1 s.2) (b,wr ((b.length:Int) - 1))) fun r=>aCO c e a r
def aAa (a:Int) (b:Bool):Option (Int ⊕ Int):=
 if b then (some (.inl (wr (a - 1)))) else (some (.inr a))
def rA (b:(List GPoint)) (c:List GPoint) (d a:Int):Option (Int ⊕ Int):=
 if (decide (0 < a)) then (ob (ix b d) fun e=>
 ob (ix c (wr (a - 1))) fun f=>
 ob (uJ e f) fun g=>
 aAa a (decide (g < 0))) else (aAa a false)
def nX (b:(List GPoint)) (a:List GPoint) (c:Int):Option ((List GPoint × Int) ⊕ (List GPoint)):=
 if (decide (c < (b.length:Int))) then (ob (loop (fun (s:Int)=>rA b a c s) (a.length:Int)) fun r=>aCP b a c r) else (some (.inr a))
def aDr (a:(List GPoint)):Option (List GPoint):=
 ob (zZ a) fun b=>
 ob (loop (fun (s:(List GPoint × Int))=>nX b s.1 s.2) (([]:List GPoint),0)) fun r=>aLO r
def aKf (a:List GPoint):Option (List GPoint):=
 some a
def vR (b:aR) (c:List GPoint) (a:Int):Option ((List GPoint × Int) ⊕ (List GPoint)):=
 if (decide (a < (b.Components.length:Int))) then (ob (ix b.Components a) fun d=>
 ob (rR d.Values) fun e=>
 ob (wR c ([⟨d.Definition,0,e⟩]:List GPoint)) fun f=>
 some (.inl (f,wr (a+1)))) else (some (.inr c))
def aDU (a:aR):Option (List GPoint):=
 ob (loop (fun (s:(List GPoint × Int))=>vR a s.1 s.2) (([]:List GPoint),0)) fun r=>aKf r
def aLP:Option Int:=
 some (-1)
def aCQ (b:(List aH)) (c:aH) (a:Int):Option (Int ⊕ (Unit ⊕ Int)):=
 if (decide (a < (b.length:Int))) then (ob (ix b a) fun d=>
 if (d == c) then (some (.inr (.inr a))) else (some (.inl (wr (a+1))))) else (some (.inr (.inl ())))
def pT (b:(List aH)) (c:aH):Option Int:=
 ob (loop (fun (s:Int)=>aCQ b c s) 0) fun r=>match r with|.inl r=>aLP|.inr r=>some r
def aIs (a:List UInt8):Option aH:=
 some a
def aEQ (c b:List UInt8) (a:Int):Option ((List UInt8 × Int) ⊕ (List UInt8)):=
 if (decide (0<=a)) then (ob (ix c a) fun d=>
 ob (wR b ([d]:List UInt8)) fun e=>
 some (.inl (e,wr (a - 1)))) else (some (.inr b))
def aBP (a:List UInt8):Option aH:=
 ob (loop (fun (s:(List UInt8 × Int))=>aEQ a s.1 s.2) (([]:List UInt8),wr ((a.length:Int) - 1))) fun r=>aIs r
def aER (n:Int) (a:List UInt8):Option aH:=
 if (decide (n < 0)) then (ob (wR a ([(45:UInt8)]:List UInt8)) fun c=>
 aBP c) else (aBP a)
def aES (a:List UInt8) (b c:Int):Option ((List UInt8 × Int) ⊕ (List UInt8)):=
 ob (wR a ([(UInt8.ofInt (wr (48+c)))]:List UInt8)) fun d=>
 ob (qu b 10) fun e=>
 some (.inl (d,e))
def aBQ (b:List UInt8) (a:Int):Option ((List UInt8 × Int) ⊕ (List UInt8)):=
 if (a != 0) then (ob (rm a 10) fun c=>
 if (decide (c < 0)) then (aES b a (wr (0 - c))) else (aES b a c)) else (some (.inr b))
def aIt (n:Int):Option aH:=
 if (n == 0) then (some ([48]:aH)) else (ob (loop (fun (s:(List UInt8 × Int))=>aBQ s.1 s.2) (([]:List UInt8),n)) fun r=>aER n r)
def aLQ (a:aH):Option aH:=
 some a
def aCR (b:(List Int)) (a:Int) (c:aH):Option ((aH × Int) ⊕ aH):=
 ob (ix b a) fun d=>
 ob (aIt d) fun e=>
 ob (cat c e) fun f=>
 some (.inl (f,wr (a+1)))
def rB (b:(List Int)) (c:aH) (a:Int):Option ((aH × Int) ⊕ aH):=
 if (decide (a < (b.length:Int))) then (if (decide (0 < a)) then (ob (cat c ([44]:aH)) fun d=>
 aCR b a d) else (aCR b a c)) else (some (.inr c))
def aFW (a:(List Int)):Option aH:=
 if ((a.length:Int) == 0) then (some ([45]:aH)) else (ob (loop (fun (s:(aH × Int))=>rB a s.1 s.2) (([]:aH),0)) fun r=>aLQ r)
def aFX (a:aH) (b:(List Int)):Option aH:=
 if ((b.length:Int) == 0) then (some a) else (ob (cat a ([40]:aH)) fun c=>
 ob (aFW b) fun d=>
 ob (cat c d) fun e=>
 ob (cat e ([41]:aH)) fun f=>
 some f)
def lJ (b:Bool):Option Int:=
 if b then (some 1) else (some 0)
def aIu (a:Int):Option Int:=
 some a
def aIv (e:(List aP)) (a b:Int):Option ((Int × Int) ⊕ Int):=
 if (decide (0 < b)) then (ob (ix e a) fun d=>
 ob (aDQ d) fun f=>
 some (.inl (wr (a+1),wr (b+(wr (f - 1)))))) else (some (.inr a))
def aIw (e:(List aP)) (k:Int):Option Int:=
 ob (loop (fun (s:(Int × Int))=>aIv e s.1 s.2) (k,1)) fun r=>aIu r
def aKM (a:Int):Option Int:=
 some a
def aKN (a:Int):Option Int:=
 some a
def aET (e a b:Int):Option Int:=
 if (e == 0) then (ob (rm (wr (a+b)) 64) fun f=>
 some f) else (if (e == 1) then (ob (rm (wr ((wr (a - b))+64)) 64) fun g=>
 some g) else (if (e == 2) then (ob (rm (wr (a * b)) 64) fun h=>
 some h) else (if (e == 3) then (ob (lJ (a == b)) fun i=>
 some i) else (if (e == 4) then (ob (lJ (a != b)) fun j=>
 some j) else (if (e == 5) then (ob (lJ (decide (a < b))) fun k=>
 some k) else (if (e == 6) then (ob (lJ (decide (a<=b))) fun l=>
 some l) else (if (e == 7) then (if (a != 0) then (ob (lJ (b != 0)) fun m=>
 aKM m) else (ob (lJ false) fun n=>
 aKM n)) else (if (a != 0) then (ob (lJ true) fun o=>
 aKN o) else (ob (lJ (b != 0)) fun p=>
 aKN p)))))))))
def uK (f:(List aP)->(List Int)->Int->Option Int) (e:(List aP)) (c:(List Int)) (k:Int):Option Int:=
 ob (ix e k) fun a=>
 if (a.Kind == 0) then (some a.Value) else (if (a.Kind == 1) then (ob (ix c a.Value) fun g=>
 some g) else (if (a.Kind == 3) then (ob (f e c (wr (k+1))) fun h=>
 ob (lJ (h == 0)) fun i=>
 some i) else (ob (f e c (wr (k+1))) fun j=>
 ob (aIw e (wr (k+1))) fun l=>
 ob (f e c l) fun m=>
 ob (aET a.Value j m) fun n=>
 some n)))
def uL:Nat->(List aP)->(List Int)->Int->Option Int
 |0=>fun _ _ _=>none
 |n+1=>uK (uL n)
def aSk (e:(List aP)) (b:(List Int)) (k:Int):Option Int:=
 uL 100000 e b k
def aAV (e:(List aP)) (b:(List Int)):Option Int:=
 ob (aSk e b 0) fun c=>
 some c
def aLR (a:List Int):Option (List Int):=
 some a
def aCS (b:(List (List aP))) (d:(List Int)) (c:List Int) (a:Int):Option ((List Int × Int) ⊕ (List Int)):=
 if (decide (a < (b.length:Int))) then (ob (ix b a) fun e=>
 ob (aAV e d) fun f=>
 ob (wR c ([f]:List Int)) fun g=>
 some (.inl (g,wr (a+1)))) else (some (.inr c))
def aDs (a:(List (List aP))) (b:(List Int)):Option (List Int):=
 ob (loop (fun (s:(List Int × Int))=>aCS a b s.1 s.2) (([]:List Int),0)) fun r=>aLR r
def aLS:Option Bool:=
 some true
def aCT (a b:(List Int)) (c:Int):Option (Int ⊕ (Unit ⊕ Bool)):=
 if (decide (c < (a.length:Int))) then (ob (ix a c) fun f=>
 ob (ix b c) fun g=>
 if (f != g) then (some (.inr (.inr false))) else (some (.inl (wr (c+1))))) else (some (.inr (.inl ())))
def aDt (a b:(List Int)):Option Bool:=
 if ((a.length:Int) != (b.length:Int)) then (some false) else (ob (loop (fun (s:Int)=>aCT a b s) 0) fun r=>match r with|.inl r=>aLS|.inr r=>some r)
def nY (a:Bool):Option Bool:=
 some a
def pU (a b:GPoint):Option Bool:=
 if (a.Definition == b.Definition) then (if (a.Part == b.Part) then (ob (aDt a.Values b.Values) fun e=>
 nY e) else (nY false)) else (nY false)
def tG (a:(List bF)) (b:bF):Option (List bF):=
 ob (wR a ([b]:List bF)) fun c=>
 some c
def aAb (a:(List bF)) (b:Int) (c:Bool):Option (Int ⊕ (Unit ⊕ (List bF))):=
 if c then (some (.inr (.inr a))) else (some (.inl (wr (b+1))))
def tH (a:(List bF)) (c:bF) (b:Int):Option (Int ⊕ (Unit ⊕ (List bF))):=
 if (decide (b < (a.length:Int))) then (ob (ix a b) fun d=>
 if (d.B == c.B) then (ob (pU d.Next c.Next) fun e=>
 aAb a b e) else (aAb a b false)) else (some (.inr (.inl ())))
def yA (b:(List bF)) (c:bF):Option (List bF):=
 ob (loop (fun (s:Int)=>tH b c s) 0) fun r=>match r with|.inl r=>tG b c|.inr r=>some r
def wY (a:List bF):Option (List bF):=
 some a
def nG (b:(List Int)) (c:(List bF)) (a:Part) (d e:Int) (f:List Int):Option (List bF):=
 ob (aDs a.Arguments b) fun g=>
 ob (aFX a.Name g) fun h=>
 ob (yA c ⟨h,⟨d,e,f⟩⟩) fun i=>
 some i
def wZ (a:List bF):Option (List bF):=
 wY a
def jS (c:(List Definition)->Int->Int->(List Int)->(List bF)->Option (List bF)) (e:(List Definition)) (d g:Int) (h:(List Int)) (i:Part) (b:List bF) (a:Int):Option ((List bF × Int) ⊕ (List bF)):=
 if (decide (a<=i.Number)) then (ob (rR h) fun j=>
 ob (wR j ([a]:List Int)) fun k=>
 ob (c e d (wr (g+1)) k b) fun l=>
 some (.inl (l,wr (a+1)))) else (some (.inr b))
def bK (h:(List Definition)->Int->Int->(List Int)->(List bF)->Option (List bF)) (g:(List Definition)) (d e:Int) (a:(List Int)) (b:(List bF)):Option (List bF):=
 ob (ix g d) fun i=>
 ob (ix i.Body e) fun c=>
 if (decide (200 < (b.length:Int))) then (some b) else (if (c.Kind == 1) then (ob (rR a) fun k=>
 ob (ix i.Body (wr (e+1))) fun j=>
 if (j.Kind == 5) then (ob (aDs j.Arguments a) fun l=>
 nG a b c j.Number 0 l) else (nG a b c d (wr (e+1)) k)) else (if (c.Kind == 2) then (ob (h g d (wr (e+1)) a b) fun m=>
 ob (aFT i.Body (wr (e+1))) fun n=>
 ob (h g d n a m) fun o=>
 some o) else (if (c.Kind == 3) then (ob (ix c.Arguments 0) fun p=>
 ob (aAV p a) fun q=>
 if (q != 0) then (ob (h g d (wr (e+1)) a b) fun t=>
 some t) else (wY b)) else (if (c.Kind == 4) then (ob (loop (fun (s:(List bF × Int))=>jS h g d e a c s.1 s.2) (b,0)) fun r=>wZ r) else (wY b)))))
def bT:Nat->(List Definition)->Int->Int->(List Int)->(List bF)->Option (List bF)
 |0=>fun _ _ _ _ _=>none
 |n+1=>bK (bT n)
def aGN (a:(List Definition)) (d c:Int) (e:(List Int)) (f:(List bF)):Option (List bF):=
 bT 100000 a d c e f
def rC (c:(List Definition)) (p:GPoint):Option ((List bF) × Bool):=
 ob (aGN c p.Definition p.Part p.Values ([]:List bF)) fun b=>
 some (b,decide ((b.length:Int)<=200))
def aLT (a:aH):Option Int:=
 some (a.length:Int)
def aCU (b:aH) (a:Int):Option (Int ⊕ (Unit ⊕ Int)):=
 if (decide (a < (b.length:Int))) then (ob (ix b a) fun c=>
 if ((c.toNat:Int) == 40) then (some (.inr (.inr a))) else (some (.inl (wr (a+1))))) else (some (.inr (.inl ())))
def aDu (b:aH):Option Int:=
 ob (loop (fun (s:Int)=>aCU b s) 0) fun r=>match r with|.inl r=>aLT b|.inr r=>some r
def kV (a:aH):Option aH:=
 ob (aDu a) fun b=>
 ob (slc a 0 b) fun c=>
 some c
def aLU:Option Bool:=
 some true
def aCV (a b:(List GPoint)) (c:Int):Option (Int ⊕ (Unit ⊕ Bool)):=
 if (decide (c < (a.length:Int))) then (ob (ix a c) fun f=>
 ob (ix b c) fun g=>
 ob (pU f g) fun h=>
 if (!h) then (some (.inr (.inr false))) else (some (.inl (wr (c+1))))) else (some (.inr (.inl ())))
def aAW (a b:(List GPoint)):Option Bool:=
 if ((a.length:Int) != (b.length:Int)) then (some false) else (ob (loop (fun (s:Int)=>aCV a b s) 0) fun r=>match r with|.inl r=>aLU|.inr r=>some r)
def aFY (b:aR) (a:aH):Option aH:=
 ob (kV a) fun c=>
 ob (pT b.Hidden c) fun d=>
 if (decide (0<=d)) then (some ([116,97,117]:aH)) else (some a)
def aFz (a:aH) (b:List aH) (c:Int):Option (List aH):=
 ob (slc a c (a.length:Int)) fun d=>
 ob (wR b ([d]:List aH)) fun e=>
 some e
def rY (a:Int) (b:List aH) (c:Int):Option ((List aH × Int × Int) ⊕ (List aH × Int)):=
 some (.inl (b,c,wr (a+1)))
def aBt (b:aH) (e:UInt8) (c:List aH) (d a:Int):Option ((List aH × Int × Int) ⊕ (List aH × Int)):=
 if (decide (a < (b.length:Int))) then (ob (ix b a) fun f=>
 if ((f.toNat:Int) == (e.toNat:Int)) then (ob (slc b d a) fun g=>
 ob (wR c ([g]:List aH)) fun h=>
 rY a h (wr (a+1))) else (rY a c d)) else (some (.inr (c,d)))
def aDV (a:aH) (c:UInt8):Option (List aH):=
 ob (loop (fun (s:(List aH × Int × Int))=>aBt a c s.1 s.2.1 s.2.2) (([]:List aH),0,0)) fun r=>aFz a r.1 r.2
def aDW (a:Int):Option (Int × Bool):=
 some (a,true)
def aAc (b a:Int):Option (Int × Bool):=
 if (b == 1) then (aDW (wr (0 - a))) else (aDW a)
def pV (b:aH) (c a:Int):Option ((Int × Int) ⊕ (Int ⊕ (Int × Bool))):=
 if (decide (a < (b.length:Int))) then (ob (ix b a) fun c45=>
 ob (aDO c45) fun d=>
 if (!d) then (some (.inr (.inr (0,false)))) else (some (.inl (wr ((wr (10 * c))+(wr ((c45 - (48:UInt8)).toNat:Int))),wr (a+1))))) else (some (.inr (.inl c)))
def kW (c:aH) (b:Int) (d:Bool):Option (Int × Bool):=
 if d then (some (0,false)) else (ob (loop (fun (s:(Int × Int))=>pV c s.1 s.2) (0,b)) fun r=>match r with|.inl r=>aAc b r|.inr r=>some r)
def tI (a:aH) (b:Int):Option (Int × Bool):=
 if ((a.length:Int) == b) then (kW a b true) else (if (decide (18 < wr ((a.length:Int) - b))) then (kW a b true) else (ob (ix a b) fun c=>
 if ((c.toNat:Int) == 48) then (kW a b (decide (1 < (a.length:Int)))) else (kW a b false)))
def aAd (a:aH) (b:Bool):Option (Int × Bool):=
 if b then (tI a 1) else (tI a 0)
def aBR (a:aH):Option (Int × Bool):=
 if (decide (0 < (a.length:Int))) then (ob (ix a 0) fun b=>
 aAd a ((b.toNat:Int) == 45)) else (aAd a false)
def aIx (a:List Int):Option ((List Int) × Bool):=
 some (a,decide ((a.length:Int)<=2))
def aAe (a:List Int) (b:Int) (c:(Int × Bool)) (d:Bool):Option ((List Int × Int) ⊕ (List Int ⊕ ((List Int) × Bool))):=
 if d then (some (.inr (.inr ([],false)))) else (ob (wR a ([c.1]:List Int)) fun e=>
 some (.inl (e,wr (b+1))))
def tJ (d:(List aH)) (c:List Int) (a:Int):Option ((List Int × Int) ⊕ (List Int ⊕ ((List Int) × Bool))):=
 if (decide (a < (d.length:Int))) then (ob (ix d a) fun e=>
 ob (aBR e) fun b=>
 if (!b.2) then (aAe c a b true) else (ob (sT b.1 0 63) fun f=>
 aAe c a b (!f))) else (some (.inr (.inl c)))
def tK (b:aH) (c:Int) (d:Bool):Option ((List Int) × Bool):=
 if d then (some ([],false)) else (ob (slc b (wr (c+1)) (wr ((b.length:Int) - 1))) fun e=>
 ob (aDV e (44:UInt8)) fun f=>
 ob (loop (fun (s:(List Int × Int))=>tJ f s.1 s.2) (([]:List Int),0)) fun r=>match r with|.inl r=>aIx r|.inr r=>some r)
def yB (a:aH):Option ((List Int) × Bool):=
 ob (aDu a) fun b=>
 if (b == (a.length:Int)) then (ob (xX a) fun c=>
 some (([]:List Int),c)) else (ob (slc a 0 b) fun d=>
 ob (nV d) fun e=>
 if (!e) then (tK a b true) else (ob (ix a (wr ((a.length:Int) - 1))) fun f=>
 tK a b ((f.toNat:Int) != 41)))
def aGO:Option aH:=
 some ([]:aH)
def aCW (b:(List aT)) (a:Int) (c:Bool):Option (Int ⊕ (Unit ⊕ aH)):=
 if c then (ob (ix b a) fun d=>
 some (.inr (.inr d.Result))) else (some (.inl (wr (a+1))))
def uM (c:(List aT)) (a b:aH) (d:Int):Option (Int ⊕ (Unit ⊕ aH)):=
 if (decide (d < (c.length:Int))) then (ob (ix c d) fun e=>
 if (e.Left == a) then (aCW c d (e.Right == b)) else (aCW c d false)) else (some (.inr (.inl ())))
def tL (g:(List aT)->aH->aH->Option aH) (f:(List aT)) (a b:aH):Option aH:=
 if (!(mW a b||a == b)) then (ob (g f b a) fun h=>
 some h) else (ob (loop (fun (s:Int)=>uM f a b s) 0) fun r=>match r with|.inl r=>aGO|.inr r=>some r)
def tM:Nat->(List aT)->aH->aH->Option aH
 |0=>fun _ _ _=>none
 |n+1=>tL (tM n)
def aJC (c:(List aT)) (a b:aH):Option aH:=
 tM 100000 c a b
def aCX (a:((List Int) × Bool)) (b:aH) (c:Bool):Option aH:=
 if c then (some ([]:aH)) else (ob (aFX b a.1) fun d=>
 some d)
def aFZ (e:aR) (a b:aH):Option aH:=
 ob (yB a) fun d=>
 ob (yB b) fun h=>
 ob (aDt d.1 h.1) fun i=>
 if (!i) then (some ([]:aH)) else (ob (kV a) fun j=>
 ob (kV b) fun k=>
 ob (aJC e.Meetings j k) fun c=>
 if (c == ([]:aH)) then (aCX d c true) else (ob (pT e.Allowed c) fun l=>
 aCX d c (decide (l < 0))))
def tN (a:(List aN)) (b:aN):Option (List aN):=
 ob (wR a ([b]:List aN)) fun c=>
 some c
def pW (a:(List aN)) (b:Int) (c:Bool):Option (Int ⊕ (Unit ⊕ (List aN))):=
 if c then (some (.inr (.inr a))) else (some (.inl (wr (b+1))))
def tO (a:(List aN)) (c:aN) (b:Int):Option (Int ⊕ (Unit ⊕ (List aN))):=
 if (decide (b < (a.length:Int))) then (ob (ix a b) fun d=>
 if (d.B == c.B) then (if (d.First == c.First) then (if (d.Second == c.Second) then (ob (aAW d.State c.State) fun e=>
 pW a b e) else (pW a b false)) else (pW a b false)) else (pW a b false)) else (some (.inr (.inl ())))
def yC (b:(List aN)) (c:aN):Option (List aN):=
 ob (loop (fun (s:Int)=>tO b c s) 0) fun r=>match r with|.inl r=>tN b c|.inr r=>some r
def vS (a:List aN):Option ((List aN) × Bool):=
 some (a,decide ((a.length:Int)<=200))
def aBu (a:Int) (b:List aN):Option ((List aN × Int) ⊕ (List aN)):=
 some (.inl (b,wr (a+1)))
def vT (a:Int) (b:List aN):Option ((List aN × Int) ⊕ (List aN)):=
 aBu a b
def aBv (a:Int) (b:List aN):Option ((List aN × Int) ⊕ (List aN)):=
 some (.inl (b,wr (a+1)))
def vU (a:Int) (b:List aN):Option ((List aN × Int) ⊕ (List aN)):=
 aBv a b
def aBw (a:Int) (b:List aN):Option ((List aN × Int) ⊕ (List aN)):=
 some (.inl (b,wr (a+1)))
def vV (a:Int) (b:List aN):Option ((List aN × Int) ⊕ (List aN)):=
 aBw a b
def vW (a:Int) (b:List aN):Option ((List aN × Int) ⊕ (List aN)):=
 some (.inl (b,wr (a+1)))
def oV (e:aR) (k:(List GPoint)) (l:List (List bF)) (b a m:Int) (n:(List bF)) (c:List aN) (d:Int) (o:Bool):Option ((List aN × Int) ⊕ (List aN)):=
 if o then (ob (ix n m) fun f=>
 ob (ix l a) fun p=>
 ob (ix p d) fun g=>
 ob (aFZ e f.B g.B) fun h=>
 if (h == ([]:aH)) then (vW d c) else (ob (zZ k) fun i=>
 ob (ix i b) fun u=>
 ob (st i b (f.Next:GPoint)) fun j=>
 ob (ix j a) fun v=>
 ob (st j a (g.Next:GPoint)) fun q=>
 ob (aFY e h) fun r=>
 ob (zZ q) fun s=>
 ob (yC c ⟨r,b,a,s⟩) fun t=>
 vW d t)) else (some (.inr c))
def iP (e:aR) (f:(List GPoint)) (a:List (List bF)) (g b h:Int) (i:(List bF)) (c:List aN) (d:Int):Option ((List aN × Int) ⊕ (List aN)):=
 ob (ix a b) fun j=>
 if (decide (d < (j.length:Int))) then (oV e f a g b h i c d (decide ((c.length:Int)<=200))) else (oV e f a g b h i c d false)
def jG (f:aR) (g:(List GPoint)) (b:List (List bF)) (c h:Int) (d:List aN) (a:Int):Option ((List aN × Int) ⊕ (List aN)):=
 ob (ix b c) fun e=>
 if (decide (a < (e.length:Int))) then (ob (loop (fun (s:(List aN × Int))=>iP f g b c h a e s.1 s.2) (d,0)) fun r=>vV a r) else (some (.inr d))
def kX (d:aR) (b:(List GPoint)) (e:List (List bF)) (f:Int) (c:List aN) (a:Int):Option ((List aN × Int) ⊕ (List aN)):=
 if (decide (a < (b.length:Int))) then (ob (loop (fun (s:(List aN × Int))=>jG d b e f a s.1 s.2) (c,0)) fun r=>vU a r) else (some (.inr c))
def mQ (d:aR) (b:(List GPoint)) (e:List (List bF)) (c:List aN) (a:Int):Option ((List aN × Int) ⊕ (List aN)):=
 if (decide (a < (b.length:Int))) then (ob (loop (fun (s:(List aN × Int))=>kX d b e a s.1 s.2) (c,wr (a+1))) fun r=>vT a r) else (some (.inr c))
def mR (a:aR) (b:(List GPoint)) (c:List (List bF)) (d:List aN):Option ((List aN) × Bool):=
 ob (loop (fun (s:(List aN × Int))=>mQ a b c s.1 s.2) (d,0)) fun r=>vS r
def aAf (a:Int) (b:List aN):Option ((List aN × Int) ⊕ (List aN)):=
 some (.inl (b,wr (a+1)))
def pX (a:Int) (b:List aN):Option ((List aN × Int) ⊕ (List aN)):=
 aAf a b
def pY (a:Int) (b:List aN):Option ((List aN × Int) ⊕ (List aN)):=
 some (.inl (b,wr (a+1)))
def jH (f:aR) (g:(List GPoint)) (a:Int) (b:List aN) (c:Int) (d:bF) (h:Bool):Option ((List aN × Int) ⊕ (List aN)):=
 if h then (pY c b) else (ob (zZ g) fun e=>
 ob (ix e a) fun m=>
 ob (st e a (d.Next:GPoint)) fun i=>
 ob (aFY f d.B) fun j=>
 ob (zZ i) fun k=>
 ob (yC b ⟨j,a,(-1),k⟩) fun l=>
 pY c l)
def pZ (c:aR) (f:(List GPoint)) (h:List (List bF)) (d:Int) (e:List aN) (a:Int):Option ((List aN × Int) ⊕ (List aN)):=
 ob (ix h d) fun g=>
 if (decide (a < (g.length:Int))) then (ob (ix g a) fun b=>
 if (!(b.B == ([116,97,117]:aH))) then (ob (kV b.B) fun i=>
 ob (pT c.Allowed i) fun j=>
 jH c f d e a b (decide (j < 0))) else (jH c f d e a b false)) else (some (.inr e))
def qA (d:aR) (b:(List GPoint)) (e:List (List bF)) (c:List aN) (a:Int):Option ((List aN × Int) ⊕ (List aN)):=
 if (decide (a < (b.length:Int))) then (ob (loop (fun (s:(List aN × Int))=>pZ d b e a s.1 s.2) (c,0)) fun r=>pX a r) else (some (.inr c))
def kY (a:aR) (b:(List GPoint)) (c:List (List bF)):Option ((List aN) × Bool):=
 ob (loop (fun (s:(List aN × Int))=>qA a b c s.1 s.2) (([]:List aN),0)) fun r=>mR a b c r
def kZ (e:aR) (b:(List GPoint)) (c:List (List bF)) (a:Int):Option ((List (List bF) × Int) ⊕ (List (List bF) ⊕ ((List aN) × Bool))):=
 if (decide (a < (b.length:Int))) then (ob (ix b a) fun f=>
 ob (rC e.Definitions f) fun d=>
 if (!d.2) then (some (.inr (.inr ([],false)))) else (ob (wR c ([d.1]:List (List bF))) fun g=>
 some (.inl (g,wr (a+1))))) else (some (.inr (.inl c)))
def rD (b:aR) (c:(List GPoint)):Option ((List aN) × Bool):=
 ob (loop (fun (s:(List (List bF) × Int))=>kZ b c s.1 s.2) (([]:List (List bF)),0)) fun r=>match r with|.inl r=>kY b c r|.inr r=>some r
def aKg (a:((List aN) × Bool)) (b:List aH) (c:List (List GPoint)):Option ((List aH) × (List (List GPoint)) × Bool):=
 some (b,c,a.2)
def rZ (b:((List aN) × Bool)) (c:List aH) (d:List (List GPoint)) (a:Int):Option ((List aH × List (List GPoint) × Int) ⊕ (List aH × List (List GPoint))):=
 if (decide (a < (b.1.length:Int))) then (ob (ix b.1 a) fun e=>
 ob (wR c ([e.B]:List aH)) fun f=>
 ob (wR d ([e.State]:List (List GPoint))) fun g=>
 some (.inl (f,g,wr (a+1)))) else (some (.inr (c,d)))
def rE (c:aR) (d:(List GPoint)):Option ((List aH) × (List (List GPoint)) × Bool):=
 ob (rD c d) fun a=>
 ob (loop (fun (s:(List aH × List (List GPoint) × Int))=>rZ a s.1 s.2.1 s.2.2) (([]:List aH),([]:List (List GPoint)),0)) fun r=>aKg a r.1 r.2
def aJD (a:(List aH)) (b:aH):Option ((List aH) × Int):=
 ob (pT a b) fun c=>
 if (decide (0<=c)) then (some (a,c)) else (ob (wR a ([b]:List aH)) fun d=>
 some (d,(a.length:Int)))
def aLV (a:List aH):Option (List aH):=
 some a
def uN (a:Int) (b:List aH):Option ((List aH × Int) ⊕ (List aH)):=
 some (.inl (b,wr (a+1)))
def aCY (c:Int) (d:aH) (a:Int) (b:List aH):Option ((List aH × Int) ⊕ (List aH)):=
 ob (ix b a) fun f=>
 ob (st b a (d:aH)) fun e=>
 uN c e
def aAg (c:Int) (b:List aH) (a:Int):Option ((List aH × Int) ⊕ (List aH)):=
 if (decide (c < a)) then (ob (ix b (wr (a - 1))) fun d=>
 ob (ix b a) fun f=>
 ob (st b a (d:aH)) fun e=>
 some (.inl (e,wr (a - 1)))) else (some (.inr b))
def aCZ (c:List aH) (d:Int) (e:aH) (a:Int):Option ((List aH × Int) ⊕ (List aH)):=
 ob (wR c ([([]:aH)]:List aH)) fun b=>
 ob (loop (fun (s:(List aH × Int))=>aAg a s.1 s.2) (b,wr ((b.length:Int) - 1))) fun r=>aCY d e a r
def aAh (a:Int) (b:Bool):Option (Int ⊕ Int):=
 if b then (some (.inl (wr (a+1)))) else (some (.inr a))
def uO (b:List aH) (c:aH) (a:Int):Option (Int ⊕ Int):=
 if (decide (a < (b.length:Int))) then (ob (ix b a) fun d=>
 aAh a (mW d c)) else (aAh a false)
def rF (d:(List aH)) (a:List aH) (b:Int):Option ((List aH × Int) ⊕ (List aH)):=
 if (decide (b < (d.length:Int))) then (ob (ix d b) fun c=>
 ob (pT a c) fun e=>
 if (decide (0<=e)) then (uN b a) else (ob (loop (fun (s:Int)=>uO a c s) 1) fun r=>aCZ a b c r)) else (some (.inr a))
def aDv (a:(List aH)):Option (List aH):=
 ob (loop (fun (s:(List aH × Int))=>rF a s.1 s.2) (([([116,97,117]:aH)]:List aH),0)) fun r=>aLV r
def aJE (a b:Edge):Option Bool:=
 if (a.F != b.F) then (some (decide (a.F < b.F))) else (if (a.B != b.B) then (some (decide (a.B < b.B))) else (some (decide (a.To < b.To))))
def aEU (e:Edge) (b:Int) (c:List Edge):Option (List Edge):=
 ob (ix c b) fun f=>
 ob (st c b (⟨e.F,e.B,e.To⟩:Edge)) fun d=>
 some d
def aBS (d:Int) (b:List Edge) (a:Int):Option ((List Edge × Int) ⊕ (List Edge)):=
 if (decide (d < a)) then (ob (ix b (wr (a - 1))) fun c=>
 ob (ix b a) fun f=>
 ob (st b a (⟨c.F,c.B,c.To⟩:Edge)) fun e=>
 some (.inl (e,wr (a - 1)))) else (some (.inr b))
def yD (a:(List Edge)) (e:Edge) (b:Int) (f:Bool):Option (List Edge):=
 if f then (some a) else (ob (wR a ([⟨0,0,0⟩]:List Edge)) fun c=>
 ob (loop (fun (s:(List Edge × Int))=>aBS b s.1 s.2) (c,wr ((c.length:Int) - 1))) fun r=>aEU e b r)
def aEV (b:(List Edge)) (e:Edge) (a:Int):Option (List Edge):=
 if (decide (0 < a)) then (ob (ix b (wr (a - 1))) fun d=>
 yD b e a (decide ((d:Edge)=e))) else (yD b e a false)
def aBT (a:Int) (b:Bool):Option (Int ⊕ Int):=
 if b then (some (.inl (wr (a - 1)))) else (some (.inr a))
def yE (b:(List Edge)) (e:Edge) (a:Int):Option (Int ⊕ Int):=
 if (decide (0 < a)) then (ob (ix b (wr (a - 1))) fun d=>
 ob (aJE e d) fun f=>
 aBT a f) else (aBT a false)
def aIy (a:(List Edge)) (e:Edge):Option (List Edge):=
 ob (loop (fun (s:Int)=>yE a e s) (a.length:Int)) fun r=>aEV a e r
def aGP (a b:Int) (c:(List aH)) (d:List Edge):Option iQ:=
 some ⟨a,b,c,d⟩
def rG (e:(List aH)) (c:(List Edge)) (f:(List aH)) (d:List Edge) (a:Int):Option ((List Edge × Int) ⊕ (List Edge)):=
 if (decide (a < (c.length:Int))) then (ob (ix c a) fun b=>
 ob (ix e b.B) fun g=>
 ob (pT f g) fun h=>
 ob (aIy d ⟨b.F,h,b.To⟩) fun i=>
 some (.inl (i,wr (a+1)))) else (some (.inr d))
def aAX (c d:Int) (a:(List aH)) (e:(List Edge)):Option iQ:=
 ob (aDv a) fun b=>
 ob (loop (fun (s:(List Edge × Int))=>rG a e b s.1 s.2) (([]:List Edge),0)) fun r=>aGP c d b r
def jT (a:List (List GPoint)) (b:List aH) (c:List Edge):Option (iQ × (List (List GPoint)) × Bool):=
 ob (aAX (a.length:Int) 0 b c) fun d=>
 some (d,a,true)
def xA (a:Int) (b:List (List GPoint)) (c:List aH) (d:List Edge):Option ((List (List GPoint) × List aH × List Edge × Int) ⊕ ((List (List GPoint) × List aH × List Edge) ⊕ (iQ × (List (List GPoint)) × Bool))):=
 some (.inl (b,c,d,wr (a+1)))
def nH (a:Int) (b:List (List GPoint)) (c:List aH) (d:List Edge):Option ((List (List GPoint) × List aH × List Edge × Int) ⊕ ((List (List GPoint) × List aH × List Edge) ⊕ (iQ × (List (List GPoint)) × Bool))):=
 xA a b c d
def xB (a:Int) (b:List (List GPoint)) (c:List aH) (d:List Edge):Option ((List (List GPoint) × List aH × List Edge × Int) ⊕ ((List (List GPoint) × List aH × List Edge) ⊕ (iQ × (List (List GPoint)) × Bool))):=
 some (.inl (b,c,d,wr (a+1)))
def nI (a:Int) (b:List (List GPoint)) (c:((List aH) × Int)) (d:List Edge) (e:Bool):Option ((List (List GPoint) × List aH × List Edge × Int) ⊕ ((List (List GPoint) × List aH × List Edge) ⊕ (iQ × (List (List GPoint)) × Bool))):=
 if e then (some (.inr (.inr (⟨0,0,[],[]⟩,[],false)))) else (xB a b c.1 d)
def nJ (d:Int) (a:List (List GPoint)) (b:((List aH) × Int)) (c:List Edge):Option ((List (List GPoint) × List aH × List Edge × Int) ⊕ ((List (List GPoint) × List aH × List Edge) ⊕ (iQ × (List (List GPoint)) × Bool))):=
 if (decide (40 < (a.length:Int))) then (nI d a b c true) else (if (decide (12 < (b.1.length:Int))) then (nI d a b c true) else (nI d a b c (decide (300 < (c.length:Int)))))
def xC (e:Int) (b:List Edge) (c:Int) (d:List (List GPoint)) (f:Int) (a:((List aH) × Int)) (g:Bool):Option ((List (List GPoint) × List aH × List Edge × Int) ⊕ ((List (List GPoint) × List aH × List Edge) ⊕ (iQ × (List (List GPoint)) × Bool))):=
 if (!g) then (ob (wR b ([⟨e,a.2,f⟩]:List Edge)) fun h=>
 nJ c d a h) else (nJ c d a b)
def rS (a:Int) (b:Bool):Option ((Bool × Int) ⊕ Bool):=
 some (.inl (b,wr (a+1)))
def jU (d:Int) (b:List Edge) (e:Int) (f:((List aH) × Int)) (c:Bool) (a:Int):Option ((Bool × Int) ⊕ Bool):=
 if (decide (a < (b.length:Int))) then (if c then (rS a true) else (ob (ix b a) fun g=>
 rS a (decide ((g:Edge)=⟨d,f.2,e⟩)))) else (some (.inr c))
def mG (a:Int) (f:((List aH) × (List (List GPoint)) × Bool)) (g:List aH) (b:List Edge) (c:Int) (h:List (List GPoint)) (d:Int):Option ((List (List GPoint) × List aH × List Edge × Int) ⊕ ((List (List GPoint) × List aH × List Edge) ⊕ (iQ × (List (List GPoint)) × Bool))):=
 ob (ix f.1 c) fun i=>
 ob (aJD g i) fun e=>
 ob (loop (fun (s:(Bool × Int))=>jU a b d e s.1 s.2) (false,0)) fun r=>xC a b c h d e r
def qB (b:Int) (c:((List aH) × (List (List GPoint)) × Bool)) (a:List (List GPoint)) (d:List aH) (e:List Edge) (f:Int) (h:(List GPoint)) (g:Int):Option ((List (List GPoint) × List aH × List Edge × Int) ⊕ ((List (List GPoint) × List aH × List Edge) ⊕ (iQ × (List (List GPoint)) × Bool))):=
 if (decide (g < 0)) then (ob (wR a ([h]:List (List GPoint))) fun i=>
 mG b c d e f i (a.length:Int)) else (mG b c d e f a g)
def qC (a b:Int):Option ((Int × Int) ⊕ Int):=
 some (.inl (b,wr (a+1)))
def iX (b:List (List GPoint)) (d:(List GPoint)) (c a:Int):Option ((Int × Int) ⊕ Int):=
 if (decide (a < (b.length:Int))) then (ob (ix b a) fun e=>
 ob (aAW e d) fun f=>
 if f then (qC a a) else (qC a c)) else (some (.inr c))
def iY (g:Int) (a:((List aH) × (List (List GPoint)) × Bool)) (b:List (List GPoint)) (d:List aH) (e:List Edge) (c:Int):Option ((List (List GPoint) × List aH × List Edge × Int) ⊕ ((List (List GPoint) × List aH × List Edge) ⊕ (iQ × (List (List GPoint)) × Bool))):=
 if (decide (c < (a.1.length:Int))) then (ob (ix a.2.1 c) fun h=>
 ob (aDr h) fun f=>
 ob (loop (fun (s:(Int × Int))=>iX b f s.1 s.2) ((-1),0)) fun r=>qB g a b d e c f r) else (some (.inr (.inl (b,d,e))))
def gF (g:aR) (b:List (List GPoint)) (d:List aH) (e:List Edge) (c:Int):Option ((List (List GPoint) × List aH × List Edge × Int) ⊕ ((List (List GPoint) × List aH × List Edge) ⊕ (iQ × (List (List GPoint)) × Bool))):=
 if (decide (c < (b.length:Int))) then (ob (ix b c) fun h=>
 ob (rE g h) fun f=>
 if (!f.2.2) then (some (.inr (.inr (⟨0,0,[],[]⟩,[],false)))) else (ob (loop (fun (s:(List (List GPoint) × List aH × List Edge × Int))=>iY c f s.1 s.2.1 s.2.2.1 s.2.2.2) (b,d,e,0)) fun r=>match r with|.inl r=>nH c r.1 r.2.1 r.2.2|.inr r=>some (.inr (.inr r)))) else (some (.inr (.inl (b,d,e))))
def rH (b:aR):Option (iQ × (List (List GPoint)) × Bool):=
 ob (aDU b) fun c=>
 ob (aDr c) fun d=>
 ob (loop (fun (s:(List (List GPoint) × List aH × List Edge × Int))=>gF b s.1 s.2.1 s.2.2.1 s.2.2.2) (([d]:List (List GPoint)),([([116,97,117]:aH)]:List aH),([]:List Edge),0)) fun r=>match r with|.inl r=>jT r.1 r.2.1 r.2.2|.inr r=>some r
def aKh (a:List Int):Option (List Int):=
 some a
def aQA (n:Int) (b:List Int) (a:Int):Option ((List Int × Int) ⊕ (List Int)):=
 if (decide (a < n)) then (ob (wR b ([a]:List Int)) fun d=>
 some (.inl (d,wr (a+1)))) else (some (.inr b))
def oW (n:Int):Option (List Int):=
 ob (loop (fun (s:(List Int × Int))=>aQA n s.1 s.2) (([]:List Int),0)) fun r=>aKh r
def aGQ (a:List GPoint):Option (List GPoint):=
 some a
def aAi (e:(List GPoint)) (c:(List Int)) (d:List GPoint) (a:Int):Option ((List GPoint × Int) ⊕ (List GPoint)):=
 if (decide (a < (c.length:Int))) then (ob (ix c a) fun f=>
 ob (ix e f) fun b=>
 ob (rR b.Values) fun g=>
 ob (wR d ([⟨b.Definition,b.Part,g⟩]:List GPoint)) fun h=>
 some (.inl (h,wr (a+1)))) else (some (.inr d))
def aGa (a:(List GPoint)) (b:(List Int)):Option (List GPoint):=
 ob (loop (fun (s:(List GPoint × Int))=>aAi a b s.1 s.2) (([]:List GPoint),0)) fun r=>aGQ r
def aGR:Option Bool:=
 some false
def uP (a b:(List GPoint)) (c:Int):Option (Int ⊕ (Unit ⊕ Bool)):=
 if (decide (c < (a.length:Int))) then (ob (ix a c) fun g=>
 ob (ix b c) fun h=>
 ob (uJ g h) fun e=>
 if (e != 0) then (some (.inr (.inr (decide (e < 0))))) else (some (.inl (wr (c+1))))) else (some (.inr (.inl ())))
def aGb (a b:(List GPoint)):Option Bool:=
 ob (loop (fun (s:Int)=>uP a b s) 0) fun r=>match r with|.inl r=>aGR|.inr r=>some r
def aGS (a:List Int):Option (Bool × (List Int)):=
 some (true,a)
def aDa (b:List Int) (c a:Int):Option ((List Int × Int × Int) ⊕ (List Int)):=
 if (decide (c < a)) then (ob (ix b c) fun e=>
 ob (ix b a) fun f=>
 ob (st b c (f:Int)) fun d=>
 ob (ix d a) fun h=>
 ob (st d a (e:Int)) fun g=>
 some (.inl (g,wr (c+1),wr (a - 1)))) else (some (.inr b))
def aDb (a:(List Int)) (b c:Int):Option (Bool × (List Int)):=
 ob (ix a b) fun f=>
 ob (ix a c) fun g=>
 ob (st a b (g:Int)) fun d=>
 ob (ix d c) fun i=>
 ob (st d c (f:Int)) fun e=>
 ob (loop (fun (s:(List Int × Int × Int))=>aDa s.1 s.2.1 s.2.2) (e,wr (b+1),wr ((e.length:Int) - 1))) fun r=>aGS r
def aGT (b:(List Int)) (c a:Int):Option (Int ⊕ Int):=
 ob (ix b a) fun d=>
 ob (ix b c) fun e=>
 if (decide (d < e)) then (some (.inl (wr (a - 1)))) else (some (.inr a))
def aAj (a:(List Int)) (b:Int):Option (Bool × (List Int)):=
 if (decide (b < 0)) then (some (false,a)) else (ob (loop (fun (s:Int)=>aGT a b s) (wr ((a.length:Int) - 1))) fun r=>aDb a b r)
def aGU (a:Int) (b:Bool):Option (Int ⊕ Int):=
 if b then (some (.inl (wr (a - 1)))) else (some (.inr a))
def aDc (b:(List Int)) (a:Int):Option (Int ⊕ Int):=
 if (decide (0<=a)) then (ob (ix b a) fun c=>
 ob (ix b (wr (a+1))) fun d=>
 aGU a (decide (d < c))) else (aGU a false)
def iN (a:(List Int)):Option (Bool × (List Int)):=
 ob (loop (fun (s:Int)=>aDc a s) (wr ((a.length:Int) - 2))) fun r=>aAj a r
def aFA (a:List (List GPoint)) (b:List Int):Option ((List (List GPoint) × List Int) ⊕ (List (List GPoint))):=
 some (.inl (a,b))
def mC (c:List Int) (a:List (List GPoint)):Option ((List (List GPoint) × List Int) ⊕ (List (List GPoint))):=
 ob (iN c) fun b=>
 if (!b.1) then (some (.inr a)) else (aFA a b.2)
def aBx (c:List Int) (d:(List GPoint)) (a:Int) (b:List (List GPoint)):Option ((List (List GPoint) × List Int) ⊕ (List (List GPoint))):=
 ob (ix b a) fun f=>
 ob (st b a (d:(List GPoint))) fun e=>
 mC c e
def mD (c:Int) (b:List (List GPoint)) (a:Int):Option ((List (List GPoint) × Int) ⊕ (List (List GPoint))):=
 if (decide (c < a)) then (ob (ix b (wr (a - 1))) fun d=>
 ob (ix b a) fun f=>
 ob (st b a (d:(List GPoint))) fun e=>
 some (.inl (e,wr (a - 1)))) else (some (.inr b))
def oX (a:List (List GPoint)) (b:List Int) (e:(List GPoint)) (c:Int) (f:Bool):Option ((List (List GPoint) × List Int) ⊕ (List (List GPoint))):=
 if f then (ob (wR a ([[]]:List (List GPoint))) fun d=>
 ob (loop (fun (s:(List (List GPoint) × Int))=>mD c s.1 s.2) (d,wr ((d.length:Int) - 1))) fun r=>aBx b e c r) else (mC b a)
def aBy (b:List (List GPoint)) (d:List Int) (c:(List GPoint)) (a:Int):Option ((List (List GPoint) × List Int) ⊕ (List (List GPoint))):=
 if (a == 0) then (oX b d c a true) else (ob (ix b (wr (a - 1))) fun e=>
 ob (aAW e c) fun f=>
 oX b d c a (!f))
def vX (a:Int) (b:Bool):Option (Int ⊕ Int):=
 if b then (some (.inl (wr (a - 1)))) else (some (.inr a))
def oY (b:List (List GPoint)) (c:(List GPoint)) (a:Int):Option (Int ⊕ Int):=
 if (decide (0 < a)) then (ob (ix b (wr (a - 1))) fun d=>
 ob (aGb c d) fun e=>
 vX a e) else (vX a false)
def oZ (d:(List GPoint)) (a:List (List GPoint)) (b:List Int):Option ((List (List GPoint) × List Int) ⊕ (List (List GPoint))):=
 ob (aGa d b) fun c=>
 ob (loop (fun (s:Int)=>oY a c s) (a.length:Int)) fun r=>aBy a b c r
def aDX (a:(List GPoint)):Option (List (List GPoint)):=
 ob (oW (a.length:Int)) fun b=>
 ob (loop (fun (s:(List (List GPoint) × List Int))=>oZ a s.1 s.2) (([]:List (List GPoint)),b)) fun r=>some r
def aHx (a:Int):Option (Int × Int):=
 some (a,0)
def jV (b:(iQ × (List (List GPoint)) × Bool)) (c a:Int):Option ((Int × Int) ⊕ Int):=
 if (decide (a < (b.2.1.length:Int))) then (ob (ix b.2.1 a) fun d=>
 ob (aDX d) fun e=>
 some (.inl (wr (c+(e.length:Int)),wr (a+1)))) else (some (.inr c))
def aAk (a:aR):Option (Int × Int):=
 ob (aLN a) fun c=>
 if (!c) then (some (0,1)) else (ob (rH a) fun b=>
 if (!b.2.2) then (some (0,5)) else (ob (loop (fun (s:(Int × Int))=>jV b s.1 s.2) (0,0)) fun r=>aHx r))
def aPr (a:aP):Option aP:=
 some a
def aLW (a:List aP):Option (List aP):=
 some a
def aAl (a:(List aP)) (c:List aP) (b:Int):Option ((List aP × Int) ⊕ (List aP)):=
 if (decide (b < (a.length:Int))) then (ob (ix a b) fun f=>
 ob (aPr f) fun e=>
 ob (ix c b) fun h=>
 ob (st c b (⟨e.Kind,e.Value⟩:aP)) fun g=>
 some (.inl (g,wr (b+1)))) else (some (.inr c))
def aJF (a:(List aP)):Option (List aP):=
 ob (mkz (a.length:Int) (⟨0,0⟩:aP)) fun c=>
 ob (loop (fun (s:(List aP × Int))=>aAl a s.1 s.2) (c,0)) fun r=>aLW r
def aKi (a:List (List aP)):Option (List (List aP)):=
 some a
def vY (a:(List (List aP))) (c:List (List aP)) (b:Int):Option ((List (List aP) × Int) ⊕ (List (List aP))):=
 if (decide (b < (a.length:Int))) then (ob (ix a b) fun e=>
 ob (aJF e) fun f=>
 ob (ix c b) fun h=>
 ob (st c b f) fun g=>
 some (.inl (g,wr (b+1)))) else (some (.inr c))
def aGV (a:(List (List aP))):Option (List (List aP)):=
 ob (mkz (a.length:Int) ([]:(List aP))) fun c=>
 ob (loop (fun (s:(List (List aP) × Int))=>vY a s.1 s.2) (c,0)) fun r=>aKi r
def aPs (a:Part):Option Part:=
 ob (aGV a.Arguments) fun c=>
 some ⟨a.Kind,a.Number,a.Name,c⟩
def aLX (a:List Part):Option (List Part):=
 some a
def aAm (a:(List Part)) (c:List Part) (b:Int):Option ((List Part × Int) ⊕ (List Part)):=
 if (decide (b < (a.length:Int))) then (ob (ix a b) fun e=>
 ob (aPs e) fun f=>
 ob (ix c b) fun h=>
 ob (st c b (f:Part)) fun g=>
 some (.inl (g,wr (b+1)))) else (some (.inr c))
def aJG (a:(List Part)):Option (List Part):=
 ob (mkz (a.length:Int) (⟨0,0,[],[]⟩:Part)) fun c=>
 ob (loop (fun (s:(List Part × Int))=>aAm a s.1 s.2) (c,0)) fun r=>aLX r
def aDY (a:Definition):Option Definition:=
 ob (aJG a.Body) fun c=>
 some ⟨a.Name,a.Parameters,c⟩
def aDZ (a:List Definition):Option (List Definition):=
 some a
def mS (a:(List Definition)) (c:List Definition) (b:Int):Option ((List Definition × Int) ⊕ (List Definition)):=
 if (decide (b < (a.length:Int))) then (ob (ix a b) fun e=>
 ob (aDY e) fun f=>
 ob (ix c b) fun h=>
 ob (st c b (f:Definition)) fun g=>
 some (.inl (g,wr (b+1)))) else (some (.inr c))
def xD (a:(List Definition)):Option (List Definition):=
 ob (mkz (a.length:Int) (⟨[],0,[]⟩:Definition)) fun c=>
 ob (loop (fun (s:(List Definition × Int))=>mS a s.1 s.2) (c,0)) fun r=>aDZ r
def aKj (a:List Int):Option (List Int):=
 some a
def vZ (a:(List Int)) (c:List Int) (b:Int):Option ((List Int × Int) ⊕ (List Int)):=
 if (decide (b < (a.length:Int))) then (ob (ix a b) fun e=>
 ob (ix c b) fun g=>
 ob (st c b (e:Int)) fun f=>
 some (.inl (f,wr (b+1)))) else (some (.inr c))
def aGW (a:(List Int)):Option (List Int):=
 ob (mkz (a.length:Int) (0:Int)) fun c=>
 ob (loop (fun (s:(List Int × Int))=>vZ a s.1 s.2) (c,0)) fun r=>aKj r
def aFB (a:aZ):Option aZ:=
 ob (aGW a.Values) fun c=>
 some ⟨a.Definition,c⟩
def aEW (a:List aZ):Option (List aZ):=
 some a
def nZ (a:(List aZ)) (c:List aZ) (b:Int):Option ((List aZ × Int) ⊕ (List aZ)):=
 if (decide (b < (a.length:Int))) then (ob (ix a b) fun e=>
 ob (aFB e) fun f=>
 ob (ix c b) fun h=>
 ob (st c b (f:aZ)) fun g=>
 some (.inl (g,wr (b+1)))) else (some (.inr c))
def aAn (a:(List aZ)):Option (List aZ):=
 ob (mkz (a.length:Int) (⟨0,[]⟩:aZ)) fun c=>
 ob (loop (fun (s:(List aZ × Int))=>nZ a s.1 s.2) (c,0)) fun r=>aEW r
def aIz (a:aT):Option aT:=
 some a
def aHy (a:List aT):Option (List aT):=
 some a
def rT (a:(List aT)) (c:List aT) (b:Int):Option ((List aT × Int) ⊕ (List aT)):=
 if (decide (b < (a.length:Int))) then (ob (ix a b) fun f=>
 ob (aIz f) fun d=>
 ob (ix c b) fun h=>
 ob (st c b (⟨d.Left,d.Right,d.Result⟩:aT)) fun g=>
 some (.inl (g,wr (b+1)))) else (some (.inr c))
def aDd (a:(List aT)):Option (List aT):=
 ob (mkz (a.length:Int) (⟨[],[],[]⟩:aT)) fun c=>
 ob (loop (fun (s:(List aT × Int))=>rT a s.1 s.2) (c,0)) fun r=>aHy r
def aIA (a:List aH):Option (List aH):=
 some a
def aAo (a:(List aH)) (c:List aH) (b:Int):Option ((List aH × Int) ⊕ (List aH)):=
 if (decide (b < (a.length:Int))) then (ob (ix a b) fun e=>
 ob (ix c b) fun g=>
 ob (st c b (e:aH)) fun f=>
 some (.inl (f,wr (b+1)))) else (some (.inr c))
def yF (a:(List aH)):Option (List aH):=
 ob (mkz (a.length:Int) ([]:aH)) fun c=>
 ob (loop (fun (s:(List aH × Int))=>aAo a s.1 s.2) (c,0)) fun r=>aIA r
def tP (a:aR):Option aR:=
 ob (xD a.Definitions) fun c=>
 ob (aAn a.Components) fun d=>
 ob (aDd a.Meetings) fun e=>
 ob (yF a.Allowed) fun f=>
 ob (yF a.Hidden) fun g=>
 some ⟨c,d,e,f,g⟩
def aAp (d:Definition):Option Bool:=
 ob (iO d.Parameters 0 3) fun b=>
 some (!b)
def fV:Option Int:=
 some (-1)
def bU (b:(List Definition)) (a:Int):Option (Int ⊕ (Unit ⊕ Int)):=
 if (decide (a < (b.length:Int))) then (ob (ix b a) fun c=>
 ob (aAp c) fun d=>
 if d then (some (.inr (.inr a))) else (some (.inl (wr (a+1))))) else (some (.inr (.inl ())))
def cQ (b:(List Definition)):Option Int:=
 ob (loop (fun (s:Int)=>bU b s) 0) fun r=>match r with|.inl r=>fV|.inr r=>some r
def cK (a:(List Definition)):Option Bool:=
 ob (cQ a) fun b=>
 some (decide (0<=b))
def aAq (a:(List Definition)):Option Bool:=
 ob (cK a) fun b=>
 some (!b)
def tQ (d:Definition) (p:aH):Option Bool:=
 some (d.Name == p)
def fH:Option Int:=
 some (-1)
def bP (b:(List Definition)) (c:aH) (a:Int):Option (Int ⊕ (Unit ⊕ Int)):=
 if (decide (a < (b.length:Int))) then (ob (ix b a) fun d=>
 ob (tQ d c) fun e=>
 if e then (some (.inr (.inr a))) else (some (.inl (wr (a+1))))) else (some (.inr (.inl ())))
def cL (b:(List Definition)) (c:aH):Option Int:=
 ob (loop (fun (s:Int)=>bP b c s) 0) fun r=>match r with|.inl r=>fH|.inr r=>some r
def oA (a:(List Definition)) (b:aH):Option Int:=
 ob (cL a b) fun c=>
 some c
def uQ (p:Part) (b:Bool):Option Int:=
 if b then (some 1) else (if (p.Kind == 2) then (some 2) else (some 0))
def wA (p:Part):Option Int:=
 if (p.Kind == 1) then (uQ p (p.Kind == 1)) else (if (p.Kind == 3) then (uQ p (p.Kind == 3)) else (uQ p (p.Kind == 4)))
def pD (a:Int):Option Int:=
 some a
def iI (d:Definition) (a c:Int):Option ((Int × Int) ⊕ (Int ⊕ Int)):=
 if (decide (0 < c)) then (if (decide ((d.Body.length:Int)<=a)) then (some (.inr (.inr (-1)))) else (ob (ix d.Body a) fun e=>
 ob (wA e) fun f=>
 some (.inl (wr (a+1),wr (c+(wr (f - 1))))))) else (some (.inr (.inl a)))
def kI (d:Definition) (c:Int):Option Int:=
 ob (loop (fun (s:(Int × Int))=>iI d s.1 s.2) (c,1)) fun r=>match r with|.inl r=>pD r|.inr r=>some r
def kD (a:Int) (b:List dJ):Option (Int × (List dJ)):=
 some (a,b)
def eT (f:Int->dJ->(List dJ)->Definition->Definition->Option (Int × (List dJ))) (a:Definition) (g:Part) (h i b c:Int) (d:List dJ):Option ((Int × Int × List dJ) ⊕ (Int × List dJ)):=
 if (decide (c < i)) then (ob (f b ⟨h,g.Kind == 1⟩ d a a) fun e=>
 some (.inl (e.1,wr (c+1),e.2))) else (some (.inr (b,d)))
def cR (c:Int->dJ->(List dJ)->Definition->Definition->Option (Int × (List dJ))) (d:Int) (e:Definition) (f:List dJ) (a:Part) (g:Int):Option (Int × (List dJ)):=
 ob (wA a) fun h=>
 ob (loop (fun (s:(Int × Int × List dJ))=>eT c e a g h s.1 s.2.1 s.2.2) (wr (d+1),0,f)) fun r=>kD r.1 r.2
def dP (d:Int->dJ->(List dJ)->Definition->Definition->Option (Int × (List dJ))) (a:Int) (p:dJ) (e:(List dJ)) (h f:Definition):Option (Int × (List dJ)):=
 ob (ix e a) fun i=>
 ob (st e a (⟨p.scope,p.behind⟩:dJ)) fun g=>
 ob (ix h.Body a) fun c=>
 if (c.Kind == 4) then (cR d a f g c (wr (p.scope+1))) else (cR d a f g c p.scope)
def cF:Nat->Int->dJ->(List dJ)->Definition->Definition->Option (Int × (List dJ))
 |0=>fun _ _ _ _ _=>none
 |n+1=>dP (cF n)
def rI (a:Int) (p:dJ) (c:(List dJ)) (d e:Definition):Option (Int × (List dJ)):=
 cF 100000 a p c d e
def lP (d:Definition):Option (List dJ):=
 ob (mkz (d.Body.length:Int) (⟨0,false⟩:dJ)) fun b=>
 ob (rI 0 ⟨d.Parameters,false⟩ b d d) fun c=>
 some c.2
def aDe (i many:Int):Option Bool:=
 ob (iO i 0 (wr (many - 1))) fun b=>
 some b
def dU (a:Bool):Option Bool:=
 some a
def mH (p:Part) (c b:Bool):Option Bool:=
 ob (iO p.Kind 0 5) fun d=>
 if d then (if c then (if (p.Kind == 1) then (if b then (dU true) else (dU ((p.Arguments.length:Int) == 0))) else (if (p.Name == ([]:aH)) then (if b then (dU true) else (dU ((p.Arguments.length:Int) == 0))) else (dU false))) else (if (p.Number == 0) then (if (p.Kind == 1) then (if b then (dU true) else (dU ((p.Arguments.length:Int) == 0))) else (if (p.Name == ([]:aH)) then (if b then (dU true) else (dU ((p.Arguments.length:Int) == 0))) else (dU false))) else (dU false))) else (dU false)
def qD (p:Part) (b:Bool):Option Bool:=
 if (p.Kind == 1) then (mH p b true) else (if (p.Kind == 3) then (mH p b true) else (mH p b (p.Kind == 5)))
def wB (p:Part):Option Bool:=
 if (p.Kind == 4) then (qD p true) else (qD p (p.Kind == 5))
def oB (a:Bool):Option Bool:=
 some a
def tR (p:Part) (b:(List Definition)):Option Bool:=
 if (p.Kind == 1) then (if ((p.Arguments.length:Int) == 0) then (oB true) else (if (!(p.Name == ([116,97,117]:aH))) then (oB (decide ((p.Arguments.length:Int)<=2))) else (oB false))) else (if (p.Kind == 3) then (some ((p.Arguments.length:Int) == 1)) else (if (p.Kind == 5) then (ob (ix b p.Number) fun c=>
 some ((p.Arguments.length:Int) == c.Parameters)) else (some true)))
def aDf (t:aP) (b:Int):Option Bool:=
 if (t.Kind == 0) then (ob (aDp t.Value) fun c=>
 some c) else (if (t.Kind == 1) then (ob (iO t.Value 0 (wr (b - 1))) fun d=>
 some d) else (if (t.Kind == 2) then (ob (iO t.Value 0 8) fun e=>
 some e) else (if (t.Kind == 3) then (some (t.Value == 0)) else (some false))))
def xE (t:aP):Option Int:=
 if (t.Kind == 2) then (some 2) else (if (t.Kind == 3) then (some 1) else (some 0))
def aHz (a:Int):Option Bool:=
 some (a == 0)
def xF (a b:Int) (c:aP) (d:Bool):Option ((Int × Int) ⊕ (Int ⊕ Bool)):=
 if d then (some (.inr (.inr false))) else (ob (xE c) fun e=>
 some (.inl (wr (a+(wr (e - 1))),wr (b+1))))
def rU (e:(List aP)) (f a b:Int):Option ((Int × Int) ⊕ (Int ⊕ Bool)):=
 if (decide (b < (e.length:Int))) then (ob (ix e b) fun c=>
 if (a == 0) then (xF a b c true) else (ob (aDf c f) fun g=>
 xF a b c (!g))) else (some (.inr (.inl a)))
def nK (e:(List aP)) (c:Int) (d:Bool):Option Bool:=
 if d then (some false) else (ob (loop (fun (s:(Int × Int))=>rU e c s.1 s.2) (1,0)) fun r=>match r with|.inl r=>aHz r|.inr r=>some r)
def aAr (e:(List aP)) (b c:Int):Option Bool:=
 ob (iO b 0 29) fun d=>
 if (!d) then (nK e b true) else (ob (iO c 1 60) fun f=>
 if (!f) then (nK e b true) else (ob (iO (e.length:Int) 1 c) fun g=>
 nK e b (!g)))
def aAY (e:(List aP)) (p:dJ):Option Bool:=
 ob (aAr e p.scope 15) fun c=>
 some (!c)
def iG:Option Int:=
 some (-1)
def cJ (b:(List (List aP))) (c:dJ) (a:Int):Option (Int ⊕ (Unit ⊕ Int)):=
 if (decide (a < (b.length:Int))) then (ob (ix b a) fun d=>
 ob (aAY d c) fun e=>
 if e then (some (.inr (.inr a))) else (some (.inl (wr (a+1))))) else (some (.inr (.inl ())))
def dT (b:(List (List aP))) (c:dJ):Option Int:=
 ob (loop (fun (s:Int)=>cJ b c s) 0) fun r=>match r with|.inl r=>iG|.inr r=>some r
def dI (a:(List (List aP))) (b:dJ):Option Bool:=
 ob (dT a b) fun c=>
 some (decide (0<=c))
def mI (p:Part) (b:dJ) (c:Bool):Option Int:=
 if c then (some 7) else (ob (dI p.Arguments b) fun d=>
 if d then (some 8) else (some 0))
def mJ (p:Part) (b:dJ) (c:Bool):Option Int:=
 if c then (some 6) else (if (p.Kind == 4) then (mI p b (decide (6<=b.scope))) else (mI p b false))
def iE (p:Part) (c:(List Definition)) (b:dJ) (d:Bool):Option Int:=
 if d then (some 4) else (ob (tR p c) fun e=>
 if (!e) then (some 5) else (if (p.Kind == 5) then (mJ p b (!b.behind)) else (mJ p b false)))
def kJ (p:Part) (b:(List Definition)) (c:dJ) (d:Bool):Option Int:=
 if d then (some 3) else (if (p.Kind == 4) then (ob (iO p.Number 1 7) fun e=>
 if (!e) then (iE p b c true) else (if (p.Kind == 5) then (ob (aDe p.Number (b.length:Int)) fun f=>
 iE p b c (!f)) else (iE p b c false))) else (if (p.Kind == 5) then (ob (aDe p.Number (b.length:Int)) fun g=>
 iE p b c (!g)) else (iE p b c false)))
def sA (p:Part) (b:(List Definition)) (c:dJ):Option Int:=
 ob (wB p) fun d=>
 if (!d) then (some 2) else (if (p.Kind == 1) then (if (!(p.Name == ([116,97,117]:aH))) then (ob (oU p.Name) fun e=>
 kJ p b c (!e)) else (kJ p b c false)) else (kJ p b c false))
def aIB:Option (Int × Int):=
 some (0,0)
def tS (e:(List Definition)) (d:Definition) (f:(List dJ)) (a:Int):Option (Int ⊕ (Unit ⊕ (Int × Int))):=
 if (decide (a < (d.Body.length:Int))) then (ob (ix d.Body a) fun g=>
 ob (ix f a) fun h=>
 ob (sA g e h) fun c=>
 if (c != 0) then (some (.inr (.inr (a,c)))) else (some (.inl (wr (a+1))))) else (some (.inr (.inl ())))
def tT (c:(List Definition)) (d:Definition) (e:Bool):Option (Int × Int):=
 if e then (some (0,1)) else (ob (lP d) fun f=>
 ob (loop (fun (s:Int)=>tS c d f s) 0) fun r=>match r with|.inl r=>aIB|.inr r=>some r)
def yG (b:(List Definition)) (d:Definition):Option (Int × Int):=
 ob (iO (d.Body.length:Int) 1 20) fun c=>
 if (!c) then (tT b d true) else (ob (kI d 0) fun e=>
 tT b d (e != (d.Body.length:Int)))
def aAL:Option Bool:=
 some true
def mX (a:(List Definition)) (b:Int) (c:Definition) (d:Bool):Option (Int ⊕ (Unit ⊕ Bool)):=
 if d then (some (.inr (.inr false))) else (ob (yG a c) fun e=>
 if (e.2 != 0) then (some (.inr (.inr false))) else (some (.inl (wr (b+1)))))
def kE (a:(List Definition)) (b:Int):Option (Int ⊕ (Unit ⊕ Bool)):=
 if (decide (b < (a.length:Int))) then (ob (ix a b) fun c=>
 ob (aFQ c.Name) fun d=>
 if (!d) then (mX a b c true) else (ob (slc a 0 b) fun e=>
 ob (oA e c.Name) fun f=>
 mX a b c (decide (0<=f)))) else (some (.inr (.inl ())))
def kF (b:(List Definition)) (c:Bool):Option Bool:=
 if c then (some false) else (ob (loop (fun (s:Int)=>kE b s) 0) fun r=>match r with|.inl r=>aAL|.inr r=>some r)
def iT (a:(List Definition)):Option Bool:=
 ob (iO (a.length:Int) 1 4) fun b=>
 if (!b) then (kF a true) else (ob (aAq a) fun c=>
 kF a (!c))
def qE (a:Bool):Option Bool:=
 some a
def wC (b:(List Definition)) (c:aZ):Option Bool:=
 ob (aDe c.Definition (b.length:Int)) fun d=>
 if d then (ob (ix b c.Definition) fun e=>
 if ((c.Values.length:Int) == e.Parameters) then (ob (aBJ c.Values) fun f=>
 qE f) else (qE false)) else (qE false)
def pE (a:aH):Option Bool:=
 some (!(a == a))
def kG (a y:aH):Option Int:=
 ob (pE a) fun d=>
 ob (pE y) fun c=>
 if d then (if c then (some 0) else (some (-1))) else (if c then (some 1) else (if (mW a y) then (some (-1)) else (if (!(mW a y||a == y)) then (some 1) else (some 0))))
def lQ (a b:(List aH)):Option Int:=
 if (decide ((a.length:Int) < (b.length:Int))) then (some (-1)) else (some 0)
def bR (b c:(List aH)) (a:Int):Option (Int ⊕ (Unit ⊕ Int)):=
 if (decide (a < (b.length:Int))) then (ob (ix b a) fun e=>
 if (decide ((c.length:Int)<=a)) then (some (.inr (.inr 1))) else (ob (ix c a) fun f=>
 ob (kG e f) fun d=>
 if (d != 0) then (some (.inr (.inr d))) else (some (.inl (wr (a+1)))))) else (some (.inr (.inl ())))
def gE (b c:(List aH)):Option Int:=
 ob (loop (fun (s:Int)=>bR b c s) 0) fun r=>match r with|.inl r=>lQ b c|.inr r=>some r
def oC (a b:aT):Option Int:=
 ob (gE ([a.Left,a.Right]:List aH) ([b.Left,b.Right]:List aH)) fun e=>
 some e
def rJ (a:Bool):Option Bool:=
 some a
def xG (o p:aT):Option Bool:=
 if (o.Left == p.Result) then (rJ true) else (rJ (o.Right == p.Result))
def gY:Option Int:=
 some (-1)
def cD (b:(List aT)) (c:aT) (a:Int):Option (Int ⊕ (Unit ⊕ Int)):=
 if (decide (a < (b.length:Int))) then (ob (ix b a) fun d=>
 ob (xG d c) fun e=>
 if e then (some (.inr (.inr a))) else (some (.inl (wr (a+1))))) else (some (.inr (.inl ())))
def dK (b:(List aT)) (c:aT):Option Int:=
 ob (loop (fun (s:Int)=>cD b c s) 0) fun r=>match r with|.inl r=>gY|.inr r=>some r
def cZ (a:(List aT)) (b:aT):Option Bool:=
 ob (dK a b) fun c=>
 some (decide (0<=c))
def aHA (a:(List aT)):Option Bool:=
 some (decide ((a.length:Int)<=6))
def iD (a:(List aT)) (b:Int) (c:aT) (d:Bool):Option (Int ⊕ (Unit ⊕ Bool)):=
 if d then (some (.inr (.inr false))) else (ob (cZ a c) fun e=>
 if e then (some (.inr (.inr false))) else (some (.inl (wr (b+1)))))
def jW (c:(List aT)) (b:Int):Option (Int ⊕ (Unit ⊕ Bool)):=
 if (decide (b < (c.length:Int))) then (ob (ix c b) fun a=>
 ob (oU a.Left) fun d=>
 if (!d) then (iD c b a true) else (ob (oU a.Right) fun e=>
 if (!e) then (iD c b a true) else (ob (oU a.Result) fun f=>
 if (!f) then (iD c b a true) else (if (!(mW a.Left a.Right||a.Left == a.Right)) then (iD c b a true) else (if (decide (0 < b)) then (ob (ix c (wr (b - 1))) fun g=>
 ob (oC g a) fun h=>
 iD c b a (decide (0<=h))) else (iD c b a false)))))) else (some (.inr (.inl ())))
def rK (b:(List aT)):Option Bool:=
 ob (loop (fun (s:Int)=>jW b s) 0) fun r=>match r with|.inl r=>aHA b|.inr r=>some r
def aGX (a:(List aH)):Option Bool:=
 some (decide ((a.length:Int)<=12))
def aAs (a:Int) (b:Bool):Option (Int ⊕ (Unit ⊕ Bool)):=
 if b then (some (.inr (.inr false))) else (some (.inl (wr (a+1))))
def aAt (b:(List aH)) (a:Int):Option (Int ⊕ (Unit ⊕ Bool)):=
 if (decide (a < (b.length:Int))) then (ob (ix b a) fun c=>
 ob (oU c) fun e=>
 if (!e) then (aAs a true) else (if (decide (0 < a)) then (ob (ix b (wr (a - 1))) fun d=>
 aAs a (mW c d||c == d)) else (aAs a false))) else (some (.inr (.inl ())))
def aDw (b:(List aH)):Option Bool:=
 ob (loop (fun (s:Int)=>aAt b s) 0) fun r=>match r with|.inl r=>aGX b|.inr r=>some r
def aAZ (c:aZ) (p:aR):Option Bool:=
 ob (wC p.Definitions c) fun d=>
 some (!d)
def gB:Option Int:=
 some (-1)
def bV (b:(List aZ)) (c:aR) (a:Int):Option (Int ⊕ (Unit ⊕ Int)):=
 if (decide (a < (b.length:Int))) then (ob (ix b a) fun d=>
 ob (aAZ d c) fun e=>
 if e then (some (.inr (.inr a))) else (some (.inl (wr (a+1))))) else (some (.inr (.inl ())))
def cY (b:(List aZ)) (c:aR):Option Int:=
 ob (loop (fun (s:Int)=>bV b c s) 0) fun r=>match r with|.inl r=>gB|.inr r=>some r
def cP (a:(List aZ)) (b:aR):Option Bool:=
 ob (cY a b) fun c=>
 some (decide (0<=c))
def uR (a:aR) (b:Bool):Option Int:=
 if b then (some 2) else (ob (rK a.Meetings) fun c=>
 if (!c) then (some 3) else (ob (aDw a.Allowed) fun d=>
 if (!d) then (some 4) else (ob (aDw a.Hidden) fun e=>
 if (!e) then (some 5) else (some 0))))
def wD (a:aR):Option Int:=
 ob (iT a.Definitions) fun b=>
 if (!b) then (some 1) else (ob (iO (a.Components.length:Int) 1 3) fun c=>
 if (!c) then (uR a true) else (ob (cP a.Components a) fun d=>
 uR a d))
def wE (a:aR):Option Bool:=
 ob (wD a) fun b=>
 some (b == 0)
def aCh (a b:aH):Option Int:=
 if (a == b) then (some 0) else (if (a == ([116,97,117]:aH)) then (some (-1)) else (if (b == ([116,97,117]:aH)) then (some 1) else (ob (aRa a b) fun e=>
 some e)))
def kK (a:Int):Option Bool:=
 some (a != a)
def cM (a y:Int):Option Int:=
 ob (kK a) fun d=>
 ob (kK y) fun c=>
 if d then (if c then (some 0) else (some (-1))) else (if c then (some 1) else (if (decide (a < y)) then (some (-1)) else (if (decide (y < a)) then (some 1) else (some 0))))
def aBa:Option Int:=
 some 0
def dE (b:(List Int)) (a:Int):Option (Int ⊕ (Unit ⊕ Int)):=
 if (decide (a < (b.length:Int))) then (ob (ix b a) fun c=>
 if (c != 0) then (some (.inr (.inr c))) else (some (.inl (wr (a+1))))) else (some (.inr (.inl ())))
def mE (b:(List Int)):Option Int:=
 ob (loop (fun (s:Int)=>dE b s) 0) fun r=>match r with|.inl r=>aBa|.inr r=>some r
def tU (a b:Edge):Option Int:=
 ob (cM a.F b.F) fun e=>
 ob (cM a.B b.B) fun f=>
 ob (cM a.To b.To) fun g=>
 ob (mE ([e,f,g]:List Int)) fun h=>
 some h
def jI (a:(List Edge)):Option (List Edge):=
 some a
def eE (a:Int):Option (Int ⊕ (Unit ⊕ (List Edge))):=
 some (.inl (wr (a+1)))
def eF (a:List Edge) (b:Int):Option (Int ⊕ (Unit ⊕ (List Edge))):=
 ob (slc a b (a.length:Int)) fun c=>
 ob (ovw a b (List.replicate c.length (⟨0,0,0⟩:Edge))) fun d=>
 ob (slc d 0 b) fun e=>
 some (.inr (.inr e))
def dA (a:Int) (b:List Edge) (c:Int):Option ((List Edge × Int × Int) ⊕ (List Edge × Int)):=
 some (.inl (b,c,wr (a+1)))
def dB (f:Int) (e b:List Edge) (c a:Int):Option ((List Edge × Int × Int) ⊕ (List Edge × Int)):=
 if (decide (a < (e.length:Int))) then (ob (ix e a) fun i=>
 ob (ix b (f+a)) fun d=>
 ob (ix e (wr (a - 1))) fun j=>
 ob (ix b (f+(wr (a - 1)))) fun g=>
 if (!decide ((d:Edge)=g)) then (ob (ix b c) fun k=>
 ob (st b c (⟨d.F,d.B,d.To⟩:Edge)) fun h=>
 dA a h (wr (c+1))) else (dA a b c)) else (some (.inr (b,c)))
def dC (b:(List Edge)) (a:Int):Option (Int ⊕ (Unit ⊕ (List Edge))):=
 if (decide (a < (b.length:Int))) then (ob (ix b a) fun d=>
 ob (ix b (wr (a - 1))) fun e=>
 if (decide ((d:Edge)=e)) then (ob (slc b a (b.length:Int)) fun f=>
 ob (loop (fun (s:(List Edge × Int × Int))=>dB a f s.1 s.2.1 s.2.2) (b,a,1)) fun r=>eF r.1 r.2) else (eE a)) else (some (.inr (.inl ())))
def dN (a:(List Edge)):Option (List Edge):=
 if (decide ((a.length:Int) < 2)) then (some a) else (ob (loop (fun (s:Int)=>dC a s) 1) fun r=>match r with|.inl r=>jI a|.inr r=>some r)
def lR (a:(List aH)):Option (List aH):=
 some a
def fN (a:Int):Option (Int ⊕ (Unit ⊕ (List aH))):=
 some (.inl (wr (a+1)))
def fO (a:List aH) (b:Int):Option (Int ⊕ (Unit ⊕ (List aH))):=
 ob (slc a b (a.length:Int)) fun c=>
 ob (ovw a b (List.replicate c.length ([]:aH))) fun d=>
 ob (slc d 0 b) fun e=>
 some (.inr (.inr e))
def eA (a:Int) (b:List aH) (c:Int):Option ((List aH × Int × Int) ⊕ (List aH × Int)):=
 some (.inl (b,c,wr (a+1)))
def eB (e:Int) (d b:List aH) (c a:Int):Option ((List aH × Int × Int) ⊕ (List aH × Int)):=
 if (decide (a < (d.length:Int))) then (ob (ix d a) fun i=>
 ob (ix b (e+a)) fun f=>
 ob (ix d (wr (a - 1))) fun j=>
 ob (ix b (e+(wr (a - 1)))) fun g=>
 if (!(f == g)) then (ob (ix b c) fun k=>
 ob (st b c (f:aH)) fun h=>
 eA a h (wr (c+1))) else (eA a b c)) else (some (.inr (b,c)))
def eC (b:(List aH)) (a:Int):Option (Int ⊕ (Unit ⊕ (List aH))):=
 if (decide (a < (b.length:Int))) then (ob (ix b a) fun d=>
 ob (ix b (wr (a - 1))) fun e=>
 if (d == e) then (ob (slc b a (b.length:Int)) fun f=>
 ob (loop (fun (s:(List aH × Int × Int))=>eB a f s.1 s.2.1 s.2.2) (b,a,1)) fun r=>fO r.1 r.2) else (fN a)) else (some (.inr (.inl ())))
def eP (a:(List aH)):Option (List aH):=
 if (decide ((a.length:Int) < 2)) then (some a) else (ob (loop (fun (s:Int)=>eC a s) 1) fun r=>match r with|.inl r=>lR a|.inr r=>some r)
def mT:Option Int:=
 some (-1)
def fY (b:(List aH)) (c:aH) (a:Int):Option (Int ⊕ (Unit ⊕ Int)):=
 if (decide (a < (b.length:Int))) then (ob (ix b a) fun d=>
 if (c == d) then (some (.inr (.inr a))) else (some (.inl (wr (a+1))))) else (some (.inr (.inl ())))
def eD (b:(List aH)) (c:aH):Option Int:=
 ob (loop (fun (s:Int)=>fY b c s) 0) fun r=>match r with|.inl r=>mT|.inr r=>some r
def aLY (a b:Int) (c:(List aH)) (d:List Edge):Option iQ:=
 ob (aDH d) fun e=>
 ob (dN e) fun f=>
 some ⟨a,b,c,f⟩
def aIC (c:(List lN)) (e:(List aH)) (d:List Edge) (a:Int):Option ((List Edge × Int) ⊕ (List Edge)):=
 if (decide (a < (c.length:Int))) then (ob (ix c a) fun b=>
 ob (eD e b.label) fun f=>
 ob (wR d ([⟨b.from_,f,b.to_⟩]:List Edge)) fun g=>
 some (.inl (g,wr (a+1)))) else (some (.inr d))
def aRd (b c:Int) (d:(List aH)) (e:(List lN)):Option iQ:=
 ob (wR ([([116,97,117]:aH)]:List aH) d) fun f=>
 ob (aFM f) fun g=>
 ob (eP g) fun a=>
 ob (loop (fun (s:(List Edge × Int))=>aIC e a s.1 s.2) ([],0)) fun r=>aLY b c a r
def aKk (a:List aH):Option (List aH):=
 some a
def aBz (b:(List lN)) (c:List aH) (a:Int):Option ((List aH × Int) ⊕ (List aH)):=
 if (decide (a < (b.length:Int))) then (ob (ix b a) fun d=>
 ob (wR c ([d.label]:List aH)) fun e=>
 some (.inl (e,wr (a+1)))) else (some (.inr c))
def aBb (a:(List lN)):Option (List aH):=
 ob (loop (fun (s:(List aH × Int))=>aBz a s.1 s.2) ([],0)) fun r=>aKk r
def sB (t:iQ) (k:Int):Option Bool:=
 ob (iO k 0 (wr (t.N - 1))) fun c=>
 some c
def aKl:Option Bool:=
 some true
def pA (a:Int) (b:Bool):Option (Int ⊕ (Unit ⊕ Bool)):=
 if b then (some (.inr (.inr false))) else (some (.inl (wr (a+1))))
def wF (t:iQ) (a:Int):Option (Int ⊕ (Unit ⊕ Bool)):=
 if (decide (a < (t.E.length:Int))) then (ob (ix t.E a) fun c=>
 ob (sB t c.F) fun d=>
 if (!d) then (pA a true) else (ob (sB t c.To) fun e=>
 if (!e) then (pA a true) else (ob (aDe c.B (t.L.length:Int)) fun f=>
 if (!f) then (pA a true) else (if (decide (0 < a)) then (ob (ix t.E (wr (a - 1))) fun g=>
 ob (tU g c) fun h=>
 pA a (decide (0<=h))) else (pA a false))))) else (some (.inr (.inl ())))
def aBA (t:iQ):Option Bool:=
 ob (loop (fun (s:Int)=>wF t s) 0) fun r=>match r with|.inl r=>aKl|.inr r=>some r
def sC (a:Int) (b:Bool):Option (Int ⊕ (Unit ⊕ Bool)):=
 if b then (some (.inr (.inr false))) else (some (.inl (wr (a+1))))
def wG (t:iQ) (a:Int):Option (Int ⊕ (Unit ⊕ Bool)):=
 if (decide (a < (t.L.length:Int))) then (ob (ix t.L a) fun b=>
 ob (aJz b) fun e=>
 if (!e) then (sC a true) else (if ((b == ([116,97,117]:aH)) != (a == 0)) then (sC a true) else (if (decide (1 < a)) then (ob (ix t.L (wr (a - 1))) fun d=>
 sC a (mW b d||b == d)) else (sC a false)))) else (some (.inr (.inl ())))
def pB (t:iQ) (c:Bool):Option Bool:=
 if c then (some false) else (ob (loop (fun (s:Int)=>wG t s) 0) fun r=>match r with|.inl r=>aBA t|.inr r=>some r)
def aBc (t:iQ):Option Bool:=
 ob (iO t.N 1 40) fun b=>
 if (!b) then (pB t true) else (ob (sB t t.I) fun c=>
 if (!c) then (pB t true) else (ob (iO (t.L.length:Int) 1 12) fun d=>
 if (!d) then (pB t true) else (pB t (decide (300 < (t.E.length:Int))))))
def bG (a:(List Int)):Option (List Int):=
 ob (wR ([]:List Int) a) fun b=>
 some b
def lU (p:GPoint):Option GPoint:=
 ob (bG p.Values) fun b=>
 some ⟨p.Definition,p.Part,b⟩
def aCi (a:List GPoint):Option (List GPoint):=
 some a
def jX (b:(List GPoint)) (c:List GPoint) (a:Int):Option ((List GPoint × Int) ⊕ (List GPoint)):=
 if (decide (a < (b.length:Int))) then (ob (ix b a) fun d=>
 ob (lU d) fun e=>
 ob (wR c ([e]:List GPoint)) fun f=>
 some (.inl (f,wr (a+1)))) else (some (.inr c))
def oD (a:(List GPoint)):Option (List GPoint):=
 ob (loop (fun (s:(List GPoint × Int))=>jX a s.1 s.2) ([],0)) fun r=>aCi r
def eH (a b:(List Int)):Option Int:=
 if (decide ((a.length:Int) < (b.length:Int))) then (some (-1)) else (some 0)
def bB (b c:(List Int)) (a:Int):Option (Int ⊕ (Unit ⊕ Int)):=
 if (decide (a < (b.length:Int))) then (ob (ix b a) fun e=>
 if (decide ((c.length:Int)<=a)) then (some (.inr (.inr 1))) else (ob (ix c a) fun f=>
 ob (cM e f) fun d=>
 if (d != 0) then (some (.inr (.inr d))) else (some (.inl (wr (a+1)))))) else (some (.inr (.inl ())))
def dH (b c:(List Int)):Option Int:=
 ob (loop (fun (s:Int)=>bB b c s) 0) fun r=>match r with|.inl r=>eH b c|.inr r=>some r
def jY (a b:GPoint):Option Int:=
 ob (cM a.Definition b.Definition) fun e=>
 ob (cM a.Part b.Part) fun f=>
 ob (dH a.Values b.Values) fun g=>
 ob (mE ([e,f,g]:List Int)) fun h=>
 some h
def yH (a:(List GPoint)):Option (List GPoint):=
 ob (oD a) fun b=>
 ob (aJw b) fun c=>
 some c
def aEX (a:List GPoint):Option (List GPoint):=
 some a
def oE (b:aR) (c:List GPoint) (a:Int):Option ((List GPoint × Int) ⊕ (List GPoint)):=
 if (decide (a < (b.Components.length:Int))) then (ob (ix b.Components a) fun d=>
 ob (bG d.Values) fun e=>
 ob (wR c ([⟨d.Definition,0,e⟩]:List GPoint)) fun f=>
 some (.inl (f,wr (a+1)))) else (some (.inr c))
def tV (a:aR):Option (List GPoint):=
 ob (loop (fun (s:(List GPoint × Int))=>oE a s.1 s.2) ([],0)) fun r=>aEX r
def aID (n:Int):Option Bool:=
 ob (iO n (-1000000000000) 1000000000000) fun b=>
 some (!b)
def kP:Option Int:=
 some (-1)
def dO (b:(List Int)) (a:Int):Option (Int ⊕ (Unit ⊕ Int)):=
 if (decide (a < (b.length:Int))) then (ob (ix b a) fun c=>
 ob (aID c) fun d=>
 if d then (some (.inr (.inr a))) else (some (.inl (wr (a+1))))) else (some (.inr (.inl ())))
def fP (b:(List Int)):Option Int:=
 ob (loop (fun (s:Int)=>dO b s) 0) fun r=>match r with|.inl r=>kP|.inr r=>some r
def eQ (a:(List Int)):Option Bool:=
 ob (fP a) fun b=>
 some (decide (0<=b))
def aIE (a:Bool):Option Bool:=
 some a
def aIF (a:(List Int)):Option Bool:=
 if (decide ((a.length:Int)<=64)) then (ob (eQ a) fun b=>
 aIE (!b)) else (aIE false)
def aGY (a:(List Int)):Option aH:=
 ob (aIF a) fun b=>
 if (!b) then (some ([]:aH)) else (if ((a.length:Int) == 0) then (some ([45]:aH)) else (ob (aDL a ([44]:aH)) fun c=>
 some c))
def aIG (p:GPoint):Option aH:=
 ob (pN p.Part) fun b=>
 ob (cat b ([58]:aH)) fun c=>
 ob (aGY p.Values) fun d=>
 ob (cat c d) fun e=>
 some e
def aEa (p:GPoint):Option aH:=
 ob (pN p.Definition) fun b=>
 ob (cat b ([58]:aH)) fun c=>
 ob (aIG p) fun d=>
 ob (cat c d) fun e=>
 some e
def aFC (a:List aH):Option aH:=
 ob (aNb a ([32]:aH)) fun b=>
 some b
def aBB (b:(List GPoint)) (c:List aH) (a:Int):Option ((List aH × Int) ⊕ (List aH)):=
 if (decide (a < (b.length:Int))) then (ob (ix b a) fun d=>
 ob (aEa d) fun e=>
 ob (wR c ([e]:List aH)) fun f=>
 some (.inl (f,wr (a+1)))) else (some (.inr c))
def aBd (a:(List GPoint)):Option aH:=
 ob (loop (fun (s:(List aH × Int))=>aBB a s.1 s.2) ([],0)) fun r=>aFC r
def aFD (a:aP) (b:List (Tr aP)) (c:List aP):Option ((Tr aP) × (List aP)):=
 some ((Tr.mk a b),c)
def wH (e:(List aP)->Option ((Tr aP) × (List aP))) (f:Int) (a:List (Tr aP)) (b:List aP) (c:Int):Option ((List (Tr aP) × List aP × Int) ⊕ (List (Tr aP) × List aP)):=
 if (decide (c < f)) then (ob (e b) fun d=>
 ob (wR a ([d.1]:List (Tr aP))) fun g=>
 some (.inl (g,d.2,wr (c+1)))) else (some (.inr (a,b)))
def lV (d:(List aP)->Option ((Tr aP) × (List aP))) (e:(List aP)):Option ((Tr aP) × (List aP)):=
 ob (ix e 0) fun b=>
 ob (slc e 1 (e.length:Int)) fun f=>
 ob (xE b) fun g=>
 ob (loop (fun (s:(List (Tr aP) × List aP × Int))=>wH d g s.1 s.2.1 s.2.2) ([],f,0)) fun r=>aFD b r.1 r.2
def lW:Nat->(List aP)->Option ((Tr aP) × (List aP))
 |0=>fun _=>none
 |n+1=>lV (lW n)
def aKO (e:(List aP)):Option ((Tr aP) × (List aP)):=
 lW 100000 e
def i_tree (e:(List aP)):Option (Tr aP):=
 ob (aKO e) fun b=>
 some b.1
def aAu (a:Bool):Option Int:=
 if a then (some 1) else (some 0)
def aGZ (a:Int):Option Int:=
 some a
def aHa (a:Int):Option Int:=
 some a
def aJH (e a b:Int):Option Int:=
 if (e == 0) then (ob (rm (wr (a+b)) 64) fun f=>
 some f) else (if (e == 1) then (ob (rm (wr ((wr (a - b))+64)) 64) fun g=>
 some g) else (if (e == 2) then (ob (rm (wr (a * b)) 64) fun h=>
 some h) else (if (e == 3) then (ob (aAu (a == b)) fun i=>
 some i) else (if (e == 4) then (ob (aAu (a != b)) fun j=>
 some j) else (if (e == 5) then (ob (aAu (decide (a < b))) fun k=>
 some k) else (if (e == 6) then (ob (aAu (decide (a<=b))) fun l=>
 some l) else (if (e == 7) then (if (a != 0) then (ob (aAu (b != 0)) fun m=>
 aGZ m) else (ob (aAu false) fun n=>
 aGZ n)) else (if (a != 0) then (ob (aAu true) fun o=>
 aHa o) else (ob (aAu (b != 0)) fun p=>
 aHa p)))))))))
def jJ (c:(Tr aP)->(List Int)->Option Int) (a:(Tr aP)) (b:(List Int)):Option Int:=
 if (a.val.Kind == 0) then (some a.val.Value) else (if (a.val.Kind == 1) then (ob (ix b a.val.Value) fun d=>
 some d) else (if (a.val.Kind == 3) then (ob (ix a.kids 0) fun e=>
 ob (c e b) fun f=>
 ob (aAu (f == 0)) fun g=>
 some g) else (ob (ix a.kids 0) fun h=>
 ob (c h b) fun i=>
 ob (ix a.kids 1) fun j=>
 ob (c j b) fun k=>
 ob (aJH a.val.Value i k) fun l=>
 some l)))
def jK:Nat->(Tr aP)->(List Int)->Option Int
 |0=>fun _ _=>none
 |n+1=>jJ (jK n)
def aHb (a:(Tr aP)) (b:(List Int)):Option Int:=
 jK 100000 a b
def aBe (e:(List aP)) (b:(List Int)):Option Int:=
 ob (i_tree e) fun c=>
 ob (aHb c b) fun d=>
 some d
def aGc (a:List Int):Option (List Int):=
 some a
def uS (b:(List (List aP))) (d:(List Int)) (c:List Int) (a:Int):Option ((List Int × Int) ⊕ (List Int)):=
 if (decide (a < (b.length:Int))) then (ob (ix b a) fun e=>
 ob (aBe e d) fun f=>
 ob (wR c ([f]:List Int)) fun g=>
 some (.inl (g,wr (a+1)))) else (some (.inr c))
def sD (a:(List (List aP))) (b:(List Int)):Option (List Int):=
 ob (loop (fun (s:(List Int × Int))=>uS a b s.1 s.2) ([],0)) fun r=>aGc r
def iK (i:(List Definition)) (c:(List bF)) (a:(List (aH × Bool))) (b:bF):Option ((List bF) × (List (aH × Bool))):=
 ob (cat b.B ([32]:aH)) fun e=>
 ob (aEa b.Next) fun f=>
 ob (cat e f) fun d=>
 if (!((qL a d).getD false)) then (ob (some (vA a d true)) fun g=>
 ob (wR c ([b]:List bF)) fun h=>
 some (h,g)) else (some (c,a))
def gZ (a:List bF) (b:(List (aH × Bool))):Option ((List bF) × (List (aH × Bool))):=
 some (a,b)
def oF (b:(List Definition)) (c:(List bF)) (d:(List (aH × Bool))) (e:(aH × Bool)) (f g:Int) (h:List Int):Option ((List bF) × (List (aH × Bool))):=
 ob (iK b c d ⟨e.1,⟨f,g,h⟩⟩) fun a=>
 gZ a.1 a.2
def oG (a:List bF) (b:(List (aH × Bool))):Option ((List bF) × (List (aH × Bool))):=
 gZ a b
def eV (e:(List Definition)->(List bF)->(List (aH × Bool))->Int->Int->(List Int)->Option ((List bF) × (List (aH × Bool)))) (f:(List Definition)) (k h:Int) (i:(List Int)) (j:Part) (b:List bF) (c:(List (aH × Bool))) (a:Int):Option ((List bF × (List (aH × Bool)) × Int) ⊕ (List bF × (List (aH × Bool)))):=
 if (decide (a < wr (j.Number+1))) then (ob (bG i) fun l=>
 ob (wR l ([a]:List Int)) fun m=>
 ob (e f b c k (wr (h+1)) m) fun d=>
 some (.inl (d.1,d.2,wr (a+1)))) else (some (.inr (b,c)))
def bW (h:(List Definition)->(List bF)->(List (aH × Bool))->Int->Int->(List Int)->Option ((List bF) × (List (aH × Bool)))) (c:(List Definition)) (d:(List bF)) (e:(List (aH × Bool))) (k f:Int) (a:(List Int)):Option ((List bF) × (List (aH × Bool))):=
 ob (ix c k) fun i=>
 ob (ix i.Body f) fun b=>
 if (b.Kind == 1) then (ob (sD b.Arguments a) fun q=>
 ob (xW b.Name q) fun l=>
 ob (bG a) fun t=>
 ob (ix i.Body (wr (f+1))) fun j=>
 if (j.Kind == 5) then (ob (sD j.Arguments a) fun u=>
 oF c d e l j.Number 0 u) else (oF c d e l k (wr (f+1)) t)) else (if (b.Kind == 2) then (ob (h c d e k (wr (f+1)) a) fun m=>
 ob (kI i (wr (f+1))) fun v=>
 ob (h c m.1 m.2 k v a) fun n=>
 gZ n.1 n.2) else (if (b.Kind == 3) then (ob (ix b.Arguments 0) fun w=>
 ob (aBe w a) fun x=>
 if (x != 0) then (ob (h c d e k (wr (f+1)) a) fun o=>
 gZ o.1 o.2) else (gZ d e)) else (if (b.Kind == 4) then (ob (loop (fun (s:(List bF × (List (aH × Bool)) × Int))=>eV h c k f a b s.1 s.2.1 s.2.2) (d,e,0)) fun r=>oG r.1 r.2) else (gZ d e))))
def aX:Nat->(List Definition)->(List bF)->(List (aH × Bool))->Int->Int->(List Int)->Option ((List bF) × (List (aH × Bool)))
 |0=>fun _ _ _ _ _ _=>none
 |n+1=>bW (aX n)
def aAv (a:(List Definition)) (b:(List bF)) (c:(List (aH × Bool))) (k e:Int) (f:(List Int)):Option ((List bF) × (List (aH × Bool))):=
 aX 100000 a b c k e f
def aHc (c:(List Definition)) (p:GPoint):Option ((List bF) × Bool):=
 ob (aAv c [] ([]:(List (aH × Bool))) p.Definition p.Part p.Values) fun b=>
 some (b.1,decide ((b.1.length:Int)<=200))
def lX (a:Bool):Option Bool:=
 some a
def pF (m:aT) (p c:aH):Option Bool:=
 if (m.Left == (mnS p c)) then (lX (m.Right == (mxS p c))) else (lX false)
def gH:Option Int:=
 some (-1)
def bX (b:(List aT)) (c d:aH) (a:Int):Option (Int ⊕ (Unit ⊕ Int)):=
 if (decide (a < (b.length:Int))) then (ob (ix b a) fun e=>
 ob (pF e c d) fun f=>
 if f then (some (.inr (.inr a))) else (some (.inl (wr (a+1))))) else (some (.inr (.inl ())))
def dD (b:(List aT)) (c d:aH):Option Int:=
 ob (loop (fun (s:Int)=>bX b c d s) 0) fun r=>match r with|.inl r=>gH|.inr r=>some r
def mK (c:aR) (a b:aH):Option (aH × Bool):=
 ob (dD c.Meetings a b) fun d=>
 if (decide (d < 0)) then (some (([]:aH),false)) else (ob (ix c.Meetings d) fun g=>
 some (g.Result,true))
def cE (a:(List aH)) (b:aH):Option Bool:=
 ob (eD a b) fun c=>
 some (decide (0<=c))
def kL (b:(List aN)) (a:(List (aH × Bool))) (c d:Int) (e:(aH × Bool)) (f:List GPoint):Option ((List aN) × (List (aH × Bool))):=
 ob (cat e.1 ([32]:aH)) fun h=>
 ob (pN c) fun i=>
 ob (cat h i) fun j=>
 ob (cat j ([32]:aH)) fun k=>
 ob (pN d) fun l=>
 ob (cat k l) fun m=>
 ob (cat m ([32]:aH)) fun n=>
 ob (aBd f) fun o=>
 ob (cat n o) fun g=>
 if (!((qL a g).getD false)) then (ob (some (vA a g true)) fun p=>
 ob (wR b ([⟨e.1,c,d,f⟩]:List aN)) fun q=>
 some (q,p)) else (some (b,a))
def dW (i:(List GPoint)) (d:(List aN)) (e:(List (aH × Bool))) (b a:Int) (f:(List GPoint)) (j:aH) (k:List Int):Option ((List aN) × (List (aH × Bool))):=
 ob (xW j k) fun g=>
 ob (oD i) fun h=>
 ob (ix f 0) fun l=>
 ob (lU l) fun m=>
 ob (ix h b) fun q=>
 ob (st h b (m:GPoint)) fun c=>
 if (decide (0<=a)) then (ob (ix f 1) fun n=>
 ob (lU n) fun o=>
 ob (ix c a) fun r=>
 ob (st c a (o:GPoint)) fun p=>
 kL d e b a g p) else (kL d e b a g c)
def kM (h:(List aH)) (c:(List GPoint)) (a:(List aN)) (b:(List (aH × Bool))) (d:aH) (i:(List Int)) (e f:Int) (g:(List GPoint)) (j:Bool):Option ((List aN) × (List (aH × Bool))):=
 if j then (some (a,b)) else (ob (cE h d) fun k=>
 if k then (dW c a b e f g ([116,97,117]:aH) []) else (dW c a b e f g d i))
def jZ (l:(List Definition)) (m:(List aZ)) (n:(List aT)) (j b:(List aH)) (c:(List GPoint)) (d:(List aN)) (e:(List (aH × Bool))) (a:aH) (f:(List Int)) (g h:Int) (i:(List GPoint)):Option ((List aN) × (List (aH × Bool))):=
 if (!(a == ([116,97,117]:aH))) then (ob (cE j a) fun k=>
 kM b c d e a f g h i (!k)) else (kM b c d e a f g h i false)
def oH:Option Bool:=
 some true
def gN (b c:(List Int)) (a:Int):Option (Int ⊕ (Unit ⊕ Bool)):=
 if (decide (a < (b.length:Int))) then (ob (ix b a) fun d=>
 ob (ix c a) fun e=>
 if (d != e) then (some (.inr (.inr false))) else (some (.inl (wr (a+1))))) else (some (.inr (.inl ())))
def eL (b c:(List Int)):Option Bool:=
 if ((b.length:Int) != (c.length:Int)) then (some false) else (ob (loop (fun (s:Int)=>gN b c s) 0) fun r=>match r with|.inl r=>oH|.inr r=>some r)
def lY (a:List aN) (b:(List (aH × Bool))):Option ((List aN) × (List (aH × Bool))):=
 some (a,b)
def lZ (a:Int) (b:List aN) (c:(List (aH × Bool))):Option ((List aN × (List (aH × Bool)) × Int) ⊕ (List aN × (List (aH × Bool)))):=
 some (.inl (b,c,wr (a+1)))
def mA (a:Int) (b:List aN) (c:(List (aH × Bool))):Option ((List aN × (List (aH × Bool)) × Int) ⊕ (List aN × (List (aH × Bool)))):=
 lZ a b c
def iF (a:Int) (b:List aN) (c:(List (aH × Bool))):Option ((List aN × (List (aH × Bool)) × Int) ⊕ (List aN × (List (aH × Bool)))):=
 some (.inl (b,c,wr (a+1)))
def eW (e:(List Definition)) (f:(List aZ)) (g:(List aT)) (h i:(List aH)) (j:(List GPoint)) (k l:Int) (m:bF) (n:(aH × (List Int) × Bool)) (a:List aN) (b:(List (aH × Bool))) (c:Int) (o:bF) (p:(aH × Bool)) (q:Bool):Option ((List aN × (List (aH × Bool)) × Int) ⊕ (List aN × (List (aH × Bool)))):=
 if q then (ob (jZ e f g h i j a b p.1 n.2.1 k l ([m.Next,o.Next]:List GPoint)) fun d=>
 iF c d.1 d.2) else (iF c a b)
def eX (d:(List Definition)) (e:(List aZ)) (f:(List aT)) (g h:(List aH)) (m:(List GPoint)) (n o:Int) (b:(List bF)) (q:bF) (a:(aH × (List Int) × Bool)) (i:List aN) (j:(List (aH × Bool))) (c:Int):Option ((List aN × (List (aH × Bool)) × Int) ⊕ (List aN × (List (aH × Bool)))):=
 if (decide (c < (b.length:Int))) then (ob (ix b c) fun k=>
 ob (nU k.B) fun r=>
 ob (mK ⟨d,e,f,g,h⟩ a.1 r.1) fun l=>
 if l.2 then (ob (eL a.2.1 r.2.1) fun s=>
 eW d e f g h m n o q a i j c k l s) else (eW d e f g h m n o q a i j c k l false)) else (some (.inr (i,j)))
def eY (i:(List Definition)) (j:(List aZ)) (k:(List aT)) (l m:(List aH)) (n:(List GPoint)) (o p:Int) (a b:(List bF)) (e:List aN) (f:(List (aH × Bool))) (c:Int):Option ((List aN × (List (aH × Bool)) × Int) ⊕ (List aN × (List (aH × Bool)))):=
 if (decide (c < (a.length:Int))) then (ob (ix a c) fun g=>
 ob (nU g.B) fun t=>
 ob (loop (fun (s:(List aN × (List (aH × Bool)) × Int))=>eX i j k l m n o p b g t s.1 s.2.1 s.2.2) (e,f,0)) fun r=>mA c r.1 r.2) else (some (.inr (e,f)))
def pG (d:(List Definition)) (e:(List aZ)) (f:(List aT)) (g h:(List aH)) (i:(List GPoint)) (j:(List aN)) (k:(List (aH × Bool))) (l m:Int) (a b:(List bF)):Option ((List aN) × (List (aH × Bool))):=
 ob (loop (fun (s:(List aN × (List (aH × Bool)) × Int))=>eY d e f g h i l m a b s.1 s.2.1 s.2.2) (j,k,0)) fun r=>lY r.1 r.2
def aAw (a:List aN) (b:(List (aH × Bool))):Option ((List aN) × Bool):=
 some (a,decide ((a.length:Int)<=200))
def sU (a:Int) (b:List aN) (c:(List (aH × Bool))):Option ((List aN × (List (aH × Bool)) × Int) ⊕ (List aN × (List (aH × Bool)))):=
 some (.inl (b,c,wr (a+1)))
def sV (a:Int) (b:List aN) (c:(List (aH × Bool))):Option ((List aN × (List (aH × Bool)) × Int) ⊕ (List aN × (List (aH × Bool)))):=
 sU a b c
def iL (a:aR) (c:(List GPoint)) (d:List (List bF)) (e:Int) (f:List aN) (g:(List (aH × Bool))) (b:Int):Option ((List aN × (List (aH × Bool)) × Int) ⊕ (List aN × (List (aH × Bool)))):=
 if (decide (b < (c.length:Int))) then (ob (ix d e) fun i=>
 ob (ix d b) fun j=>
 ob (pG a.Definitions a.Components a.Meetings a.Allowed a.Hidden c f g e b i j) fun h=>
 some (.inl (h.1,h.2,wr (b+1)))) else (some (.inr (f,g)))
def jL (f:aR) (b:(List GPoint)) (g:List (List bF)) (c:List aN) (d:(List (aH × Bool))) (a:Int):Option ((List aN × (List (aH × Bool)) × Int) ⊕ (List aN × (List (aH × Bool)))):=
 if (decide (a < (b.length:Int))) then (ob (loop (fun (s:(List aN × (List (aH × Bool)) × Int))=>iL f b g a s.1 s.2.1 s.2.2) (c,d,wr (a+1))) fun r=>sV a r.1 r.2) else (some (.inr (c,d)))
def jM (b:aR) (c:(List GPoint)) (d:List aN) (e:(List (aH × Bool))) (f:List (List bF)):Option ((List aN) × Bool):=
 ob (loop (fun (s:(List aN × (List (aH × Bool)) × Int))=>jL b c f s.1 s.2.1 s.2.2) (d,e,0)) fun r=>aAw r.1 r.2
def sW (a:Int) (b:List aN) (c:(List (aH × Bool))) (d:List (List bF)):Option ((List aN × (List (aH × Bool)) × List (List bF) × Int) ⊕ ((List aN × (List (aH × Bool)) × List (List bF)) ⊕ ((List aN) × Bool))):=
 some (.inl (b,c,d,wr (a+1)))
def oI (a:Int) (b:List (List bF)) (c:List aN) (d:(List (aH × Bool))):Option ((List aN × (List (aH × Bool)) × List (List bF) × Int) ⊕ ((List aN × (List (aH × Bool)) × List (List bF)) ⊕ ((List aN) × Bool))):=
 sW a c d b
def lF (a:aR) (i:(List GPoint)) (j:Int) (c:((List bF) × Bool)) (d:List aN) (e:(List (aH × Bool))) (b:Int):Option ((List aN × (List (aH × Bool)) × Int) ⊕ (List aN × (List (aH × Bool)))):=
 if (decide (b < (c.1.length:Int))) then (ob (ix c.1 b) fun f=>
 ob (nU f.B) fun g=>
 ob (jZ a.Definitions a.Components a.Meetings a.Allowed a.Hidden i d e g.1 g.2.1 j (-1) ([f.Next]:List GPoint)) fun h=>
 some (.inl (h.1,h.2,wr (b+1)))) else (some (.inr (d,e)))
def hQ (d:aR) (b:(List GPoint)) (e:List aN) (f:(List (aH × Bool))) (g:List (List bF)) (a:Int):Option ((List aN × (List (aH × Bool)) × List (List bF) × Int) ⊕ ((List aN × (List (aH × Bool)) × List (List bF)) ⊕ ((List aN) × Bool))):=
 if (decide (a < (b.length:Int))) then (ob (ix b a) fun i=>
 ob (aHc d.Definitions i) fun c=>
 if (!c.2) then (some (.inr (.inr ([],false)))) else (ob (wR g ([c.1]:List (List bF))) fun j=>
 ob (loop (fun (s:(List aN × (List (aH × Bool)) × Int))=>lF d b a c s.1 s.2.1 s.2.2) (e,f,0)) fun r=>oI a j r.1 r.2)) else (some (.inr (.inl (e,f,g))))
def fR (b:aR) (c:(List GPoint)):Option ((List aN) × Bool):=
 ob (loop (fun (s:(List aN × (List (aH × Bool)) × List (List bF) × Int))=>hQ b c s.1 s.2.1 s.2.2.1 s.2.2.2) ([],([]:(List (aH × Bool))),[],0)) fun r=>match r with|.inl r=>jM b c r.1 r.2.1 r.2.2|.inr r=>some r
def fU (a:Int) (b:List (List GPoint)) (c:(List (aH × Int))):Option (Int × (List (List GPoint)) × (List (aH × Int))):=
 some (a,b,c)
def dV (a:(List (List GPoint))) (b:(List (aH × Int))) (g:(List lN)) (d:(List GPoint)):Option (Int × (List (List GPoint)) × (List (aH × Int))):=
 ob (aBd d) fun c=>
 if (!((qL b c).isSome)) then (ob (some (vA b c (a.length:Int))) fun e=>
 ob (wR a ([d]:List (List GPoint))) fun f=>
 fU (a.length:Int) f e) else (fU ((qL b c).getD 0) a b)
def kN (a:List (List GPoint)) (b:(List (aH × Int))) (c:List lN):Option ((List (List GPoint)) × (List (aH × Int)) × (List lN)):=
 some (a,b,c)
def gO (c:aH) (d:(List GPoint)) (e:(List (List GPoint))) (f:(List (aH × Int))) (b:(List lN)) (p:Int):Option ((List (List GPoint)) × (List (aH × Int)) × (List lN)):=
 ob (dV e f b d) fun a=>
 ob (wR b ([⟨p,c,a.1⟩]:List lN)) fun h=>
 kN a.2.1 a.2.2 h
def mY (a:((List aN) × Bool)) (b:List (List GPoint)) (c:(List (aH × Int))) (d:List lN):Option (Bool × (List (List GPoint)) × (List (aH × Int)) × (List lN)):=
 some (a.2,b,c,d)
def fJ (h:Int) (c:((List aN) × Bool)) (d:List (List GPoint)) (e:(List (aH × Int))) (f:List lN) (a:Int):Option ((List (List GPoint) × (List (aH × Int)) × List lN × Int) ⊕ (List (List GPoint) × (List (aH × Int)) × List lN)):=
 if (decide (a < (c.1.length:Int))) then (ob (ix c.1 a) fun g=>
 ob (yH g.State) fun i=>
 ob (gO g.B i d e f h) fun b=>
 some (.inl (b.1,b.2.1,b.2.2,wr (a+1)))) else (some (.inr (d,e,f)))
def mU (c:(List GPoint)) (d:(List (List GPoint))) (e:(List (aH × Int))) (f:(List lN)) (g:Int) (p:aR):Option (Bool × (List (List GPoint)) × (List (aH × Int)) × (List lN)):=
 ob (fR p c) fun b=>
 ob (loop (fun (s:(List (List GPoint) × (List (aH × Int)) × List lN × Int))=>fJ g b s.1 s.2.1 s.2.2.1 s.2.2.2) (d,e,f,0)) fun r=>mY b r.1 r.2.1 r.2.2
def jA (e:List (List GPoint)) (a b:Int) (c:List aH) (d:List Edge):Option (iQ × (List (List GPoint)) × Bool):=
 ob (aBc ⟨a,b,c,d⟩) fun f=>
 some (⟨a,b,c,d⟩,e,f)
def dL (b:List (List GPoint)) (e:(List (aH × Int))) (c:List lN):Option (iQ × (List (List GPoint)) × Bool):=
 ob (aBb c) fun d=>
 ob (aRd (b.length:Int) 0 d c) fun a=>
 jA b a.N a.I a.L a.E
def gP (b:Int) (a:(Bool × (List (List GPoint)) × (List (aH × Int)) × (List lN))) (c:Bool):Option ((List (List GPoint) × (List (aH × Int)) × List lN × Int) ⊕ ((List (List GPoint) × (List (aH × Int)) × List lN) ⊕ (iQ × (List (List GPoint)) × Bool))):=
 if c then (some (.inr (.inr (⟨0,0,[],[]⟩,[],false)))) else (some (.inl (a.2.1,a.2.2.1,a.2.2.2,wr (b+1))))
def bY (f:aR) (b:List (List GPoint)) (d:(List (aH × Int))) (e:List lN) (a:Int):Option ((List (List GPoint) × (List (aH × Int)) × List lN × Int) ⊕ ((List (List GPoint) × (List (aH × Int)) × List lN) ⊕ (iQ × (List (List GPoint)) × Bool))):=
 if (decide (a < (b.length:Int))) then (ob (ix b a) fun g=>
 ob (mU g b d e a f) fun c=>
 if (!c.1) then (gP a c true) else (gP a c (decide (40 < (c.2.1.length:Int))))) else (some (.inr (.inl (b,d,e))))
def fC (c:(List GPoint)) (d:aR):Option (iQ × (List (List GPoint)) × Bool):=
 ob (dV [] ([]:(List (aH × Int))) [] c) fun b=>
 ob (loop (fun (s:(List (List GPoint) × (List (aH × Int)) × List lN × Int))=>bY d s.1 s.2.1 s.2.2.1 s.2.2.2) (b.2.1,b.2.2,[],0)) fun r=>match r with|.inl r=>dL r.1 r.2.1 r.2.2|.inr r=>some r
def xH (a:aR):Option (iQ × (List (List GPoint)) × Int):=
 ob (wE a) fun c=>
 if (!c) then (some (⟨0,0,[],[]⟩,[],1)) else (ob (tV a) fun d=>
 ob (yH d) fun e=>
 ob (fC e a) fun b=>
 if (!b.2.2) then (some (⟨0,0,[],[]⟩,[],5)) else (some (b.1,b.2.1,0)))
def oJ:Option Int:=
 some (-1)
def gQ (b:(List Int)) (c a:Int):Option (Int ⊕ (Unit ⊕ Int)):=
 if (decide (a < (b.length:Int))) then (ob (ix b a) fun d=>
 if (c == d) then (some (.inr (.inr a))) else (some (.inl (wr (a+1))))) else (some (.inr (.inl ())))
def fW (b:(List Int)) (c:Int):Option Int:=
 ob (loop (fun (s:Int)=>gQ b c s) 0) fun r=>match r with|.inl r=>oJ|.inr r=>some r
def eZ (a:(List Int)) (b:Int):Option Bool:=
 ob (fW a b) fun c=>
 some (decide (0<=c))
def aNS (a:List (List Int)):Option (List (List Int)):=
 some a
def aEY (a:Int) (b:List (List Int)):Option ((List (List Int) × Int) ⊕ (List (List Int))):=
 some (.inl (b,wr (a+1)))
def aIH (a:Int) (b:List (List Int)):Option ((List (List Int) × Int) ⊕ (List (List Int))):=
 aEY a b
def aEZ (a:Int) (b:List (List Int)):Option ((List (List Int) × Int) ⊕ (List (List Int))):=
 some (.inl (b,wr (a+1)))
def aII (a:Int) (b:List (List Int)):Option ((List (List Int) × Int) ⊕ (List (List Int))):=
 aEZ a b
def yI (a:Int) (b:List (List Int)):Option ((List (List Int) × Int) ⊕ (List (List Int))):=
 some (.inl (b,wr (a+1)))
def lA (n:Int) (c:(List Int)) (b:List (List Int)) (a:Int):Option ((List (List Int) × Int) ⊕ (List (List Int))):=
 if (decide (a < n)) then (ob (eZ c a) fun e=>
 if (!e) then (ob (bG c) fun f=>
 ob (wR f ([a]:List Int)) fun g=>
 ob (wR b ([g]:List (List Int))) fun h=>
 yI a h) else (yI a b)) else (some (.inr b))
def oK (n:Int) (b c:List (List Int)) (a:Int):Option ((List (List Int) × Int) ⊕ (List (List Int))):=
 if (decide (a < (b.length:Int))) then (ob (ix b a) fun e=>
 ob (loop (fun (s:(List (List Int) × Int))=>lA n e s.1 s.2) (c,0)) fun r=>aII a r) else (some (.inr c))
def qO (n:Int) (b:List (List Int)) (c:Int):Option ((List (List Int) × Int) ⊕ (List (List Int))):=
 if (decide (c < n)) then (ob (loop (fun (s:(List (List Int) × Int))=>oK n b s.1 s.2) ([],0)) fun r=>aIH c r) else (some (.inr b))
def aIJ (n:Int):Option (List (List Int)):=
 ob (loop (fun (s:(List (List Int) × Int))=>qO n s.1 s.2) (([([]:List Int)]:List (List Int)),0)) fun r=>aNS r
def aFE (a:List GPoint):Option (List GPoint):=
 some a
def wI (d:(List GPoint)) (b:(List Int)) (c:List GPoint) (a:Int):Option ((List GPoint × Int) ⊕ (List GPoint)):=
 if (decide (a < (b.length:Int))) then (ob (ix b a) fun e=>
 ob (ix d e) fun f=>
 ob (lU f) fun g=>
 ob (wR c ([g]:List GPoint)) fun h=>
 some (.inl (h,wr (a+1)))) else (some (.inr c))
def aEb (a:(List GPoint)) (b:(List Int)):Option (List GPoint):=
 ob (loop (fun (s:(List GPoint × Int))=>wI a b s.1 s.2) ([],0)) fun r=>aFE r
def bN (a b:(List GPoint)):Option Int:=
 if (decide ((a.length:Int) < (b.length:Int))) then (some (-1)) else (some 0)
def aK (b c:(List GPoint)) (a:Int):Option (Int ⊕ (Unit ⊕ Int)):=
 if (decide (a < (b.length:Int))) then (ob (ix b a) fun e=>
 if (decide ((c.length:Int)<=a)) then (some (.inr (.inr 1))) else (ob (ix c a) fun f=>
 ob (jY e f) fun d=>
 if (d != 0) then (some (.inr (.inr d))) else (some (.inl (wr (a+1)))))) else (some (.inr (.inl ())))
def bH (b c:(List GPoint)):Option Int:=
 ob (loop (fun (s:Int)=>aK b c s) 0) fun r=>match r with|.inl r=>bN b c|.inr r=>some r
def nL (a b:(List GPoint)):Option Int:=
 ob (bH a b) fun e=>
 some e
def aEc (a b:(List GPoint)):Option Bool:=
 ob (nL a b) fun e=>
 some (e == 0)
def gR (a:(List (List GPoint))):Option (List (List GPoint)):=
 some a
def cT (a:Int):Option (Int ⊕ (Unit ⊕ (List (List GPoint)))):=
 some (.inl (wr (a+1)))
def cU (a:List (List GPoint)) (b:Int):Option (Int ⊕ (Unit ⊕ (List (List GPoint)))):=
 ob (slc a b (a.length:Int)) fun c=>
 ob (ovw a b (List.replicate c.length ([]:(List GPoint)))) fun d=>
 ob (slc d 0 b) fun e=>
 some (.inr (.inr e))
def bZ (a:Int) (b:List (List GPoint)) (c:Int):Option ((List (List GPoint) × Int × Int) ⊕ (List (List GPoint) × Int)):=
 some (.inl (b,c,wr (a+1)))
def cA (e:Int) (d b:List (List GPoint)) (c a:Int):Option ((List (List GPoint) × Int × Int) ⊕ (List (List GPoint) × Int)):=
 if (decide (a < (d.length:Int))) then (ob (ix d a) fun j=>
 ob (ix b (e+a)) fun f=>
 ob (ix d (wr (a - 1))) fun k=>
 ob (ix b (e+(wr (a - 1)))) fun g=>
 ob (aEc f g) fun h=>
 if (!h) then (ob (ix b c) fun l=>
 ob (st b c (f:(List GPoint))) fun i=>
 bZ a i (wr (c+1))) else (bZ a b c)) else (some (.inr (b,c)))
def cB (b:(List (List GPoint))) (a:Int):Option (Int ⊕ (Unit ⊕ (List (List GPoint)))):=
 if (decide (a < (b.length:Int))) then (ob (ix b a) fun d=>
 ob (ix b (wr (a - 1))) fun e=>
 ob (aEc d e) fun f=>
 if f then (ob (slc b a (b.length:Int)) fun g=>
 ob (loop (fun (s:(List (List GPoint) × Int × Int))=>cA a g s.1 s.2.1 s.2.2) (b,a,1)) fun r=>cU r.1 r.2) else (cT a)) else (some (.inr (.inl ())))
def cH (a:(List (List GPoint))):Option (List (List GPoint)):=
 if (decide ((a.length:Int) < 2)) then (some a) else (ob (loop (fun (s:Int)=>cB a s) 1) fun r=>match r with|.inl r=>gR a|.inr r=>some r)
def aEd (a:List (List GPoint)):Option (List (List GPoint)):=
 ob (aJx a) fun b=>
 ob (cH b) fun c=>
 some c
def aEe (d:(List GPoint)) (b:(List (List Int))) (c:List (List GPoint)) (a:Int):Option ((List (List GPoint) × Int) ⊕ (List (List GPoint))):=
 if (decide (a < (b.length:Int))) then (ob (ix b a) fun e=>
 ob (aEb d e) fun f=>
 ob (wR c ([f]:List (List GPoint))) fun g=>
 some (.inl (g,wr (a+1)))) else (some (.inr c))
def aLZ (a:(List GPoint)):Option (List (List GPoint)):=
 ob (aIJ (a.length:Int)) fun b=>
 ob (loop (fun (s:(List (List GPoint) × Int))=>aEe a b s.1 s.2) ([],0)) fun r=>aEd r
def aHB (a:Int):Option (Int × Int):=
 some (a,0)
def kA (b:(iQ × (List (List GPoint)) × Int)) (c a:Int):Option ((Int × Int) ⊕ Int):=
 if (decide (a < (b.2.1.length:Int))) then (ob (ix b.2.1 a) fun d=>
 ob (aLZ d) fun e=>
 some (.inl (wr (c+(e.length:Int)),wr (a+1)))) else (some (.inr c))
def aAx (b:aR):Option (Int × Int):=
 ob (xH b) fun a=>
 if (a.2.2 != 0) then (some (0,a.2.2)) else (ob (loop (fun (s:(Int × Int))=>kA a s.1 s.2) (0,0)) fun r=>aHB r)
def aMa (a b:aP):Option Bool:=
 if (a.Kind != b.Kind) then (some false) else (if (a.Value != b.Value) then (some false) else (some true))
def aMb:Option Bool:=
 some true
def aDg (a b:(List aP)) (c:Int):Option (Int ⊕ (Unit ⊕ Bool)):=
 if (decide (c < (a.length:Int))) then (ob (ix a c) fun f=>
 ob (ix b c) fun g=>
 ob (aMa f g) fun h=>
 if (!h) then (some (.inr (.inr false))) else (some (.inl (wr (c+1))))) else (some (.inr (.inl ())))
def aJI (a b:(List aP)):Option Bool:=
 if ((a.length:Int) != (b.length:Int)) then (some false) else (ob (loop (fun (s:Int)=>aDg a b s) 0) fun r=>match r with|.inl r=>aMb|.inr r=>some r)
def aKm:Option Bool:=
 some true
def aBC (a b:(List (List aP))) (c:Int):Option (Int ⊕ (Unit ⊕ Bool)):=
 if (decide (c < (a.length:Int))) then (ob (ix a c) fun f=>
 ob (ix b c) fun g=>
 ob (aJI f g) fun h=>
 if (!h) then (some (.inr (.inr false))) else (some (.inl (wr (c+1))))) else (some (.inr (.inl ())))
def aHd (a b:(List (List aP))):Option Bool:=
 if ((a.length:Int) != (b.length:Int)) then (some false) else (ob (loop (fun (s:Int)=>aBC a b s) 0) fun r=>match r with|.inl r=>aKm|.inr r=>some r)
def aMc (a b:Part):Option Bool:=
 if (a.Kind != b.Kind) then (some false) else (if (a.Number != b.Number) then (some false) else (if (!(a.Name == b.Name)) then (some false) else (ob (aHd a.Arguments b.Arguments) fun e=>
 if (!e) then (some false) else (some true))))
def aMd:Option Bool:=
 some true
def aDh (a b:(List Part)) (c:Int):Option (Int ⊕ (Unit ⊕ Bool)):=
 if (decide (c < (a.length:Int))) then (ob (ix a c) fun f=>
 ob (ix b c) fun g=>
 ob (aMc f g) fun h=>
 if (!h) then (some (.inr (.inr false))) else (some (.inl (wr (c+1))))) else (some (.inr (.inl ())))
def aJJ (a b:(List Part)):Option Bool:=
 if ((a.length:Int) != (b.length:Int)) then (some false) else (ob (loop (fun (s:Int)=>aDh a b s) 0) fun r=>match r with|.inl r=>aMd|.inr r=>some r)
def aAy (a b:Definition):Option Bool:=
 if (!(a.Name == b.Name)) then (some false) else (if (a.Parameters != b.Parameters) then (some false) else (ob (aJJ a.Body b.Body) fun e=>
 if (!e) then (some false) else (some true)))
def aEf:Option Bool:=
 some true
def rL (a b:(List Definition)) (c:Int):Option (Int ⊕ (Unit ⊕ Bool)):=
 if (decide (c < (a.length:Int))) then (ob (ix a c) fun f=>
 ob (ix b c) fun g=>
 ob (aAy f g) fun h=>
 if (!h) then (some (.inr (.inr false))) else (some (.inl (wr (c+1))))) else (some (.inr (.inl ())))
def xI (a b:(List Definition)):Option Bool:=
 if ((a.length:Int) != (b.length:Int)) then (some false) else (ob (loop (fun (s:Int)=>rL a b s) 0) fun r=>match r with|.inl r=>aEf|.inr r=>some r)
def aKn:Option Bool:=
 some true
def aBD (a b:(List Int)) (c:Int):Option (Int ⊕ (Unit ⊕ Bool)):=
 if (decide (c < (a.length:Int))) then (ob (ix a c) fun f=>
 ob (ix b c) fun g=>
 if (f != g) then (some (.inr (.inr false))) else (some (.inl (wr (c+1))))) else (some (.inr (.inl ())))
def aEg (a b:(List Int)):Option Bool:=
 if ((a.length:Int) != (b.length:Int)) then (some false) else (ob (loop (fun (s:Int)=>aBD a b s) 0) fun r=>match r with|.inl r=>aKn|.inr r=>some r)
def aBE (a b:aZ):Option Bool:=
 if (a.Definition != b.Definition) then (some false) else (ob (aEg a.Values b.Values) fun e=>
 if (!e) then (some false) else (some true))
def aFa:Option Bool:=
 some true
def sX (a b:(List aZ)) (c:Int):Option (Int ⊕ (Unit ⊕ Bool)):=
 if (decide (c < (a.length:Int))) then (ob (ix a c) fun f=>
 ob (ix b c) fun g=>
 ob (aBE f g) fun h=>
 if (!h) then (some (.inr (.inr false))) else (some (.inl (wr (c+1))))) else (some (.inr (.inl ())))
def aAz (a b:(List aZ)):Option Bool:=
 if ((a.length:Int) != (b.length:Int)) then (some false) else (ob (loop (fun (s:Int)=>sX a b s) 0) fun r=>match r with|.inl r=>aFa|.inr r=>some r)
def aFb (a b:aT):Option Bool:=
 if (!(a.Left == b.Left)) then (some false) else (if (!(a.Right == b.Right)) then (some false) else (if (!(a.Result == b.Result)) then (some false) else (some true)))
def aHC:Option Bool:=
 some true
def xJ (a b:(List aT)) (c:Int):Option (Int ⊕ (Unit ⊕ Bool)):=
 if (decide (c < (a.length:Int))) then (ob (ix a c) fun f=>
 ob (ix b c) fun g=>
 ob (aFb f g) fun h=>
 if (!h) then (some (.inr (.inr false))) else (some (.inl (wr (c+1))))) else (some (.inr (.inl ())))
def aDi (a b:(List aT)):Option Bool:=
 if ((a.length:Int) != (b.length:Int)) then (some false) else (ob (loop (fun (s:Int)=>xJ a b s) 0) fun r=>match r with|.inl r=>aHC|.inr r=>some r)
def aIK:Option Bool:=
 some true
def aAA (a b:(List aH)) (c:Int):Option (Int ⊕ (Unit ⊕ Bool)):=
 if (decide (c < (a.length:Int))) then (ob (ix a c) fun f=>
 ob (ix b c) fun g=>
 if (!(f == g)) then (some (.inr (.inr false))) else (some (.inl (wr (c+1))))) else (some (.inr (.inl ())))
def yJ (a b:(List aH)):Option Bool:=
 if ((a.length:Int) != (b.length:Int)) then (some false) else (ob (loop (fun (s:Int)=>aAA a b s) 0) fun r=>match r with|.inl r=>aIK|.inr r=>some r)
def aHe (a b:aR):Option Bool:=
 ob (xI a.Definitions b.Definitions) fun e=>
 if (!e) then (some false) else (ob (aAz a.Components b.Components) fun f=>
 if (!f) then (some false) else (ob (aDi a.Meetings b.Meetings) fun g=>
 if (!g) then (some false) else (ob (yJ a.Allowed b.Allowed) fun h=>
 if (!h) then (some false) else (ob (yJ a.Hidden b.Hidden) fun i=>
 if (!i) then (some false) else (some true)))))
def jN (a b:aR) (c:Bool):Option Bool:=
 if c then (some false) else (ob (tP a) fun d=>
 ob (aHe b d) fun e=>
 if (!e) then (some false) else (some true))
def pH (a:aR):Option Bool:=
 ob (aGJ a 1048576) fun e=>
 if (decide (e < 0)) then (some true) else (ob (tP a) fun f=>
 ob (aAk f) fun c=>
 ob (tP a) fun b=>
 ob (aAx b) fun d=>
 if (d.1 != c.1) then (jN a b true) else (jN a b (d.2 != c.2)))
end
end Gv
