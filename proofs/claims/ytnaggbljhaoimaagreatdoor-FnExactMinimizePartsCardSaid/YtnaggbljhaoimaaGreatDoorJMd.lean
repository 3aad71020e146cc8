/- Models of the functions, printed by program off their code. Plain Lean. -/
import Derived.Test.YtnaggbljhaoimaaGreatDoorJLM
set_option linter.all false
namespace Gv
noncomputable section
def aCH (a:List Int):Option ((List Int) × Bool):=
 some (a,true)
def sA (b:(List aV)) (c:List Int) (a:Int):Option ((List Int × Int) ⊕ (List Int ⊕ ((List Int) × Bool))):=
 if (decide (a < (b.length:Int))) then (ob (ix b a) fun e=>
 ob (sZ e) fun d=>
 if (!d.2) then (some (.inr (.inr ([],false)))) else (ob (vE c ([d.1]:List Int)) fun f=>
 some (.inl (f,wr (a+1))))) else (some (.inr (.inl c)))
def tA (b:(List aV)):Option ((List Int) × Bool):=
 ob (loop (fun (s:(List Int × Int))=>sA b s.1 s.2) ([],0)) fun r=>match r with|.inl r=>aCH r|.inr r=>some r
def aDn (a:Bool):Option Bool:=
 some a
def aEX (c:UInt8):Option Bool:=
 if (decide (48<=(c.toNat:Int))) then (aDn (decide ((c.toNat:Int)<=57))) else (aDn false)
def aEp (a:Bool):Option Bool:=
 some a
def aBW (a:aV):Option Bool:=
 if (decide (1<=(a.length:Int))) then (aEp (decide ((a.length:Int)<=10))) else (aEp false)
def yF (a:Int) (b:Bool):Option (Int ⊕ (Unit ⊕ Bool)):=
 if b then (some (.inr (.inr false))) else (some (.inl (wr (a+1))))
def oK (b:aV) (a:Int) (c:Bool):Option (Int ⊕ (Unit ⊕ Bool)):=
 if (!c) then (if (a == 0) then (yF a true) else (ob (ix b a) fun d=>
 ob (aEX d) fun e=>
 yF a (!e))) else (yF a false)
def uS (a:aV) (b:Int):Option (Int ⊕ (Unit ⊕ Bool)):=
 if (decide (b < (a.length:Int))) then (ob (ix a b) fun c45=>
 if (decide (97<=(c45.toNat:Int))) then (oK a b (decide ((c45.toNat:Int)<=122))) else (oK a b false)) else (some (.inr (.inl ())))
def aEq (b:aV):Option Bool:=
 ob (loop (fun (s:Int)=>uS b s) 0) fun r=>match r with|.inl r=>aBW b|.inr r=>some r
def xP (a:Bool):Option Bool:=
 some a
def oS (a:aV):Option Bool:=
 ob (aEq a) fun b=>
 if b then (xP (!(a == ([116,97,117]:aV)))) else (xP false)
def uT (a:Bool):Option Bool:=
 some a
def kP (n low b:Int):Option Bool:=
 if (decide (low<=n)) then (uT (decide (n<=b))) else (uT false)
def aHc (n:Int):Option Bool:=
 ob (kP n 0 63) fun b=>
 some b
def aAW (n:Int):Option Bool:=
 ob (aHc n) fun b=>
 some (!b)
def kQ:Option Int:=
 some (-1)
def dE (b:(List Int)) (a:Int):Option (Int ⊕ (Unit ⊕ Int)):=
 if (decide (a < (b.length:Int))) then (ob (ix b a) fun c=>
 ob (aAW c) fun d=>
 if d then (some (.inr (.inr a))) else (some (.inl (wr (a+1))))) else (some (.inr (.inl ())))
def fH (b:(List Int)):Option Int:=
 ob (loop (fun (s:Int)=>dE b s) 0) fun r=>match r with|.inl r=>kQ|.inr r=>some r
def gR (a:(List Int)):Option Bool:=
 ob (fH a) fun b=>
 some (decide (0<=b))
def aBX (a:(List Int)):Option Bool:=
 ob (gR a) fun b=>
 some (!b)
def aEr (a:aV) (b:List aV):Option aV:=
 ob (aLo b a) fun c=>
 some c
def yG (c:(List Int)) (b:List aV) (a:Int):Option ((List aV × Int) ⊕ (List aV)):=
 if (decide (a < (c.length:Int))) then (ob (ix c a) fun d=>
 ob (aCG d) fun e=>
 ob (ix b a) fun g=>
 ob (st b a (e:aV)) fun f=>
 some (.inl (f,wr (a+1)))) else (some (.inr b))
def aEs (a:(List Int)) (b:aV):Option aV:=
 ob (mkz (a.length:Int) ([]:aV)) fun c=>
 ob (loop (fun (s:(List aV × Int))=>yG a s.1 s.2) (c,0)) fun r=>aEr b r
def vL (a:aV) (b:(List Int)) (c:Bool):Option (aV × Bool):=
 if c then (some (([]:aV),false)) else (if ((b.length:Int) == 0) then (some (a,true)) else (ob (cat a ([40]:aV)) fun d=>
 ob (aEs b ([44]:aV)) fun e=>
 ob (cat d e) fun f=>
 ob (cat f ([41]:aV)) fun g=>
 some (g,true)))
def aCI (b:aV) (a:(List Int)):Option (aV × Bool):=
 if (b == ([116,97,117]:aV)) then (some (([116,97,117]:aV),(a.length:Int) == 0)) else (ob (oS b) fun c=>
 if (!c) then (vL b a true) else (if (decide (2 < (a.length:Int))) then (vL b a true) else (ob (aBX a) fun d=>
 vL b a (!d))))
def eY (a:Bool):Option Bool:=
 some a
def fR (a b:aV):Option Bool:=
 if (decide ((b.length:Int)<=(a.length:Int))) then (ob (sT a (wr ((a.length:Int) - (b.length:Int))) (a.length:Int)) fun c=>
 eY (c == b)) else (eY false)
def iO (a b:aV):Option aV:=
 ob (fR a b) fun c=>
 if c then (ob (sT a 0 (wr ((a.length:Int) - (b.length:Int)))) fun d=>
 some d) else (some a)
def mN (a b:aV):Option aV:=
 ob (iO a b) fun c=>
 some c
def qY (a:(aV × aV × Bool)) (b:List Int) (c:Bool):Option (aV × (List Int) × Bool):=
 if c then (some (([]:aV),[],false)) else (some (a.1,b,true))
def nV (d:aV) (a:(aV × aV × Bool)) (b:List Int):Option (aV × (List Int) × Bool):=
 ob (aCI a.1 b) fun c=>
 if (!c.2) then (qY a b true) else (qY a b (!(c.1 == d)))
def aBY (b:aV):Option (aV × (List Int) × Bool):=
 ob (l_Cut b ([40]:aV)) fun a=>
 if a.2.2 then (ob (mN a.2.1 ([41]:aV)) fun d=>
 ob (aGl d ([44]:aV)) fun e=>
 ob (tA e) fun c=>
 if (!c.2) then (some (([]:aV),[],false)) else (nV b a c.1)) else (nV b a [])
def aEY (a:aV):Option Bool:=
 ob (aBY a) fun b=>
 some b.2.2
def aEt (a:Int):Option Int:=
 some a
def aAX (a:(List aV)) (b c:Int):Option ((Int × Int) ⊕ (Int ⊕ Int)):=
 if (decide (c < (a.length:Int))) then (ob (ix a c) fun e=>
 if (decide (wr (b - (e.length:Int)) < 0)) then (some (.inr (.inr (-1)))) else (some (.inl (wr (b - (e.length:Int)),wr (c+1))))) else (some (.inr (.inl b)))
def qZ (a:(List aV)) (d:Int):Option Int:=
 if (decide (wr (d - (a.length:Int)) < 0)) then (some (-1)) else (ob (loop (fun (s:(Int × Int))=>aAX a s.1 s.2) (wr (d - (a.length:Int)),0)) fun r=>match r with|.inl r=>aEt r|.inr r=>some r)
def aEZ (a:(List Edge)) (c:Int):Option Int:=
 if (decide (wr (c - (a.length:Int)) < 0)) then (some (-1)) else (some (wr (c - (a.length:Int))))
def aGo (a:aW) (e:Int):Option Int:=
 ob (qZ a.L e) fun c=>
 if (decide (c < 0)) then (some (-1)) else (ob (aEZ a.E c) fun d=>
 if (decide (d < 0)) then (some (-1)) else (some d))
def aHD (a:Int):Option Int:=
 some a
def aBZ (a:(List aW)) (d b:Int):Option ((Int × Int) ⊕ (Int ⊕ Int)):=
 if (decide (b < (a.length:Int))) then (ob (ix a b) fun f=>
 ob (aGo f d) fun e=>
 if (decide (e < 0)) then (some (.inr (.inr (-1)))) else (some (.inl (e,wr (b+1))))) else (some (.inr (.inl d)))
def aGp (a:(List aW)) (d:Int):Option Int:=
 if (decide (wr (d - (a.length:Int)) < 0)) then (some (-1)) else (ob (loop (fun (s:(Int × Int))=>aBZ a s.1 s.2) (wr (d - (a.length:Int)),0)) fun r=>match r with|.inl r=>aHD r|.inr r=>some r)
def yH (a:aT) (c:Int):Option Int:=
 if (decide (wr (c - (a.Left.length:Int)) < 0)) then (some (-1)) else (if (decide (wr ((wr (c - (a.Left.length:Int))) - (a.Right.length:Int)) < 0)) then (some (-1)) else (if (decide (wr ((wr ((wr (c - (a.Left.length:Int))) - (a.Right.length:Int))) - (a.Result.length:Int)) < 0)) then (some (-1)) else (some (wr ((wr ((wr (c - (a.Left.length:Int))) - (a.Right.length:Int))) - (a.Result.length:Int))))))
def aDL (a:Int):Option Int:=
 some a
def tS (a:(List aT)) (d b:Int):Option ((Int × Int) ⊕ (Int ⊕ Int)):=
 if (decide (b < (a.length:Int))) then (ob (ix a b) fun f=>
 ob (yH f d) fun e=>
 if (decide (e < 0)) then (some (.inr (.inr (-1)))) else (some (.inl (e,wr (b+1))))) else (some (.inr (.inl d)))
def aAq (a:(List aT)) (d:Int):Option Int:=
 if (decide (wr (d - (a.length:Int)) < 0)) then (some (-1)) else (ob (loop (fun (s:(Int × Int))=>tS a s.1 s.2) (wr (d - (a.length:Int)),0)) fun r=>match r with|.inl r=>aDL r|.inr r=>some r)
def aCa (a:bB) (g:Int):Option Int:=
 ob (aGp a.Parts g) fun c=>
 if (decide (c < 0)) then (some (-1)) else (ob (aAq a.Meetings c) fun d=>
 if (decide (d < 0)) then (some (-1)) else (ob (qZ a.Allowed d) fun e=>
 if (decide (e < 0)) then (some (-1)) else (ob (qZ a.Hidden e) fun f=>
 if (decide (f < 0)) then (some (-1)) else (some f))))
def aCu (a:Bool):Option Bool:=
 some a
def aAY (c:UInt8):Option Bool:=
 if (decide (97<=(c.toNat:Int))) then (aCu (decide ((c.toNat:Int)<=122))) else (aCu false)
def aCv (a:Bool):Option Bool:=
 some a
def aAZ (c:UInt8):Option Bool:=
 if (decide (48<=(c.toNat:Int))) then (aCv (decide ((c.toNat:Int)<=57))) else (aCv false)
def aDo:Option Bool:=
 some true
def aAr (a:Int) (b:Bool):Option (Int ⊕ (Unit ⊕ Bool)):=
 if b then (some (.inr (.inr false))) else (some (.inl (wr (a+1))))
def vM (b:aV) (a:Int):Option (Int ⊕ (Unit ⊕ Bool)):=
 if (decide (a < (b.length:Int))) then (ob (ix b a) fun c=>
 ob (aAY c) fun d=>
 if (!d) then (ob (aAZ c) fun e=>
 aAr a (!e)) else (aAr a false)) else (some (.inr (.inl ())))
def oT (b:aV) (c:Bool):Option Bool:=
 if c then (some false) else (ob (loop (fun (s:Int)=>vM b s) 0) fun r=>match r with|.inl r=>aDo|.inr r=>some r)
def aAC (a:aV):Option Bool:=
 if (a == ([]:aV)) then (oT a true) else (if (decide (10 < (a.length:Int))) then (oT a true) else (ob (ix a 0) fun b=>
 ob (aAY b) fun c=>
 oT a (!c)))
def vN (a:Bool):Option Bool:=
 some a
def mO (a:aV):Option Bool:=
 ob (aAC a) fun b=>
 if b then (vN (!(a == ([116,97,117]:aV)))) else (vN false)
def aCJ:Option Bool:=
 some true
def sB (a:Int):Option (Int ⊕ (Unit ⊕ Bool)):=
 some (.inl (wr (a+1)))
def xA (a:Int):Option (Int ⊕ (Unit ⊕ Bool)):=
 sB a
def sC (a:Int) (b:Bool):Option (Int ⊕ (Unit ⊕ Bool)):=
 if b then (some (.inr (.inr false))) else (some (.inl (wr (a+1))))
def nW (b:(List aT)) (c:aT) (a:Int):Option (Int ⊕ (Unit ⊕ Bool)):=
 if (decide (a < (b.length:Int))) then (ob (ix b a) fun d=>
 if (d.Left == c.Result) then (sC a true) else (sC a (d.Right == c.Result))) else (some (.inr (.inl ())))
def iF (b:(List aT)) (c:Int) (d:aT) (e:Bool):Option (Int ⊕ (Unit ⊕ Bool)):=
 if e then (some (.inr (.inr false))) else (ob (loop (fun (s:Int)=>nW b d s) 0) fun r=>match r with|.inl r=>xA c|.inr r=>some (.inr (.inr r)))
def iG (c:(List aT)) (b:Int) (a:aT) (e:Bool):Option (Int ⊕ (Unit ⊕ Bool)):=
 if e then (some (.inr (.inr false))) else (if (decide (0 < b)) then (ob (ix c (wr (b - 1))) fun d=>
 if (!(mZ d.Left a.Left||d.Left == a.Left)) then (iF c b a true) else (if (d.Left == a.Left) then (iF c b a (!mZ d.Right a.Right)) else (iF c b a false))) else (iF c b a false))
def kZ (b:(List aT)) (c:Int):Option (Int ⊕ (Unit ⊕ Bool)):=
 if (decide (c < (b.length:Int))) then (ob (ix b c) fun a=>
 ob (mO a.Left) fun d=>
 if (!d) then (iG b c a true) else (ob (mO a.Right) fun e=>
 if (!e) then (iG b c a true) else (ob (mO a.Result) fun f=>
 if (!f) then (iG b c a true) else (iG b c a (!(mZ a.Left a.Right||a.Left == a.Right)))))) else (some (.inr (.inl ())))
def tB (b:(List aT)):Option Bool:=
 if (decide (6 < (b.length:Int))) then (some false) else (ob (loop (fun (s:Int)=>kZ b s) 0) fun r=>match r with|.inl r=>aCJ|.inr r=>some r)
def aDM:Option Bool:=
 some true
def tT (b:(List aV)) (a:Int):Option (Int ⊕ (Unit ⊕ Bool)):=
 if (decide (a < (b.length:Int))) then (ob (ix b a) fun c=>
 ob (mO c) fun d=>
 if (!d) then (some (.inr (.inr false))) else (some (.inl (wr (a+1))))) else (some (.inr (.inl ())))
def vO (b:(List aV)):Option Bool:=
 ob (loop (fun (s:Int)=>tT b s) 0) fun r=>match r with|.inl r=>aDM|.inr r=>some r
def aFr:Option Bool:=
 some true
def tC (b:(List aV)) (a:Int):Option (Int ⊕ (Unit ⊕ Bool)):=
 if (decide (a < (b.length:Int))) then (ob (ix b (wr (a - 1))) fun c=>
 ob (ix b a) fun d=>
 if (!mZ c d) then (some (.inr (.inr false))) else (some (.inl (wr (a+1))))) else (some (.inr (.inl ())))
def tD (b:(List aV)) (c:Bool):Option Bool:=
 if c then (some false) else (ob (loop (fun (s:Int)=>tC b s) 1) fun r=>match r with|.inl r=>aFr|.inr r=>some r)
def xB (a:(List aV)):Option Bool:=
 if (decide (12 < (a.length:Int))) then (tD a true) else (ob (vO a) fun b=>
 tD a (!b))
def aDp (a:Bool):Option Bool:=
 some a
def tU (n low b:Int):Option Bool:=
 if (decide (low<=n)) then (aDp (decide (n<=b))) else (aDp false)
def aGq (a:aV):Option Int:=
 some (a.length:Int)
def aAs (b:aV) (a:Int):Option (Int ⊕ (Unit ⊕ Int)):=
 if (decide (a < (b.length:Int))) then (ob (ix b a) fun c=>
 if ((c.toNat:Int) == 40) then (some (.inr (.inr a))) else (some (.inl (wr (a+1))))) else (some (.inr (.inl ())))
def aCK (b:aV):Option Int:=
 ob (loop (fun (s:Int)=>aAs b s) 0) fun r=>match r with|.inl r=>aGq b|.inr r=>some r
def aCw (a:aV) (b:List aV) (c:Int):Option (List aV):=
 ob (sT a c (a.length:Int)) fun d=>
 ob (vE b ([d]:List aV)) fun e=>
 some e
def pQ (a:Int) (b:List aV) (c:Int):Option ((List aV × Int × Int) ⊕ (List aV × Int)):=
 some (.inl (b,c,wr (a+1)))
def xQ (b:aV) (e:UInt8) (c:List aV) (d a:Int):Option ((List aV × Int × Int) ⊕ (List aV × Int)):=
 if (decide (a < (b.length:Int))) then (ob (ix b a) fun f=>
 if ((f.toNat:Int) == (e.toNat:Int)) then (ob (sT b d a) fun g=>
 ob (vE c ([g]:List aV)) fun h=>
 pQ a h (wr (a+1))) else (pQ a c d)) else (some (.inr (c,d)))
def aBa (a:aV) (c:UInt8):Option (List aV):=
 ob (loop (fun (s:(List aV × Int × Int))=>xQ a c s.1 s.2.1 s.2.2) (([]:List aV),0,0)) fun r=>aCw a r.1 r.2
def aBb (a:Int):Option (Int × Bool):=
 some (a,true)
def vP (b a:Int):Option (Int × Bool):=
 if (b == 1) then (aBb (wr (0 - a))) else (aBb a)
def nX (b:aV) (c a:Int):Option ((Int × Int) ⊕ (Int ⊕ (Int × Bool))):=
 if (decide (a < (b.length:Int))) then (ob (ix b a) fun c45=>
 ob (aAZ c45) fun d=>
 if (!d) then (some (.inr (.inr (0,false)))) else (some (.inl (wr ((wr (10 * c))+(wr ((c45 - (48:UInt8)).toNat:Int))),wr (a+1))))) else (some (.inr (.inl c)))
def kA (c:aV) (b:Int) (d:Bool):Option (Int × Bool):=
 if d then (some (0,false)) else (ob (loop (fun (s:(Int × Int))=>nX c s.1 s.2) (0,b)) fun r=>match r with|.inl r=>vP b r|.inr r=>some r)
def nY (a:aV) (b:Int):Option (Int × Bool):=
 if ((a.length:Int) == b) then (kA a b true) else (if (decide (18 < wr ((a.length:Int) - b))) then (kA a b true) else (ob (ix a b) fun c=>
 if ((c.toNat:Int) == 48) then (kA a b (decide (1 < (a.length:Int)))) else (kA a b false)))
def rA (a:aV) (b:Bool):Option (Int × Bool):=
 if b then (nY a 1) else (nY a 0)
def uU (a:aV):Option (Int × Bool):=
 if (decide (0 < (a.length:Int))) then (ob (ix a 0) fun b=>
 rA a ((b.toNat:Int) == 45)) else (rA a false)
def aBc (a:List Int):Option ((List Int) × Bool):=
 some (a,decide ((a.length:Int)<=2))
def vQ (a:List Int) (b:Int) (c:(Int × Bool)) (d:Bool):Option ((List Int × Int) ⊕ (List Int ⊕ ((List Int) × Bool))):=
 if d then (some (.inr (.inr ([],false)))) else (ob (vE a ([c.1]:List Int)) fun e=>
 some (.inl (e,wr (b+1))))
def rB (d:(List aV)) (c:List Int) (a:Int):Option ((List Int × Int) ⊕ (List Int ⊕ ((List Int) × Bool))):=
 if (decide (a < (d.length:Int))) then (ob (ix d a) fun e=>
 ob (uU e) fun b=>
 if (!b.2) then (vQ c a b true) else (ob (tU b.1 0 63) fun f=>
 vQ c a b (!f))) else (some (.inr (.inl c)))
def nZ (b:aV) (c:Int) (d:Bool):Option ((List Int) × Bool):=
 if d then (some ([],false)) else (ob (sT b (wr (c+1)) (wr ((b.length:Int) - 1))) fun e=>
 ob (aBa e (44:UInt8)) fun f=>
 ob (loop (fun (s:(List Int × Int))=>rB f s.1 s.2) (([]:List Int),0)) fun r=>match r with|.inl r=>aBc r|.inr r=>some r)
def aCb (a:aV):Option ((List Int) × Bool):=
 ob (aCK a) fun b=>
 if (b == (a.length:Int)) then (ob (aAC a) fun c=>
 some (([]:List Int),c)) else (ob (sT a 0 b) fun d=>
 ob (mO d) fun e=>
 if (!e) then (nZ a b true) else (ob (ix a (wr ((a.length:Int) - 1))) fun f=>
 nZ a b ((f.toNat:Int) != 41)))
def aDq (a:aV):Option Bool:=
 ob (aCb a) fun b=>
 some b.2
def aFs:Option Bool:=
 some true
def pR (a:Int) (b:Bool):Option (Int ⊕ (Unit ⊕ Bool)):=
 if b then (some (.inr (.inr false))) else (some (.inl (wr (a+1))))
def tE (b:(List aV)) (a:Int):Option (Int ⊕ (Unit ⊕ Bool)):=
 if (decide (a < (b.length:Int))) then (ob (ix b a) fun c=>
 ob (aDq c) fun d=>
 if (!d) then (pR a true) else (if (c == ([116,97,117]:aV)) then (pR a true) else (if (decide (1 < a)) then (ob (ix b (wr (a - 1))) fun e=>
 pR a (!mZ e c)) else (pR a false)))) else (some (.inr (.inl ())))
def pS (b:(List aV)) (c:Bool):Option Bool:=
 if c then (some false) else (ob (loop (fun (s:Int)=>tE b s) 1) fun r=>match r with|.inl r=>aFs|.inr r=>some r)
def aBd (a:(List aV)):Option Bool:=
 if ((a.length:Int) == 0) then (pS a true) else (if (decide (12 < (a.length:Int))) then (pS a true) else (ob (ix a 0) fun b=>
 pS a (!(b == ([116,97,117]:aV)))))
def aCL (a b:Edge):Option Bool:=
 if (a.F != b.F) then (some (decide (a.F < b.F))) else (if (a.B != b.B) then (some (decide (a.B < b.B))) else (some (decide (a.To < b.To))))
def aIR:Option Bool:=
 some true
def aDr (a:Int) (b:Bool):Option (Int ⊕ (Unit ⊕ Bool)):=
 if b then (some (.inr (.inr false))) else (some (.inl (wr (a+1))))
def xC (t:aW) (a:Int) (c:Edge) (d:Bool):Option (Int ⊕ (Unit ⊕ Bool)):=
 if d then (some (.inr (.inr false))) else (if (decide (0 < a)) then (ob (ix t.E (wr (a - 1))) fun e=>
 ob (aCL e c) fun f=>
 aDr a (!f)) else (aDr a false))
def aBe (t:aW) (c:Int):Option (Int ⊕ (Unit ⊕ Bool)):=
 if (decide (c < (t.E.length:Int))) then (ob (ix t.E c) fun b=>
 ob (tU b.F 0 (wr (t.N - 1))) fun d=>
 if (!d) then (xC t c b true) else (ob (tU b.To 0 (wr (t.N - 1))) fun e=>
 if (!e) then (xC t c b true) else (ob (tU b.B 0 (wr ((t.L.length:Int) - 1))) fun f=>
 xC t c b (!f)))) else (some (.inr (.inl ())))
def uH (t:aW) (c:Bool):Option Bool:=
 if c then (some false) else (ob (loop (fun (s:Int)=>aBe t s) 0) fun r=>match r with|.inl r=>aIR|.inr r=>some r)
def aGr (t:aW):Option Bool:=
 ob (tU t.N 1 40) fun b=>
 if (!b) then (uH t true) else (ob (tU t.I 0 (wr (t.N - 1))) fun c=>
 if (!c) then (uH t true) else (ob (aBd t.L) fun d=>
 if (!d) then (uH t true) else (uH t (decide (300 < (t.E.length:Int))))))
def aIS:Option Bool:=
 some true
def aBf (n:bB) (a:Int):Option (Int ⊕ (Unit ⊕ Bool)):=
 if (decide (a < (n.Parts.length:Int))) then (ob (ix n.Parts a) fun c=>
 ob (aGr c) fun d=>
 if (!d) then (some (.inr (.inr false))) else (some (.inl (wr (a+1))))) else (some (.inr (.inl ())))
def rC (n:bB) (c:Bool):Option Bool:=
 if c then (some false) else (ob (loop (fun (s:Int)=>aBf n s) 0) fun r=>match r with|.inl r=>aIS|.inr r=>some r)
def aGs (n:bB):Option Bool:=
 if ((n.Parts.length:Int) == 0) then (rC n true) else (if (decide (4 < (n.Parts.length:Int))) then (rC n true) else (ob (tB n.Meetings) fun b=>
 if (!b) then (rC n true) else (ob (xB n.Allowed) fun c=>
 if (!c) then (rC n true) else (ob (xB n.Hidden) fun d=>
 rC n (!d)))))
def aFa (a:Int):Option Bool:=
 ob (tU a 0 2) fun b=>
 some b
def aCM (t:aW):Option aW:=
 ob (vE ([]:List aV) t.L) fun b=>
 ob (vE ([]:List Edge) t.E) fun c=>
 some ⟨t.N,t.I,b,c⟩
def aCc (n:bB) (b:List aW):Option bB:=
 ob (vE ([]:List aT) n.Meetings) fun c=>
 ob (vE ([]:List aV) n.Allowed) fun d=>
 ob (vE ([]:List aV) n.Hidden) fun e=>
 some ⟨b,c,d,e⟩
def oL (n:bB) (d:List aW) (b:Int):Option ((List aW × Int) ⊕ (List aW)):=
 if (decide (b < (n.Parts.length:Int))) then (ob (ix n.Parts b) fun e=>
 ob (aCM e) fun a=>
 ob (vE d ([⟨a.N,a.I,a.L,a.E⟩]:List aW)) fun f=>
 some (.inl (f,wr (b+1)))) else (some (.inr d))
def aEu (n:bB):Option bB:=
 ob (loop (fun (s:(List aW × Int))=>oL n s.1 s.2) (([]:List aW),0)) fun r=>aCc n r
def aFt:Option Int:=
 some (-1)
def xR (b:(List Int)) (n a:Int):Option (Int ⊕ (Unit ⊕ Int)):=
 if (decide (a < (b.length:Int))) then (ob (ix b a) fun d=>
 if (d == n) then (some (.inr (.inr a))) else (some (.inl (wr (a+1))))) else (some (.inr (.inl ())))
def uI (b:(List Int)) (n:Int):Option Int:=
 ob (loop (fun (s:Int)=>xR b n s) 0) fun r=>match r with|.inl r=>aFt|.inr r=>some r
def aGt (a:(List Int)) (b:Int) (c:List aV) (d:List Edge):Option aW:=
 some ⟨(a.length:Int),b,c,d⟩
def oU (a:Int) (b:List Edge):Option ((List Edge × Int) ⊕ (List Edge)):=
 some (.inl (b,wr (a+1)))
def sD (a:List Edge) (b:Int) (c:Edge) (d e:Int) (f:Bool):Option ((List Edge × Int) ⊕ (List Edge)):=
 if f then (ob (vE a ([⟨d,c.B,e⟩]:List Edge)) fun g=>
 oU b g) else (oU b a)
def sE (t:aW) (g:(List Int)) (c:List Edge) (a:Int):Option ((List Edge × Int) ⊕ (List Edge)):=
 if (decide (a < (t.E.length:Int))) then (ob (ix t.E a) fun b=>
 ob (uI g b.F) fun d=>
 ob (uI g b.To) fun e=>
 if (decide (0<=d)) then (sD c a b d e (decide (0<=e))) else (sD c a b d e false)) else (some (.inr c))
def aCN (t:aW) (b:(List Int)):Option aW:=
 ob (uI b t.I) fun c=>
 ob (vE ([]:List aV) t.L) fun d=>
 ob (loop (fun (s:(List Edge × Int))=>sE t b s.1 s.2) (([]:List Edge),0)) fun r=>aGt b c d r
def aFu (a:List Int):Option (List Int):=
 some a
def tF (a:Int) (b:List Int):Option ((List Int × Int) ⊕ (List Int)):=
 some (.inl (b,wr (a+1)))
def tG (t:aW) (d:List Bool) (b:List Int) (a:Int):Option ((List Int × Int) ⊕ (List Int)):=
 if (decide (a < t.N)) then (ob (ix d a) fun e=>
 if e then (ob (vE b ([a]:List Int)) fun f=>
 tF a f) else (tF a b)) else (some (.inr b))
def xS (t:aW) (b:List Bool):Option (List Int):=
 ob (loop (fun (s:(List Int × Int))=>tG t b s.1 s.2) (([]:List Int),0)) fun r=>aFu r
def aCx (a:List Bool) (b:Bool):Option ((List Bool × Bool) ⊕ (List Bool)):=
 some (.inl (a,b))
def aFv (a:List Bool) (b:Bool):Option ((List Bool × Bool) ⊕ (List Bool)):=
 aCx a b
def nC (a:Int) (b:List Bool) (c:Bool):Option ((List Bool × Bool × Int) ⊕ (List Bool × Bool)):=
 some (.inl (b,c,wr (a+1)))
def nD (t:aW) (a:List Bool) (e:Bool) (b:Int) (f:Bool):Option ((List Bool × Bool × Int) ⊕ (List Bool × Bool)):=
 if f then (ob (ix t.E b) fun c=>
 ob (ix a c.To) fun h=>
 ob (st a c.To (true:Bool)) fun g=>
 nC b g true) else (nC b a e)
def tH (t:aW) (a:List Bool) (d:Bool) (c:Int):Option ((List Bool × Bool × Int) ⊕ (List Bool × Bool)):=
 if (decide (c < (t.E.length:Int))) then (ob (ix t.E c) fun e=>
 ob (ix a e.F) fun f=>
 if f then (ob (ix a e.To) fun g=>
 nD t a d c (!g)) else (nD t a d c false)) else (some (.inr (a,d)))
def aBg (t:aW) (a:List Bool) (d:Bool):Option ((List Bool × Bool) ⊕ (List Bool)):=
 if d then (ob (loop (fun (s:(List Bool × Bool × Int))=>tH t s.1 s.2.1 s.2.2) (a,false,0)) fun r=>aFv r.1 r.2) else (some (.inr a))
def aBh (t:aW):Option (List Int):=
 ob (mkz t.N (false:Bool)) fun b=>
 ob (ix b t.I) fun e=>
 ob (st b t.I (true:Bool)) fun c=>
 ob (loop (fun (s:(List Bool × Bool))=>aBg t s.1 s.2) (c,true)) fun r=>xS t r
def xT (a:Bool):Option Bool:=
 some a
def rD (e:Edge) (p:(List Int)):Option Bool:=
 if (e.B == 0) then (ob (ix p e.F) fun c=>
 ob (ix p e.To) fun d=>
 xT (c == d)) else (xT false)
def aGu (a:List Int):Option (List Int):=
 some a
def vR (a:Int) (b:List Int):Option ((List Int × Int) ⊕ (List Int)):=
 some (.inl (b,wr (a+1)))
def sF (c:(List Bool)) (b:List Int) (a:Int):Option ((List Int × Int) ⊕ (List Int)):=
 if (decide (a < (c.length:Int))) then (ob (ix c a) fun d=>
 if d then (ob (vE b ([a]:List Int)) fun e=>
 vR a e) else (vR a b)) else (some (.inr b))
def aAD (a:(List Bool)):Option (List Int):=
 ob (loop (fun (s:(List Int × Int))=>sF a s.1 s.2) (([]:List Int),0)) fun r=>aGu r
def zO (a:List Bool):Option (List Bool):=
 some a
def zQ (a:List Bool) (b:Bool):Option ((List Bool × Bool) ⊕ (List Bool)):=
 some (.inl (a,b))
def aDN (a:List Bool) (b:Bool):Option ((List Bool × Bool) ⊕ (List Bool)):=
 zQ a b
def kJ (a:Int) (b:List Bool) (c:Bool):Option ((List Bool × Bool × Int) ⊕ (List Bool × Bool)):=
 some (.inl (b,c,wr (a+1)))
def tV (b:List Bool) (c:Bool) (a:Int) (d:Bool):Option ((List Bool × Bool × Int) ⊕ (List Bool × Bool)):=
 if (!d) then (ob (st b a (false:Bool)) fun e=>
 kJ a e true) else (kJ a b c)
def iZ (a:Int) (b:Bool):Option ((Bool × Int) ⊕ Bool):=
 some (.inl (b,wr (a+1)))
def jA (t:aW) (p:(List Int)) (f:List Bool) (g:Int) (d:Bool) (a:Int):Option ((Bool × Int) ⊕ Bool):=
 if (decide (a < (t.E.length:Int))) then (ob (ix t.E a) fun b=>
 if d then (iZ a true) else (if (b.F == g) then (ob (rD b p) fun h=>
 if h then (ob (ix f b.To) fun i=>
 iZ a i) else (iZ a false)) else (iZ a false))) else (some (.inr d))
def kK (t:aW) (p:(List Int)) (a:List Bool) (c:Bool) (b:Int):Option ((List Bool × Bool × Int) ⊕ (List Bool × Bool)):=
 if (decide (b < t.N)) then (ob (ix a b) fun f=>
 if (!f) then (kJ b a c) else (ob (loop (fun (s:(Bool × Int))=>jA t p a b s.1 s.2) (false,0)) fun r=>tV a c b r)) else (some (.inr (a,c)))
def mB (t:aW) (p:(List Int)) (a:List Bool) (e:Bool):Option ((List Bool × Bool) ⊕ (List Bool)):=
 if e then (ob (loop (fun (s:(List Bool × Bool × Int))=>kK t p s.1 s.2.1 s.2.2) (a,false,0)) fun r=>aDN r.1 r.2) else (some (.inr a))
def sG (t:aW) (p:(List Int)) (c:List Bool):Option (List Bool):=
 ob (loop (fun (s:(List Bool × Bool))=>mB t p s.1 s.2) (c,true)) fun r=>zO r
def iH (t:aW) (b:List Bool) (a:Int):Option ((List Bool × Int) ⊕ (List Bool)):=
 if (decide (a < t.N)) then (ob (ix b a) fun e=>
 ob (st b a (true:Bool)) fun d=>
 some (.inl (d,wr (a+1)))) else (some (.inr b))
def sH (t:aW) (p:(List Int)):Option (List Bool):=
 ob (mkz t.N (false:Bool)) fun c=>
 ob (loop (fun (s:(List Bool × Int))=>iH t s.1 s.2) (c,0)) fun r=>sG t p r
def aGv:Option Int:=
 some (-1)
def aAt (b:(List aV)) (c:aV) (a:Int):Option (Int ⊕ (Unit ⊕ Int)):=
 if (decide (a < (b.length:Int))) then (ob (ix b a) fun d=>
 if (d == c) then (some (.inr (.inr a))) else (some (.inl (wr (a+1))))) else (some (.inr (.inl ())))
def aAE (b:(List aV)) (c:aV):Option Int:=
 ob (loop (fun (s:Int)=>aAt b c s) 0) fun r=>match r with|.inl r=>aGv|.inr r=>some r
def aGw (a:List aV):Option (List aV):=
 some a
def sI (a:Int) (b:List aV):Option ((List aV × Int) ⊕ (List aV)):=
 some (.inl (b,wr (a+1)))
def aAu (c:Int) (d:aV) (a:Int) (b:List aV):Option ((List aV × Int) ⊕ (List aV)):=
 ob (ix b a) fun f=>
 ob (st b a (d:aV)) fun e=>
 sI c e
def vS (c:Int) (b:List aV) (a:Int):Option ((List aV × Int) ⊕ (List aV)):=
 if (decide (c < a)) then (ob (ix b (wr (a - 1))) fun d=>
 ob (ix b a) fun f=>
 ob (st b a (d:aV)) fun e=>
 some (.inl (e,wr (a - 1)))) else (some (.inr b))
def aAv (c:List aV) (d:Int) (e:aV) (a:Int):Option ((List aV × Int) ⊕ (List aV)):=
 ob (vE c ([([]:aV)]:List aV)) fun b=>
 ob (loop (fun (s:(List aV × Int))=>vS a s.1 s.2) (b,wr ((b.length:Int) - 1))) fun r=>aAu d e a r
def vT (a:Int) (b:Bool):Option (Int ⊕ Int):=
 if b then (some (.inl (wr (a+1)))) else (some (.inr a))
def sJ (b:List aV) (c:aV) (a:Int):Option (Int ⊕ Int):=
 if (decide (a < (b.length:Int))) then (ob (ix b a) fun d=>
 vT a (mZ d c)) else (vT a false)
def oV (d:(List aV)) (a:List aV) (b:Int):Option ((List aV × Int) ⊕ (List aV)):=
 if (decide (b < (d.length:Int))) then (ob (ix d b) fun c=>
 ob (aAE a c) fun e=>
 if (decide (0<=e)) then (sI b a) else (ob (loop (fun (s:Int)=>sJ a c s) 1) fun r=>aAv a b c r)) else (some (.inr a))
def aCO (a:(List aV)):Option (List aV):=
 ob (loop (fun (s:(List aV × Int))=>oV a s.1 s.2) (([([116,97,117]:aV)]:List aV),0)) fun r=>aGw r
def aCd (e:Edge) (b:Int) (c:List Edge):Option (List Edge):=
 ob (ix c b) fun f=>
 ob (st c b (⟨e.F,e.B,e.To⟩:Edge)) fun d=>
 some d
def yI (d:Int) (b:List Edge) (a:Int):Option ((List Edge × Int) ⊕ (List Edge)):=
 if (decide (d < a)) then (ob (ix b (wr (a - 1))) fun c=>
 ob (ix b a) fun f=>
 ob (st b a (⟨c.F,c.B,c.To⟩:Edge)) fun e=>
 some (.inl (e,wr (a - 1)))) else (some (.inr b))
def uV (a:(List Edge)) (e:Edge) (b:Int) (f:Bool):Option (List Edge):=
 if f then (some a) else (ob (vE a ([⟨0,0,0⟩]:List Edge)) fun c=>
 ob (loop (fun (s:(List Edge × Int))=>yI b s.1 s.2) (c,wr ((c.length:Int) - 1))) fun r=>aCd e b r)
def aCe (b:(List Edge)) (e:Edge) (a:Int):Option (List Edge):=
 if (decide (0 < a)) then (ob (ix b (wr (a - 1))) fun d=>
 uV b e a (decide ((d:Edge)=e))) else (uV b e a false)
def yJ (a:Int) (b:Bool):Option (Int ⊕ Int):=
 if b then (some (.inl (wr (a - 1)))) else (some (.inr a))
def uW (b:(List Edge)) (e:Edge) (a:Int):Option (Int ⊕ Int):=
 if (decide (0 < a)) then (ob (ix b (wr (a - 1))) fun d=>
 ob (aCL e d) fun f=>
 yJ a f) else (yJ a false)
def aEv (a:(List Edge)) (e:Edge):Option (List Edge):=
 ob (loop (fun (s:Int)=>uW a e s) (a.length:Int)) fun r=>aCe a e r
def aGx (a b:Int) (c:(List aV)) (d:List Edge):Option aW:=
 some ⟨a,b,c,d⟩
def sK (e:(List aV)) (c:(List Edge)) (f:(List aV)) (d:List Edge) (a:Int):Option ((List Edge × Int) ⊕ (List Edge)):=
 if (decide (a < (c.length:Int))) then (ob (ix c a) fun b=>
 ob (ix e b.B) fun g=>
 ob (aAE f g) fun h=>
 ob (aEv d ⟨b.F,h,b.To⟩) fun i=>
 some (.inl (i,wr (a+1)))) else (some (.inr d))
def aAF (c d:Int) (a:(List aV)) (e:(List Edge)):Option aW:=
 ob (aCO a) fun b=>
 ob (loop (fun (s:(List Edge × Int))=>sK a e b s.1 s.2) (([]:List Edge),0)) fun r=>aGx c d b r
def aIT (a b:Int):Option Int:=
 if (decide (b < a)) then (some a) else (some b)
def aEw (a:Int):Option Int:=
 some a
def rE (p:(List Int)) (c a:Int):Option ((Int × Int) ⊕ Int):=
 if (decide (a < (p.length:Int))) then (ob (ix p a) fun d=>
 ob (aIT c (wr (d+1))) fun e=>
 some (.inl (e,wr (a+1)))) else (some (.inr c))
def yK (p:(List Int)):Option Int:=
 ob (loop (fun (s:(Int × Int))=>rE p s.1 s.2) (0,0)) fun r=>aEw r
def lA (t:aW) (p:(List Int)) (c:List Edge):Option aW:=
 ob (ix p t.I) fun d=>
 ob (yK p) fun e=>
 ob (aAF e d t.L c) fun f=>
 some f
def xD (t:aW) (p:(List Int)) (c:List Edge):Option aW:=
 lA t p c
def gI (p b:(List Int)) (c:List Edge) (a:Int):Option ((List Edge × Int) ⊕ (List Edge)):=
 if (decide (a < (b.length:Int))) then (ob (ix b a) fun f=>
 ob (ix p f) fun d=>
 ob (vE c ([⟨d,0,d⟩]:List Edge)) fun g=>
 some (.inl (g,wr (a+1)))) else (some (.inr c))
def oA (t:aW) (p:(List Int)) (d:Bool) (c:List Edge):Option aW:=
 if d then (ob (sH t p) fun e=>
 ob (aAD e) fun f=>
 ob (loop (fun (s:(List Edge × Int))=>gI p f s.1 s.2) (c,0)) fun r=>xD t p r) else (lA t p c)
def oB (a:Int) (b:List Edge):Option ((List Edge × Int) ⊕ (List Edge)):=
 some (.inl (b,wr (a+1)))
def jO (t:aW) (p:(List Int)) (d:List Edge) (a:Int):Option ((List Edge × Int) ⊕ (List Edge)):=
 if (decide (a < (t.E.length:Int))) then (ob (ix t.E a) fun b=>
 ob (rD b p) fun f=>
 if (!f) then (ob (ix p b.F) fun g=>
 ob (ix p b.To) fun h=>
 ob (vE d ([⟨g,b.B,h⟩]:List Edge)) fun i=>
 oB a i) else (oB a d)) else (some (.inr d))
def pT (t:aW) (p:(List Int)) (c:Bool):Option aW:=
 ob (loop (fun (s:(List Edge × Int))=>jO t p s.1 s.2) (([]:List Edge),0)) fun r=>oA t p c r
def aGy:Option Bool:=
 some true
def aAw (a b:(List Int)) (c:Int):Option (Int ⊕ (Unit ⊕ Bool)):=
 if (decide (c < (a.length:Int))) then (ob (ix a c) fun f=>
 ob (ix b c) fun g=>
 if (f != g) then (some (.inr (.inr false))) else (some (.inl (wr (c+1))))) else (some (.inr (.inl ())))
def aAG (a b:(List Int)):Option Bool:=
 if ((a.length:Int) != (b.length:Int)) then (some false) else (ob (loop (fun (s:Int)=>aAw a b s) 0) fun r=>match r with|.inl r=>aGy|.inr r=>some r)
def aFw (a:List Bool):Option (List Bool):=
 some a
def aCy (a:List Bool) (b:Bool):Option ((List Bool × Bool) ⊕ (List Bool)):=
 some (.inl (a,b))
def aFx (a:List Bool) (b:Bool):Option ((List Bool × Bool) ⊕ (List Bool)):=
 aCy a b
def pU (a:Int) (b:List Bool) (c:Bool):Option ((List Bool × Bool × Int) ⊕ (List Bool × Bool)):=
 some (.inl (b,c,wr (a+1)))
def kW (a:List Bool) (d:Bool) (b:Int) (c:Edge) (e:Bool):Option ((List Bool × Bool × Int) ⊕ (List Bool × Bool)):=
 if e then (ob (ix a c.To) fun g=>
 ob (st a c.To (true:Bool)) fun f=>
 pU b f true) else (pU b a d)
def nE (t:aW) (p:(List Int)) (a:List Bool) (d:Bool) (c:Int):Option ((List Bool × Bool × Int) ⊕ (List Bool × Bool)):=
 if (decide (c < (t.E.length:Int))) then (ob (ix t.E c) fun b=>
 ob (ix a b.F) fun g=>
 if g then (ob (ix a b.To) fun h=>
 if (!h) then (ob (rD b p) fun i=>
 kW a d c b i) else (kW a d c b false)) else (kW a d c b false)) else (some (.inr (a,d)))
def pV (t:aW) (p:(List Int)) (a:List Bool) (e:Bool):Option ((List Bool × Bool) ⊕ (List Bool)):=
 if e then (ob (loop (fun (s:(List Bool × Bool × Int))=>nE t p s.1 s.2.1 s.2.2) (a,false,0)) fun r=>aFx r.1 r.2) else (some (.inr a))
def aBi (t:aW) (p:(List Int)) (k:Int):Option (List Bool):=
 ob (mkz t.N (false:Bool)) fun c=>
 ob (ix c k) fun g=>
 ob (st c k (true:Bool)) fun e=>
 ob (loop (fun (s:(List Bool × Bool))=>pV t p s.1 s.2) (e,true)) fun r=>aFw r
def yL (a:List Int):Option (List Int):=
 some a
def yM (n:Int) (a:List Int) (c:Bool):Option (List Int):=
 if (!c) then (ob (vE a ([n]:List Int)) fun d=>
 yL d) else (yL a)
def oM (b:(List Int)) (a:Int) (c:List Int) (d:Bool):Option ((List Int × Bool × Int) ⊕ (List Int × Bool)):=
 ob (ix b a) fun e=>
 ob (vE c ([e]:List Int)) fun f=>
 some (.inl (f,d,wr (a+1)))
def kX (a:(List Int)) (n:Int) (c:List Int) (e:Bool) (b:Int) (f:Bool):Option ((List Int × Bool × Int) ⊕ (List Int × Bool)):=
 if f then (ob (ix a b) fun g=>
 if (decide (n < g)) then (ob (vE c ([n]:List Int)) fun h=>
 oM a b h true) else (oM a b c true)) else (oM a b c e)
def jB (a:(List Int)) (n:Int) (e:List Int) (b:Bool) (c:Int):Option ((List Int × Bool × Int) ⊕ (List Int × Bool)):=
 if (decide (c < (a.length:Int))) then (if (!b) then (ob (ix a c) fun f=>
 kX a n e b c (decide (n<=f))) else (kX a n e b c false)) else (some (.inr (e,b)))
def aBj (c:(List Int)) (n:Int):Option (List Int):=
 ob (loop (fun (s:(List Int × Bool × Int))=>jB c n s.1 s.2.1 s.2.2) (([]:List Int),false,0)) fun r=>yM n r.1 r.2
def aEx (a:List Int):Option (List Int):=
 some a
def kB (a:Int) (b:List Int):Option ((List Int × Int) ⊕ (List Int)):=
 some (.inl (b,wr (a+1)))
def gX (p:(List Int)) (b:List Int) (c:Int) (d:Edge) (e:Bool):Option ((List Int × Int) ⊕ (List Int)):=
 if e then (ob (ix p d.To) fun f=>
 ob (aBj b (wr ((wr (d.B * (p.length:Int)))+f))) fun g=>
 kB c g) else (kB c b)
def eG (t:aW) (p:(List Int)) (f:(List Bool)) (d:List Int) (a:Int):Option ((List Int × Int) ⊕ (List Int)):=
 if (decide (a < (t.E.length:Int))) then (ob (ix t.E a) fun b=>
 ob (ix f b.F) fun g=>
 if g then (ob (rD b p) fun h=>
 gX p d a b (!h)) else (gX p d a b false)) else (some (.inr d))
def oN (t:aW) (p:(List Int)) (k:Int):Option (List Int):=
 ob (aBi t p k) fun d=>
 ob (loop (fun (s:(List Int × Int))=>eG t p d s.1 s.2) (([]:List Int),0)) fun r=>aEx r
def aEy (a:List Int):Option (List Int):=
 some a
def vU (a:Int) (b:List Int) (c:Int):Option ((List Int × Int × Int) ⊕ (List Int)):=
 some (.inl (b,c,wr (a+1)))
def vV (a:List Int) (b c d:Int):Option ((List Int × Int × Int) ⊕ (List Int)):=
 ob (vE a ([d]:List Int)) fun e=>
 vU b e c
def vW (b:List Int) (a c d:Int):Option ((List Int × Int × Int) ⊕ (List Int)):=
 if (decide (d < 0)) then (vV b c (wr (a+1)) a) else (vV b c a d)
def oC (a b:Int):Option ((Int × Int) ⊕ Int):=
 some (.inl (b,wr (a+1)))
def oD (b:List Int) (c a:Int) (d:Bool):Option ((Int × Int) ⊕ Int):=
 if d then (ob (ix b a) fun e=>
 oC a e) else (oC a c)
def lH (p:(List Int)) (d:List (List Int)) (e:List Int) (f b a:Int) (g:Bool):Option ((Int × Int) ⊕ Int):=
 if g then (ob (ix p a) fun h=>
 ob (ix p f) fun i=>
 if (h == i) then (ob (ix d a) fun j=>
 ob (ix d f) fun k=>
 ob (aAG j k) fun l=>
 oD e b a l) else (oD e b a false)) else (some (.inr b))
def lI (p:(List Int)) (e:List (List Int)) (f:List Int) (a b c:Int):Option ((Int × Int) ⊕ Int):=
 if (decide (c < a)) then (lH p e f a b c (decide (b < 0))) else (lH p e f a b c false)
def kC (p:(List Int)) (d:List (List Int)) (a:List Int) (e b:Int):Option ((List Int × Int × Int) ⊕ (List Int)):=
 if (decide (b < (p.length:Int))) then (ob (loop (fun (s:(Int × Int))=>lI p d a b s.1 s.2) ((-1),0)) fun r=>vW a e b r) else (some (.inr a))
def pF (p:(List Int)) (b:List (List Int)):Option (List Int):=
 ob (loop (fun (s:(List Int × Int × Int))=>kC p b s.1 s.2.1 s.2.2) (([]:List Int),0,0)) fun r=>aEy r
def mC (a:List (List Int)) (b:Int) (c:List Int):Option ((List (List Int) × Int) ⊕ (List (List Int))):=
 ob (vE a ([c]:List (List Int))) fun d=>
 some (.inl (d,wr (b+1)))
def mD (a:List (List Int)) (b:Int) (c:(List Int)) (d:Bool):Option ((List (List Int) × Int) ⊕ (List (List Int))):=
 if d then (ob (vE c ([(-1)]:List Int)) fun e=>
 mC a b e) else (mC a b c)
def jC (t:aW) (p:(List Int)) (f:Bool) (g:(List Bool)) (b:List (List Int)) (a:Int):Option ((List (List Int) × Int) ⊕ (List (List Int))):=
 if (decide (a < t.N)) then (ob (oN t p a) fun d=>
 if f then (ob (ix g a) fun h=>
 mD b a d h) else (mD b a d false)) else (some (.inr b))
def yN (t:aW) (p:(List Int)) (c:Bool):Option (List Int):=
 ob (sH t p) fun d=>
 ob (loop (fun (s:(List (List Int) × Int))=>jC t p c d s.1 s.2) (([]:List (List Int)),0)) fun r=>pF p r
def vX (t:aW) (d:Bool) (a:List Int):Option ((List Int) ⊕ (List Int)):=
 ob (yN t a d) fun b=>
 ob (aAG b a) fun e=>
 if e then (some (.inr a)) else (some (.inl b))
def aAH (t:aW) (b:Bool):Option (List Int):=
 ob (mkz t.N (0:Int)) fun c=>
 ob (loop (fun (s:List Int)=>vX t b s) c) fun r=>some r
def aBk (t:aW) (b:Bool):Option aW:=
 ob (aBh t) fun d=>
 ob (aCN t d) fun c=>
 ob (aAH c b) fun e=>
 ob (pT c e b) fun f=>
 some f
def xE (t:aW) (b:Int):Option aW:=
 if (b == 0) then (ob (aCM t) fun c=>
 some c) else (ob (aBk t (b == 2)) fun d=>
 some d)
def xF (a:bB) (b:List aW):Option bB:=
 some ⟨b,a.Meetings,a.Allowed,a.Hidden⟩
def iI (n:bB) (e:Int) (b:List aW) (a:Int):Option ((List aW × Int) ⊕ (List aW)):=
 if (decide (a < (b.length:Int))) then (ob (ix n.Parts a) fun f=>
 ob (xE f e) fun c=>
 ob (ix b a) fun h=>
 ob (st b a (⟨c.N,c.I,c.L,c.E⟩:aW)) fun g=>
 some (.inl (g,wr (a+1)))) else (some (.inr b))
def tI (n:bB) (c:Int):Option bB:=
 ob (aEu n) fun b=>
 ob (loop (fun (s:(List aW × Int))=>iI n c s.1 s.2) (b.Parts,0)) fun r=>xF b r
def pG (n:bB) (b:Int):Option (bB × Int):=
 ob (aGs n) fun c=>
 if (!c) then (some (⟨[],[],[],[]⟩,1)) else (ob (aFa b) fun d=>
 if (!d) then (some (⟨[],[],[],[]⟩,2)) else (ob (tI n b) fun e=>
 some (e,0)))
def aEz (a:List aV):Option (List aV):=
 some a
def vY (a:(List aV)) (c:List aV) (b:Int):Option ((List aV × Int) ⊕ (List aV)):=
 if (decide (b < (a.length:Int))) then (ob (ix a b) fun e=>
 ob (ix c b) fun g=>
 ob (st c b (e:aV)) fun f=>
 some (.inl (f,wr (b+1)))) else (some (.inr c))
def rF (a:(List aV)):Option (List aV):=
 ob (mkz (a.length:Int) ([]:aV)) fun c=>
 ob (loop (fun (s:(List aV × Int))=>vY a s.1 s.2) (c,0)) fun r=>aEz r
def aIU (a:Edge):Option Edge:=
 some a
def aGz (a:List Edge):Option (List Edge):=
 some a
def aAx (a:(List Edge)) (c:List Edge) (b:Int):Option ((List Edge × Int) ⊕ (List Edge)):=
 if (decide (b < (a.length:Int))) then (ob (ix a b) fun f=>
 ob (aIU f) fun d=>
 ob (ix c b) fun h=>
 ob (st c b (⟨d.F,d.B,d.To⟩:Edge)) fun g=>
 some (.inl (g,wr (b+1)))) else (some (.inr c))
def aCP (a:(List Edge)):Option (List Edge):=
 ob (mkz (a.length:Int) (⟨0,0,0⟩:Edge)) fun c=>
 ob (loop (fun (s:(List Edge × Int))=>aAx a s.1 s.2) (c,0)) fun r=>aGz r
def aIu (a:aW):Option aW:=
 ob (rF a.L) fun c=>
 ob (aCP a.E) fun d=>
 some ⟨a.N,a.I,c,d⟩
def aHE (a:List aW):Option (List aW):=
 some a
def aCf (a:(List aW)) (c:List aW) (b:Int):Option ((List aW × Int) ⊕ (List aW)):=
 if (decide (b < (a.length:Int))) then (ob (ix a b) fun e=>
 ob (aIu e) fun f=>
 ob (ix c b) fun h=>
 ob (st c b (f:aW)) fun g=>
 some (.inl (g,wr (b+1)))) else (some (.inr c))
def aEA (a:(List aW)):Option (List aW):=
 ob (mkz (a.length:Int) (⟨0,0,[],[]⟩:aW)) fun c=>
 ob (loop (fun (s:(List aW × Int))=>aCf a s.1 s.2) (c,0)) fun r=>aHE r
def aEB (a:aT):Option aT:=
 some a
def aDO (a:List aT):Option (List aT):=
 some a
def tW (a:(List aT)) (c:List aT) (b:Int):Option ((List aT × Int) ⊕ (List aT)):=
 if (decide (b < (a.length:Int))) then (ob (ix a b) fun f=>
 ob (aEB f) fun d=>
 ob (ix c b) fun h=>
 ob (st c b (⟨d.Left,d.Right,d.Result⟩:aT)) fun g=>
 some (.inl (g,wr (b+1)))) else (some (.inr c))
def vZ (a:(List aT)):Option (List aT):=
 ob (mkz (a.length:Int) (⟨[],[],[]⟩:aT)) fun c=>
 ob (loop (fun (s:(List aT × Int))=>tW a s.1 s.2) (c,0)) fun r=>aDO r
def oO (a:bB):Option bB:=
 ob (aEA a.Parts) fun c=>
 ob (vZ a.Meetings) fun d=>
 ob (rF a.Allowed) fun e=>
 ob (rF a.Hidden) fun f=>
 some ⟨c,d,e,f⟩
def pW (t:aW) (k:Int):Option Bool:=
 ob (kP k 0 (wr (t.N - 1))) fun c=>
 some c
def aIv (i many:Int):Option Bool:=
 ob (kP i 0 (wr (many - 1))) fun b=>
 some b
def oW (a:Int):Option Bool:=
 some (a != a)
def fZ (a y:Int):Option Int:=
 ob (oW a) fun d=>
 ob (oW y) fun c=>
 if d then (if c then (some 0) else (some (-1))) else (if c then (some 1) else (if (decide (a < y)) then (some (-1)) else (if (decide (y < a)) then (some 1) else (some 0))))
def xG:Option Int:=
 some 0
def iJ (b:(List Int)) (a:Int):Option (Int ⊕ (Unit ⊕ Int)):=
 if (decide (a < (b.length:Int))) then (ob (ix b a) fun c=>
 if (c != 0) then (some (.inr (.inr c))) else (some (.inl (wr (a+1))))) else (some (.inr (.inl ())))
def tJ (b:(List Int)):Option Int:=
 ob (loop (fun (s:Int)=>iJ b s) 0) fun r=>match r with|.inl r=>xG|.inr r=>some r
def rG (a b:Edge):Option Int:=
 ob (fZ a.F b.F) fun e=>
 ob (fZ a.B b.B) fun f=>
 ob (fZ a.To b.To) fun g=>
 ob (tJ ([e,f,g]:List Int)) fun h=>
 some h
def aFy:Option Bool:=
 some true
def nF (a:Int) (b:Bool):Option (Int ⊕ (Unit ⊕ Bool)):=
 if b then (some (.inr (.inr false))) else (some (.inl (wr (a+1))))
def tK (t:aW) (a:Int):Option (Int ⊕ (Unit ⊕ Bool)):=
 if (decide (a < (t.E.length:Int))) then (ob (ix t.E a) fun c=>
 ob (pW t c.F) fun d=>
 if (!d) then (nF a true) else (ob (pW t c.To) fun e=>
 if (!e) then (nF a true) else (ob (aIv c.B (t.L.length:Int)) fun f=>
 if (!f) then (nF a true) else (if (decide (0 < a)) then (ob (ix t.E (wr (a - 1))) fun g=>
 ob (rG g c) fun h=>
 nF a (decide (0<=h))) else (nF a false))))) else (some (.inr (.inl ())))
def xU (t:aW):Option Bool:=
 ob (loop (fun (s:Int)=>tK t s) 0) fun r=>match r with|.inl r=>aFy|.inr r=>some r
def pX (a:Int) (b:Bool):Option (Int ⊕ (Unit ⊕ Bool)):=
 if b then (some (.inr (.inr false))) else (some (.inl (wr (a+1))))
def tL (t:aW) (a:Int):Option (Int ⊕ (Unit ⊕ Bool)):=
 if (decide (a < (t.L.length:Int))) then (ob (ix t.L a) fun b=>
 ob (aEY b) fun e=>
 if (!e) then (pX a true) else (if ((b == ([116,97,117]:aV)) != (a == 0)) then (pX a true) else (if (decide (1 < a)) then (ob (ix t.L (wr (a - 1))) fun d=>
 pX a (mZ b d||b == d)) else (pX a false)))) else (some (.inr (.inl ())))
def nG (t:aW) (c:Bool):Option Bool:=
 if c then (some false) else (ob (loop (fun (s:Int)=>tL t s) 0) fun r=>match r with|.inl r=>xU t|.inr r=>some r)
def aBl (t:aW):Option Bool:=
 ob (kP t.N 1 40) fun b=>
 if (!b) then (nG t true) else (ob (pW t t.I) fun c=>
 if (!c) then (nG t true) else (ob (kP (t.L.length:Int) 1 12) fun d=>
 if (!d) then (nG t true) else (nG t (decide (300 < (t.E.length:Int))))))
def wA (t:aW):Option Bool:=
 ob (aBl t) fun b=>
 some (!b)
def nR (a:aV):Option Bool:=
 some (!(a == a))
def jJ (a y:aV):Option Int:=
 ob (nR a) fun d=>
 ob (nR y) fun c=>
 if d then (if c then (some 0) else (some (-1))) else (if c then (some 1) else (if (mZ a y) then (some (-1)) else (if (!(mZ a y||a == y)) then (some 1) else (some 0))))
def kR (a b:(List aV)):Option Int:=
 if (decide ((a.length:Int) < (b.length:Int))) then (some (-1)) else (some 0)
def bP (b c:(List aV)) (a:Int):Option (Int ⊕ (Unit ⊕ Int)):=
 if (decide (a < (b.length:Int))) then (ob (ix b a) fun e=>
 if (decide ((c.length:Int)<=a)) then (some (.inr (.inr 1))) else (ob (ix c a) fun f=>
 ob (jJ e f) fun d=>
 if (d != 0) then (some (.inr (.inr d))) else (some (.inl (wr (a+1)))))) else (some (.inr (.inl ())))
def fI (b c:(List aV)):Option Int:=
 ob (loop (fun (s:Int)=>bP b c s) 0) fun r=>match r with|.inl r=>kR b c|.inr r=>some r
def mP (a b:aT):Option Int:=
 ob (fI ([a.Left,a.Right]:List aV) ([b.Left,b.Right]:List aV)) fun e=>
 some e
def oX (a:Bool):Option Bool:=
 some a
def tX (o p:aT):Option Bool:=
 if (o.Left == p.Result) then (oX true) else (oX (o.Right == p.Result))
def gA:Option Int:=
 some (-1)
def cA (b:(List aT)) (c:aT) (a:Int):Option (Int ⊕ (Unit ⊕ Int)):=
 if (decide (a < (b.length:Int))) then (ob (ix b a) fun d=>
 ob (tX d c) fun e=>
 if e then (some (.inr (.inr a))) else (some (.inl (wr (a+1))))) else (some (.inr (.inl ())))
def cR (b:(List aT)) (c:aT):Option Int:=
 ob (loop (fun (s:Int)=>cA b c s) 0) fun r=>match r with|.inl r=>gA|.inr r=>some r
def cI (a:(List aT)) (b:aT):Option Bool:=
 ob (cR a b) fun c=>
 some (decide (0<=c))
def aDP (a:(List aT)):Option Bool:=
 some (decide ((a.length:Int)<=6))
def gD (a:(List aT)) (b:Int) (c:aT) (d:Bool):Option (Int ⊕ (Unit ⊕ Bool)):=
 if d then (some (.inr (.inr false))) else (ob (cI a c) fun e=>
 if e then (some (.inr (.inr false))) else (some (.inl (wr (b+1)))))
def mF (c:(List aT)) (b:Int):Option (Int ⊕ (Unit ⊕ Bool)):=
 if (decide (b < (c.length:Int))) then (ob (ix c b) fun a=>
 ob (oS a.Left) fun d=>
 if (!d) then (gD c b a true) else (ob (oS a.Right) fun e=>
 if (!e) then (gD c b a true) else (ob (oS a.Result) fun f=>
 if (!f) then (gD c b a true) else (if (!(mZ a.Left a.Right||a.Left == a.Right)) then (gD c b a true) else (if (decide (0 < b)) then (ob (ix c (wr (b - 1))) fun g=>
 ob (mP g a) fun h=>
 gD c b a (decide (0<=h))) else (gD c b a false)))))) else (some (.inr (.inl ())))
def wB (b:(List aT)):Option Bool:=
 ob (loop (fun (s:Int)=>mF b s) 0) fun r=>match r with|.inl r=>aDP b|.inr r=>some r
def aDs (a:(List aV)):Option Bool:=
 some (decide ((a.length:Int)<=12))
def wC (a:Int) (b:Bool):Option (Int ⊕ (Unit ⊕ Bool)):=
 if b then (some (.inr (.inr false))) else (some (.inl (wr (a+1))))
def wD (b:(List aV)) (a:Int):Option (Int ⊕ (Unit ⊕ Bool)):=
 if (decide (a < (b.length:Int))) then (ob (ix b a) fun c=>
 ob (oS c) fun e=>
 if (!e) then (wC a true) else (if (decide (0 < a)) then (ob (ix b (wr (a - 1))) fun d=>
 wC a (mZ c d||c == d)) else (wC a false))) else (some (.inr (.inl ())))
def aAI (b:(List aV)):Option Bool:=
 ob (loop (fun (s:Int)=>wD b s) 0) fun r=>match r with|.inl r=>aDs b|.inr r=>some r
def iU:Option Int:=
 some (-1)
def cJ (b:(List aW)) (a:Int):Option (Int ⊕ (Unit ⊕ Int)):=
 if (decide (a < (b.length:Int))) then (ob (ix b a) fun c=>
 ob (wA c) fun d=>
 if d then (some (.inr (.inr a))) else (some (.inl (wr (a+1))))) else (some (.inr (.inl ())))
def eA (b:(List aW)):Option Int:=
 ob (loop (fun (s:Int)=>cJ b s) 0) fun r=>match r with|.inl r=>iU|.inr r=>some r
def dJ (a:(List aW)):Option Bool:=
 ob (eA a) fun b=>
 some (decide (0<=b))
def mQ (a:Bool):Option Bool:=
 some a
def mR (n:bB) (b:Bool):Option Bool:=
 if b then (some false) else (ob (wB n.Meetings) fun c=>
 if c then (ob (aAI n.Allowed) fun d=>
 if d then (ob (aAI n.Hidden) fun e=>
 mQ e) else (mQ false)) else (mQ false))
def rH (n:bB):Option Bool:=
 ob (kP (n.Parts.length:Int) 1 4) fun b=>
 if (!b) then (mR n true) else (ob (dJ n.Parts) fun c=>
 mR n c)
def xV (a:Int):Option Bool:=
 ob (kP a 0 2) fun b=>
 some b
def cG (a:(List aT)):Option (List aT):=
 ob (vE ([]:List aT) a) fun b=>
 some b
def bY (a:(List aV)):Option (List aV):=
 ob (vE ([]:List aV) a) fun b=>
 some b
def wE (n:bB) (b:(List aW)):Option bB:=
 ob (cG n.Meetings) fun c=>
 ob (bY n.Allowed) fun d=>
 ob (bY n.Hidden) fun e=>
 some ⟨b,c,d,e⟩
def eK (a:(List Edge)):Option (List Edge):=
 ob (vE ([]:List Edge) a) fun b=>
 some b
def yO (t:aW):Option aW:=
 ob (bY t.L) fun b=>
 ob (eK t.E) fun c=>
 some ⟨t.N,t.I,b,c⟩
def mT:Option Int:=
 some (-1)
def fS (b:(List Int)) (c a:Int):Option (Int ⊕ (Unit ⊕ Int)):=
 if (decide (a < (b.length:Int))) then (ob (ix b a) fun d=>
 if (c == d) then (some (.inr (.inr a))) else (some (.inl (wr (a+1))))) else (some (.inr (.inl ())))
def dW (b:(List Int)) (c:Int):Option Int:=
 ob (loop (fun (s:Int)=>fS b c s) 0) fun r=>match r with|.inl r=>mT|.inr r=>some r
def pY (k:Int) (p:(List Int)):Option Int:=
 ob (dW p k) fun c=>
 some c
def xW (a:(List Int)) (b:Int) (c:List aV) (d:List Edge):Option aW:=
 ob (uF d) fun e=>
 some ⟨(a.length:Int),b,c,e⟩
def nH (a:Int) (b:List Edge):Option ((List Edge × Int) ⊕ (List Edge)):=
 some (.inl (b,wr (a+1)))
def pZ (a:List Edge) (b:Int) (c:Edge) (d e:Int) (f:Bool):Option ((List Edge × Int) ⊕ (List Edge)):=
 if f then (ob (vE a ([⟨d,c.B,e⟩]:List Edge)) fun g=>
 nH b g) else (nH b a)
def qA (t:aW) (g:(List Int)) (c:List Edge) (a:Int):Option ((List Edge × Int) ⊕ (List Edge)):=
 if (decide (a < (t.E.length:Int))) then (ob (ix t.E a) fun b=>
 ob (pY b.F g) fun d=>
 ob (pY b.To g) fun e=>
 if (decide (0<=d)) then (pZ c a b d e (decide (0<=e))) else (pZ c a b d e false)) else (some (.inr c))
def xX (t:aW) (a:(List Int)) (c:Int) (d:List aV):Option aW:=
 ob (loop (fun (s:(List Edge × Int))=>qA t a s.1 s.2) ([],0)) fun r=>xW a c d r
def aBm (t:aW) (b:(List Int)):Option aW:=
 ob (pY t.I b) fun c=>
 ob (bY t.L) fun d=>
 xX t b c d
def fJ (a:List Int):Option (List Int):=
 some a
def fK (a:List Int) (b:Int):Option ((List Int × Int) ⊕ (List Int)):=
 if (decide (b < (a.length:Int))) then (ob (sT a b (a.length:Int)) fun d=>
 ob (sT a 0 b) fun c=>
 ob (ovw a b (List.take (Nat.min c.length d.length) c)) fun e=>
 some (.inl (e,wr (b+((Nat.min c.length d.length):Int))))) else (some (.inr a))
def fL (a:(List Int)) (c:(Int × Int)):Option (List Int):=
 ob (mkz (wr c.2) (0:Int)) fun b=>
 ob (ovw b 0 (List.take (Nat.min a.length b.length) a)) fun d=>
 ob (loop (fun (s:(List Int × Int))=>fK s.1 s.2) (d,((Nat.min a.length b.length):Int))) fun r=>fJ r
def dZ (a:(List Int)) (b:(Int × Int)) (c:Bool):Option (List Int):=
 if c then (none) else (fL a b)
def fM (b:(List Int)) (c:Int):Option (List Int):=
 ob (aHy (aAk (b.length:Int)) (aAk c)) fun a=>
 if (decide (0 < a.1)) then (dZ b a true) else (dZ b a (decide (9223372036854775807 < a.2)))
def eR (b:(List Int)) (a:Int):Option (List Int):=
 if (decide (a < 0)) then (none) else (fM b a)
def dX (a:(List Int)):Option (List Int):=
 ob (vE ([]:List Int) a) fun b=>
 some b
def aBn (a:List Int):Option (List Int):=
 some a
def uJ (a b:List Int):Option ((List Int × List Int) ⊕ (List Int)):=
 some (.inl (a,b))
def aBo (a b:List Int):Option ((List Int × List Int) ⊕ (List Int)):=
 uJ a b
def iC (a:Int) (b c:List Int):Option ((List Int × List Int × Int) ⊕ (List Int × List Int)):=
 some (.inl (b,c,wr (a+1)))
def jP (e:Int) (a c:List Int) (d b:Int) (f:Bool):Option ((List Int × List Int × Int) ⊕ (List Int × List Int)):=
 if f then (ob (ix a e) fun g=>
 ob (ix a b) fun j=>
 ob (st a b (wr (g+1):Int)) fun h=>
 ob (vE c ([b]:List Int)) fun i=>
 iC d h i) else (iC d a c)
def lJ (a:Int) (b d:List Int) (e f c:Int):Option ((List Int × List Int × Int) ⊕ (List Int × List Int)):=
 if (f == a) then (ob (ix b c) fun g=>
 jP a b d e c (decide (g < 0))) else (jP a b d e c false)
def lK (t:aW) (g:Bool) (f:Int) (c d:List Int) (a:Int):Option ((List Int × List Int × Int) ⊕ (List Int × List Int)):=
 if (decide (a < (t.E.length:Int))) then (ob (ix t.E a) fun b=>
 if (!g) then (lJ f c d a b.To b.F) else (lJ f c d a b.F b.To)) else (some (.inr (c,d)))
def oY (t:aW) (e:Bool) (b a:List Int):Option ((List Int × List Int) ⊕ (List Int)):=
 if (decide (0 < (a.length:Int))) then (ob (ix a 0) fun f=>
 ob (sT a 1 (a.length:Int)) fun g=>
 ob (loop (fun (s:(List Int × List Int × Int))=>lK t e f s.1 s.2.1 s.2.2) (b,g,0)) fun r=>aBo r.1 r.2) else (some (.inr b))
def oZ (t:aW) (b:Bool) (c:(List Int)) (d:List Int):Option (List Int):=
 ob (loop (fun (s:(List Int × List Int))=>oY t b s.1 s.2) (d,c)) fun r=>aBn r
def nS (c:(List Int)) (a:List Int) (b:Int):Option ((List Int × Int) ⊕ (List Int)):=
 if (decide (b < (c.length:Int))) then (ob (ix c b) fun d=>
 ob (ix a d) fun f=>
 ob (st a d (0:Int)) fun e=>
 some (.inl (e,wr (b+1)))) else (some (.inr a))
def pH (t:aW) (b:(List Int)) (c:Bool):Option (List Int):=
 ob (eR ([(-1)]:List Int) t.N) fun d=>
 ob (dX b) fun e=>
 ob (loop (fun (s:(List Int × Int))=>nS b s.1 s.2) (d,0)) fun r=>oZ t c e r
def aKH (a:List Int):Option (List Int):=
 some a
def aFb (n:Int) (b:List Int) (a:Int):Option ((List Int × Int) ⊕ (List Int)):=
 if (decide (a < n)) then (ob (vE b ([a]:List Int)) fun d=>
 some (.inl (d,wr (a+1)))) else (some (.inr b))
def aIV (n:Int):Option (List Int):=
 ob (loop (fun (s:(List Int × Int))=>aFb n s.1 s.2) ([],0)) fun r=>aKH r
def lL (k:Int) (p:(List Int)):Option Bool:=
 ob (ix p k) fun c=>
 some (decide (c < 0))
def jS:Option Int:=
 some (-1)
def cT (b c:(List Int)) (a:Int):Option (Int ⊕ (Unit ⊕ Int)):=
 if (decide (a < (b.length:Int))) then (ob (ix b a) fun d=>
 ob (lL d c) fun e=>
 if e then (some (.inr (.inr a))) else (some (.inl (wr (a+1))))) else (some (.inr (.inl ())))
def dF (b c:(List Int)):Option Int:=
 ob (loop (fun (s:Int)=>cT b c s) 0) fun r=>match r with|.inl r=>jS|.inr r=>some r
def eM (a:List Int) (b:Int):Option (List Int):=
 ob (sT a b (a.length:Int)) fun c=>
 ob (ovw a b (List.replicate c.length (0:Int))) fun d=>
 ob (sT d 0 b) fun e=>
 some e
def cX (a:Int) (b:List Int) (c:Int):Option ((List Int × Int × Int) ⊕ (List Int × Int)):=
 some (.inl (b,c,wr (a+1)))
def cH (e:(List Int)) (a:List Int) (b c:Int):Option ((List Int × Int × Int) ⊕ (List Int × Int)):=
 if (decide (c < (a.length:Int))) then (ob (ix a c) fun d=>
 ob (lL d e) fun f=>
 if (!f) then (ob (ix a b) fun h=>
 ob (st a b (d:Int)) fun g=>
 cX c g (wr (b+1))) else (cX c a b)) else (some (.inr (a,b)))
def dQ (a c:(List Int)):Option (List Int):=
 ob (dF a c) fun b=>
 if (b == (-1)) then (some a) else (ob (loop (fun (s:(List Int × Int × Int))=>cH c s.1 s.2.1 s.2.2) (a,b,wr (b+1))) fun r=>eM r.1 r.2)
def pI (t:aW):Option (List Int):=
 ob (pH t ([t.I]:List Int) true) fun b=>
 ob (aIV t.N) fun c=>
 ob (dQ c b) fun d=>
 some d
def iV (a:(List Edge)):Option (List Edge):=
 some a
def dK (a:Int):Option (Int ⊕ (Unit ⊕ (List Edge))):=
 some (.inl (wr (a+1)))
def dL (a:List Edge) (b:Int):Option (Int ⊕ (Unit ⊕ (List Edge))):=
 ob (sT a b (a.length:Int)) fun c=>
 ob (ovw a b (List.replicate c.length (⟨0,0,0⟩:Edge))) fun d=>
 ob (sT d 0 b) fun e=>
 some (.inr (.inr e))
def cK (a:Int) (b:List Edge) (c:Int):Option ((List Edge × Int × Int) ⊕ (List Edge × Int)):=
 some (.inl (b,c,wr (a+1)))
def cL (f:Int) (e b:List Edge) (c a:Int):Option ((List Edge × Int × Int) ⊕ (List Edge × Int)):=
 if (decide (a < (e.length:Int))) then (ob (ix e a) fun i=>
 ob (ix b (f+a)) fun d=>
 ob (ix e (wr (a - 1))) fun j=>
 ob (ix b (f+(wr (a - 1)))) fun g=>
 if (!decide ((d:Edge)=g)) then (ob (ix b c) fun k=>
 ob (st b c (⟨d.F,d.B,d.To⟩:Edge)) fun h=>
 cK a h (wr (c+1))) else (cK a b c)) else (some (.inr (b,c)))
def cM (b:(List Edge)) (a:Int):Option (Int ⊕ (Unit ⊕ (List Edge))):=
 if (decide (a < (b.length:Int))) then (ob (ix b a) fun d=>
 ob (ix b (wr (a - 1))) fun e=>
 if (decide ((d:Edge)=e)) then (ob (sT b a (b.length:Int)) fun f=>
 ob (loop (fun (s:(List Edge × Int × Int))=>cL a f s.1 s.2.1 s.2.2) (b,a,1)) fun r=>dL r.1 r.2) else (dK a)) else (some (.inr (.inl ())))
def cC (a:(List Edge)):Option (List Edge):=
 if (decide ((a.length:Int) < 2)) then (some a) else (ob (loop (fun (s:Int)=>cM a s) 1) fun r=>match r with|.inl r=>iV a|.inr r=>some r)
def aIW (a b:Int) (c:(List aV)) (d:(List Edge)):Option (Int × Int × (List aV) × (List Edge)):=
 ob (uF d) fun e=>
 ob (cC e) fun f=>
 some (a,b,c,f)
def jQ (a:Int):Option Int:=
 some a
def eS (b:(List Int)) (c a:Int):Option ((Int × Int) ⊕ Int):=
 if (decide (a < (b.length:Int))) then (ob (ix b a) fun d=>
 some (.inl (mxI c d,wr (a+1)))) else (some (.inr c))
def gJ (a:(List Int)):Option Int:=
 ob (ix a 0) fun b=>
 ob (loop (fun (s:(Int × Int))=>eS a s.1 s.2) (b,1)) fun r=>jQ r
def iM (a:(List Int)):Option Int:=
 if (decide ((a.length:Int) < 1)) then (none) else (gJ a)
def sL (p:(List Int)):Option Int:=
 ob (iM p) fun b=>
 some (wr (b+1))
def qF (a:Bool):Option Bool:=
 some a
def lM (e:Edge) (p:(List Int)):Option Bool:=
 if (e.B == 0) then (ob (ix p e.F) fun c=>
 ob (ix p e.To) fun d=>
 qF (c == d)) else (qF false)
def aFz (t:aW) (b:List Edge):Option aW:=
 some ⟨t.N,t.I,t.L,b⟩
def tM (a:Int) (b:List Edge):Option ((List Edge × Int) ⊕ (List Edge)):=
 some (.inl (b,wr (a+1)))
def qB (t:aW) (e:(List Int)) (b:List Edge) (a:Int):Option ((List Edge × Int) ⊕ (List Edge)):=
 if (decide (a < (t.E.length:Int))) then (ob (ix t.E a) fun d=>
 ob (lM d e) fun f=>
 if f then (ob (vE b ([d]:List Edge)) fun g=>
 tM a g) else (tM a b)) else (some (.inr b))
def aDt (t:aW) (b:(List Int)):Option aW:=
 ob (loop (fun (s:(List Edge × Int))=>qB t b s.1 s.2) ([],0)) fun r=>aFz t r
def mG (t:aW) (p:(List Int)):Option aW:=
 ob (aDt t p) fun c=>
 some c
def aDu (a:List Edge):Option (List Edge):=
 some a
def wF (a:Int) (b:List Edge):Option ((List Edge × Int) ⊕ (List Edge)):=
 some (.inl (b,wr (a+1)))
def wG (t:aW) (k:Int) (b:List Edge) (a:Int):Option ((List Edge × Int) ⊕ (List Edge)):=
 if (decide (a < (t.E.length:Int))) then (ob (ix t.E a) fun d=>
 if (d.F == k) then (ob (vE b ([d]:List Edge)) fun f=>
 wF a f) else (wF a b)) else (some (.inr b))
def xH (t:aW) (k:Int):Option (List Edge):=
 ob (loop (fun (s:(List Edge × Int))=>wG t k s.1 s.2) ([],0)) fun r=>aDu r
def fV (a:List Bool):Option (List Bool):=
 some a
def fW (a:List Bool) (b:Int):Option ((List Bool × Int) ⊕ (List Bool)):=
 if (decide (b < (a.length:Int))) then (ob (sT a b (a.length:Int)) fun d=>
 ob (sT a 0 b) fun c=>
 ob (ovw a b (List.take (Nat.min c.length d.length) c)) fun e=>
 some (.inl (e,wr (b+((Nat.min c.length d.length):Int))))) else (some (.inr a))
def fX (a:(List Bool)) (c:(Int × Int)):Option (List Bool):=
 ob (mkz (wr c.2) (false:Bool)) fun b=>
 ob (ovw b 0 (List.take (Nat.min a.length b.length) a)) fun d=>
 ob (loop (fun (s:(List Bool × Int))=>fW s.1 s.2) (d,((Nat.min a.length b.length):Int))) fun r=>fV r
def eN (a:(List Bool)) (b:(Int × Int)) (c:Bool):Option (List Bool):=
 if c then (none) else (fX a b)
def fY (b:(List Bool)) (c:Int):Option (List Bool):=
 ob (aHy (aAk (b.length:Int)) (aAk c)) fun a=>
 if (decide (0 < a.1)) then (eN b a true) else (eN b a (decide (9223372036854775807 < a.2)))
def eB (b:(List Bool)) (a:Int):Option (List Bool):=
 if (decide (a < 0)) then (none) else (fY b a)
def qG (a:Bool):Option Bool:=
 some a
def lN (e:Edge) (p:(List Bool)):Option Bool:=
 if (e.B == 0) then (ob (ix p e.To) fun c=>
 qG c) else (qG false)
def iK:Option Int:=
 some (-1)
def cD (b:(List Edge)) (c:(List Bool)) (a:Int):Option (Int ⊕ (Unit ⊕ Int)):=
 if (decide (a < (b.length:Int))) then (ob (ix b a) fun d=>
 ob (lN d c) fun e=>
 if e then (some (.inr (.inr a))) else (some (.inl (wr (a+1))))) else (some (.inr (.inl ())))
def dO (b:(List Edge)) (c:(List Bool)):Option Int:=
 ob (loop (fun (s:Int)=>cD b c s) 0) fun r=>match r with|.inl r=>iK|.inr r=>some r
def cY (a:(List Edge)) (b:(List Bool)):Option Bool:=
 ob (dO a b) fun c=>
 some (decide (0<=c))
def aBp (a:List Bool):Option (List Bool):=
 some a
def uK (a:List Bool) (b:Bool):Option ((List Bool × Bool) ⊕ (List Bool)):=
 some (.inl (a,b))
def aBq (a:List Bool) (b:Bool):Option ((List Bool × Bool) ⊕ (List Bool)):=
 uK a b
def iD (a:Int) (b:List Bool) (c:Bool):Option ((List Bool × Bool × Int) ⊕ (List Bool × Bool)):=
 some (.inl (b,c,wr (a+1)))
def fB (b:List Bool) (c:Bool) (a:Int) (d:Bool):Option ((List Bool × Bool × Int) ⊕ (List Bool × Bool)):=
 if d then (ob (ix b a) fun f=>
 ob (st b a (false:Bool)) fun e=>
 iD a e true) else (iD a b c)
def fC (t:aW) (e a:List Bool) (c:Bool) (b:Int):Option ((List Bool × Bool × Int) ⊕ (List Bool × Bool)):=
 if (decide (b < (e.length:Int))) then (ob (xH t b) fun f=>
 ob (cY f a) fun g=>
 ob (ix a b) fun h=>
 if h then (fB a c b (!g)) else (fB a c b false)) else (some (.inr (a,c)))
def jR (t:aW) (a:List Bool) (d:Bool):Option ((List Bool × Bool) ⊕ (List Bool)):=
 if d then (ob (loop (fun (s:(List Bool × Bool × Int))=>fC t a s.1 s.2.1 s.2.2) (a,false,0)) fun r=>aBq r.1 r.2) else (some (.inr a))
def jD (t:aW):Option (List Bool):=
 ob (eB ([true]:List Bool) t.N) fun b=>
 ob (loop (fun (s:(List Bool × Bool))=>jR t s.1 s.2) (b,true)) fun r=>aBp r
def gU (a:Bool):Option Bool:=
 some a
def gB (e:Edge) (p:(List Int)):Option Bool:=
 if (e.B != 0) then (gU true) else (ob (ix p e.F) fun c=>
 ob (ix p e.To) fun d=>
 gU (c != d))
def qC (d e:Int) (f:(List aV)) (a:(List Edge)):Option (List Edge):=
 ob (uF a) fun b=>
 ob (cC b) fun c=>
 some c
def qO (a b:Int) (c:List aV) (d:List Edge):Option aW:=
 ob (qC a b c d) fun e=>
 some ⟨a,b,c,e⟩
def kE (a:Int) (b:List Edge):Option ((List Edge × Int) ⊕ (List Edge)):=
 some (.inl (b,wr (a+1)))
def kF (t:aW) (p f:(List Int)) (c:List Edge) (a:Int):Option ((List Edge × Int) ⊕ (List Edge)):=
 if (decide (a < (t.E.length:Int))) then (ob (ix t.E a) fun b=>
 ob (gB b f) fun g=>
 if g then (ob (ix p b.F) fun h=>
 ob (ix p b.To) fun i=>
 ob (vE c ([⟨h,b.B,i⟩]:List Edge)) fun j=>
 kE a j) else (kE a c)) else (some (.inr c))
def qP (t:aW) (p c:(List Int)) (d e:Int) (f:List aV):Option aW:=
 ob (loop (fun (s:(List Edge × Int))=>kF t p c s.1 s.2) ([],0)) fun r=>qO d e f r
def rI (t:aW) (p c:(List Int)):Option aW:=
 ob (ix p t.I) fun d=>
 ob (sL p) fun e=>
 ob (bY t.L) fun f=>
 qP t p c e d f
def lO (a:aW) (b:List Edge):Option aW:=
 some ⟨a.N,a.I,a.L,b⟩
def lP (a:aW) (b:List Edge):Option aW:=
 ob (qC a.N a.I a.L b) fun c=>
 lO a c
def eU (a:Int) (b:List Edge):Option ((List Edge × Int) ⊕ (List Edge)):=
 some (.inl (b,wr (a+1)))
def dR (p:(List Int)) (c:(List Bool)) (b:List Edge) (a:Int):Option ((List Edge × Int) ⊕ (List Edge)):=
 if (decide (a < (c.length:Int))) then (ob (ix c a) fun f=>
 if f then (ob (ix p a) fun d=>
 ob (vE b ([⟨d,0,d⟩]:List Edge)) fun g=>
 eU a g) else (eU a b)) else (some (.inr b))
def eV (t:aW) (p:(List Int)) (d:Bool):Option aW:=
 ob (rI t p p) fun b=>
 if d then (ob (mG t p) fun e=>
 ob (jD e) fun f=>
 ob (loop (fun (s:(List Edge × Int))=>dR p f s.1 s.2) (b.E,0)) fun r=>lP b r) else (lO b b.E)
def pJ (a:(List (List Int))):Option (List Int):=
 ob (ix a (wr ((a.length:Int) - 1))) fun b=>
 some b
def aGA (n:Int):Option (List Int):=
 ob (mkz n (0:Int)) fun b=>
 some b
def cZ (a:(List Int)) (b:Int):Option Bool:=
 ob (dW a b) fun c=>
 some (decide (0<=c))
def lQ (a:(List Int)):Option (List Int):=
 some a
def fD (a:Int):Option (Int ⊕ (Unit ⊕ (List Int))):=
 some (.inl (wr (a+1)))
def fE (a:List Int) (b:Int):Option (Int ⊕ (Unit ⊕ (List Int))):=
 ob (sT a b (a.length:Int)) fun c=>
 ob (ovw a b (List.replicate c.length (0:Int))) fun d=>
 ob (sT d 0 b) fun e=>
 some (.inr (.inr e))
def dS (a:Int) (b:List Int) (c:Int):Option ((List Int × Int × Int) ⊕ (List Int × Int)):=
 some (.inl (b,c,wr (a+1)))
def dT (e:Int) (d b:List Int) (c a:Int):Option ((List Int × Int × Int) ⊕ (List Int × Int)):=
 if (decide (a < (d.length:Int))) then (ob (ix d a) fun i=>
 ob (ix b (e+a)) fun f=>
 ob (ix d (wr (a - 1))) fun j=>
 ob (ix b (e+(wr (a - 1)))) fun g=>
 if (f != g) then (ob (ix b c) fun k=>
 ob (st b c (f:Int)) fun h=>
 dS a h (wr (c+1))) else (dS a b c)) else (some (.inr (b,c)))
def dU (b:(List Int)) (a:Int):Option (Int ⊕ (Unit ⊕ (List Int))):=
 if (decide (a < (b.length:Int))) then (ob (ix b a) fun d=>
 ob (ix b (wr (a - 1))) fun e=>
 if (d == e) then (ob (sT b a (b.length:Int)) fun f=>
 ob (loop (fun (s:(List Int × Int × Int))=>dT a f s.1 s.2.1 s.2.2) (b,a,1)) fun r=>fE r.1 r.2) else (fD a)) else (some (.inr (.inl ())))
def dG (a:(List Int)):Option (List Int):=
 if (decide ((a.length:Int) < 2)) then (some a) else (ob (loop (fun (s:Int)=>dU a s) 1) fun r=>match r with|.inl r=>lQ a|.inr r=>some r)
def tY (a:List Int):Option (List Int):=
 ob (wZ a) fun b=>
 ob (dG b) fun c=>
 some c
def pK (a:Int) (b:List Int):Option ((List Int × Int) ⊕ (List Int)):=
 some (.inl (b,wr (a+1)))
def tZ (a:List Int) (b:Int) (c:Edge) (d:Bool):Option ((List Int × Int) ⊕ (List Int)):=
 if d then (ob (vE a ([c.To]:List Int)) fun e=>
 pK b e) else (pK b a)
def pL (t:aW) (e:(List Int)) (f:aV) (d:List Int) (a:Int):Option ((List Int × Int) ⊕ (List Int)):=
 if (decide (a < (t.E.length:Int))) then (ob (ix t.E a) fun b=>
 ob (ix t.L b.B) fun g=>
 if (g == f) then (ob (cZ e b.F) fun h=>
 tZ d a b h) else (tZ d a b false)) else (some (.inr d))
def wH (t:aW) (b:(List Int)) (c:aV):Option (List Int):=
 ob (loop (fun (s:(List Int × Int))=>pL t b c s.1 s.2) ([],0)) fun r=>tY r
def qQ (a:List Int):Option (List Int):=
 ob (wZ a) fun b=>
 some b
def qR (a:Int) (b:List Int):Option ((List Int × Int) ⊕ (List Int)):=
 some (.inl (b,wr (a+1)))
def wI (a:Int) (b:List Int):Option ((List Int × Int) ⊕ (List Int)):=
 qR a b
def mU (a:Int) (b:List Int):Option ((List Int × Int) ⊕ (List Int)):=
 some (.inl (b,wr (a+1)))
def kG (c:(List Int)) (a:List Int) (b:Int):Option ((List Int × Int) ⊕ (List Int)):=
 if (decide (b < (c.length:Int))) then (ob (ix c b) fun d=>
 ob (cZ a d) fun e=>
 if (!e) then (ob (vE a ([d]:List Int)) fun f=>
 mU b f) else (mU b a)) else (some (.inr a))
def mV (t:aW) (a:List Int) (b:Int):Option ((List Int × Int) ⊕ (List Int)):=
 if (decide (b < (a.length:Int))) then (ob (ix a b) fun d=>
 ob (wH t ([d]:List Int) ([116,97,117]:aV)) fun e=>
 ob (loop (fun (s:(List Int × Int))=>kG e s.1 s.2) (a,0)) fun r=>wI b r) else (some (.inr a))
def lR (t:aW) (b:(List Int)):Option (List Int):=
 ob (dX b) fun c=>
 ob (loop (fun (s:(List Int × Int))=>mV t s.1 s.2) (c,0)) fun r=>qQ r
def wW (a:List (List Int)):Option (List (List Int)):=
 some a
def gV (t:aW) (c:List (List Int)) (a:Int):Option ((List (List Int) × Int) ⊕ (List (List Int))):=
 if (decide (a < t.N)) then (ob (lR t ([a]:List Int)) fun d=>
 ob (vE c ([d]:List (List Int))) fun e=>
 some (.inl (e,wr (a+1)))) else (some (.inr c))
def lS (t:aW):Option (List (List Int)):=
 ob (loop (fun (s:(List (List Int) × Int))=>gV t s.1 s.2) ([],0)) fun r=>wW r
def aLs (a:Bool):Option Int:=
 if a then (some 1) else (some 0)
def aHF (a:List Int):Option (List Int):=
 some a
def yP (b:List Int) (a:Int) (c:(List (Int × Int))) (d:Int):Option (((List (Int × Int)) × List Int × Int) ⊕ (List Int)):=
 ob (ix b a) fun f=>
 ob (st b a (d:Int)) fun e=>
 some (.inl (c,e,wr (a+1)))
def oP (e:(List Int)) (a:(List (Int × Int))) (c:List Int) (b:Int):Option (((List (Int × Int)) × List Int × Int) ⊕ (List Int)):=
 if (decide (b < (e.length:Int))) then (ob (ix e b) fun d=>
 if (!((zF a d).isSome)) then (ob (some (aBN a d (a.length:Int))) fun f=>
 yP c b f (a.length:Int)) else (yP c b a ((zF a d).getD 0))) else (some (.inr c))
def aEC (a:(List Int)):Option (List Int):=
 ob (mkz (a.length:Int) (0:Int)) fun b=>
 ob (loop (fun (s:((List (Int × Int)) × List Int × Int))=>oP a s.1 s.2.1 s.2.2) (([]:(List (Int × Int))),b,0)) fun r=>aHF r
def mW:Option Bool:=
 some true
def fT (b c:(List Int)) (a:Int):Option (Int ⊕ (Unit ⊕ Bool)):=
 if (decide (a < (b.length:Int))) then (ob (ix b a) fun d=>
 ob (ix c a) fun e=>
 if (d != e) then (some (.inr (.inr false))) else (some (.inl (wr (a+1))))) else (some (.inr (.inl ())))
def cV (b c:(List Int)):Option Bool:=
 if ((b.length:Int) != (c.length:Int)) then (some false) else (ob (loop (fun (s:Int)=>fT b c s) 0) fun r=>match r with|.inl r=>mW|.inr r=>some r)
def zU (k p:(List Int)):Option Bool:=
 ob (cV k p) fun c=>
 some c
def jK:Option Int:=
 some (-1)
def bV (b:(List (List Int))) (c:(List Int)) (a:Int):Option (Int ⊕ (Unit ⊕ Int)):=
 if (decide (a < (b.length:Int))) then (ob (ix b a) fun d=>
 ob (zU d c) fun e=>
 if e then (some (.inr (.inr a))) else (some (.inl (wr (a+1))))) else (some (.inr (.inl ())))
def dA (b:(List (List Int))) (c:(List Int)):Option Int:=
 ob (loop (fun (s:Int)=>bV b c s) 0) fun r=>match r with|.inl r=>jK|.inr r=>some r
def zV (a:List Int):Option (List Int):=
 ob (aEC a) fun b=>
 some b
def uA (a:List Int) (b c:Int):Option ((List Int × Int) ⊕ (List Int)):=
 ob (vE a ([c]:List Int)) fun d=>
 some (.inl (d,wr (b+1)))
def jE (b:(List (List Int))) (c:List Int) (a:Int):Option ((List Int × Int) ⊕ (List Int)):=
 if (decide (a < (b.length:Int))) then (ob (ix b a) fun e=>
 ob (sT b 0 a) fun f=>
 ob (dA f e) fun d=>
 if (decide (d < 0)) then (uA c a a) else (uA c a d)) else (some (.inr c))
def wJ (a:(List (List Int))):Option (List Int):=
 ob (loop (fun (s:(List Int × Int))=>jE a s.1 s.2) ([],0)) fun r=>zV r
def gY (a:List (List Int)):Option (List Int):=
 ob (wJ a) fun b=>
 some b
def jW (a:Int) (b:List (List Int)):Option ((List (List Int) × Int) ⊕ (List (List Int))):=
 some (.inl (b,wr (a+1)))
def fP (a:List (List Int)) (b:Int) (c:(List Int)) (d:List Int):Option ((List (List Int) × Int) ⊕ (List (List Int))):=
 ob (dG c) fun e=>
 ob (vE d e) fun f=>
 ob (vE a ([f]:List (List Int))) fun g=>
 jW b g
def gZ (p:(List Int)) (f:Bool) (g:(List Bool)) (b:List (List Int)) (a:Int) (h:List Int):Option ((List (List Int) × Int) ⊕ (List (List Int))):=
 ob (wZ h) fun c=>
 ob (ix p a) fun d=>
 if f then (ob (ix g a) fun i=>
 ob (aLs i) fun j=>
 fP b a c ([d,j]:List Int)) else (ob (aLs false) fun k=>
 fP b a c ([d,k]:List Int))
def hY (a:Int) (b:List Int):Option ((List Int × Int) ⊕ (List Int)):=
 some (.inl (b,wr (a+1)))
def eH (t:aW) (p:(List Int)) (a:List Int) (b:Int) (c:Edge) (f:Bool):Option ((List Int × Int) ⊕ (List Int)):=
 if f then (ob (ix p c.To) fun g=>
 ob (vE a ([wr ((wr (c.B * t.N))+g)]:List Int)) fun h=>
 hY b h) else (hY b a)
def eI (t:aW) (p f:(List Int)) (e:List Int) (d:Int):Option ((List Int × Int) ⊕ (List Int)):=
 if (decide (d < (t.E.length:Int))) then (ob (ix t.E d) fun a=>
 ob (cZ f a.F) fun g=>
 if g then (if (a.B != 0) then (eH t p e d a true) else (ob (ix p a.F) fun h=>
 ob (ix p a.To) fun i=>
 eH t p e d a (h != i))) else (eH t p e d a false)) else (some (.inr e))
def eJ (t:aW) (p:(List Int)) (f:Bool) (g:(List Bool)) (c:(List (List Int))) (d:List (List Int)) (a:Int):Option ((List (List Int) × Int) ⊕ (List (List Int))):=
 if (decide (a < (c.length:Int))) then (ob (ix c a) fun h=>
 ob (loop (fun (s:(List Int × Int))=>eI t p h s.1 s.2) ([],0)) fun r=>gZ p f g d a r) else (some (.inr d))
def jL (t:aW) (p:(List Int)) (d:Bool):Option (List Int):=
 ob (mG t p) fun c=>
 ob (jD c) fun e=>
 ob (lS c) fun f=>
 ob (loop (fun (s:(List (List Int) × Int))=>eJ t p d e f s.1 s.2) ([],0)) fun r=>gY r
def pA (p:(List Int)) (b:aW) (c:Bool):Option (List Int):=
 ob (jL b p c) fun d=>
 some d
def aCg (d:aW) (e:Bool) (a:List (List Int)):Option ((List (List Int)) ⊕ (List (List Int))):=
 ob (ix a (wr ((a.length:Int) - 1))) fun b=>
 ob (pA b d e) fun c=>
 ob (cV b c) fun f=>
 if f then (some (.inr a)) else (ob (vE a ([c]:List (List Int))) fun g=>
 some (.inl g))
def aGB (n:Int) (b:aW) (c:Bool):Option (List (List Int)):=
 ob (aGA n) fun d=>
 ob (loop (fun (s:List (List Int))=>aCg b c s) ([d]:List (List Int))) fun r=>some r
def mH (t:aW) (b:Bool):Option (List Int):=
 ob (aGB t.N t b) fun c=>
 ob (pJ c) fun d=>
 some d
def jH (a:Bool) (b c:Int) (d:List aV) (e:List Edge):Option aW:=
 ob (mH ⟨b,c,d,e⟩ a) fun f=>
 ob (eV ⟨b,c,d,e⟩ f a) fun g=>
 some g
def iW (t:aW) (c:Bool):Option aW:=
 ob (pI t) fun d=>
 ob (aBm t d) fun a=>
 jH c a.N a.I a.L a.E
def qD (t:aW) (b:Int):Option aW:=
 if (b == 0) then (ob (yO t) fun c=>
 some c) else (ob (iW t (b == 2)) fun d=>
 some d)
def lT (t:aW) (p:Int):Option aW:=
 ob (qD t p) fun c=>
 some c
def qH (n:bB) (b:List aW):Option bB:=
 ob (wE n b) fun c=>
 some c
def eO (n:bB) (d:Int) (c:List aW) (a:Int):Option ((List aW × Int) ⊕ (List aW)):=
 if (decide (a < (n.Parts.length:Int))) then (ob (ix n.Parts a) fun e=>
 ob (lT e d) fun f=>
 ob (vE c ([f]:List aW)) fun g=>
 some (.inl (g,wr (a+1)))) else (some (.inr c))
def pB (n:bB) (b:Int):Option bB:=
 ob (loop (fun (s:(List aW × Int))=>eO n b s.1 s.2) ([],0)) fun r=>qH n r
def iL (n:bB) (b:Int):Option bB:=
 ob (pB n b) fun c=>
 some c
def mI (n:bB) (b:Int):Option (bB × Int):=
 ob (rH n) fun c=>
 if (!c) then (some (⟨[],[],[],[]⟩,1)) else (ob (xV b) fun d=>
 if (!d) then (some (⟨[],[],[],[]⟩,2)) else (ob (iL n b) fun e=>
 some (e,0)))
def aED:Option Bool:=
 some true
def wK (a b:(List aV)) (c:Int):Option (Int ⊕ (Unit ⊕ Bool)):=
 if (decide (c < (a.length:Int))) then (ob (ix a c) fun f=>
 ob (ix b c) fun g=>
 if (!(f == g)) then (some (.inr (.inr false))) else (some (.inl (wr (c+1))))) else (some (.inr (.inl ())))
def rJ (a b:(List aV)):Option Bool:=
 if ((a.length:Int) != (b.length:Int)) then (some false) else (ob (loop (fun (s:Int)=>wK a b s) 0) fun r=>match r with|.inl r=>aED|.inr r=>some r)
def aGC (a b:Edge):Option Bool:=
 if (a.F != b.F) then (some false) else (if (a.B != b.B) then (some false) else (if (a.To != b.To) then (some false) else (some true)))
def aGD:Option Bool:=
 some true
def aAy (a b:(List Edge)) (c:Int):Option (Int ⊕ (Unit ⊕ Bool)):=
 if (decide (c < (a.length:Int))) then (ob (ix a c) fun f=>
 ob (ix b c) fun g=>
 ob (aGC f g) fun h=>
 if (!h) then (some (.inr (.inr false))) else (some (.inl (wr (c+1))))) else (some (.inr (.inl ())))
def aCQ (a b:(List Edge)):Option Bool:=
 if ((a.length:Int) != (b.length:Int)) then (some false) else (ob (loop (fun (s:Int)=>aAy a b s) 0) fun r=>match r with|.inl r=>aGD|.inr r=>some r)
def aIw (a b:aW):Option Bool:=
 if (a.N != b.N) then (some false) else (if (a.I != b.I) then (some false) else (ob (rJ a.L b.L) fun e=>
 if (!e) then (some false) else (ob (aCQ a.E b.E) fun f=>
 if (!f) then (some false) else (some true))))
def aHG:Option Bool:=
 some true
def aCh (a b:(List aW)) (c:Int):Option (Int ⊕ (Unit ⊕ Bool)):=
 if (decide (c < (a.length:Int))) then (ob (ix a c) fun f=>
 ob (ix b c) fun g=>
 ob (aIw f g) fun h=>
 if (!h) then (some (.inr (.inr false))) else (some (.inl (wr (c+1))))) else (some (.inr (.inl ())))
def aEE (a b:(List aW)):Option Bool:=
 if ((a.length:Int) != (b.length:Int)) then (some false) else (ob (loop (fun (s:Int)=>aCh a b s) 0) fun r=>match r with|.inl r=>aHG|.inr r=>some r)
def aCi (a b:aT):Option Bool:=
 if (!(a.Left == b.Left)) then (some false) else (if (!(a.Right == b.Right)) then (some false) else (if (!(a.Result == b.Result)) then (some false) else (some true)))
def aDQ:Option Bool:=
 some true
def uB (a b:(List aT)) (c:Int):Option (Int ⊕ (Unit ⊕ Bool)):=
 if (decide (c < (a.length:Int))) then (ob (ix a c) fun f=>
 ob (ix b c) fun g=>
 ob (aCi f g) fun h=>
 if (!h) then (some (.inr (.inr false))) else (some (.inl (wr (c+1))))) else (some (.inr (.inl ())))
def wM (a b:(List aT)):Option Bool:=
 if ((a.length:Int) != (b.length:Int)) then (some false) else (ob (loop (fun (s:Int)=>uB a b s) 0) fun r=>match r with|.inl r=>aDQ|.inr r=>some r)
def rK (a b:bB):Option Bool:=
 ob (aEE a.Parts b.Parts) fun e=>
 if (!e) then (some false) else (ob (wM a.Meetings b.Meetings) fun f=>
 if (!f) then (some false) else (ob (rJ a.Allowed b.Allowed) fun g=>
 if (!g) then (some false) else (ob (rJ a.Hidden b.Hidden) fun h=>
 if (!h) then (some false) else (some true))))
def aCz (a:aV):Option aV:=
 ob (cat ([109]:aV) a) fun b=>
 some b
def xY (a:Int) (b:aV):Option ((Int × aV) ⊕ aV):=
 if (decide (0 < a)) then (ob (rm a 10) fun c=>
 ob (cat ([(UInt8.ofInt (wr (48+c)))]:List UInt8) b) fun d=>
 ob (qu a 10) fun e=>
 some (.inl (e,d))) else (some (.inr b))
def iX (k:Int):Option aV:=
 if (decide (k<=0)) then (some ([109,48]:aV)) else (ob (loop (fun (s:(Int × aV))=>xY s.1 s.2) (k,([]:aV))) fun r=>aCz r)
def xI (a:Int) (b:List aV):Option (Int × (List aV)):=
 some (a,b)
def sM (a:List aV) (c b:Int):Option ((List aV × Int × Int) ⊕ (Int × List aV)):=
 if (decide (b < (a.length:Int))) then (ob (iX c) fun d=>
 ob (ix a b) fun f=>
 ob (st a b (d:aV)) fun e=>
 some (.inl (e,wr (c+1),wr (b+1)))) else (some (.inr (c,a)))
def nI (a:(List aV)) (k:Int):Option (Int × (List aV)):=
 ob (loop (fun (s:(List aV × Int × Int))=>sM s.1 s.2.1 s.2.2) (a,k,0)) fun r=>xI r.1 r.2
def aBr (a:Int) (b:List Edge):Option (Int × (List Edge)):=
 some (a,b)
def wN (c:List Edge) (b a:Int):Option ((List Edge × Int × Int) ⊕ (Int × List Edge)):=
 if (decide (a < (c.length:Int))) then (ob (ix c a) fun d=>
 ob (st c a (⟨b,d.B,d.To⟩:Edge)) fun e=>
 ob (ix e a) fun f=>
 ob (st e a (⟨f.F,wr (b+1),f.To⟩:Edge)) fun g=>
 ob (ix g a) fun h=>
 ob (st g a (⟨h.F,h.B,wr ((wr (b+1))+1)⟩:Edge)) fun i=>
 some (.inl (i,wr ((wr ((wr (b+1))+1))+1),wr (a+1)))) else (some (.inr (b,c)))
def yQ (a:(List Edge)) (k:Int):Option (Int × (List Edge)):=
 ob (loop (fun (s:(List Edge × Int × Int))=>wN s.1 s.2.1 s.2.2) (a,k,0)) fun r=>aBr r.1 r.2
def aFA (a:Int) (b:List aW):Option (Int × (List aW)):=
 some (a,b)
def tN (b:List aW) (c a:Int):Option ((List aW × Int × Int) ⊕ (Int × List aW)):=
 if (decide (a < (b.length:Int))) then (ob (ix b a) fun f=>
 ob (st b a (⟨c,f.I,f.L,f.E⟩:aW)) fun h=>
 ob (ix h a) fun g=>
 ob (st h a (⟨g.N,wr (c+1),g.L,g.E⟩:aW)) fun i=>
 ob (ix i a) fun d=>
 ob (nI d.L (wr ((wr (c+1))+1))) fun j=>
 ob (st i a (⟨d.N,d.I,j.2,d.E⟩:aW)) fun k=>
 ob (ix k a) fun e=>
 ob (yQ e.E j.1) fun l=>
 ob (st k a (⟨e.N,e.I,e.L,l.2⟩:aW)) fun m=>
 some (.inl (m,l.1,wr (a+1)))) else (some (.inr (c,b)))
def aBs (a:(List aW)) (k:Int):Option (Int × (List aW)):=
 ob (loop (fun (s:(List aW × Int × Int))=>tN s.1 s.2.1 s.2.2) (a,k,0)) fun r=>aFA r.1 r.2
def wO (a:Int) (b:List aT):Option (Int × (List aT)):=
 some (a,b)
def qS (c:List aT) (b a:Int):Option ((List aT × Int × Int) ⊕ (Int × List aT)):=
 if (decide (a < (c.length:Int))) then (ob (iX b) fun i=>
 ob (ix c a) fun d=>
 ob (st c a (⟨i,d.Right,d.Result⟩:aT)) fun e=>
 ob (iX (wr (b+1))) fun j=>
 ob (ix e a) fun f=>
 ob (st e a (⟨f.Left,j,f.Result⟩:aT)) fun g=>
 ob (iX (wr ((wr (b+1))+1))) fun k=>
 ob (ix g a) fun h=>
 ob (st g a (⟨h.Left,h.Right,k⟩:aT)) fun l=>
 some (.inl (l,wr ((wr ((wr (b+1))+1))+1),wr (a+1)))) else (some (.inr (b,c)))
def rL (a:(List aT)) (k:Int):Option (Int × (List aT)):=
 ob (loop (fun (s:(List aT × Int × Int))=>qS s.1 s.2.1 s.2.2) (a,k,0)) fun r=>wO r.1 r.2
def qE (e:(List aW)) (f:(List aT)) (g h:(List aV)) (k:Int):Option (Int × (List aW) × (List aT) × (List aV) × (List aV)):=
 ob (aBs e k) fun a=>
 ob (rL f a.1) fun b=>
 ob (nI g b.1) fun c=>
 ob (nI h c.1) fun d=>
 some (d.1,a.2,b.2,c.2,d.2)
def aCR (a:Int):Option Int:=
 some a
def sO (a:(List aV)) (b c:Int):Option ((Int × Int) ⊕ (Int ⊕ Int)):=
 if (decide (c < (a.length:Int))) then (ob (ix a c) fun e=>
 ob (iX b) fun f=>
 if (!(e == f)) then (some (.inr (.inr (-1)))) else (some (.inl (wr (b+1),wr (c+1))))) else (some (.inr (.inl b)))
def nJ (a:(List aV)) (k:Int):Option Int:=
 ob (loop (fun (s:(Int × Int))=>sO a s.1 s.2) (k,0)) fun r=>match r with|.inl r=>aCR r|.inr r=>some r
def aEF (a:Int):Option Int:=
 some a
def wP (a:(List Edge)) (b c:Int):Option ((Int × Int) ⊕ (Int ⊕ Int)):=
 if (decide (c < (a.length:Int))) then (ob (ix a c) fun d=>
 if (d.F != b) then (some (.inr (.inr (-1)))) else (if (d.B != (wr (b+1))) then (some (.inr (.inr (-1)))) else (if (d.To != (wr ((wr (b+1))+1))) then (some (.inr (.inr (-1)))) else (some (.inl (wr ((wr ((wr (b+1))+1))+1),wr (c+1))))))) else (some (.inr (.inl b)))
def yR (a:(List Edge)) (k:Int):Option Int:=
 ob (loop (fun (s:(Int × Int))=>wP a s.1 s.2) (k,0)) fun r=>match r with|.inl r=>aEF r|.inr r=>some r
def aFB (a:Int):Option Int:=
 some a
def xZ (a:(List aW)) (b d:Int):Option ((Int × Int) ⊕ (Int ⊕ Int)):=
 if (decide (d < (a.length:Int))) then (ob (ix a d) fun c=>
 if (c.N != b) then (some (.inr (.inr (-1)))) else (if (c.I != (wr (b+1))) then (some (.inr (.inr (-1)))) else (ob (nJ c.L (wr ((wr (b+1))+1))) fun f=>
 if (decide (f < 0)) then (some (.inr (.inr (-1)))) else (ob (yR c.E f) fun g=>
 if (decide (g < 0)) then (some (.inr (.inr (-1)))) else (some (.inl (g,wr (d+1)))))))) else (some (.inr (.inl b)))
def aBt (a:(List aW)) (k:Int):Option Int:=
 ob (loop (fun (s:(Int × Int))=>xZ a s.1 s.2) (k,0)) fun r=>match r with|.inl r=>aFB r|.inr r=>some r
def aCj (a:Int):Option Int:=
 some a
def qT (a:(List aT)) (b c:Int):Option ((Int × Int) ⊕ (Int ⊕ Int)):=
 if (decide (c < (a.length:Int))) then (ob (ix a c) fun d=>
 ob (iX b) fun f=>
 if (!(d.Left == f)) then (some (.inr (.inr (-1)))) else (ob (iX (wr (b+1))) fun g=>
 if (!(d.Right == g)) then (some (.inr (.inr (-1)))) else (ob (iX (wr ((wr (b+1))+1))) fun h=>
 if (!(d.Result == h)) then (some (.inr (.inr (-1)))) else (some (.inl (wr ((wr ((wr (b+1))+1))+1),wr (c+1))))))) else (some (.inr (.inl b)))
def rM (a:(List aT)) (k:Int):Option Int:=
 ob (loop (fun (s:(Int × Int))=>qT a s.1 s.2) (k,0)) fun r=>match r with|.inl r=>aCj r|.inr r=>some r
def tO (a:bB) (k:Int):Option Int:=
 ob (aBt a.Parts k) fun c=>
 if (decide (c < 0)) then (some (-1)) else (ob (rM a.Meetings c) fun d=>
 if (decide (d < 0)) then (some (-1)) else (ob (nJ a.Allowed d) fun e=>
 if (decide (e < 0)) then (some (-1)) else (ob (nJ a.Hidden e) fun f=>
 if (decide (f < 0)) then (some (-1)) else (some f))))
def gM (a:(Int × (List aW) × (List aT) × (List aV) × (List aV))) (c:Bool):Option Bool:=
 if c then (some false) else (ob (tO ⟨a.2.1,a.2.2.1,a.2.2.2.1,a.2.2.2.2⟩ 1) fun b=>
 if (decide (b < 0)) then (some false) else (if (b != a.1) then (some false) else (some true)))
def fA (f:bB) (g:Int) (c b:(bB × Int)) (h:Bool):Option Bool:=
 if h then (some false) else (ob (qE b.1.Parts b.1.Meetings b.1.Allowed b.1.Hidden 1) fun a=>
 ob (tO ⟨a.2.1,a.2.2.1,a.2.2.2.1,a.2.2.2.2⟩ 1) fun d=>
 if (decide (d < 0)) then (some false) else (if (d != a.1) then (some false) else (ob (oO f) fun i=>
 ob (mI i g) fun e=>
 ob (rK e.1 c.1) fun j=>
 if (!j) then (gM a true) else (gM a (e.2 != c.2)))))
def gN (d:bB) (e:Int) (a:(bB × Int)) (b:bB) (c:(bB × Int)) (f:Bool):Option Bool:=
 if f then (some false) else (ob (oO d) fun g=>
 ob (rK b g) fun h=>
 if (!h) then (some false) else (ob (qE b.Parts b.Meetings b.Allowed b.Hidden 1) fun i=>
 if (decide (i.1 < 0)) then (fA d e a c true) else (ob (rK c.1 a.1) fun j=>
 if (!j) then (fA d e a c true) else (fA d e a c (c.2 != a.2)))))
def kU (a:bB) (b:Int):Option Bool:=
 ob (aCa a 1048576) fun g=>
 if (decide (g < 0)) then (some true) else (ob (oO a) fun c=>
 ob (pG ⟨c.Parts,c.Meetings,c.Allowed,c.Hidden⟩ b) fun d=>
 ob (oO a) fun f=>
 ob (mI f b) fun e=>
 ob (rK e.1 d.1) fun h=>
 if (!h) then (gN a b d f e true) else (gN a b d f e (e.2 != d.2)))
end
end Gv
