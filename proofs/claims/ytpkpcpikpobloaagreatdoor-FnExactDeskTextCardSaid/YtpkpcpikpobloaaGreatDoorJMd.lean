/- Models of the functions, printed by program off their code. Plain Lean. -/
import Derived.Test.YtpkpcpikpobloaaGreatDoorJLM
set_option linter.all false
namespace Gv
noncomputable section
def aEg (a:List Int):Option ((List Int) × Bool):=
 some (a,true)
def rT (b:(List aK)) (c:List Int) (a:Int):Option ((List Int × Int) ⊕ (List Int ⊕ ((List Int) × Bool))):=
 if (decide (a < (b.length:Int))) then (ob (ix b a) fun e=>
 ob (sW e) fun d=>
 if (!d.2) then (some (.inr (.inr ([],false)))) else (ob (oN c ([d.1]:List Int)) fun f=>
 some (.inl (f,wr (a+1))))) else (some (.inr (.inl c)))
def sX (b:(List aK)):Option ((List Int) × Bool):=
 ob (loop (fun (s:(List Int × Int))=>rT b s.1 s.2) ([],0)) fun r=>match r with|.inl r=>aEg r|.inr r=>some r
def aGy (a:aK) (b:List aK):Option aK:=
 ob (yJ b a) fun c=>
 some c
def aAx (c:(List Int)) (b:List aK) (a:Int):Option ((List aK × Int) ⊕ (List aK)):=
 if (decide (a < (c.length:Int))) then (ob (ix c a) fun d=>
 ob (gN d) fun e=>
 ob (ix b a) fun g=>
 ob (st b a (e:aK)) fun f=>
 some (.inl (f,wr (a+1)))) else (some (.inr b))
def aAy (a:(List Int)) (b:aK):Option aK:=
 ob (mkz (a.length:Int) ([]:aK)) fun c=>
 ob (loop (fun (s:(List aK × Int))=>aAx a s.1 s.2) (c,0)) fun r=>aGy b r
def aEZ (a:Bool):Option Bool:=
 some a
def aHq (c:UInt8):Option Bool:=
 if (decide (48<=(c.toNat:Int))) then (aEZ (decide ((c.toNat:Int)<=57))) else (aEZ false)
def aGz (a:Bool):Option Bool:=
 some a
def aDi (a:aK):Option Bool:=
 if (decide (1<=(a.length:Int))) then (aGz (decide ((a.length:Int)<=10))) else (aGz false)
def aAz (a:Int) (b:Bool):Option (Int ⊕ (Unit ⊕ Bool)):=
 if b then (some (.inr (.inr false))) else (some (.inl (wr (a+1))))
def nN (b:aK) (a:Int) (c:Bool):Option (Int ⊕ (Unit ⊕ Bool)):=
 if (!c) then (if (a == 0) then (aAz a true) else (ob (ix b a) fun d=>
 ob (aHq d) fun e=>
 aAz a (!e))) else (aAz a false)
def vH (a:aK) (b:Int):Option (Int ⊕ (Unit ⊕ Bool)):=
 if (decide (b < (a.length:Int))) then (ob (ix a b) fun c45=>
 if (decide (97<=(c45.toNat:Int))) then (nN a b (decide ((c45.toNat:Int)<=122))) else (nN a b false)) else (some (.inr (.inl ())))
def aCg (b:aK):Option Bool:=
 ob (loop (fun (s:Int)=>vH b s) 0) fun r=>match r with|.inl r=>aDi b|.inr r=>some r
def zZ (a:Bool):Option Bool:=
 some a
def lC (a:aK):Option Bool:=
 ob (aCg a) fun b=>
 if b then (zZ (!(a == ([116,97,117]:aK)))) else (zZ false)
def aGA (a:Bool):Option Bool:=
 some a
def fU (n low b:Int):Option Bool:=
 if (decide (low<=n)) then (aGA (decide (n<=b))) else (aGA false)
def aBO (n:Int):Option Bool:=
 ob (fU n 0 63) fun b=>
 some b
def aCh (n:Int):Option Bool:=
 ob (aBO n) fun b=>
 some (!b)
def kG:Option Int:=
 some (-1)
def eH (b:(List Int)) (a:Int):Option (Int ⊕ (Unit ⊕ Int)):=
 if (decide (a < (b.length:Int))) then (ob (ix b a) fun c=>
 ob (aCh c) fun d=>
 if d then (some (.inr (.inr a))) else (some (.inl (wr (a+1))))) else (some (.inr (.inl ())))
def fO (b:(List Int)):Option Int:=
 ob (loop (fun (s:Int)=>eH b s) 0) fun r=>match r with|.inl r=>kG|.inr r=>some r
def gK (a:(List Int)):Option Bool:=
 ob (fO a) fun b=>
 some (decide (0<=b))
def aAA (a:(List Int)):Option Bool:=
 ob (gK a) fun b=>
 some (!b)
def wA (a:aK) (b:(List Int)) (c:Bool):Option (aK × Bool):=
 if c then (some (([]:aK),false)) else (if ((b.length:Int) == 0) then (some (a,true)) else (ob (eJ a ([40]:aK)) fun d=>
 ob (aAy b ([44]:aK)) fun e=>
 ob (eJ d e) fun f=>
 ob (eJ f ([41]:aK)) fun g=>
 some (g,true)))
def aEh (b:aK) (a:(List Int)):Option (aK × Bool):=
 if (b == ([116,97,117]:aK)) then (some (([116,97,117]:aK),(a.length:Int) == 0)) else (ob (lC b) fun c=>
 if (!c) then (wA b a true) else (if (decide (2 < (a.length:Int))) then (wA b a true) else (ob (aAA a) fun d=>
 wA b a (!d))))
def eL (a:Bool):Option Bool:=
 some a
def eB (a b:aK):Option Bool:=
 if (decide ((b.length:Int)<=(a.length:Int))) then (ob (slc a (wr ((a.length:Int) - (b.length:Int))) (a.length:Int)) fun c=>
 eL (c == b)) else (eL false)
def hZ (a b:aK):Option aK:=
 ob (eB a b) fun c=>
 if c then (ob (slc a 0 (wr ((a.length:Int) - (b.length:Int)))) fun d=>
 some d) else (some a)
def lV (a b:aK):Option aK:=
 ob (hZ a b) fun c=>
 some c
def qP (a:(aK × aK × Bool)) (b:List Int) (c:Bool):Option (aK × (List Int) × Bool):=
 if c then (some (([]:aK),[],false)) else (some (a.1,b,true))
def mV (d:aK) (a:(aK × aK × Bool)) (b:List Int):Option (aK × (List Int) × Bool):=
 ob (aEh a.1 b) fun c=>
 if (!c.2) then (qP a b true) else (qP a b (!(c.1 == d)))
def aDj (b:aK):Option (aK × (List Int) × Bool):=
 ob (l_Cut b ([40]:aK)) fun a=>
 if a.2.2 then (ob (lV a.2.1 ([41]:aK)) fun d=>
 ob (aJH d ([44]:aK)) fun e=>
 ob (sX e) fun c=>
 if (!c.2) then (some (([]:aK),[],false)) else (mV b a c.1)) else (mV b a [])
def aEi (a:aK):Option Bool:=
 ob (aDj a) fun b=>
 some b.2.2
def aGB (a:Int):Option Int:=
 some a
def mW (a:(List aK)) (b c:Int):Option ((Int × Int) ⊕ (Int ⊕ Int)):=
 if (decide (c < (a.length:Int))) then (ob (ix a c) fun e=>
 if (decide (wr (b - (e.length:Int)) < 0)) then (some (.inr (.inr (-1)))) else (some (.inl (wr (b - (e.length:Int)),wr (c+1))))) else (some (.inr (.inl b)))
def nO (a:(List aK)) (d:Int):Option Int:=
 if (decide (wr (d - (a.length:Int)) < 0)) then (some (-1)) else (ob (loop (fun (s:(Int × Int))=>mW a s.1 s.2) (wr (d - (a.length:Int)),0)) fun r=>match r with|.inl r=>aGB r|.inr r=>some r)
def aHr (a:(List Edge)) (c:Int):Option Int:=
 if (decide (wr (c - (a.length:Int)) < 0)) then (some (-1)) else (some (wr (c - (a.length:Int))))
def aMI (a:gM) (e:Int):Option Int:=
 ob (nO a.L e) fun c=>
 if (decide (c < 0)) then (some (-1)) else (ob (aHr a.E c) fun d=>
 if (decide (d < 0)) then (some (-1)) else (some d))
def aJP (a:bI) (c:Int):Option Int:=
 if (decide (wr (c - (a.B.length:Int)) < 0)) then (some (-1)) else (some (wr (c - (a.B.length:Int))))
def aJQ (a:Int):Option Int:=
 some a
def aBm (a:(List bI)) (d b:Int):Option ((Int × Int) ⊕ (Int ⊕ Int)):=
 if (decide (b < (a.length:Int))) then (ob (ix a b) fun f=>
 ob (aJP f d) fun e=>
 if (decide (e < 0)) then (some (.inr (.inr (-1)))) else (some (.inl (e,wr (b+1))))) else (some (.inr (.inl d)))
def aHs (a:(List bI)) (d:Int):Option Int:=
 if (decide (wr (d - (a.length:Int)) < 0)) then (some (-1)) else (ob (loop (fun (s:(Int × Int))=>aBm a s.1 s.2) (wr (d - (a.length:Int)),0)) fun r=>match r with|.inl r=>aJQ r|.inr r=>some r)
def aEj (a:(List aS)) (c:Int):Option Int:=
 if (decide (wr (c - (a.length:Int)) < 0)) then (some (-1)) else (some (wr (c - (a.length:Int))))
def aIk (a:Int):Option Int:=
 some a
def aAa (a:(List (List aS))) (d b:Int):Option ((Int × Int) ⊕ (Int ⊕ Int)):=
 if (decide (b < (a.length:Int))) then (ob (ix a b) fun f=>
 ob (aEj f d) fun e=>
 if (decide (e < 0)) then (some (.inr (.inr (-1)))) else (some (.inl (e,wr (b+1))))) else (some (.inr (.inl d)))
def aFa (a:(List (List aS))) (d:Int):Option Int:=
 if (decide (wr (d - (a.length:Int)) < 0)) then (some (-1)) else (ob (loop (fun (s:(Int × Int))=>aAa a s.1 s.2) (wr (d - (a.length:Int)),0)) fun r=>match r with|.inl r=>aIk r|.inr r=>some r)
def aGC (a:bH) (c:Int):Option Int:=
 if (decide (wr (c - (a.Name.length:Int)) < 0)) then (some (-1)) else (ob (aFa a.Arguments (wr (c - (a.Name.length:Int)))) fun d=>
 if (decide (d < 0)) then (some (-1)) else (some d))
def aJR (a:Int):Option Int:=
 some a
def aBn (a:(List bH)) (d b:Int):Option ((Int × Int) ⊕ (Int ⊕ Int)):=
 if (decide (b < (a.length:Int))) then (ob (ix a b) fun f=>
 ob (aGC f d) fun e=>
 if (decide (e < 0)) then (some (.inr (.inr (-1)))) else (some (.inl (e,wr (b+1))))) else (some (.inr (.inl d)))
def aHt (a:(List bH)) (d:Int):Option Int:=
 if (decide (wr (d - (a.length:Int)) < 0)) then (some (-1)) else (ob (loop (fun (s:(Int × Int))=>aBn a s.1 s.2) (wr (d - (a.length:Int)),0)) fun r=>match r with|.inl r=>aJR r|.inr r=>some r)
def qQ (a:Definition) (c:Int):Option Int:=
 if (decide (wr (c - (a.Name.length:Int)) < 0)) then (some (-1)) else (ob (aHt a.Body (wr (c - (a.Name.length:Int)))) fun d=>
 if (decide (d < 0)) then (some (-1)) else (some d))
def aCi (a:Int):Option Int:=
 some a
def nX (a:(List Definition)) (d b:Int):Option ((Int × Int) ⊕ (Int ⊕ Int)):=
 if (decide (b < (a.length:Int))) then (ob (ix a b) fun f=>
 ob (qQ f d) fun e=>
 if (decide (e < 0)) then (some (.inr (.inr (-1)))) else (some (.inl (e,wr (b+1))))) else (some (.inr (.inl d)))
def uG (a:(List Definition)) (d:Int):Option Int:=
 if (decide (wr (d - (a.length:Int)) < 0)) then (some (-1)) else (ob (loop (fun (s:(Int × Int))=>nX a s.1 s.2) (wr (d - (a.length:Int)),0)) fun r=>match r with|.inl r=>aCi r|.inr r=>some r)
def aIV (a:(List Int)) (c:Int):Option Int:=
 if (decide (wr (c - (a.length:Int)) < 0)) then (some (-1)) else (some (wr (c - (a.length:Int))))
def sY (a:bA) (d:Int):Option Int:=
 ob (aIV a.Values d) fun b=>
 if (decide (b < 0)) then (some (-1)) else (some b)
def aDk (a:Int):Option Int:=
 some a
def pV (a:(List bA)) (d b:Int):Option ((Int × Int) ⊕ (Int ⊕ Int)):=
 if (decide (b < (a.length:Int))) then (ob (ix a b) fun f=>
 ob (sY f d) fun e=>
 if (decide (e < 0)) then (some (.inr (.inr (-1)))) else (some (.inl (e,wr (b+1))))) else (some (.inr (.inl d)))
def wB (a:(List bA)) (d:Int):Option Int:=
 if (decide (wr (d - (a.length:Int)) < 0)) then (some (-1)) else (ob (loop (fun (s:(Int × Int))=>pV a s.1 s.2) (wr (d - (a.length:Int)),0)) fun r=>match r with|.inl r=>aDk r|.inr r=>some r)
def aAB (a:bD) (c:Int):Option Int:=
 if (decide (wr (c - (a.Left.length:Int)) < 0)) then (some (-1)) else (if (decide (wr ((wr (c - (a.Left.length:Int))) - (a.Right.length:Int)) < 0)) then (some (-1)) else (if (decide (wr ((wr ((wr (c - (a.Left.length:Int))) - (a.Right.length:Int))) - (a.Result.length:Int)) < 0)) then (some (-1)) else (some (wr ((wr ((wr (c - (a.Left.length:Int))) - (a.Right.length:Int))) - (a.Result.length:Int))))))
def aFO (a:Int):Option Int:=
 some a
def uH (a:(List bD)) (d b:Int):Option ((Int × Int) ⊕ (Int ⊕ Int)):=
 if (decide (b < (a.length:Int))) then (ob (ix a b) fun f=>
 ob (aAB f d) fun e=>
 if (decide (e < 0)) then (some (.inr (.inr (-1)))) else (some (.inl (e,wr (b+1))))) else (some (.inr (.inl d)))
def aBo (a:(List bD)) (d:Int):Option Int:=
 if (decide (wr (d - (a.length:Int)) < 0)) then (some (-1)) else (ob (loop (fun (s:(Int × Int))=>uH a s.1 s.2) (wr (d - (a.length:Int)),0)) fun r=>match r with|.inl r=>aFO r|.inr r=>some r)
def aFb (a:bM) (h:Int):Option Int:=
 ob (uG a.Definitions h) fun c=>
 if (decide (c < 0)) then (some (-1)) else (ob (wB a.Components c) fun d=>
 if (decide (d < 0)) then (some (-1)) else (ob (aBo a.Meetings d) fun e=>
 if (decide (e < 0)) then (some (-1)) else (ob (nO a.Allowed e) fun f=>
 if (decide (f < 0)) then (some (-1)) else (ob (nO a.Hidden f) fun g=>
 if (decide (g < 0)) then (some (-1)) else (some g)))))
def aGD (a:Kept) (c:Int):Option Int:=
 if (decide (wr (c - (a.Name.length:Int)) < 0)) then (some (-1)) else (ob (aMI a.S (wr (c - (a.Name.length:Int)))) fun d=>
 if (decide (d < 0)) then (some (-1)) else (ob (aHs a.Formula d) fun e=>
 if (decide (e < 0)) then (some (-1)) else (ob (aFb a.Source e) fun f=>
 if (decide (f < 0)) then (some (-1)) else (some f))))
def aJS (a:Int):Option Int:=
 some a
def wC (a:(List Kept)) (d b:Int):Option ((Int × Int) ⊕ (Int ⊕ Int)):=
 if (decide (b < (a.length:Int))) then (ob (ix a b) fun f=>
 ob (aGD f d) fun e=>
 if (decide (e < 0)) then (some (.inr (.inr (-1)))) else (some (.inl (e,wr (b+1))))) else (some (.inr (.inl d)))
def aHu (a:(List Kept)) (d:Int):Option Int:=
 if (decide (wr (d - (a.length:Int)) < 0)) then (some (-1)) else (ob (loop (fun (s:(Int × Int))=>wC a s.1 s.2) (wr (d - (a.length:Int)),0)) fun r=>match r with|.inl r=>aJS r|.inr r=>some r)
def aJT (a:pR) (d:Int):Option Int:=
 ob (aHu a.Kept d) fun b=>
 if (decide (b < 0)) then (some (-1)) else (some b)
def aDO (a:Bool):Option Bool:=
 some a
def aCj (c:UInt8):Option Bool:=
 if (decide (97<=(c.toNat:Int))) then (aDO (decide ((c.toNat:Int)<=122))) else (aDO false)
def aDP (a:Bool):Option Bool:=
 some a
def aCk (c:UInt8):Option Bool:=
 if (decide (48<=(c.toNat:Int))) then (aDP (decide ((c.toNat:Int)<=57))) else (aDP false)
def aFc:Option Bool:=
 some true
def aBp (a:Int) (b:Bool):Option (Int ⊕ (Unit ⊕ Bool)):=
 if b then (some (.inr (.inr false))) else (some (.inl (wr (a+1))))
def wD (b:aK) (a:Int):Option (Int ⊕ (Unit ⊕ Bool)):=
 if (decide (a < (b.length:Int))) then (ob (ix b a) fun c=>
 ob (aCj c) fun d=>
 if (!d) then (ob (aCk c) fun e=>
 aBp a (!e)) else (aBp a false)) else (some (.inr (.inl ())))
def nY (b:aK) (c:Bool):Option Bool:=
 if c then (some false) else (ob (loop (fun (s:Int)=>wD b s) 0) fun r=>match r with|.inl r=>aFc|.inr r=>some r)
def rU (a:aK):Option Bool:=
 if (a == ([]:aK)) then (nY a true) else (if (decide (10 < (a.length:Int))) then (nY a true) else (ob (ix a 0) fun b=>
 ob (aCj b) fun c=>
 nY a (!c)))
def aIW (a:Bool):Option Bool:=
 some a
def jG (n low b:Int):Option Bool:=
 if (decide (low<=n)) then (aIW (decide (n<=b))) else (aIW false)
def wE (a:Bool):Option Bool:=
 some a
def kV (a:aK):Option Bool:=
 ob (rU a) fun b=>
 if b then (wE (!(a == ([116,97,117]:aK)))) else (wE false)
def aJU (a:aK):Option Int:=
 some (a.length:Int)
def aBq (b:aK) (a:Int):Option (Int ⊕ (Unit ⊕ Int)):=
 if (decide (a < (b.length:Int))) then (ob (ix b a) fun c=>
 if ((c.toNat:Int) == 40) then (some (.inr (.inr a))) else (some (.inl (wr (a+1))))) else (some (.inr (.inl ())))
def aEk (b:aK):Option Int:=
 ob (loop (fun (s:Int)=>aBq b s) 0) fun r=>match r with|.inl r=>aJU b|.inr r=>some r
def aDQ (a:aK) (b:List aK) (c:Int):Option (List aK):=
 ob (slc a c (a.length:Int)) fun d=>
 ob (oN b ([d]:List aK)) fun e=>
 some e
def pA (a:Int) (b:List aK) (c:Int):Option ((List aK × Int × Int) ⊕ (List aK × Int)):=
 some (.inl (b,c,wr (a+1)))
def aAb (b:aK) (e:UInt8) (c:List aK) (d a:Int):Option ((List aK × Int × Int) ⊕ (List aK × Int)):=
 if (decide (a < (b.length:Int))) then (ob (ix b a) fun f=>
 if ((f.toNat:Int) == (e.toNat:Int)) then (ob (slc b d a) fun g=>
 ob (oN c ([g]:List aK)) fun h=>
 pA a h (wr (a+1))) else (pA a c d)) else (some (.inr (c,d)))
def aCl (a:aK) (c:UInt8):Option (List aK):=
 ob (loop (fun (s:(List aK × Int × Int))=>aAb a c s.1 s.2.1 s.2.2) (([]:List aK),0,0)) fun r=>aDQ a r.1 r.2
def aCm (a:Int):Option (Int × Bool):=
 some (a,true)
def wF (b a:Int):Option (Int × Bool):=
 if (b == 1) then (aCm (wr (0 - a))) else (aCm a)
def mX (b:aK) (c a:Int):Option ((Int × Int) ⊕ (Int ⊕ (Int × Bool))):=
 if (decide (a < (b.length:Int))) then (ob (ix b a) fun c45=>
 ob (aCk c45) fun d=>
 if (!d) then (some (.inr (.inr (0,false)))) else (some (.inl (wr ((wr (10 * c))+(wr ((c45 - (48:UInt8)).toNat:Int))),wr (a+1))))) else (some (.inr (.inl c)))
def jO (c:aK) (b:Int) (d:Bool):Option (Int × Bool):=
 if d then (some (0,false)) else (ob (loop (fun (s:(Int × Int))=>mX c s.1 s.2) (0,b)) fun r=>match r with|.inl r=>wF b r|.inr r=>some r)
def mY (a:aK) (b:Int):Option (Int × Bool):=
 if ((a.length:Int) == b) then (jO a b true) else (if (decide (18 < wr ((a.length:Int) - b))) then (jO a b true) else (ob (ix a b) fun c=>
 if ((c.toNat:Int) == 48) then (jO a b (decide (1 < (a.length:Int)))) else (jO a b false)))
def qR (a:aK) (b:Bool):Option (Int × Bool):=
 if b then (mY a 1) else (mY a 0)
def vI (a:aK):Option (Int × Bool):=
 if (decide (0 < (a.length:Int))) then (ob (ix a 0) fun b=>
 qR a ((b.toNat:Int) == 45)) else (qR a false)
def aCn (a:List Int):Option ((List Int) × Bool):=
 some (a,decide ((a.length:Int)<=2))
def wG (a:List Int) (b:Int) (c:(Int × Bool)) (d:Bool):Option ((List Int × Int) ⊕ (List Int ⊕ ((List Int) × Bool))):=
 if d then (some (.inr (.inr ([],false)))) else (ob (oN a ([c.1]:List Int)) fun e=>
 some (.inl (e,wr (b+1))))
def qS (d:(List aK)) (c:List Int) (a:Int):Option ((List Int × Int) ⊕ (List Int ⊕ ((List Int) × Bool))):=
 if (decide (a < (d.length:Int))) then (ob (ix d a) fun e=>
 ob (vI e) fun b=>
 if (!b.2) then (wG c a b true) else (ob (jG b.1 0 63) fun f=>
 wG c a b (!f))) else (some (.inr (.inl c)))
def mZ (b:aK) (c:Int) (d:Bool):Option ((List Int) × Bool):=
 if d then (some ([],false)) else (ob (slc b (wr (c+1)) (wr ((b.length:Int) - 1))) fun e=>
 ob (aCl e (44:UInt8)) fun f=>
 ob (loop (fun (s:(List Int × Int))=>qS f s.1 s.2) (([]:List Int),0)) fun r=>match r with|.inl r=>aCn r|.inr r=>some r)
def aDl (a:aK):Option ((List Int) × Bool):=
 ob (aEk a) fun b=>
 if (b == (a.length:Int)) then (ob (rU a) fun c=>
 some (([]:List Int),c)) else (ob (slc a 0 b) fun d=>
 ob (kV d) fun e=>
 if (!e) then (mZ a b true) else (ob (ix a (wr ((a.length:Int) - 1))) fun f=>
 mZ a b ((f.toNat:Int) != 41)))
def aCo (a:aK):Option Bool:=
 ob (aDl a) fun b=>
 some b.2
def aIl:Option Bool:=
 some true
def pB (a:Int) (b:Bool):Option (Int ⊕ (Unit ⊕ Bool)):=
 if b then (some (.inr (.inr false))) else (some (.inl (wr (a+1))))
def sZ (b:(List aK)) (a:Int):Option (Int ⊕ (Unit ⊕ Bool)):=
 if (decide (a < (b.length:Int))) then (ob (ix b a) fun c=>
 ob (aCo c) fun d=>
 if (!d) then (pB a true) else (if (c == ([116,97,117]:aK)) then (pB a true) else (if (decide (1 < a)) then (ob (ix b (wr (a - 1))) fun e=>
 pB a (!nT e c)) else (pB a false)))) else (some (.inr (.inl ())))
def pC (b:(List aK)) (c:Bool):Option Bool:=
 if c then (some false) else (ob (loop (fun (s:Int)=>sZ b s) 1) fun r=>match r with|.inl r=>aIl|.inr r=>some r)
def aCp (a:(List aK)):Option Bool:=
 if ((a.length:Int) == 0) then (pC a true) else (if (decide (12 < (a.length:Int))) then (pC a true) else (ob (ix a 0) fun b=>
 pC a (!(b == ([116,97,117]:aK)))))
def aHv (a b:Edge):Option Bool:=
 if (a.F != b.F) then (some (decide (a.F < b.F))) else (if (a.B != b.B) then (some (decide (a.B < b.B))) else (some (decide (a.To < b.To))))
def aNk:Option Bool:=
 some true
def aFd (a:Int) (b:Bool):Option (Int ⊕ (Unit ⊕ Bool)):=
 if b then (some (.inr (.inr false))) else (some (.inl (wr (a+1))))
def yN (t:gM) (a:Int) (c:Edge) (d:Bool):Option (Int ⊕ (Unit ⊕ Bool)):=
 if d then (some (.inr (.inr false))) else (if (decide (0 < a)) then (ob (ix t.E (wr (a - 1))) fun e=>
 ob (aHv e c) fun f=>
 aFd a (!f)) else (aFd a false))
def aCq (t:gM) (c:Int):Option (Int ⊕ (Unit ⊕ Bool)):=
 if (decide (c < (t.E.length:Int))) then (ob (ix t.E c) fun b=>
 ob (jG b.F 0 (wr (t.N - 1))) fun d=>
 if (!d) then (yN t c b true) else (ob (jG b.To 0 (wr (t.N - 1))) fun e=>
 if (!e) then (yN t c b true) else (ob (jG b.B 0 (wr ((t.L.length:Int) - 1))) fun f=>
 yN t c b (!f)))) else (some (.inr (.inl ())))
def uW (t:gM) (c:Bool):Option Bool:=
 if c then (some false) else (ob (loop (fun (s:Int)=>aCq t s) 0) fun r=>match r with|.inl r=>aNk|.inr r=>some r)
def aJV (t:gM):Option Bool:=
 ob (jG t.N 1 40) fun b=>
 if (!b) then (uW t true) else (ob (jG t.I 0 (wr (t.N - 1))) fun c=>
 if (!c) then (uW t true) else (ob (aCp t.L) fun d=>
 if (!d) then (uW t true) else (uW t (decide (300 < (t.E.length:Int))))))
def aEl (a:bM):Option Bool:=
 some ((wr ((wr ((wr ((wr ((a.Definitions.length:Int)+(a.Components.length:Int)))+(a.Meetings.length:Int)))+(a.Allowed.length:Int)))+(a.Hidden.length:Int))) == 0)
def aAc (a:Bool):Option Int:=
 if a then (some 2) else (some 1)
def pD (a:Int) (b:Bool):Option Int:=
 if b then (some 0) else (if (a == 2) then (aAc (a == 2)) else (aAc (a == 3)))
def uX (a:Int):Option Int:=
 if (a == 0) then (pD a (a == 0)) else (if (a == 1) then (pD a (a == 1)) else (pD a (a == 6)))
def uI (a:Bool):Option Bool:=
 some a
def oS (a:aK) (b:Bool):Option Bool:=
 if b then (some true) else (ob (ix a (wr ((a.length:Int) - 1))) fun c=>
 if ((c.toNat:Int) == 42) then (ob (slc a 0 (wr ((a.length:Int) - 1))) fun d=>
 ob (kV d) fun e=>
 uI e) else (uI false))
def wH (a:aK):Option Bool:=
 if (a == ([]:aK)) then (oS a true) else (ob (aCo a) fun b=>
 oS a b)
def aIm (a:Int):Option Bool:=
 some (a == 0)
def pE (a b c:Int) (d:Bool):Option ((Int × Int) ⊕ (Int ⊕ Bool)):=
 if d then (some (.inr (.inr false))) else (some (.inl (wr (a+(wr (c - 1))),wr (b+1))))
def tA (a b:Int) (d:bI) (c:Int) (e:Bool):Option ((Int × Int) ⊕ (Int ⊕ Bool)):=
 if e then (ob (wH d.B) fun f=>
 if (!f) then (pE a b c true) else (pE a b c false)) else (if (!(d.B == ([]:aK))) then (pE a b c true) else (pE a b c d.Not))
def tB (e:(List bI)) (c b:Int) (f:Bool):Option ((Int × Int) ⊕ (Int ⊕ Bool)):=
 if f then (some (.inr (.inr false))) else (ob (ix e b) fun a=>
 ob (uX a.Kind) fun d=>
 if (a.Kind == 4) then (tA c b a d true) else (tA c b a d (a.Kind == 5)))
def tC (a:(List bI)) (d b c:Int):Option ((Int × Int) ⊕ (Int ⊕ Bool)):=
 if (decide (c < (a.length:Int))) then (if (b == 0) then (tB a b c true) else (ob (ix a c) fun e=>
 ob (jG e.Kind 0 d) fun f=>
 tB a b c (!f))) else (some (.inr (.inl b)))
def pF (b:(List bI)) (c:Int) (d:Bool):Option Bool:=
 if d then (some false) else (ob (loop (fun (s:(Int × Int))=>tC b c s.1 s.2) (1,0)) fun r=>match r with|.inl r=>aIm r|.inr r=>some r)
def yO (a:(List bI)) (c b:Int):Option Bool:=
 if (decide ((a.length:Int) < 1)) then (pF a b true) else (pF a b (decide (c < (a.length:Int))))
def aAd (a:Bool):Option Bool:=
 some a
def yP (n:bI):Option Bool:=
 if (n.Kind == 7) then (aAd true) else (aAd (n.Kind == 8))
def aGE (a:Int):Option Int:=
 some a
def aDm (c:(List bI)) (a b:Int):Option ((Int × Int) ⊕ Int):=
 if (decide (0 < b)) then (ob (ix c a) fun d=>
 ob (uX d.Kind) fun e=>
 some (.inl (wr (a+1),wr (b+(wr (e - 1)))))) else (some (.inr a))
def aEm (a:(List bI)) (k:Int):Option Int:=
 ob (loop (fun (s:(Int × Int))=>aDm a s.1 s.2) (k,1)) fun r=>aGE r
def aGF:Option Int:=
 some (-1)
def qT (a:Int) (b:Bool):Option (Int ⊕ (Unit ⊕ Int)):=
 if b then (some (.inr (.inr a))) else (some (.inl (wr (a - 1))))
def qU (b:(List bI)) (k a:Int):Option (Int ⊕ (Unit ⊕ Int)):=
 if (decide (0<=a)) then (ob (ix b a) fun d=>
 ob (yP d) fun e=>
 if e then (ob (ix b k) fun f=>
 if (d.Variable == f.Variable) then (ob (aEm b a) fun g=>
 qT a (decide (k < g))) else (qT a false)) else (qT a false)) else (some (.inr (.inl ())))
def vJ (c:(List bI)) (k:Int):Option Int:=
 ob (loop (fun (s:Int)=>qU c k s) (wr (k - 1))) fun r=>match r with|.inl r=>aGF|.inr r=>some r
def aIX:Option Bool:=
 some true
def aFe (a:Int) (b:Bool):Option (Int ⊕ (Unit ⊕ Bool)):=
 if b then (some (.inr (.inr false))) else (some (.inl (wr (a+1))))
def aCr (b:(List bI)) (a:Int):Option (Int ⊕ (Unit ⊕ Bool)):=
 ob (ix b a) fun c=>
 if (c.Kind == 6) then (ob (vJ b a) fun d=>
 aFe a (decide (d < 0))) else (aFe a false)
def aFf (a:(List bI)) (b:Int) (c:Bool):Option (Int ⊕ (Unit ⊕ Bool)):=
 if c then (ob (ix a b) fun d=>
 ob (jG d.Variable 0 2) fun e=>
 if (!e) then (some (.inr (.inr false))) else (aCr a b)) else (ob (ix a b) fun f=>
 if (f.Variable != 0) then (some (.inr (.inr false))) else (aCr a b))
def aCs (a:(List bI)) (b:Int):Option (Int ⊕ (Unit ⊕ Bool)):=
 if (decide (b < (a.length:Int))) then (ob (ix a b) fun c=>
 ob (yP c) fun d=>
 if d then (aFf a b true) else (aFf a b (c.Kind == 6))) else (some (.inr (.inl ())))
def aFg (b:(List bI)):Option Bool:=
 ob (yO b 30 8) fun c=>
 if (!c) then (some false) else (ob (loop (fun (s:Int)=>aCs b s) 0) fun r=>match r with|.inl r=>aIX|.inr r=>some r)
def iM (a:aK) (b:Bool):Option aK:=
 if b then (ob (eJ ([40]:aK) a) fun c=>
 ob (eJ c ([41]:aK)) fun d=>
 some d) else (some a)
def aGG (a:List UInt8):Option aK:=
 some a
def aDn (c b:List UInt8) (a:Int):Option ((List UInt8 × Int) ⊕ (List UInt8)):=
 if (decide (0<=a)) then (ob (ix c a) fun d=>
 ob (oN b ([d]:List UInt8)) fun e=>
 some (.inl (e,wr (a - 1)))) else (some (.inr b))
def aAC (a:List UInt8):Option aK:=
 ob (loop (fun (s:(List UInt8 × Int))=>aDn a s.1 s.2) (([]:List UInt8),wr ((a.length:Int) - 1))) fun r=>aGG r
def aDo (n:Int) (a:List UInt8):Option aK:=
 if (decide (n < 0)) then (ob (oN a ([(45:UInt8)]:List UInt8)) fun c=>
 aAC c) else (aAC a)
def aDp (a:List UInt8) (b c:Int):Option ((List UInt8 × Int) ⊕ (List UInt8)):=
 ob (oN a ([(UInt8.ofInt (wr (48+c)))]:List UInt8)) fun d=>
 ob (qu b 10) fun e=>
 some (.inl (d,e))
def aAD (b:List UInt8) (a:Int):Option ((List UInt8 × Int) ⊕ (List UInt8)):=
 if (a != 0) then (ob (rm a 10) fun c=>
 if (decide (c < 0)) then (aDp b a (wr (0 - c))) else (aDp b a c)) else (some (.inr b))
def iE (n:Int):Option aK:=
 if (n == 0) then (some ([48]:aK)) else (ob (loop (fun (s:(List UInt8 × Int))=>aAD s.1 s.2) (([]:List UInt8),n)) fun r=>aDo n r)
def rV (b:Bool) (a:aK):Option aK:=
 if b then (ob (eJ ([33]:aK) a) fun c=>
 some c) else (some a)
def aBP (a:aK) (b:Bool):Option aK:=
 if ((a.length:Int) == 0) then (rV b ([95]:aK)) else (ob (ix a (wr ((a.length:Int) - 1))) fun c=>
 if ((c.toNat:Int) == 42) then (ob (slc a 0 (wr ((a.length:Int) - 1))) fun d=>
 ob (eJ d ([40,42,41]:aK)) fun e=>
 rV b e) else (rV b a))
def aAX (a:List aK):Option aK:=
 ob (ix a 0) fun b=>
 some b
def dB (a:List aK) (b:List Int) (d:Int) (e:bI) (c:Int) (f:aK):Option ((List aK × List Int × Int) ⊕ (List aK)):=
 ob (slc a 0 (wr ((a.length:Int) - c))) fun g=>
 ob (oN g ([f]:List aK)) fun h=>
 ob (slc b 0 (wr ((b.length:Int) - c))) fun i=>
 ob (oN i ([e.Kind]:List Int)) fun j=>
 some (.inl (h,j,wr (d - 1)))
def uJ (a:List aK) (b:List Int) (c:Int) (d:bI) (e:Int) (f:aK):Option ((List aK × List Int × Int) ⊕ (List aK)):=
 dB a b c d e f
def gT (b:List aK) (c:List Int) (d:Int) (a:bI) (e:Int) (f:aK):Option ((List aK × List Int × Int) ⊕ (List aK)):=
 if (a.Kind == 0) then (dB b c d a e ([116,114,117,101]:aK)) else (if (a.Kind == 1) then (dB b c d a e ([102,97,108,115,101]:aK)) else (if (a.Kind == 6) then (ob (iE a.Variable) fun i=>
 ob (eJ ([88]:aK) i) fun j=>
 dB b c d a e j) else (if (a.Kind == 4) then (ob (aBP a.B a.Not) fun k=>
 ob (eJ ([60]:aK) k) fun l=>
 ob (eJ l ([62]:aK)) fun m=>
 ob (eJ m f) fun n=>
 dB b c d a e n) else (if (a.Kind == 5) then (ob (aBP a.B a.Not) fun o=>
 ob (eJ ([91]:aK) o) fun p=>
 ob (eJ p ([93]:aK)) fun q=>
 ob (eJ q f) fun r=>
 dB b c d a e r) else (if (a.Kind == 7) then (ob (iE a.Variable) fun s=>
 ob (eJ ([109,117,32,88]:aK) s) fun t=>
 ob (eJ t ([46]:aK)) fun u=>
 ob (eJ u f) fun v=>
 dB b c d a e v) else (if (a.Kind == 8) then (ob (iE a.Variable) fun w=>
 ob (eJ ([110,117,32,88]:aK) w) fun x=>
 ob (eJ x ([46]:aK)) fun y=>
 ob (eJ y f) fun z=>
 dB b c d a e z) else (if (a.Kind == 2) then (ob (ix b (wr ((b.length:Int) - 1))) fun g=>
 ob (ix c (wr ((b.length:Int) - 1))) fun h=>
 if (h == 2) then (ob (iM g true) fun a0=>
 ob (eJ a0 ([32,38,32]:aK)) fun a1=>
 ob (ix b (wr ((wr ((b.length:Int) - 1)) - 1))) fun a2=>
 ob (ix c (wr ((wr ((b.length:Int) - 1)) - 1))) fun a3=>
 ob (iM a2 (a3 == 3)) fun a4=>
 ob (eJ a1 a4) fun a5=>
 uJ b c d a e a5) else (ob (iM g (h == 3)) fun a6=>
 ob (eJ a6 ([32,38,32]:aK)) fun a7=>
 ob (ix b (wr ((wr ((b.length:Int) - 1)) - 1))) fun a8=>
 ob (ix c (wr ((wr ((b.length:Int) - 1)) - 1))) fun a9=>
 ob (iM a8 (a9 == 3)) fun b0=>
 ob (eJ a7 b0) fun b1=>
 uJ b c d a e b1)) else (if (a.Kind == 3) then (ob (ix b (wr ((b.length:Int) - 1))) fun b2=>
 ob (ix c (wr ((b.length:Int) - 1))) fun b3=>
 ob (iM b2 (b3 == 3)) fun b4=>
 ob (eJ b4 ([32,124,32]:aK)) fun b5=>
 ob (ix b (wr ((wr ((b.length:Int) - 1)) - 1))) fun b6=>
 ob (eJ b5 b6) fun b7=>
 dB b c d a e b7) else (dB b c d a e f)))))))))
def jZ (a:List aK) (b:List Int) (c:Int) (d:bI) (e:Int) (f:aK):Option ((List aK × List Int × Int) ⊕ (List aK)):=
 gT a b c d e f
def eY (h:(List bI)) (a:List aK) (c:List Int) (b:Int):Option ((List aK × List Int × Int) ⊕ (List aK)):=
 if (decide (0<=b)) then (ob (ix h b) fun d=>
 ob (uX d.Kind) fun e=>
 if (e == 1) then (ob (ix a (wr ((a.length:Int) - 1))) fun f=>
 ob (ix c (wr ((a.length:Int) - 1))) fun g=>
 if (g == 2) then (ob (iM f true) fun i=>
 jZ a c b d e i) else (ob (iM f (g == 3)) fun j=>
 jZ a c b d e j)) else (gT a c b d e ([]:aK))) else (some (.inr a))
def kO (a:(List bI)):Option aK:=
 ob (loop (fun (s:(List aK × List Int × Int))=>eY a s.1 s.2.1 s.2.2) (([]:List aK),([]:List Int),wr ((a.length:Int) - 1))) fun r=>aAX r
def pG (a:Bool):Option Bool:=
 some a
def yQ (t:gM):Option Bool:=
 if (t.N == 0) then (if (t.I == 0) then (if ((t.L.length:Int) == 0) then (pG ((t.E.length:Int) == 0)) else (pG false)) else (pG false)) else (pG false)
def qV (p:bH) (b:Bool):Option Int:=
 if b then (some 1) else (if (p.Kind == 2) then (some 2) else (some 0))
def vK (p:bH):Option Int:=
 if (p.Kind == 1) then (qV p (p.Kind == 1)) else (if (p.Kind == 3) then (qV p (p.Kind == 3)) else (qV p (p.Kind == 4)))
def aIn (a:Int):Option Bool:=
 some (a == 0)
def aAe (c:(List bH)) (a b:Int):Option ((Int × Int) ⊕ (Int ⊕ Bool)):=
 if (decide (b < (c.length:Int))) then (if (a == 0) then (some (.inr (.inr false))) else (ob (ix c b) fun d=>
 ob (vK d) fun e=>
 some (.inl (wr (a+(wr (e - 1))),wr (b+1))))) else (some (.inr (.inl a)))
def tD (b:(List bH)) (c:Bool):Option Bool:=
 if c then (some false) else (ob (loop (fun (s:(Int × Int))=>aAe b s.1 s.2) (1,0)) fun r=>match r with|.inl r=>aIn r|.inr r=>some r)
def aCt (a:(List bH)):Option Bool:=
 if ((a.length:Int) == 0) then (tD a true) else (tD a (decide (20 < (a.length:Int))))
def wI (a:Bool):Option Bool:=
 some a
def aBr (a:Bool):Option Bool:=
 some a
def aBs (a:Bool):Option Bool:=
 some a
def wJ (p:bH) (b:Bool):Option Bool:=
 if b then (if (p.Number == 0) then (if (p.Name == ([]:aK)) then (wI ((p.Arguments.length:Int) == 0)) else (wI false)) else (wI false)) else (if (p.Kind == 1) then (some (p.Number == 0)) else (if (p.Kind == 3) then (if (p.Number == 0) then (aBr (p.Name == ([]:aK))) else (aBr false)) else (if (p.Kind == 4) then (if (p.Name == ([]:aK)) then (aBs ((p.Arguments.length:Int) == 0)) else (aBs false)) else (if (p.Kind == 5) then (some (p.Name == ([]:aK))) else (some false)))))
def aEn (p:bH):Option Bool:=
 if (p.Kind == 0) then (wJ p (p.Kind == 0)) else (wJ p (p.Kind == 2))
def aGH (a:Int):Option Int:=
 some a
def aGI (c:(List bH)) (a b:Int):Option ((Int × Int) ⊕ Int):=
 if (decide (0 < b)) then (ob (ix c a) fun d=>
 ob (vK d) fun e=>
 some (.inl (wr (a+1),wr (b+(wr (e - 1)))))) else (some (.inr a))
def aGJ (a:(List bH)) (b:Int):Option Int:=
 ob (loop (fun (s:(Int × Int))=>aGI a s.1 s.2) (b,1)) fun r=>aGH r
def aIo (a:Int):Option Int:=
 some a
def tE (a b:Int):Option ((Int × Int) ⊕ Int):=
 some (.inl (b,wr (a+1)))
def aAf (a b:Int) (c:Bool):Option ((Int × Int) ⊕ Int):=
 if c then (tE b (wr (a+1))) else (tE b a)
def jH (d:Definition) (e b a:Int):Option ((Int × Int) ⊕ Int):=
 if (decide (a < e)) then (ob (ix d.Body a) fun f=>
 if (f.Kind == 4) then (ob (aGJ d.Body a) fun g=>
 aAf b a (decide (e < g))) else (aAf b a false)) else (some (.inr b))
def yR (d:Definition) (b:Int):Option Int:=
 ob (loop (fun (s:(Int × Int))=>jH d b s.1 s.2) (d.Parameters,0)) fun r=>aIo r
def aHw (t:aS) (b:Int):Option Bool:=
 if (t.Kind == 0) then (ob (jG t.Value 0 63) fun c=>
 some c) else (if (t.Kind == 1) then (ob (jG t.Value 0 (wr (b - 1))) fun d=>
 some d) else (if (t.Kind == 2) then (ob (jG t.Value 0 8) fun e=>
 some e) else (if (t.Kind == 3) then (some (t.Value == 0)) else (some false))))
def aFh (t:aS):Option Int:=
 if (t.Kind == 2) then (some 2) else (if (t.Kind == 3) then (some 1) else (some 0))
def aNl (a:Int):Option Bool:=
 some (a == 0)
def aFi (e:(List aS)) (c a:Int) (d:Bool):Option ((Int × Int) ⊕ (Int ⊕ Bool)):=
 if d then (some (.inr (.inr false))) else (ob (ix e a) fun f=>
 ob (aFh f) fun g=>
 some (.inl (wr (c+(wr (g - 1))),wr (a+1))))
def aCu (e:(List aS)) (d b c:Int):Option ((Int × Int) ⊕ (Int ⊕ Bool)):=
 if (decide (c < (e.length:Int))) then (if (b == 0) then (aFi e b c true) else (ob (ix e c) fun f=>
 ob (aHw f d) fun g=>
 aFi e b c (!g))) else (some (.inr (.inl b)))
def aJW (e:(List aS)) (c d:Int):Option Bool:=
 if (decide (d < (e.length:Int))) then (some false) else (ob (loop (fun (s:(Int × Int))=>aCu e c s.1 s.2) (1,0)) fun r=>match r with|.inl r=>aNl r|.inr r=>some r)
def aCv:Option Int:=
 some 0
def qW (b:bH) (c a:Int):Option (Int ⊕ (Unit ⊕ Int)):=
 if (decide (a < (b.Arguments.length:Int))) then (ob (ix b.Arguments a) fun d=>
 ob (aJW d c 15) fun e=>
 if (!e) then (some (.inr (.inr 8))) else (some (.inl (wr (a+1))))) else (some (.inr (.inl ())))
def nA (b:bH) (c:Int) (d:Bool):Option Int:=
 if d then (some 7) else (ob (loop (fun (s:Int)=>qW b c s) 0) fun r=>match r with|.inl r=>aCv|.inr r=>some r)
def lD (d:Definition) (e:Int) (a:bH) (f:Bool):Option Int:=
 if f then (some 6) else (ob (yR d e) fun b=>
 if (a.Kind == 4) then (nA a b (decide (6<=b))) else (nA a b false))
def iF (d:Definition) (a:Int) (c:bH):Option Int:=
 if (c.Kind == 5) then (if (a == 0) then (lD d a c true) else (ob (ix d.Body (wr (a - 1))) fun e=>
 lD d a c (e.Kind != 1))) else (lD d a c false)
def qX (d:Definition) (b:Int) (c:bH) (e:Bool):Option Int:=
 if e then (some 5) else (iF d b c)
def iG (e:(List Definition)) (d:Definition) (c:Int) (a:bH) (f:Bool):Option Int:=
 if f then (some 4) else (if (a.Kind == 1) then (if (decide (2 < (a.Arguments.length:Int))) then (qX d c a true) else (if (decide (0 < (a.Arguments.length:Int))) then (qX d c a (a.Name == ([116,97,117]:aK))) else (qX d c a false))) else (if (a.Kind == 3) then (if ((a.Arguments.length:Int) != 1) then (some 5) else (iF d c a)) else (if (a.Kind == 5) then (ob (ix e a.Number) fun g=>
 if ((a.Arguments.length:Int) != g.Parameters) then (some 5) else (iF d c a)) else (iF d c a))))
def nB (b:(List Definition)) (d:Definition) (e:Int) (a:bH) (f:Bool):Option Int:=
 if f then (some 3) else (if (a.Kind == 4) then (ob (jG a.Number 1 7) fun g=>
 if (!g) then (iG b d e a true) else (if (a.Kind == 5) then (ob (jG a.Number 0 (wr ((b.length:Int) - 1))) fun h=>
 iG b d e a (!h)) else (iG b d e a false))) else (if (a.Kind == 5) then (ob (jG a.Number 0 (wr ((b.length:Int) - 1))) fun i=>
 iG b d e a (!i)) else (iG b d e a false)))
def vL (e:(List Definition)) (d:Definition) (c:Int):Option Int:=
 ob (ix d.Body c) fun a=>
 ob (aEn a) fun f=>
 if (!f) then (some 2) else (if (a.Kind == 1) then (ob (rU a.Name) fun g=>
 nB e d c a (!g)) else (nB e d c a false))
def aJX:Option (Int × Int):=
 some (0,0)
def wK (e:(List Definition)) (d:Definition) (a:Int):Option (Int ⊕ (Unit ⊕ (Int × Int))):=
 if (decide (a < (d.Body.length:Int))) then (ob (vL e d a) fun c=>
 if (decide (0 < c)) then (some (.inr (.inr (a,c)))) else (some (.inl (wr (a+1))))) else (some (.inr (.inl ())))
def aBQ (c:(List Definition)) (d:Definition):Option (Int × Int):=
 ob (aCt d.Body) fun e=>
 if (!e) then (some (0,1)) else (ob (loop (fun (s:Int)=>wK c d s) 0) fun r=>match r with|.inl r=>aJX|.inr r=>some r)
def aJY:Option Bool:=
 some true
def aBt (a:(List Definition)) (b:Int):Option (Int ⊕ (Unit ⊕ Bool)):=
 if (decide (b < (a.length:Int))) then (ob (ix a b) fun c=>
 ob (aBQ a c) fun d=>
 if (decide (0 < d.2)) then (some (.inr (.inr false))) else (some (.inl (wr (b+1))))) else (some (.inr (.inl ())))
def wL (b:(List Definition)):Option Bool:=
 ob (loop (fun (s:Int)=>aBt b s) 0) fun r=>match r with|.inl r=>aJY|.inr r=>some r
def aBu (a:Int):Option (Int ⊕ (Unit ⊕ Bool)):=
 some (.inl (wr (a+1)))
def aBv (a:Int):Option (Int ⊕ (Unit ⊕ Bool)):=
 aBu a
def aBw (b:(List Definition)) (c a:Int):Option (Int ⊕ (Unit ⊕ Bool)):=
 if (decide (a < c)) then (ob (ix b a) fun d=>
 ob (ix b c) fun e=>
 if (d.Name == e.Name) then (some (.inr (.inr false))) else (some (.inl (wr (a+1))))) else (some (.inr (.inl ())))
def wM (c:(List Definition)) (b:Int) (d:Bool):Option (Int ⊕ (Unit ⊕ Bool)):=
 if d then (some (.inr (.inr false))) else (ob (loop (fun (s:Int)=>aBw c b s) 0) fun r=>match r with|.inl r=>aBv b|.inr r=>some (.inr (.inr r)))
def wN (a:(List Definition)) (b:Int):Option (Int ⊕ (Unit ⊕ Bool)):=
 if (decide (b < (a.length:Int))) then (ob (ix a b) fun c=>
 ob (rU c.Name) fun d=>
 if (!d) then (wM a b true) else (ob (jG c.Parameters 0 3) fun e=>
 wM a b (!e))) else (some (.inr (.inl ())))
def rW (b:(List Definition)) (c:Bool):Option Bool:=
 if c then (some false) else (ob (loop (fun (s:Int)=>wN b s) 0) fun r=>match r with|.inl r=>wL b|.inr r=>some r)
def yS (a:(List Definition)):Option Bool:=
 if ((a.length:Int) == 0) then (rW a true) else (rW a (decide (4 < (a.length:Int))))
def aJZ:Option Bool:=
 some true
def aBx (b:(List Int)) (a:Int):Option (Int ⊕ (Unit ⊕ Bool)):=
 if (decide (a < (b.length:Int))) then (ob (ix b a) fun c=>
 ob (jG c 0 63) fun d=>
 if (!d) then (some (.inr (.inr false))) else (some (.inl (wr (a+1))))) else (some (.inr (.inl ())))
def aEo (b:(List Int)):Option Bool:=
 ob (loop (fun (s:Int)=>aBx b s) 0) fun r=>match r with|.inl r=>aJZ|.inr r=>some r
def aCw:Option Bool:=
 some true
def nZ (a:Int) (b:Bool):Option (Int ⊕ (Unit ⊕ Bool)):=
 if b then (some (.inr (.inr false))) else (some (.inl (wr (a+1))))
def lE (a:bM) (b:Int):Option (Int ⊕ (Unit ⊕ Bool)):=
 if (decide (b < (a.Components.length:Int))) then (ob (ix a.Components b) fun c=>
 ob (jG c.Definition 0 (wr ((a.Definitions.length:Int) - 1))) fun d=>
 if (!d) then (some (.inr (.inr false))) else (ob (ix a.Definitions c.Definition) fun e=>
 if ((c.Values.length:Int) != e.Parameters) then (nZ b true) else (ob (aEo c.Values) fun f=>
 nZ b (!f)))) else (some (.inr (.inl ())))
def lF (b:bM) (c:Bool):Option Bool:=
 if c then (some false) else (ob (loop (fun (s:Int)=>lE b s) 0) fun r=>match r with|.inl r=>aCw|.inr r=>some r)
def oT (a:bM):Option Bool:=
 if ((a.Components.length:Int) == 0) then (lF a true) else (lF a (decide (3 < (a.Components.length:Int))))
def aEp:Option Bool:=
 some true
def rX (a:Int):Option (Int ⊕ (Unit ⊕ Bool)):=
 some (.inl (wr (a+1)))
def yT (a:Int):Option (Int ⊕ (Unit ⊕ Bool)):=
 rX a
def rY (a:Int) (b:Bool):Option (Int ⊕ (Unit ⊕ Bool)):=
 if b then (some (.inr (.inr false))) else (some (.inl (wr (a+1))))
def nC (b:(List bD)) (c:bD) (a:Int):Option (Int ⊕ (Unit ⊕ Bool)):=
 if (decide (a < (b.length:Int))) then (ob (ix b a) fun d=>
 if (d.Left == c.Result) then (rY a true) else (rY a (d.Right == c.Result))) else (some (.inr (.inl ())))
def gZ (b:(List bD)) (c:Int) (d:bD) (e:Bool):Option (Int ⊕ (Unit ⊕ Bool)):=
 if e then (some (.inr (.inr false))) else (ob (loop (fun (s:Int)=>nC b d s) 0) fun r=>match r with|.inl r=>yT c|.inr r=>some (.inr (.inr r)))
def hH (c:(List bD)) (b:Int) (a:bD) (e:Bool):Option (Int ⊕ (Unit ⊕ Bool)):=
 if e then (some (.inr (.inr false))) else (if (decide (0 < b)) then (ob (ix c (wr (b - 1))) fun d=>
 if (!(nT d.Left a.Left||d.Left == a.Left)) then (gZ c b a true) else (if (d.Left == a.Left) then (gZ c b a (!nT d.Right a.Right)) else (gZ c b a false))) else (gZ c b a false))
def kX (b:(List bD)) (c:Int):Option (Int ⊕ (Unit ⊕ Bool)):=
 if (decide (c < (b.length:Int))) then (ob (ix b c) fun a=>
 ob (kV a.Left) fun d=>
 if (!d) then (hH b c a true) else (ob (kV a.Right) fun e=>
 if (!e) then (hH b c a true) else (ob (kV a.Result) fun f=>
 if (!f) then (hH b c a true) else (hH b c a (!(nT a.Left a.Right||a.Left == a.Right)))))) else (some (.inr (.inl ())))
def tF (b:(List bD)):Option Bool:=
 if (decide (6 < (b.length:Int))) then (some false) else (ob (loop (fun (s:Int)=>kX b s) 0) fun r=>match r with|.inl r=>aEp|.inr r=>some r)
def aFP:Option Bool:=
 some true
def uK (b:(List aK)) (a:Int):Option (Int ⊕ (Unit ⊕ Bool)):=
 if (decide (a < (b.length:Int))) then (ob (ix b a) fun c=>
 ob (kV c) fun d=>
 if (!d) then (some (.inr (.inr false))) else (some (.inl (wr (a+1))))) else (some (.inr (.inl ())))
def wO (b:(List aK)):Option Bool:=
 ob (loop (fun (s:Int)=>uK b s) 0) fun r=>match r with|.inl r=>aFP|.inr r=>some r
def aIp:Option Bool:=
 some true
def tG (b:(List aK)) (a:Int):Option (Int ⊕ (Unit ⊕ Bool)):=
 if (decide (a < (b.length:Int))) then (ob (ix b (wr (a - 1))) fun c=>
 ob (ix b a) fun d=>
 if (!nT c d) then (some (.inr (.inr false))) else (some (.inl (wr (a+1))))) else (some (.inr (.inl ())))
def tH (b:(List aK)) (c:Bool):Option Bool:=
 if c then (some false) else (ob (loop (fun (s:Int)=>tG b s) 1) fun r=>match r with|.inl r=>aIp|.inr r=>some r)
def yU (a:(List aK)):Option Bool:=
 if (decide (12 < (a.length:Int))) then (tH a true) else (ob (wO a) fun b=>
 tH a (!b))
def aFj (a:bM):Option Int:=
 ob (yS a.Definitions) fun b=>
 if (!b) then (some 1) else (ob (oT a) fun c=>
 if (!c) then (some 2) else (ob (tF a.Meetings) fun d=>
 if (!d) then (some 3) else (ob (yU a.Allowed) fun e=>
 if (!e) then (some 4) else (ob (yU a.Hidden) fun f=>
 if (!f) then (some 5) else (some 0)))))
def aKa (a:bM):Option Bool:=
 ob (aFj a) fun b=>
 some (b == 0)
def aDR (a:Int) (b:Bool):Option Int:=
 if b then (some 4) else (if (a == 2) then (some 5) else (some 3))
def aFk (a:Int):Option Int:=
 if (a == 8) then (some 1) else (if (a == 7) then (some 2) else (if (a == 0) then (aDR a (a == 0)) else (aDR a (a == 1))))
def aKb:Option (List aK):=
 some ([([43]:aK),([45]:aK),([42]:aK),([61]:aK),([35]:aK),([60]:aK),([60,61]:aK),([38]:aK),([124]:aK)]:List aK)
def aKc (a:List aK):Option aK:=
 ob (ix a 0) fun b=>
 some b
def jI (a:Int) (b:List aK) (c:List Int):Option ((List aK × List Int × Int) ⊕ (List aK)):=
 some (.inl (b,c,wr (a - 1)))
def wP (a:List aK) (b:List Int) (c:Int) (d:aK):Option ((List aK × List Int × Int) ⊕ (List aK)):=
 ob (slc a 0 (wr ((a.length:Int) - 1))) fun e=>
 ob (eJ ([33]:aK) d) fun f=>
 ob (oN e ([f]:List aK)) fun g=>
 ob (slc b 0 (wr ((a.length:Int) - 1))) fun h=>
 ob (oN h ([6]:List Int)) fun i=>
 jI c g i
def wQ (a:List aK) (b:List Int) (c:Int) (d:aS) (e:Int) (f g:aK):Option ((List aK × List Int × Int) ⊕ (List aK)):=
 ob (slc a 0 (wr ((wr ((a.length:Int) - 1)) - 1))) fun h=>
 ob (aKb) fun i=>
 ob (ix i d.Value) fun j=>
 ob (eJ f j) fun k=>
 ob (eJ k g) fun l=>
 ob (oN h ([l]:List aK)) fun m=>
 ob (slc b 0 (wr ((wr ((a.length:Int) - 1)) - 1))) fun n=>
 ob (oN n ([e]:List Int)) fun o=>
 jI c m o
def wR (a:List aK) (b:List Int) (d:Int) (e:aS) (c:Int) (f g:aK):Option ((List aK × List Int × Int) ⊕ (List aK)):=
 ob (ix b (wr ((wr ((a.length:Int) - 1)) - 1))) fun h=>
 if (decide (h<=c)) then (ob (eJ ([40]:aK) f) fun i=>
 ob (eJ i ([41]:aK)) fun j=>
 wQ a b d e c g j) else (wQ a b d e c g f)
def oA (e:(List aS)) (a:List aK) (b:List Int) (c:Int):Option ((List aK × List Int × Int) ⊕ (List aK)):=
 if (decide (0<=c)) then (ob (ix e c) fun d=>
 if (d.Kind == 0) then (ob (iE d.Value) fun k=>
 ob (oN a ([k]:List aK)) fun l=>
 ob (oN b ([7]:List Int)) fun m=>
 jI c l m) else (if (d.Kind == 1) then (ob (iE d.Value) fun n=>
 ob (eJ ([118]:aK) n) fun o=>
 ob (oN a ([o]:List aK)) fun p=>
 ob (oN b ([7]:List Int)) fun q=>
 jI c p q) else (if (d.Kind == 3) then (ob (ix a (wr ((a.length:Int) - 1))) fun g=>
 ob (ix b (wr ((a.length:Int) - 1))) fun r=>
 if (decide (r < 6)) then (ob (eJ ([40]:aK) g) fun s=>
 ob (eJ s ([41]:aK)) fun t=>
 wP a b c t) else (wP a b c g)) else (if (d.Kind == 2) then (ob (aFk d.Value) fun f=>
 ob (ix a (wr ((a.length:Int) - 1))) fun h=>
 ob (ix a (wr ((wr ((a.length:Int) - 1)) - 1))) fun i=>
 ob (ix b (wr ((a.length:Int) - 1))) fun u=>
 if (decide (u < f)) then (ob (eJ ([40]:aK) h) fun v=>
 ob (eJ v ([41]:aK)) fun w=>
 wR a b c d f i w) else (wR a b c d f i h)) else (jI c a b))))) else (some (.inr a))
def vM (e:(List aS)):Option aK:=
 ob (loop (fun (s:(List aK × List Int × Int))=>oA e s.1 s.2.1 s.2.2) (([]:List aK),([]:List Int),wr ((e.length:Int) - 1))) fun r=>aKc r
def aLQ (a:aK):Option aK:=
 some a
def aAE (b:(List (List aS))) (a:Int) (c:aK):Option ((aK × Int) ⊕ aK):=
 ob (ix b a) fun d=>
 ob (vM d) fun e=>
 ob (eJ c e) fun f=>
 some (.inl (f,wr (a+1)))
def aAF (b:(List (List aS))) (d c:aK) (a:Int):Option ((aK × Int) ⊕ aK):=
 if (decide (a < (b.length:Int))) then (if (decide (0 < a)) then (ob (eJ c d) fun e=>
 aAE b a e) else (aAE b a c)) else (some (.inr c))
def aGK (a:(List (List aS))) (b:aK):Option aK:=
 ob (loop (fun (s:(aK × Int))=>aAF a b s.1 s.2) (([]:aK),0)) fun r=>aLQ r
def aEq (a:(List (List aS))):Option aK:=
 if ((a.length:Int) == 0) then (some ([]:aK)) else (ob (aGK a ([44]:aK)) fun b=>
 ob (eJ ([40]:aK) b) fun c=>
 ob (eJ c ([41]:aK)) fun d=>
 some d)
def aFl (a:List aK):Option aK:=
 ob (ix a 0) fun b=>
 some b
def gU (a:Int) (b:List aK) (c:List Bool):Option ((List aK × List Bool × Int) ⊕ (List aK)):=
 some (.inl (b,c,wr (a - 1)))
def oB (e:(List Definition)) (f:(List bH)) (a:List aK) (c:List Bool) (d:Int):Option ((List aK × List Bool × Int) ⊕ (List aK)):=
 if (decide (0<=d)) then (ob (ix f d) fun b=>
 if (b.Kind == 0) then (ob (oN a ([([48]:aK)]:List aK)) fun g=>
 ob (oN c ([false]:List Bool)) fun h=>
 gU d g h) else (if (b.Kind == 5) then (ob (ix e b.Number) fun i=>
 ob (aEq b.Arguments) fun j=>
 ob (eJ i.Name j) fun k=>
 ob (oN a ([k]:List aK)) fun l=>
 ob (oN c ([false]:List Bool)) fun m=>
 gU d l m) else (if (b.Kind == 2) then (ob (ix a (wr ((a.length:Int) - 1))) fun n=>
 ob (ix c (wr ((a.length:Int) - 1))) fun o=>
 ob (iM n o) fun p=>
 ob (eJ p ([32,43,32]:aK)) fun q=>
 ob (ix a (wr ((wr ((a.length:Int) - 1)) - 1))) fun r=>
 ob (eJ q r) fun s=>
 ob (slc a 0 (wr ((wr ((a.length:Int) - 1)) - 1))) fun t=>
 ob (oN t ([s]:List aK)) fun u=>
 ob (slc c 0 (wr ((wr ((a.length:Int) - 1)) - 1))) fun v=>
 ob (oN v ([true]:List Bool)) fun w=>
 gU d u w) else (if (b.Kind == 1) then (ob (aEq b.Arguments) fun x=>
 ob (eJ b.Name x) fun y=>
 ob (eJ y ([46]:aK)) fun z=>
 ob (ix a (wr ((a.length:Int) - 1))) fun a0=>
 ob (ix c (wr ((a.length:Int) - 1))) fun a1=>
 ob (iM a0 a1) fun a2=>
 ob (eJ z a2) fun a3=>
 ob (slc a 0 (wr ((a.length:Int) - 1))) fun a4=>
 ob (oN a4 ([a3]:List aK)) fun a5=>
 ob (slc c 0 (wr ((a.length:Int) - 1))) fun a6=>
 ob (oN a6 ([false]:List Bool)) fun a7=>
 gU d a5 a7) else (if (b.Kind == 3) then (ob (ix b.Arguments 0) fun a8=>
 ob (vM a8) fun a9=>
 ob (eJ ([91]:aK) a9) fun b0=>
 ob (eJ b0 ([93]:aK)) fun b1=>
 ob (ix a (wr ((a.length:Int) - 1))) fun b2=>
 ob (ix c (wr ((a.length:Int) - 1))) fun b3=>
 ob (iM b2 b3) fun b4=>
 ob (eJ b1 b4) fun b5=>
 ob (slc a 0 (wr ((a.length:Int) - 1))) fun b6=>
 ob (oN b6 ([b5]:List aK)) fun b7=>
 ob (slc c 0 (wr ((a.length:Int) - 1))) fun b8=>
 ob (oN b8 ([false]:List Bool)) fun b9=>
 gU d b7 b9) else (if (b.Kind == 4) then (ob (iE b.Number) fun c0=>
 ob (eJ ([115,117,109,32]:aK) c0) fun c1=>
 ob (eJ c1 ([46]:aK)) fun c2=>
 ob (ix a (wr ((a.length:Int) - 1))) fun c3=>
 ob (ix c (wr ((a.length:Int) - 1))) fun c4=>
 ob (iM c3 c4) fun c5=>
 ob (eJ c2 c5) fun c6=>
 ob (slc a 0 (wr ((a.length:Int) - 1))) fun c7=>
 ob (oN c7 ([c6]:List aK)) fun c8=>
 ob (slc c 0 (wr ((a.length:Int) - 1))) fun c9=>
 ob (oN c9 ([false]:List Bool)) fun d0=>
 gU d c8 d0) else (gU d a c))))))) else (some (.inr a))
def yV (b:(List Definition)) (a:(List bH)):Option aK:=
 ob (loop (fun (s:(List aK × List Bool × Int))=>oB b a s.1 s.2.1 s.2.2) (([]:List aK),([]:List Bool),wr ((a.length:Int) - 1))) fun r=>aFl r
def aHx (b:(List Definition)) (k:Int):Option aK:=
 ob (ix b k) fun a=>
 ob (eJ ([112,114,111,99,32]:aK) a.Name) fun d=>
 ob (eJ d ([32]:aK)) fun e=>
 ob (iE a.Parameters) fun f=>
 ob (eJ e f) fun g=>
 ob (eJ g ([32,61,32]:aK)) fun h=>
 ob (yV b a.Body) fun i=>
 ob (eJ h i) fun j=>
 some j
def aKd (a:aK):Option aK:=
 some a
def aBy (b:(List Int)) (a:Int) (c:aK):Option ((aK × Int) ⊕ aK):=
 ob (ix b a) fun d=>
 ob (iE d) fun e=>
 ob (eJ c e) fun f=>
 some (.inl (f,wr (a+1)))
def oC (b:(List Int)) (c:aK) (a:Int):Option ((aK × Int) ⊕ aK):=
 if (decide (a < (b.length:Int))) then (if (decide (0 < a)) then (ob (eJ c ([44]:aK)) fun d=>
 aBy b a d) else (aBy b a c)) else (some (.inr c))
def aEr (a:(List Int)):Option aK:=
 if ((a.length:Int) == 0) then (some ([45]:aK)) else (ob (loop (fun (s:(aK × Int))=>oC a s.1 s.2) (([]:aK),0)) fun r=>aKd r)
def aDS (a:aK):Option aK:=
 some a
def tI (b:(List aK)) (c:aK) (a:Int):Option ((aK × Int) ⊕ aK):=
 if (decide (a < (b.length:Int))) then (ob (ix b a) fun d=>
 ob (eJ ([32]:aK) d) fun e=>
 ob (eJ c e) fun f=>
 some (.inl (f,wr (a+1)))) else (some (.inr c))
def yW (a:aK) (b:(List aK)):Option aK:=
 ob (loop (fun (s:(aK × Int))=>tI b s.1 s.2) (a,0)) fun r=>aDS r
def aAg (a:List aK):Option (List aK):=
 some a
def pH (a:bM) (b:List aK):Option (List aK):=
 if (decide (0 < (a.Hidden.length:Int))) then (ob (yW ([104,105,100,101]:aK) a.Hidden) fun c=>
 ob (oN b ([c]:List aK)) fun d=>
 aAg d) else (aAg b)
def aAh (a:bM) (b:List aK):Option (List aK):=
 if (decide (0 < (a.Allowed.length:Int))) then (ob (yW ([97,108,108,111,119]:aK) a.Allowed) fun c=>
 ob (oN b ([c]:List aK)) fun d=>
 pH a d) else (pH a b)
def aAi (c:bM) (d:List aK) (a:Int):Option ((List aK × Int) ⊕ (List aK)):=
 if (decide (a < (c.Meetings.length:Int))) then (ob (ix c.Meetings a) fun b=>
 ob (eJ ([109,101,101,116,32]:aK) b.Left) fun e=>
 ob (eJ e ([32]:aK)) fun f=>
 ob (eJ f b.Right) fun g=>
 ob (eJ g ([32]:aK)) fun h=>
 ob (eJ h b.Result) fun i=>
 ob (oN d ([i]:List aK)) fun j=>
 some (.inl (j,wr (a+1)))) else (some (.inr d))
def aAj (a:bM) (b:List aK) (c:aK):Option (List aK):=
 ob (oN b ([c]:List aK)) fun d=>
 ob (loop (fun (s:(List aK × Int))=>aAi a s.1 s.2) (d,0)) fun r=>aAh a r
def tJ (a:Int) (b:aK):Option ((aK × Int) ⊕ aK):=
 some (.inl (b,wr (a+1)))
def tK (c:bM) (a:Int) (e:aK):Option ((aK × Int) ⊕ aK):=
 ob (ix c.Components a) fun b=>
 ob (ix c.Definitions b.Definition) fun f=>
 ob (eJ e f.Name) fun d=>
 if (decide (0 < (b.Values.length:Int))) then (ob (aEr b.Values) fun g=>
 ob (eJ ([40]:aK) g) fun h=>
 ob (eJ h ([41]:aK)) fun i=>
 ob (eJ d i) fun j=>
 tJ a j) else (tJ a d)
def tL (b:bM) (c:aK) (a:Int):Option ((aK × Int) ⊕ aK):=
 if (decide (a < (b.Components.length:Int))) then (if (decide (0 < a)) then (ob (eJ c ([32,124,32]:aK)) fun d=>
 tK b a d) else (tK b a c)) else (some (.inr c))
def aAk (a:bM) (b:List aK):Option (List aK):=
 ob (loop (fun (s:(aK × Int))=>tL a s.1 s.2) (([114,117,110,32]:aK),0)) fun r=>aAj a b r
def wS (b:bM) (c:List aK) (a:Int):Option ((List aK × Int) ⊕ (List aK)):=
 if (decide (a < (b.Definitions.length:Int))) then (ob (aHx b.Definitions a) fun d=>
 ob (oN c ([d]:List aK)) fun e=>
 some (.inl (e,wr (a+1)))) else (some (.inr c))
def aCx (a:bM):Option (List aK):=
 ob (loop (fun (s:(List aK × Int))=>wS a s.1 s.2) (([]:List aK),0)) fun r=>aAk a r
def aKe (a:aK):Option aK:=
 some a
def wT (b:(List aK)) (a:Int) (c:aK):Option ((aK × Int) ⊕ aK):=
 ob (ix b a) fun d=>
 ob (eJ c d) fun e=>
 some (.inl (e,wr (a+1)))
def wU (b:(List aK)) (c:aK) (a:Int):Option ((aK × Int) ⊕ aK):=
 if (decide (a < (b.length:Int))) then (if (decide (0 < a)) then (ob (eJ c ([10]:aK)) fun d=>
 wT b a d) else (wT b a c)) else (some (.inr c))
def yX (a:bM):Option aK:=
 ob (aCx a) fun b=>
 ob (loop (fun (s:(aK × Int))=>wU b s.1 s.2) (([]:aK),0)) fun r=>aKe r
def aCy (a:Bool):Option Bool:=
 some a
def yY (a:Bool):Option Bool:=
 some a
def yZ (a:Bool):Option Bool:=
 some a
def aFm (k:Kept):Option Bool:=
 ob (rU k.Name) fun b=>
 if (!b) then (some false) else (if (k.Kind == 1) then (ob (aJV k.S) fun c=>
 if c then (if ((k.Formula.length:Int) == 0) then (ob (aEl k.Source) fun d=>
 aCy d) else (aCy false)) else (aCy false)) else (if (k.Kind == 2) then (ob (aFg k.Formula) fun e=>
 if e then (ob (kO k.Formula) fun f=>
 if (decide ((f.length:Int)<=400)) then (ob (yQ k.S) fun g=>
 if g then (ob (aEl k.Source) fun h=>
 yY h) else (yY false)) else (yY false)) else (yY false)) else (if (k.Kind == 3) then (ob (aKa k.Source) fun i=>
 if i then (ob (yX k.Source) fun j=>
 if (decide ((j.length:Int)<=16000)) then (if ((k.Formula.length:Int) == 0) then (ob (yQ k.S) fun l=>
 yZ l) else (yZ false)) else (yZ false)) else (yZ false)) else (some false))))
def aIY:Option Bool:=
 some true
def aCz (a:Int) (b:Bool):Option (Int ⊕ (Unit ⊕ Bool)):=
 if b then (some (.inr (.inr false))) else (some (.inl (wr (a+1))))
def aCA (d:pR) (a:Int):Option (Int ⊕ (Unit ⊕ Bool)):=
 if (decide (a < (d.Kept.length:Int))) then (ob (ix d.Kept a) fun c=>
 ob (aFm c) fun e=>
 if (!e) then (aCz a true) else (if (decide (0 < a)) then (ob (ix d.Kept (wr (a - 1))) fun f=>
 aCz a (!nT f.Name c.Name)) else (aCz a false))) else (some (.inr (.inl ())))
def aHy (d:pR):Option Bool:=
 if (decide (12 < (d.Kept.length:Int))) then (some false) else (ob (loop (fun (s:Int)=>aCA d s) 0) fun r=>match r with|.inl r=>aIY|.inr r=>some r)
def aFn (a:aK):Option aK:=
 some a
def aBz (t:gM) (a:aK):Option aK:=
 if ((t.E.length:Int) == 0) then (ob (eJ a ([45]:aK)) fun c=>
 aFn c) else (aFn a)
def rZ (t:gM) (b:Int) (d:aK):Option ((aK × Int) ⊕ aK):=
 ob (ix t.E b) fun a=>
 ob (iE a.F) fun e=>
 ob (eJ e ([58]:aK)) fun f=>
 ob (iE a.B) fun g=>
 ob (eJ f g) fun h=>
 ob (eJ h ([58]:aK)) fun i=>
 ob (iE a.To) fun j=>
 ob (eJ i j) fun k=>
 ob (eJ d k) fun l=>
 some (.inl (l,wr (b+1)))
def wV (t:gM) (c:aK) (a:Int):Option ((aK × Int) ⊕ aK):=
 if (decide (a < (t.E.length:Int))) then (if (decide (0 < a)) then (ob (eJ c ([32]:aK)) fun d=>
 rZ t a d) else (rZ t a c)) else (some (.inr c))
def sA (t:gM) (b:aK):Option aK:=
 ob (eJ b ([124]:aK)) fun c=>
 ob (loop (fun (s:(aK × Int))=>wV t s.1 s.2) (c,0)) fun r=>aBz t r
def aBA (t:gM) (b:aK):Option aK:=
 if ((t.L.length:Int) == 1) then (ob (eJ b ([45]:aK)) fun c=>
 sA t c) else (sA t b)
def wW (t:gM) (a:Int) (c:aK):Option ((aK × Int) ⊕ aK):=
 ob (ix t.L a) fun d=>
 ob (eJ c d) fun e=>
 some (.inl (e,wr (a+1)))
def sB (t:gM) (c:aK) (a:Int):Option ((aK × Int) ⊕ aK):=
 if (decide (a < (t.L.length:Int))) then (if (decide (1 < a)) then (ob (eJ c ([32]:aK)) fun d=>
 wW t a d) else (wW t a c)) else (some (.inr c))
def aEs (t:gM):Option aK:=
 ob (iE t.N) fun b=>
 ob (eJ b ([32]:aK)) fun c=>
 ob (iE t.I) fun d=>
 ob (eJ c d) fun e=>
 ob (eJ e ([124]:aK)) fun f=>
 ob (loop (fun (s:(aK × Int))=>sB t s.1 s.2) (f,1)) fun r=>aBA t r
def aEt (k:Kept):Option aK:=
 if (k.Kind == 1) then (ob (aEs k.S) fun b=>
 some b) else (if (k.Kind == 2) then (ob (kO k.Formula) fun c=>
 some c) else (ob (yX k.Source) fun d=>
 ob (aPX d (10:UInt8) (59:UInt8)) fun e=>
 some e))
def aEu (k:Kept):Option aK:=
 ob (ix ([([]:aK),([115,121,115,116,101,109,32]:aK),([102,111,114,109,117,108,97,32]:aK),([115,111,117,114,99,101,32]:aK)]:List aK) k.Kind) fun b=>
 ob (eJ b k.Name) fun c=>
 ob (eJ c ([32]:aK)) fun d=>
 ob (aEt k) fun e=>
 ob (eJ d e) fun f=>
 some f
def aIq (a:aK):Option aK:=
 some a
def pJ (d:pR) (a:Int) (c:aK):Option ((aK × Int) ⊕ aK):=
 ob (ix d.Kept a) fun e=>
 ob (aEu e) fun f=>
 ob (eJ c f) fun g=>
 some (.inl (g,wr (a+1)))
def tM (d:pR) (c:aK) (a:Int):Option ((aK × Int) ⊕ aK):=
 if (decide (a < (d.Kept.length:Int))) then (if (decide (0 < a)) then (ob (eJ c ([10]:aK)) fun e=>
 pJ d a e) else (pJ d a c)) else (some (.inr c))
def aFo (d:pR):Option aK:=
 ob (loop (fun (s:(aK × Int))=>tM d s.1 s.2) (([]:aK),0)) fun r=>aIq r
def uY (d:pR):Option aK:=
 ob (aHy d) fun b=>
 if (!b) then (some ([]:aK)) else (ob (aFo d) fun c=>
 some c)
def aGL (a:List aK):Option (List aK):=
 some a
def wX (a:(List aK)) (c:List aK) (b:Int):Option ((List aK × Int) ⊕ (List aK)):=
 if (decide (b < (a.length:Int))) then (ob (ix a b) fun e=>
 ob (ix c b) fun g=>
 ob (st c b (e:aK)) fun f=>
 some (.inl (f,wr (b+1)))) else (some (.inr c))
def qY (a:(List aK)):Option (List aK):=
 ob (mkz (a.length:Int) ([]:aK)) fun c=>
 ob (loop (fun (s:(List aK × Int))=>wX a s.1 s.2) (c,0)) fun r=>aGL r
def aNm (a:Edge):Option Edge:=
 some a
def aKf (a:List Edge):Option (List Edge):=
 some a
def aBB (a:(List Edge)) (c:List Edge) (b:Int):Option ((List Edge × Int) ⊕ (List Edge)):=
 if (decide (b < (a.length:Int))) then (ob (ix a b) fun f=>
 ob (aNm f) fun d=>
 ob (ix c b) fun h=>
 ob (st c b (⟨d.F,d.B,d.To⟩:Edge)) fun g=>
 some (.inl (g,wr (b+1)))) else (some (.inr c))
def aEv (a:(List Edge)):Option (List Edge):=
 ob (mkz (a.length:Int) (⟨0,0,0⟩:Edge)) fun c=>
 ob (loop (fun (s:(List Edge × Int))=>aBB a s.1 s.2) (c,0)) fun r=>aKf r
def aMJ (a:gM):Option gM:=
 ob (qY a.L) fun c=>
 ob (aEv a.E) fun d=>
 some ⟨a.N,a.I,c,d⟩
def aNn (a:bI):Option bI:=
 some a
def aKg (a:List bI):Option (List bI):=
 some a
def wY (a:(List bI)) (d:List bI) (b:Int):Option ((List bI × Int) ⊕ (List bI)):=
 if (decide (b < (a.length:Int))) then (ob (ix a b) fun f=>
 ob (aNn f) fun c=>
 ob (ix d b) fun h=>
 ob (st d b (⟨c.Kind,c.Variable,c.B,c.Not⟩:bI)) fun g=>
 some (.inl (g,wr (b+1)))) else (some (.inr d))
def aHz (a:(List bI)):Option (List bI):=
 ob (mkz (a.length:Int) (⟨0,0,[],false⟩:bI)) fun c=>
 ob (loop (fun (s:(List bI × Int))=>wY a s.1 s.2) (c,0)) fun r=>aKg r
def aNo (a:aS):Option aS:=
 some a
def aKh (a:List aS):Option (List aS):=
 some a
def wZ (a:(List aS)) (c:List aS) (b:Int):Option ((List aS × Int) ⊕ (List aS)):=
 if (decide (b < (a.length:Int))) then (ob (ix a b) fun f=>
 ob (aNo f) fun e=>
 ob (ix c b) fun h=>
 ob (st c b (⟨e.Kind,e.Value⟩:aS)) fun g=>
 some (.inl (g,wr (b+1)))) else (some (.inr c))
def aHA (a:(List aS)):Option (List aS):=
 ob (mkz (a.length:Int) (⟨0,0⟩:aS)) fun c=>
 ob (loop (fun (s:(List aS × Int))=>wZ a s.1 s.2) (c,0)) fun r=>aKh r
def aIr (a:List (List aS)):Option (List (List aS)):=
 some a
def tN (a:(List (List aS))) (c:List (List aS)) (b:Int):Option ((List (List aS) × Int) ⊕ (List (List aS))):=
 if (decide (b < (a.length:Int))) then (ob (ix a b) fun e=>
 ob (aHA e) fun f=>
 ob (ix c b) fun h=>
 ob (st c b f) fun g=>
 some (.inl (g,wr (b+1)))) else (some (.inr c))
def aFp (a:(List (List aS))):Option (List (List aS)):=
 ob (mkz (a.length:Int) ([]:(List aS))) fun c=>
 ob (loop (fun (s:(List (List aS) × Int))=>tN a s.1 s.2) (c,0)) fun r=>aIr r
def aNp (a:bH):Option bH:=
 ob (aFp a.Arguments) fun c=>
 some ⟨a.Kind,a.Number,a.Name,c⟩
def aKi (a:List bH):Option (List bH):=
 some a
def xA (a:(List bH)) (c:List bH) (b:Int):Option ((List bH × Int) ⊕ (List bH)):=
 if (decide (b < (a.length:Int))) then (ob (ix a b) fun e=>
 ob (aNp e) fun f=>
 ob (ix c b) fun h=>
 ob (st c b (f:bH)) fun g=>
 some (.inl (g,wr (b+1)))) else (some (.inr c))
def aHB (a:(List bH)):Option (List bH):=
 ob (mkz (a.length:Int) (⟨0,0,[],[]⟩:bH)) fun c=>
 ob (loop (fun (s:(List bH × Int))=>xA a s.1 s.2) (c,0)) fun r=>aKi r
def aCB (a:Definition):Option Definition:=
 ob (aHB a.Body) fun c=>
 some ⟨a.Name,a.Parameters,c⟩
def aCC (a:List Definition):Option (List Definition):=
 some a
def lG (a:(List Definition)) (c:List Definition) (b:Int):Option ((List Definition × Int) ⊕ (List Definition)):=
 if (decide (b < (a.length:Int))) then (ob (ix a b) fun e=>
 ob (aCB e) fun f=>
 ob (ix c b) fun h=>
 ob (st c b (f:Definition)) fun g=>
 some (.inl (g,wr (b+1)))) else (some (.inr c))
def uL (a:(List Definition)):Option (List Definition):=
 ob (mkz (a.length:Int) (⟨[],0,[]⟩:Definition)) fun c=>
 ob (loop (fun (s:(List Definition × Int))=>lG a s.1 s.2) (c,0)) fun r=>aCC r
def aIs (a:List Int):Option (List Int):=
 some a
def tO (a:(List Int)) (c:List Int) (b:Int):Option ((List Int × Int) ⊕ (List Int)):=
 if (decide (b < (a.length:Int))) then (ob (ix a b) fun e=>
 ob (ix c b) fun g=>
 ob (st c b (e:Int)) fun f=>
 some (.inl (f,wr (b+1)))) else (some (.inr c))
def aFq (a:(List Int)):Option (List Int):=
 ob (mkz (a.length:Int) (0:Int)) fun c=>
 ob (loop (fun (s:(List Int × Int))=>tO a s.1 s.2) (c,0)) fun r=>aIs r
def aDT (a:bA):Option bA:=
 ob (aFq a.Values) fun c=>
 some ⟨a.Definition,c⟩
def aDq (a:List bA):Option (List bA):=
 some a
def lW (a:(List bA)) (c:List bA) (b:Int):Option ((List bA × Int) ⊕ (List bA)):=
 if (decide (b < (a.length:Int))) then (ob (ix a b) fun e=>
 ob (aDT e) fun f=>
 ob (ix c b) fun h=>
 ob (st c b (f:bA)) fun g=>
 some (.inl (g,wr (b+1)))) else (some (.inr c))
def xB (a:(List bA)):Option (List bA):=
 ob (mkz (a.length:Int) (⟨0,[]⟩:bA)) fun c=>
 ob (loop (fun (s:(List bA × Int))=>lW a s.1 s.2) (c,0)) fun r=>aDq r
def aGM (a:bD):Option bD:=
 some a
def aFQ (a:List bD):Option (List bD):=
 some a
def oU (a:(List bD)) (c:List bD) (b:Int):Option ((List bD × Int) ⊕ (List bD)):=
 if (decide (b < (a.length:Int))) then (ob (ix a b) fun f=>
 ob (aGM f) fun d=>
 ob (ix c b) fun h=>
 ob (st c b (⟨d.Left,d.Right,d.Result⟩:bD)) fun g=>
 some (.inl (g,wr (b+1)))) else (some (.inr c))
def aBC (a:(List bD)):Option (List bD):=
 ob (mkz (a.length:Int) (⟨[],[],[]⟩:bD)) fun c=>
 ob (loop (fun (s:(List bD × Int))=>oU a s.1 s.2) (c,0)) fun r=>aFQ r
def aCD (a:bM):Option bM:=
 ob (uL a.Definitions) fun c=>
 ob (xB a.Components) fun d=>
 ob (aBC a.Meetings) fun e=>
 ob (qY a.Allowed) fun f=>
 ob (qY a.Hidden) fun g=>
 some ⟨c,d,e,f,g⟩
def aGN (a:Kept):Option Kept:=
 ob (aMJ a.S) fun d=>
 ob (aHz a.Formula) fun e=>
 ob (aCD a.Source) fun c=>
 some ⟨a.Name,a.Kind,⟨d.N,d.I,d.L,d.E⟩,e,⟨c.Definitions,c.Components,c.Meetings,c.Allowed,c.Hidden⟩⟩
def aKj (a:List Kept):Option (List Kept):=
 some a
def xC (a:(List Kept)) (d:List Kept) (c:Int):Option ((List Kept × Int) ⊕ (List Kept)):=
 if (decide (c < (a.length:Int))) then (ob (ix a c) fun f=>
 ob (aGN f) fun b=>
 ob (ix d c) fun h=>
 ob (st d c (⟨b.Name,b.Kind,⟨b.S.N,b.S.I,b.S.L,b.S.E⟩,b.Formula,⟨b.Source.Definitions,b.Source.Components,b.Source.Meetings,b.Source.Allowed,b.Source.Hidden⟩⟩:Kept)) fun g=>
 some (.inl (g,wr (c+1)))) else (some (.inr d))
def aHC (a:(List Kept)):Option (List Kept):=
 ob (mkz (a.length:Int) (⟨[],0,⟨0,0,[],[]⟩,[],⟨[],[],[],[],[]⟩⟩:Kept)) fun c=>
 ob (loop (fun (s:(List Kept × Int))=>xC a s.1 s.2) (c,0)) fun r=>aKj r
def aEw (a:pR):Option pR:=
 ob (aHC a.Kept) fun c=>
 some ⟨c⟩
def jC (a:Bool):Option Int:=
 if a then (some 1) else (some 0)
def lH (n:bI) (b:Bool):Option Int:=
 if b then (some 2) else (if (n.Kind == 4) then (jC (n.Kind == 4)) else (if (n.Kind == 5) then (jC (n.Kind == 5)) else (if (n.Kind == 7) then (jC (n.Kind == 7)) else (jC (n.Kind == 8)))))
def kA (n:bI):Option Int:=
 if (n.Kind == 2) then (lH n (n.Kind == 2)) else (lH n (n.Kind == 3))
def aKk (a:Int):Option Bool:=
 some (a == 0)
def aBD (c:(List bI)) (a b:Int):Option ((Int × Int) ⊕ (Int ⊕ Bool)):=
 if (decide (b < (c.length:Int))) then (ob (ix c b) fun d=>
 if (a == 0) then (some (.inr (.inr false))) else (ob (kA d) fun e=>
 some (.inl (wr (a+(wr (e - 1))),wr (b+1))))) else (some (.inr (.inl a)))
def aEx (b:(List bI)):Option Bool:=
 ob (loop (fun (s:(Int × Int))=>aBD b s.1 s.2) (1,0)) fun r=>match r with|.inl r=>aKk r|.inr r=>some r
def lX (a:Bool):Option Bool:=
 some a
def pW (n:bI):Option Bool:=
 if (n.Kind == 4) then (lX true) else (lX (n.Kind == 5))
def iH (a b:aK):Option (aK × Bool):=
 ob (eB a b) fun c=>
 if (!c) then (some (a,false)) else (ob (slc a 0 (wr ((a.length:Int) - (b.length:Int)))) fun d=>
 some (d,true))
def kH (b c:aK):Option (aK × Bool):=
 ob (iH b c) fun a=>
 some (a.1,a.2)
def nD (a:Bool):Option Bool:=
 some a
def aAG (a:aK):Option Bool:=
 ob (kH a ([42]:aK)) fun b=>
 if (a == ([]:aK)) then (nD true) else (ob (aEi a) fun c=>
 if c then (nD true) else (if b.2 then (ob (lC b.1) fun d=>
 nD d) else (nD false)))
def oD (a:Bool):Option Bool:=
 some a
def oV (n:bI):Option Bool:=
 ob (pW n) fun b=>
 if b then (ob (aAG n.B) fun c=>
 some c) else (if (n.B == ([]:aK)) then (oD (!n.Not)) else (oD false))
def pX (a:Bool):Option Bool:=
 some a
def nE (n:bI):Option Bool:=
 if (n.Kind == 7) then (pX true) else (pX (n.Kind == 8))
def pY (n:bI) (b:Bool):Option Bool:=
 if b then (ob (fU n.Variable 0 2) fun c=>
 some c) else (some (n.Variable == 0))
def qZ (n:bI):Option Bool:=
 ob (nE n) fun b=>
 if b then (pY n true) else (pY n (n.Kind == 6))
def aAY (a:Int):Option Int:=
 some a
def uM (c:(List bI)) (a b:Int):Option ((Int × Int) ⊕ Int):=
 if (decide (0 < b)) then (ob (ix c a) fun d=>
 ob (kA d) fun e=>
 some (.inl (wr (a+1),wr (b+(wr (e - 1)))))) else (some (.inr a))
def kP (a:(List bI)) (k:Int):Option Int:=
 ob (loop (fun (s:(Int × Int))=>uM a s.1 s.2) (k,1)) fun r=>aAY r
def aLR:Option Int:=
 some (-1)
def aAH (a:Int) (b:Bool):Option (Int ⊕ (Unit ⊕ Int)):=
 if b then (some (.inr (.inr a))) else (some (.inl (wr (a - 1))))
def aAI (b:(List bI)) (k a:Int):Option (Int ⊕ (Unit ⊕ Int)):=
 if (decide (0<=a)) then (ob (ix b a) fun d=>
 ob (nE d) fun e=>
 if e then (ob (ix b k) fun f=>
 if (d.Variable == f.Variable) then (ob (kP b a) fun g=>
 aAH a (decide (k < g))) else (aAH a false)) else (aAH a false)) else (some (.inr (.inl ())))
def aCE (c:(List bI)) (k:Int):Option Int:=
 ob (loop (fun (s:Int)=>aAI c k s) (wr (k - 1))) fun r=>match r with|.inl r=>aLR|.inr r=>some r
def xD:Option Bool:=
 some true
def iI (a:Int) (b:Bool):Option (Int ⊕ (Unit ⊕ Bool)):=
 if b then (some (.inr (.inr false))) else (some (.inl (wr (a+1))))
def lY (c:(List bI)) (a:Int):Option (Int ⊕ (Unit ⊕ Bool)):=
 if (decide (a < (c.length:Int))) then (ob (ix c a) fun b=>
 ob (fU b.Kind 0 8) fun d=>
 if (!d) then (iI a true) else (ob (oV b) fun e=>
 if (!e) then (iI a true) else (ob (qZ b) fun f=>
 if (!f) then (iI a true) else (if (b.Kind == 6) then (ob (aCE c a) fun g=>
 iI a (decide (g < 0))) else (iI a false))))) else (some (.inr (.inl ())))
def lZ (b:(List bI)) (c:Bool):Option Bool:=
 if c then (some false) else (ob (loop (fun (s:Int)=>lY b s) 0) fun r=>match r with|.inl r=>xD|.inr r=>some r)
def gO (a:(List bI)):Option Bool:=
 ob (fU (a.length:Int) 1 30) fun b=>
 if (!b) then (lZ a true) else (ob (aEx a) fun c=>
 lZ a (!c))
def zD (a:bI) (b:List (Tr bI)) (c:List bI):Option ((Tr bI) × (List bI)):=
 some ((Tr.mk a b),c)
def nF (e:(List bI)->Option ((Tr bI) × (List bI))) (f:Int) (a:List (Tr bI)) (b:List bI) (c:Int):Option ((List (Tr bI) × List bI × Int) ⊕ (List (Tr bI) × List bI)):=
 if (decide (c < f)) then (ob (e b) fun d=>
 ob (oN a ([d.1]:List (Tr bI))) fun g=>
 some (.inl (g,d.2,wr (c+1)))) else (some (.inr (a,b)))
def gV (d:(List bI)->Option ((Tr bI) × (List bI))) (a:(List bI)):Option ((Tr bI) × (List bI)):=
 ob (ix a 0) fun b=>
 ob (slc a 1 (a.length:Int)) fun e=>
 ob (kA b) fun f=>
 ob (loop (fun (s:(List (Tr bI) × List bI × Int))=>nF d f s.1 s.2.1 s.2.2) ([],e,0)) fun r=>zD b r.1 r.2
def gW:Nat->(List bI)->Option ((Tr bI) × (List bI))
 |0=>fun _=>none
 |n+1=>gV (gW n)
def aDU (a:(List bI)):Option ((Tr bI) × (List bI)):=
 gW 100000 a
def aGO (a:(List bI)):Option (Tr bI):=
 ob (aDU a) fun b=>
 some b.1
def pK (b:Bool) (a:aK):Option aK:=
 if b then (ob (eJ ([33]:aK) a) fun c=>
 some c) else (some a)
def zE (a:aK) (b:Bool):Option aK:=
 ob (kH a ([42]:aK)) fun c=>
 if (a == ([]:aK)) then (pK b ([95]:aK)) else (if c.2 then (ob (eJ c.1 ([40,42,41]:aK)) fun d=>
 pK b d) else (pK b a))
def mA:Option Int:=
 some (-1)
def dF (b:(List Int)) (c a:Int):Option (Int ⊕ (Unit ⊕ Int)):=
 if (decide (a < (b.length:Int))) then (ob (ix b a) fun d=>
 if (c == d) then (some (.inr (.inr a))) else (some (.inl (wr (a+1))))) else (some (.inr (.inl ())))
def eT (b:(List Int)) (c:Int):Option Int:=
 ob (loop (fun (s:Int)=>dF b c s) 0) fun r=>match r with|.inl r=>mA|.inr r=>some r
def cF (a:(List Int)) (b:Int):Option Bool:=
 ob (eT a b) fun c=>
 some (decide (0<=c))
def eN (c:(Tr bI)->Option aK) (a:(Tr bI)) (d:(List Int)):Option aK:=
 ob (cF d a.val.Kind) fun e=>
 if e then (ob (c a) fun f=>
 ob (eJ ([40]:aK) f) fun g=>
 ob (eJ g ([41]:aK)) fun h=>
 some h) else (ob (c a) fun i=>
 some i)
def aDr (a:aK):Option aK:=
 some a
def aDs (a:aK):Option aK:=
 some a
def aDt (a:aK):Option aK:=
 some a
def aDu (a:aK):Option aK:=
 some a
def aDv (a:aK):Option aK:=
 some a
def gD (b:(Tr bI)->Option aK) (a:(Tr bI)):Option aK:=
 if (a.val.Kind == 0) then (some ([116,114,117,101]:aK)) else (if (a.val.Kind == 1) then (some ([102,97,108,115,101]:aK)) else (if (a.val.Kind == 2) then (ob (ix a.kids 0) fun c=>
 ob (ix a.kids 1) fun d=>
 ob (eN b c ([2,3]:List Int)) fun e=>
 ob (eJ e ([32,38,32]:aK)) fun f=>
 ob (eN b d ([3]:List Int)) fun g=>
 ob (eJ f g) fun h=>
 aDr h) else (if (a.val.Kind == 3) then (ob (ix a.kids 0) fun i=>
 ob (ix a.kids 1) fun j=>
 ob (eN b i ([3]:List Int)) fun k=>
 ob (eJ k ([32,124,32]:aK)) fun l=>
 ob (eN b j []) fun m=>
 ob (eJ l m) fun n=>
 some n) else (if (a.val.Kind == 4) then (ob (ix a.kids 0) fun o=>
 ob (zE a.val.B a.val.Not) fun p=>
 ob (eJ ([60]:aK) p) fun q=>
 ob (eJ q ([62]:aK)) fun r=>
 ob (eN b o ([2,3]:List Int)) fun s=>
 ob (eJ r s) fun t=>
 aDs t) else (if (a.val.Kind == 5) then (ob (ix a.kids 0) fun u=>
 ob (zE a.val.B a.val.Not) fun v=>
 ob (eJ ([91]:aK) v) fun w=>
 ob (eJ w ([93]:aK)) fun x=>
 ob (eN b u ([2,3]:List Int)) fun y=>
 ob (eJ x y) fun z=>
 aDt z) else (if (a.val.Kind == 7) then (ob (ix a.kids 0) fun a0=>
 ob (gN a.val.Variable) fun a1=>
 ob (eJ ([109,117,32,88]:aK) a1) fun a2=>
 ob (eJ a2 ([46]:aK)) fun a3=>
 ob (eN b a0 ([2,3]:List Int)) fun a4=>
 ob (eJ a3 a4) fun a5=>
 aDu a5) else (if (a.val.Kind == 8) then (ob (ix a.kids 0) fun a6=>
 ob (gN a.val.Variable) fun a7=>
 ob (eJ ([110,117,32,88]:aK) a7) fun a8=>
 ob (eJ a8 ([46]:aK)) fun a9=>
 ob (eN b a6 ([2,3]:List Int)) fun b0=>
 ob (eJ a9 b0) fun b1=>
 aDv b1) else (ob (gN a.val.Variable) fun b2=>
 ob (eJ ([88]:aK) b2) fun b3=>
 some b3))))))))
def eC:Nat->(Tr bI)->Option aK
 |0=>fun _=>none
 |n+1=>gD (eC n)
def aCF (a:(Tr bI)):Option aK:=
 eC 100000 a
def pL (a:(List bI)):Option aK:=
 ob (gO a) fun b=>
 if (!b) then (some ([]:aK)) else (ob (aGO a) fun c=>
 ob (aCF c) fun d=>
 some d)
def xE (d:Definition):Option Bool:=
 ob (fU d.Parameters 0 3) fun b=>
 some (!b)
def fJ:Option Int:=
 some (-1)
def bZ (b:(List Definition)) (a:Int):Option (Int ⊕ (Unit ⊕ Int)):=
 if (decide (a < (b.length:Int))) then (ob (ix b a) fun c=>
 ob (xE c) fun d=>
 if d then (some (.inr (.inr a))) else (some (.inl (wr (a+1))))) else (some (.inr (.inl ())))
def cV (b:(List Definition)):Option Int:=
 ob (loop (fun (s:Int)=>bZ b s) 0) fun r=>match r with|.inl r=>fJ|.inr r=>some r
def cN (a:(List Definition)):Option Bool:=
 ob (cV a) fun b=>
 some (decide (0<=b))
def xF (a:(List Definition)):Option Bool:=
 ob (cN a) fun b=>
 some (!b)
def rA (d:Definition) (p:aK):Option Bool:=
 some (d.Name == p)
def fE:Option Int:=
 some (-1)
def bV (b:(List Definition)) (c:aK) (a:Int):Option (Int ⊕ (Unit ⊕ Int)):=
 if (decide (a < (b.length:Int))) then (ob (ix b a) fun d=>
 ob (rA d c) fun e=>
 if e then (some (.inr (.inr a))) else (some (.inl (wr (a+1))))) else (some (.inr (.inl ())))
def cO (b:(List Definition)) (c:aK):Option Int:=
 ob (loop (fun (s:Int)=>bV b c s) 0) fun r=>match r with|.inl r=>fE|.inr r=>some r
def mB (a:(List Definition)) (b:aK):Option Int:=
 ob (cO a b) fun c=>
 some c
def sC (p:bH) (b:Bool):Option Int:=
 if b then (some 1) else (if (p.Kind == 2) then (some 2) else (some 0))
def tP (p:bH):Option Int:=
 if (p.Kind == 1) then (sC p (p.Kind == 1)) else (if (p.Kind == 3) then (sC p (p.Kind == 3)) else (sC p (p.Kind == 4)))
def mM (a:Int):Option Int:=
 some a
def gL (d:Definition) (a c:Int):Option ((Int × Int) ⊕ (Int ⊕ Int)):=
 if (decide (0 < c)) then (if (decide ((d.Body.length:Int)<=a)) then (some (.inr (.inr (-1)))) else (ob (ix d.Body a) fun e=>
 ob (tP e) fun f=>
 some (.inl (wr (a+1),wr (c+(wr (f - 1))))))) else (some (.inr (.inl a)))
def kY (d:Definition) (c:Int):Option Int:=
 ob (loop (fun (s:(Int × Int))=>gL d s.1 s.2) (c,1)) fun r=>match r with|.inl r=>mM r|.inr r=>some r
def iS (a:Int) (b:List dK):Option (Int × (List dK)):=
 some (a,b)
def eX (f:Int->dK->(List dK)->Definition->Definition->Option (Int × (List dK))) (a:Definition) (g:bH) (h i b c:Int) (d:List dK):Option ((Int × Int × List dK) ⊕ (Int × List dK)):=
 if (decide (c < i)) then (ob (f b ⟨h,g.Kind == 1⟩ d a a) fun e=>
 some (.inl (e.1,wr (c+1),e.2))) else (some (.inr (b,d)))
def cW (c:Int->dK->(List dK)->Definition->Definition->Option (Int × (List dK))) (d:Int) (e:Definition) (f:List dK) (a:bH) (g:Int):Option (Int × (List dK)):=
 ob (tP a) fun h=>
 ob (loop (fun (s:(Int × Int × List dK))=>eX c e a g h s.1 s.2.1 s.2.2) (wr (d+1),0,f)) fun r=>iS r.1 r.2
def dR (d:Int->dK->(List dK)->Definition->Definition->Option (Int × (List dK))) (a:Int) (p:dK) (e:(List dK)) (h f:Definition):Option (Int × (List dK)):=
 ob (ix e a) fun i=>
 ob (st e a (⟨p.scope,p.behind⟩:dK)) fun g=>
 ob (ix h.Body a) fun c=>
 if (c.Kind == 4) then (cW d a f g c (wr (p.scope+1))) else (cW d a f g c p.scope)
def cI:Nat->Int->dK->(List dK)->Definition->Definition->Option (Int × (List dK))
 |0=>fun _ _ _ _ _=>none
 |n+1=>dR (cI n)
def oE (a:Int) (p:dK) (c:(List dK)) (d e:Definition):Option (Int × (List dK)):=
 cI 100000 a p c d e
def kI (d:Definition):Option (List dK):=
 ob (mkz (d.Body.length:Int) (⟨0,false⟩:dK)) fun b=>
 ob (oE 0 ⟨d.Parameters,false⟩ b d d) fun c=>
 some c.2
def aBE (i many:Int):Option Bool:=
 ob (fU i 0 (wr (many - 1))) fun b=>
 some b
def eD (a:Bool):Option Bool:=
 some a
def kZ (p:bH) (c b:Bool):Option Bool:=
 ob (fU p.Kind 0 5) fun d=>
 if d then (if c then (if (p.Kind == 1) then (if b then (eD true) else (eD ((p.Arguments.length:Int) == 0))) else (if (p.Name == ([]:aK)) then (if b then (eD true) else (eD ((p.Arguments.length:Int) == 0))) else (eD false))) else (if (p.Number == 0) then (if (p.Kind == 1) then (if b then (eD true) else (eD ((p.Arguments.length:Int) == 0))) else (if (p.Name == ([]:aK)) then (if b then (eD true) else (eD ((p.Arguments.length:Int) == 0))) else (eD false))) else (eD false))) else (eD false)
def nG (p:bH) (b:Bool):Option Bool:=
 if (p.Kind == 1) then (kZ p b true) else (if (p.Kind == 3) then (kZ p b true) else (kZ p b (p.Kind == 5)))
def tQ (p:bH):Option Bool:=
 if (p.Kind == 4) then (nG p true) else (nG p (p.Kind == 5))
def mC (a:Bool):Option Bool:=
 some a
def rB (p:bH) (b:(List Definition)):Option Bool:=
 if (p.Kind == 1) then (if ((p.Arguments.length:Int) == 0) then (mC true) else (if (!(p.Name == ([116,97,117]:aK))) then (mC (decide ((p.Arguments.length:Int)<=2))) else (mC false))) else (if (p.Kind == 3) then (some ((p.Arguments.length:Int) == 1)) else (if (p.Kind == 5) then (ob (ix b p.Number) fun c=>
 some ((p.Arguments.length:Int) == c.Parameters)) else (some true)))
def uN (t:aS):Option Int:=
 if (t.Kind == 2) then (some 2) else (if (t.Kind == 3) then (some 1) else (some 0))
def aBF (t:aS) (b:Int):Option Bool:=
 if (t.Kind == 0) then (ob (aBO t.Value) fun c=>
 some c) else (if (t.Kind == 1) then (ob (fU t.Value 0 (wr (b - 1))) fun d=>
 some d) else (if (t.Kind == 2) then (ob (fU t.Value 0 8) fun e=>
 some e) else (if (t.Kind == 3) then (some (t.Value == 0)) else (some false))))
def aFR (a:Int):Option Bool:=
 some (a == 0)
def uO (a b:Int) (c:aS) (d:Bool):Option ((Int × Int) ⊕ (Int ⊕ Bool)):=
 if d then (some (.inr (.inr false))) else (ob (uN c) fun e=>
 some (.inl (wr (a+(wr (e - 1))),wr (b+1))))
def oW (e:(List aS)) (f a b:Int):Option ((Int × Int) ⊕ (Int ⊕ Bool)):=
 if (decide (b < (e.length:Int))) then (ob (ix e b) fun c=>
 if (a == 0) then (uO a b c true) else (ob (aBF c f) fun g=>
 uO a b c (!g))) else (some (.inr (.inl a)))
def lR (e:(List aS)) (c:Int) (d:Bool):Option Bool:=
 if d then (some false) else (ob (loop (fun (s:(Int × Int))=>oW e c s.1 s.2) (1,0)) fun r=>match r with|.inl r=>aFR r|.inr r=>some r)
def xG (e:(List aS)) (b c:Int):Option Bool:=
 ob (fU b 0 29) fun d=>
 if (!d) then (lR e b true) else (ob (fU c 1 60) fun f=>
 if (!f) then (lR e b true) else (ob (fU (e.length:Int) 1 c) fun g=>
 lR e b (!g)))
def zF (e:(List aS)) (p:dK):Option Bool:=
 ob (xG e p.scope 15) fun c=>
 some (!c)
def gI:Option Int:=
 some (-1)
def cL (b:(List (List aS))) (c:dK) (a:Int):Option (Int ⊕ (Unit ⊕ Int)):=
 if (decide (a < (b.length:Int))) then (ob (ix b a) fun d=>
 ob (zF d c) fun e=>
 if e then (some (.inr (.inr a))) else (some (.inl (wr (a+1))))) else (some (.inr (.inl ())))
def dZ (b:(List (List aS))) (c:dK):Option Int:=
 ob (loop (fun (s:Int)=>cL b c s) 0) fun r=>match r with|.inl r=>gI|.inr r=>some r
def dL (a:(List (List aS))) (b:dK):Option Bool:=
 ob (dZ a b) fun c=>
 some (decide (0<=c))
def lA (p:bH) (b:dK) (c:Bool):Option Int:=
 if c then (some 7) else (ob (dL p.Arguments b) fun d=>
 if d then (some 8) else (some 0))
def lB (p:bH) (b:dK) (c:Bool):Option Int:=
 if c then (some 6) else (if (p.Kind == 4) then (lA p b (decide (6<=b.scope))) else (lA p b false))
def gE (p:bH) (c:(List Definition)) (b:dK) (d:Bool):Option Int:=
 if d then (some 4) else (ob (rB p c) fun e=>
 if (!e) then (some 5) else (if (p.Kind == 5) then (lB p b (!b.behind)) else (lB p b false)))
def jD (p:bH) (b:(List Definition)) (c:dK) (d:Bool):Option Int:=
 if d then (some 3) else (if (p.Kind == 4) then (ob (fU p.Number 1 7) fun e=>
 if (!e) then (gE p b c true) else (if (p.Kind == 5) then (ob (aBE p.Number (b.length:Int)) fun f=>
 gE p b c (!f)) else (gE p b c false))) else (if (p.Kind == 5) then (ob (aBE p.Number (b.length:Int)) fun g=>
 gE p b c (!g)) else (gE p b c false)))
def pM (p:bH) (b:(List Definition)) (c:dK):Option Int:=
 ob (tQ p) fun d=>
 if (!d) then (some 2) else (if (p.Kind == 1) then (if (!(p.Name == ([116,97,117]:aK))) then (ob (lC p.Name) fun e=>
 jD p b c (!e)) else (jD p b c false)) else (jD p b c false))
def aGP:Option (Int × Int):=
 some (0,0)
def rC (e:(List Definition)) (d:Definition) (f:(List dK)) (a:Int):Option (Int ⊕ (Unit ⊕ (Int × Int))):=
 if (decide (a < (d.Body.length:Int))) then (ob (ix d.Body a) fun g=>
 ob (ix f a) fun h=>
 ob (pM g e h) fun c=>
 if (c != 0) then (some (.inr (.inr (a,c)))) else (some (.inl (wr (a+1))))) else (some (.inr (.inl ())))
def rD (c:(List Definition)) (d:Definition) (e:Bool):Option (Int × Int):=
 if e then (some (0,1)) else (ob (kI d) fun f=>
 ob (loop (fun (s:Int)=>rC c d f s) 0) fun r=>match r with|.inl r=>aGP|.inr r=>some r)
def vN (b:(List Definition)) (d:Definition):Option (Int × Int):=
 ob (fU (d.Body.length:Int) 1 20) fun c=>
 if (!c) then (rD b d true) else (ob (kY d 0) fun e=>
 rD b d (e != (d.Body.length:Int)))
def yA:Option Bool:=
 some true
def lK (a:(List Definition)) (b:Int) (c:Definition) (d:Bool):Option (Int ⊕ (Unit ⊕ Bool)):=
 if d then (some (.inr (.inr false))) else (ob (vN a c) fun e=>
 if (e.2 != 0) then (some (.inr (.inr false))) else (some (.inl (wr (b+1)))))
def iV (a:(List Definition)) (b:Int):Option (Int ⊕ (Unit ⊕ Bool)):=
 if (decide (b < (a.length:Int))) then (ob (ix a b) fun c=>
 ob (aCg c.Name) fun d=>
 if (!d) then (lK a b c true) else (ob (slc a 0 b) fun e=>
 ob (mB e c.Name) fun f=>
 lK a b c (decide (0<=f)))) else (some (.inr (.inl ())))
def iW (b:(List Definition)) (c:Bool):Option Bool:=
 if c then (some false) else (ob (loop (fun (s:Int)=>iV b s) 0) fun r=>match r with|.inl r=>yA|.inr r=>some r)
def gX (a:(List Definition)):Option Bool:=
 ob (fU (a.length:Int) 1 4) fun b=>
 if (!b) then (iW a true) else (ob (xF a) fun c=>
 iW a (!c))
def nH (a:Bool):Option Bool:=
 some a
def tR (b:(List Definition)) (c:bA):Option Bool:=
 ob (aBE c.Definition (b.length:Int)) fun d=>
 if d then (ob (ix b c.Definition) fun e=>
 if ((c.Values.length:Int) == e.Parameters) then (ob (aAA c.Values) fun f=>
 nH f) else (nH false)) else (nH false)
def mN (a:aK):Option Bool:=
 some (!(a == a))
def iX (a y:aK):Option Int:=
 ob (mN a) fun d=>
 ob (mN y) fun c=>
 if d then (if c then (some 0) else (some (-1))) else (if c then (some 1) else (if (nT a y) then (some (-1)) else (if (!(nT a y||a == y)) then (some 1) else (some 0))))
def kJ (a b:(List aK)):Option Int:=
 if (decide ((a.length:Int) < (b.length:Int))) then (some (-1)) else (some 0)
def bW (b c:(List aK)) (a:Int):Option (Int ⊕ (Unit ⊕ Int)):=
 if (decide (a < (b.length:Int))) then (ob (ix b a) fun e=>
 if (decide ((c.length:Int)<=a)) then (some (.inr (.inr 1))) else (ob (ix c a) fun f=>
 ob (iX e f) fun d=>
 if (d != 0) then (some (.inr (.inr d))) else (some (.inl (wr (a+1)))))) else (some (.inr (.inl ())))
def fP (b c:(List aK)):Option Int:=
 ob (loop (fun (s:Int)=>bW b c s) 0) fun r=>match r with|.inl r=>kJ b c|.inr r=>some r
def mD (a b:bD):Option Int:=
 ob (fP ([a.Left,a.Right]:List aK) ([b.Left,b.Right]:List aK)) fun e=>
 some e
def oF (a:Bool):Option Bool:=
 some a
def uP (o p:bD):Option Bool:=
 if (o.Left == p.Result) then (oF true) else (oF (o.Right == p.Result))
def fV:Option Int:=
 some (-1)
def cH (b:(List bD)) (c:bD) (a:Int):Option (Int ⊕ (Unit ⊕ Int)):=
 if (decide (a < (b.length:Int))) then (ob (ix b a) fun d=>
 ob (uP d c) fun e=>
 if e then (some (.inr (.inr a))) else (some (.inl (wr (a+1))))) else (some (.inr (.inl ())))
def dO (b:(List bD)) (c:bD):Option Int:=
 ob (loop (fun (s:Int)=>cH b c s) 0) fun r=>match r with|.inl r=>fV|.inr r=>some r
def dG (a:(List bD)) (b:bD):Option Bool:=
 ob (dO a b) fun c=>
 some (decide (0<=c))
def aFS (a:(List bD)):Option Bool:=
 some (decide ((a.length:Int)<=6))
def fZ (a:(List bD)) (b:Int) (c:bD) (d:Bool):Option (Int ⊕ (Unit ⊕ Bool)):=
 if d then (some (.inr (.inr false))) else (ob (dG a c) fun e=>
 if e then (some (.inr (.inr false))) else (some (.inl (wr (b+1)))))
def iP (c:(List bD)) (b:Int):Option (Int ⊕ (Unit ⊕ Bool)):=
 if (decide (b < (c.length:Int))) then (ob (ix c b) fun a=>
 ob (lC a.Left) fun d=>
 if (!d) then (fZ c b a true) else (ob (lC a.Right) fun e=>
 if (!e) then (fZ c b a true) else (ob (lC a.Result) fun f=>
 if (!f) then (fZ c b a true) else (if (!(nT a.Left a.Right||a.Left == a.Right)) then (fZ c b a true) else (if (decide (0 < b)) then (ob (ix c (wr (b - 1))) fun g=>
 ob (mD g a) fun h=>
 fZ c b a (decide (0<=h))) else (fZ c b a false)))))) else (some (.inr (.inl ())))
def oG (b:(List bD)):Option Bool:=
 ob (loop (fun (s:Int)=>iP b s) 0) fun r=>match r with|.inl r=>aFS b|.inr r=>some r
def aFr (a:(List aK)):Option Bool:=
 some (decide ((a.length:Int)<=12))
def xH (a:Int) (b:Bool):Option (Int ⊕ (Unit ⊕ Bool)):=
 if b then (some (.inr (.inr false))) else (some (.inl (wr (a+1))))
def xI (b:(List aK)) (a:Int):Option (Int ⊕ (Unit ⊕ Bool)):=
 if (decide (a < (b.length:Int))) then (ob (ix b a) fun c=>
 ob (lC c) fun e=>
 if (!e) then (xH a true) else (if (decide (0 < a)) then (ob (ix b (wr (a - 1))) fun d=>
 xH a (nT c d||c == d)) else (xH a false))) else (some (.inr (.inl ())))
def aBR (b:(List aK)):Option Bool:=
 ob (loop (fun (s:Int)=>xI b s) 0) fun r=>match r with|.inl r=>aFr b|.inr r=>some r
def zH (c:bA) (p:bM):Option Bool:=
 ob (tR p.Definitions c) fun d=>
 some (!d)
def fN:Option Int:=
 some (-1)
def cC (b:(List bA)) (c:bM) (a:Int):Option (Int ⊕ (Unit ⊕ Int)):=
 if (decide (a < (b.length:Int))) then (ob (ix b a) fun d=>
 ob (zH d c) fun e=>
 if e then (some (.inr (.inr a))) else (some (.inl (wr (a+1))))) else (some (.inr (.inl ())))
def dD (b:(List bA)) (c:bM):Option Int:=
 ob (loop (fun (s:Int)=>cC b c s) 0) fun r=>match r with|.inl r=>fN|.inr r=>some r
def cT (a:(List bA)) (b:bM):Option Bool:=
 ob (dD a b) fun c=>
 some (decide (0<=c))
def sD (a:bM) (b:Bool):Option Int:=
 if b then (some 2) else (ob (oG a.Meetings) fun c=>
 if (!c) then (some 3) else (ob (aBR a.Allowed) fun d=>
 if (!d) then (some 4) else (ob (aBR a.Hidden) fun e=>
 if (!e) then (some 5) else (some 0))))
def tS (a:bM):Option Int:=
 ob (gX a.Definitions) fun b=>
 if (!b) then (some 1) else (ob (fU (a.Components.length:Int) 1 3) fun c=>
 if (!c) then (sD a true) else (ob (cT a.Components a) fun d=>
 sD a d))
def mH (a:bM):Option Bool:=
 ob (tS a) fun b=>
 some (b == 0)
def aDV (a:aS) (b:List (Tr aS)) (c:List aS):Option ((Tr aS) × (List aS)):=
 some ((Tr.mk a b),c)
def tT (e:(List aS)->Option ((Tr aS) × (List aS))) (f:Int) (a:List (Tr aS)) (b:List aS) (c:Int):Option ((List (Tr aS) × List aS × Int) ⊕ (List (Tr aS) × List aS)):=
 if (decide (c < f)) then (ob (e b) fun d=>
 ob (oN a ([d.1]:List (Tr aS))) fun g=>
 some (.inl (g,d.2,wr (c+1)))) else (some (.inr (a,b)))
def kQ (d:(List aS)->Option ((Tr aS) × (List aS))) (e:(List aS)):Option ((Tr aS) × (List aS)):=
 ob (ix e 0) fun b=>
 ob (slc e 1 (e.length:Int)) fun f=>
 ob (uN b) fun g=>
 ob (loop (fun (s:(List (Tr aS) × List aS × Int))=>tT d g s.1 s.2.1 s.2.2) ([],f,0)) fun r=>aDV b r.1 r.2
def kR:Nat->(List aS)->Option ((Tr aS) × (List aS))
 |0=>fun _=>none
 |n+1=>kQ (kR n)
def aIZ (e:(List aS)):Option ((Tr aS) × (List aS)):=
 kR 100000 e
def aJa (e:(List aS)):Option (Tr aS):=
 ob (aIZ e) fun b=>
 some b.1
def iJ (a:(Tr aS)):Option Int:=
 if (a.val.Kind == 2) then (ob (ix aLc a.val.Value) fun b=>
 some b) else (some 9)
def fW (b:(Tr aS)->Option aK) (a:(Tr aS)) (d:Bool):Option aK:=
 if d then (ob (b a) fun e=>
 ob (eJ ([40]:aK) e) fun f=>
 ob (eJ f ([41]:aK)) fun g=>
 some g) else (ob (b a) fun h=>
 some h)
def jJ (b:(Tr aS)->Option aK) (a:(Tr aS)):Option aK:=
 if (a.val.Kind == 0) then (ob (gN a.val.Value) fun g=>
 some g) else (if (a.val.Kind == 1) then (ob (gN a.val.Value) fun h=>
 ob (eJ ([118]:aK) h) fun i=>
 some i) else (if (a.val.Kind == 3) then (ob (ix a.kids 0) fun c=>
 ob (fW b c (c.val.Kind == 2)) fun j=>
 ob (eJ ([33]:aK) j) fun k=>
 some k) else (ob (ix a.kids 0) fun d=>
 ob (ix a.kids 1) fun e=>
 ob (iJ a) fun f=>
 ob (ix aIP a.val.Value) fun l=>
 ob (iJ d) fun m=>
 ob (fW b d (decide (m < f))) fun n=>
 ob (eJ n l) fun o=>
 ob (iJ e) fun p=>
 ob (fW b e (decide (p<=f))) fun q=>
 ob (eJ o q) fun r=>
 some r)))
def gA:Nat->(Tr aS)->Option aK
 |0=>fun _=>none
 |n+1=>jJ (gA n)
def aAJ (a:(Tr aS)):Option aK:=
 gA 100000 a
def aGQ (a:List aK):Option aK:=
 ob (yJ a ([44]:aK)) fun b=>
 ob (eJ ([40]:aK) b) fun c=>
 ob (eJ c ([41]:aK)) fun d=>
 some d
def aDw (b:(List (List aS))) (c:List aK) (a:Int):Option ((List aK × Int) ⊕ (List aK)):=
 if (decide (a < (b.length:Int))) then (ob (ix b a) fun d=>
 ob (aJa d) fun e=>
 ob (aAJ e) fun f=>
 ob (oN c ([f]:List aK)) fun g=>
 some (.inl (g,wr (a+1)))) else (some (.inr c))
def aAK (a:(List (List aS))):Option aK:=
 if ((a.length:Int) == 0) then (some ([]:aK)) else (ob (loop (fun (s:(List aK × Int))=>aDw a s.1 s.2) ([],0)) fun r=>aGQ r)
def jE (b:(List Definition)->(List bH)->Option (aK × (List bH))) (c:(List Definition)) (a:(List bH)):Option (aK × (List bH)):=
 ob (ix a 0) fun f=>
 if (f.Kind == 2) then (ob (b c a) fun d=>
 ob (eJ ([40]:aK) d.1) fun g=>
 ob (eJ g ([41]:aK)) fun h=>
 some (h,d.2)) else (ob (b c a) fun e=>
 some (e.1,e.2))
def sP (d:(List Definition)->(List bH)->Option (aK × (List bH))) (b:(List Definition)) (e:(List bH)):Option (aK × (List bH)):=
 ob (ix e 0) fun a=>
 ob (slc e 1 (e.length:Int)) fun c=>
 if (a.Kind == 1) then (ob (aAK a.Arguments) fun k=>
 ob (eJ a.Name k) fun l=>
 ob (eJ l ([46]:aK)) fun m=>
 ob (jE d b c) fun f=>
 ob (eJ m f.1) fun n=>
 some (n,f.2)) else (if (a.Kind == 2) then (ob (jE d b c) fun g=>
 ob (eJ g.1 ([32,43,32]:aK)) fun o=>
 ob (d b g.2) fun h=>
 ob (eJ o h.1) fun p=>
 some (p,h.2)) else (if (a.Kind == 3) then (ob (ix a.Arguments 0) fun q=>
 ob (aJa q) fun r=>
 ob (aAJ r) fun s=>
 ob (eJ ([91]:aK) s) fun t=>
 ob (eJ t ([93]:aK)) fun u=>
 ob (jE d b c) fun i=>
 ob (eJ u i.1) fun v=>
 some (v,i.2)) else (if (a.Kind == 4) then (ob (gN a.Number) fun w=>
 ob (eJ ([115,117,109,32]:aK) w) fun x=>
 ob (eJ x ([46]:aK)) fun y=>
 ob (jE d b c) fun j=>
 ob (eJ y j.1) fun z=>
 some (z,j.2)) else (if (a.Kind == 5) then (ob (ix b a.Number) fun a0=>
 ob (aAK a.Arguments) fun a1=>
 ob (eJ a0.Name a1) fun a2=>
 some (a2,c)) else (some (([48]:aK),c))))))
def kK:Nat->(List Definition)->(List bH)->Option (aK × (List bH))
 |0=>fun _ _=>none
 |n+1=>sP (kK n)
def aKl (a:(List Definition)) (b:(List bH)):Option (aK × (List bH)):=
 kK 100000 a b
def fX (b:(List Definition)->(List bH)->Option (aK × (List bH))) (c:(List Definition)) (a:(List bH)):Option (aK × (List bH)):=
 ob (ix a 0) fun f=>
 if (f.Kind == 2) then (ob (b c a) fun d=>
 ob (eJ ([40]:aK) d.1) fun g=>
 ob (eJ g ([41]:aK)) fun h=>
 some (h,d.2)) else (ob (b c a) fun e=>
 some (e.1,e.2))
def fG (d:(List Definition)->(List bH)->Option (aK × (List bH))) (b:(List Definition)) (e:(List bH)):Option (aK × (List bH)):=
 ob (ix e 0) fun a=>
 ob (slc e 1 (e.length:Int)) fun c=>
 if (a.Kind == 1) then (ob (aAK a.Arguments) fun k=>
 ob (eJ a.Name k) fun l=>
 ob (eJ l ([46]:aK)) fun m=>
 ob (fX d b c) fun f=>
 ob (eJ m f.1) fun n=>
 some (n,f.2)) else (if (a.Kind == 2) then (ob (fX d b c) fun g=>
 ob (eJ g.1 ([32,43,32]:aK)) fun o=>
 ob (d b g.2) fun h=>
 ob (eJ o h.1) fun p=>
 some (p,h.2)) else (if (a.Kind == 3) then (ob (ix a.Arguments 0) fun q=>
 ob (aJa q) fun r=>
 ob (aAJ r) fun s=>
 ob (eJ ([91]:aK) s) fun t=>
 ob (eJ t ([93]:aK)) fun u=>
 ob (fX d b c) fun i=>
 ob (eJ u i.1) fun v=>
 some (v,i.2)) else (if (a.Kind == 4) then (ob (gN a.Number) fun w=>
 ob (eJ ([115,117,109,32]:aK) w) fun x=>
 ob (eJ x ([46]:aK)) fun y=>
 ob (fX d b c) fun j=>
 ob (eJ y j.1) fun z=>
 some (z,j.2)) else (if (a.Kind == 5) then (ob (ix b a.Number) fun a0=>
 ob (aAK a.Arguments) fun a1=>
 ob (eJ a0.Name a1) fun a2=>
 some (a2,c)) else (some (([48]:aK),c))))))
def eI:Nat->(List Definition)->(List bH)->Option (aK × (List bH))
 |0=>fun _ _=>none
 |n+1=>fG (eI n)
def xJ (a:(List Definition)) (b:(List bH)):Option (aK × (List bH)):=
 eI 100000 a b
def nI (b:(List Definition)) (d:Definition):Option aK:=
 ob (eJ ([112,114,111,99,32]:aK) d.Name) fun c=>
 ob (eJ c ([32]:aK)) fun e=>
 ob (gN d.Parameters) fun f=>
 ob (eJ e f) fun g=>
 ob (eJ g ([32,61,32]:aK)) fun h=>
 ob (xJ b d.Body) fun i=>
 ob (eJ h i.1) fun j=>
 some j
def pZ (a:List aK):Option (List aK):=
 some a
def jU (a:bM) (b:List aK):Option (List aK):=
 if (decide (0 < (a.Hidden.length:Int))) then (ob (yJ a.Hidden ([32]:aK)) fun c=>
 ob (eJ ([104,105,100,101,32]:aK) c) fun d=>
 ob (oN b ([d]:List aK)) fun e=>
 pZ e) else (pZ b)
def qA (a:bM) (b:List aK):Option (List aK):=
 if (decide (0 < (a.Allowed.length:Int))) then (ob (yJ a.Allowed ([32]:aK)) fun c=>
 ob (eJ ([97,108,108,111,119,32]:aK) c) fun d=>
 ob (oN b ([d]:List aK)) fun e=>
 jU a e) else (jU a b)
def qB (c:bM) (d:List aK) (a:Int):Option ((List aK × Int) ⊕ (List aK)):=
 if (decide (a < (c.Meetings.length:Int))) then (ob (ix c.Meetings a) fun b=>
 ob (eJ ([109,101,101,116,32]:aK) b.Left) fun e=>
 ob (eJ e ([32]:aK)) fun f=>
 ob (eJ f b.Right) fun g=>
 ob (eJ g ([32]:aK)) fun h=>
 ob (eJ h b.Result) fun i=>
 ob (oN d ([i]:List aK)) fun j=>
 some (.inl (j,wr (a+1)))) else (some (.inr d))
def qC (a:bM) (b c:List aK):Option (List aK):=
 ob (yJ c ([32,124,32]:aK)) fun d=>
 ob (eJ ([114,117,110,32]:aK) d) fun e=>
 ob (oN b ([e]:List aK)) fun f=>
 ob (loop (fun (s:(List aK × Int))=>qB a s.1 s.2) (f,0)) fun r=>qA a r
def qD (a:List aK) (b:Int) (c:aK):Option ((List aK × Int) ⊕ (List aK)):=
 ob (oN a ([c]:List aK)) fun d=>
 some (.inl (d,wr (b+1)))
def mE (b:bM) (c:List aK) (a:Int):Option ((List aK × Int) ⊕ (List aK)):=
 if (decide (a < (b.Components.length:Int))) then (ob (ix b.Components a) fun d=>
 ob (ix b.Definitions d.Definition) fun e=>
 if (decide (0 < (d.Values.length:Int))) then (ob (aAy d.Values ([44]:aK)) fun f=>
 ob (eJ ([40]:aK) f) fun g=>
 ob (eJ g ([41]:aK)) fun h=>
 ob (eJ e.Name h) fun i=>
 qD c a i) else (qD c a e.Name)) else (some (.inr c))
def qE (a:bM) (b:List aK):Option (List aK):=
 ob (loop (fun (s:(List aK × Int))=>mE a s.1 s.2) ([],0)) fun r=>qC a b r
def qF (a:bM) (c:List aK) (b:Int):Option ((List aK × Int) ⊕ (List aK)):=
 if (decide (b < (a.Definitions.length:Int))) then (ob (ix a.Definitions b) fun d=>
 ob (nI a.Definitions d) fun e=>
 ob (oN c ([e]:List aK)) fun f=>
 some (.inl (f,wr (b+1)))) else (some (.inr c))
def rE (a:bM):Option (List aK):=
 ob (loop (fun (s:(List aK × Int))=>qF a s.1 s.2) ([],0)) fun r=>qE a r
def sE (a:bM):Option aK:=
 ob (mH a) fun b=>
 if (!b) then (some ([]:aK)) else (ob (rE a) fun c=>
 ob (yJ c ([10]:aK)) fun d=>
 some d)
def iY:Option Bool:=
 some true
def iZ (b c:(List Edge)) (a:Int):Option (Int ⊕ (Unit ⊕ Bool)):=
 if (decide (a < (b.length:Int))) then (ob (ix b a) fun d=>
 ob (ix c a) fun e=>
 if (!decide ((d:Edge)=e)) then (some (.inr (.inr false))) else (some (.inl (wr (a+1))))) else (some (.inr (.inl ())))
def eE (b c:(List Edge)):Option Bool:=
 if ((b.length:Int) != (c.length:Int)) then (some false) else (ob (loop (fun (s:Int)=>iZ b c s) 0) fun r=>match r with|.inl r=>iY|.inr r=>some r)
def lI:Option Bool:=
 some true
def uZ (b c:(List aK)) (a:Int):Option (Int ⊕ (Unit ⊕ Bool)):=
 if (decide (a < (b.length:Int))) then (ob (ix b a) fun d=>
 ob (ix c a) fun e=>
 if (!(d == e)) then (some (.inr (.inr false))) else (some (.inl (wr (a+1))))) else (some (.inr (.inl ())))
def dI (b c:(List aK)):Option Bool:=
 if ((b.length:Int) != (c.length:Int)) then (some false) else (ob (loop (fun (s:Int)=>uZ b c s) 0) fun r=>match r with|.inl r=>lI|.inr r=>some r)
def sF (a:Bool):Option Bool:=
 some a
def aEy (a b:gM):Option Bool:=
 if (a.N == b.N) then (if (a.I == b.I) then (ob (dI a.L b.L) fun e=>
 if e then (ob (eE a.E b.E) fun f=>
 sF f) else (sF false)) else (sF false)) else (sF false)
def jA:Option Bool:=
 some true
def jB (b c:(List aS)) (a:Int):Option (Int ⊕ (Unit ⊕ Bool)):=
 if (decide (a < (b.length:Int))) then (ob (ix b a) fun d=>
 ob (ix c a) fun e=>
 if (!decide ((d:aS)=e)) then (some (.inr (.inr false))) else (some (.inl (wr (a+1))))) else (some (.inr (.inl ())))
def gF (b c:(List aS)):Option Bool:=
 if ((b.length:Int) != (c.length:Int)) then (some false) else (ob (loop (fun (s:Int)=>jB b c s) 0) fun r=>match r with|.inl r=>jA|.inr r=>some r)
def dX:Option Bool:=
 some true
def dY (b c:(List (List aS))) (a:Int):Option (Int ⊕ (Unit ⊕ Bool)):=
 if (decide (a < (b.length:Int))) then (ob (ix b a) fun d=>
 ob (ix c a) fun e=>
 ob (gF d e) fun f=>
 if (!f) then (some (.inr (.inr false))) else (some (.inl (wr (a+1))))) else (some (.inr (.inl ())))
def cM (b c:(List (List aS))):Option Bool:=
 if ((b.length:Int) != (c.length:Int)) then (some false) else (ob (loop (fun (s:Int)=>dY b c s) 0) fun r=>match r with|.inl r=>dX|.inr r=>some r)
def tU (a:Bool):Option Bool:=
 some a
def aJb (a b:bH):Option Bool:=
 if (a.Kind == b.Kind) then (if (a.Number == b.Number) then (if (a.Name == b.Name) then (ob (cM a.Arguments b.Arguments) fun e=>
 tU e) else (tU false)) else (tU false)) else (tU false)
def eR:Option Bool:=
 some true
def eS (b c:(List bH)) (a:Int):Option (Int ⊕ (Unit ⊕ Bool)):=
 if (decide (a < (b.length:Int))) then (ob (ix b a) fun d=>
 ob (ix c a) fun e=>
 ob (aJb d e) fun f=>
 if (!f) then (some (.inr (.inr false))) else (some (.inl (wr (a+1))))) else (some (.inr (.inl ())))
def dE (b c:(List bH)):Option Bool:=
 if ((b.length:Int) != (c.length:Int)) then (some false) else (ob (loop (fun (s:Int)=>eS b c s) 0) fun r=>match r with|.inl r=>eR|.inr r=>some r)
def mO (a:Bool):Option Bool:=
 some a
def zJ (a b:Definition):Option Bool:=
 if (a.Name == b.Name) then (if (a.Parameters == b.Parameters) then (ob (dE a.Body b.Body) fun e=>
 mO e) else (mO false)) else (mO false)
def mF:Option Bool:=
 some true
def xK (b c:(List Int)) (a:Int):Option (Int ⊕ (Unit ⊕ Bool)):=
 if (decide (a < (b.length:Int))) then (ob (ix b a) fun d=>
 ob (ix c a) fun e=>
 if (d != e) then (some (.inr (.inr false))) else (some (.inl (wr (a+1))))) else (some (.inr (.inl ())))
def jP (b c:(List Int)):Option Bool:=
 if ((b.length:Int) != (c.length:Int)) then (some false) else (ob (loop (fun (s:Int)=>xK b c s) 0) fun r=>match r with|.inl r=>mF|.inr r=>some r)
def vA (a:Bool):Option Bool:=
 some a
def aAZ (a b:bA):Option Bool:=
 if (a.Definition == b.Definition) then (ob (jP a.Values b.Values) fun e=>
 vA e) else (vA false)
def gP:Option Bool:=
 some true
def gQ (b c:(List bD)) (a:Int):Option (Int ⊕ (Unit ⊕ Bool)):=
 if (decide (a < (b.length:Int))) then (ob (ix b a) fun d=>
 ob (ix c a) fun e=>
 if (!decide ((d:bD)=e)) then (some (.inr (.inr false))) else (some (.inl (wr (a+1))))) else (some (.inr (.inl ())))
def dC (b c:(List bD)):Option Bool:=
 if ((b.length:Int) != (c.length:Int)) then (some false) else (ob (loop (fun (s:Int)=>gQ b c s) 0) fun r=>match r with|.inl r=>gP|.inr r=>some r)
def cQ:Option Bool:=
 some true
def cR (b c:(List Definition)) (a:Int):Option (Int ⊕ (Unit ⊕ Bool)):=
 if (decide (a < (b.length:Int))) then (ob (ix b a) fun d=>
 ob (ix c a) fun e=>
 ob (zJ d e) fun f=>
 if (!f) then (some (.inr (.inr false))) else (some (.inl (wr (a+1))))) else (some (.inr (.inl ())))
def bC (b c:(List Definition)):Option Bool:=
 if ((b.length:Int) != (c.length:Int)) then (some false) else (ob (loop (fun (s:Int)=>cR b c s) 0) fun r=>match r with|.inl r=>cQ|.inr r=>some r)
def cY:Option Bool:=
 some true
def cZ (b c:(List bA)) (a:Int):Option (Int ⊕ (Unit ⊕ Bool)):=
 if (decide (a < (b.length:Int))) then (ob (ix b a) fun d=>
 ob (ix c a) fun e=>
 ob (aAZ d e) fun f=>
 if (!f) then (some (.inr (.inr false))) else (some (.inl (wr (a+1))))) else (some (.inr (.inl ())))
def bF (b c:(List bA)):Option Bool:=
 if ((b.length:Int) != (c.length:Int)) then (some false) else (ob (loop (fun (s:Int)=>cZ b c s) 0) fun r=>match r with|.inl r=>cY|.inr r=>some r)
def kB (a:Bool):Option Bool:=
 some a
def xL (a b:bM):Option Bool:=
 ob (bC a.Definitions b.Definitions) fun e=>
 if e then (ob (bF a.Components b.Components) fun f=>
 if f then (ob (dC a.Meetings b.Meetings) fun g=>
 if g then (ob (dI a.Allowed b.Allowed) fun h=>
 if h then (ob (dI a.Hidden b.Hidden) fun i=>
 kB i) else (kB false)) else (kB false)) else (kB false)) else (kB false)
def pN (t:gM) (k:Int):Option Bool:=
 ob (fU k 0 (wr (t.N - 1))) fun c=>
 some c
def oH (a:Int):Option Bool:=
 some (a != a)
def fY (a y:Int):Option Int:=
 ob (oH a) fun d=>
 ob (oH y) fun c=>
 if d then (if c then (some 0) else (some (-1))) else (if c then (some 1) else (if (decide (a < y)) then (some (-1)) else (if (decide (y < a)) then (some 1) else (some 0))))
def zM:Option Int:=
 some 0
def hJ (b:(List Int)) (a:Int):Option (Int ⊕ (Unit ⊕ Int)):=
 if (decide (a < (b.length:Int))) then (ob (ix b a) fun c=>
 if (c != 0) then (some (.inr (.inr c))) else (some (.inl (wr (a+1))))) else (some (.inr (.inl ())))
def tV (b:(List Int)):Option Int:=
 ob (loop (fun (s:Int)=>hJ b s) 0) fun r=>match r with|.inl r=>zM|.inr r=>some r
def rF (a b:Edge):Option Int:=
 ob (fY a.F b.F) fun e=>
 ob (fY a.B b.B) fun f=>
 ob (fY a.To b.To) fun g=>
 ob (tV ([e,f,g]:List Int)) fun h=>
 some h
def aIt:Option Bool:=
 some true
def mI (a:Int) (b:Bool):Option (Int ⊕ (Unit ⊕ Bool)):=
 if b then (some (.inr (.inr false))) else (some (.inl (wr (a+1))))
def tW (t:gM) (a:Int):Option (Int ⊕ (Unit ⊕ Bool)):=
 if (decide (a < (t.E.length:Int))) then (ob (ix t.E a) fun c=>
 ob (pN t c.F) fun d=>
 if (!d) then (mI a true) else (ob (pN t c.To) fun e=>
 if (!e) then (mI a true) else (ob (aBE c.B (t.L.length:Int)) fun f=>
 if (!f) then (mI a true) else (if (decide (0 < a)) then (ob (ix t.E (wr (a - 1))) fun g=>
 ob (rF g c) fun h=>
 mI a (decide (0<=h))) else (mI a false))))) else (some (.inr (.inl ())))
def aAl (t:gM):Option Bool:=
 ob (loop (fun (s:Int)=>tW t s) 0) fun r=>match r with|.inl r=>aIt|.inr r=>some r
def pO (a:Int) (b:Bool):Option (Int ⊕ (Unit ⊕ Bool)):=
 if b then (some (.inr (.inr false))) else (some (.inl (wr (a+1))))
def tX (t:gM) (a:Int):Option (Int ⊕ (Unit ⊕ Bool)):=
 if (decide (a < (t.L.length:Int))) then (ob (ix t.L a) fun b=>
 ob (aEi b) fun e=>
 if (!e) then (pO a true) else (if ((b == ([116,97,117]:aK)) != (a == 0)) then (pO a true) else (if (decide (1 < a)) then (ob (ix t.L (wr (a - 1))) fun d=>
 pO a (nT b d||b == d)) else (pO a false)))) else (some (.inr (.inl ())))
def mJ (t:gM) (c:Bool):Option Bool:=
 if c then (some false) else (ob (loop (fun (s:Int)=>tX t s) 0) fun r=>match r with|.inl r=>aAl t|.inr r=>some r)
def zN (t:gM):Option Bool:=
 ob (fU t.N 1 40) fun b=>
 if (!b) then (mJ t true) else (ob (pN t t.I) fun c=>
 if (!c) then (mJ t true) else (ob (fU (t.L.length:Int) 1 12) fun d=>
 if (!d) then (mJ t true) else (mJ t (decide (300 < (t.E.length:Int))))))
def rG (a:Bool):Option Bool:=
 some a
def nJ (a:Bool):Option Bool:=
 some a
def nK (a:Bool):Option Bool:=
 some a
def jQ (k:Kept):Option Bool:=
 ob (aCg k.Name) fun d=>
 if (!d) then (some false) else (ob (aEy k.S ⟨0,0,[],[]⟩) fun b=>
 ob (xL k.Source ⟨[],[],[],[],[]⟩) fun c=>
 if (k.Kind == 1) then (ob (zN k.S) fun e=>
 if e then (if ((k.Formula.length:Int) == 0) then (rG c) else (rG false)) else (rG false)) else (if (k.Kind == 2) then (ob (gO k.Formula) fun f=>
 if f then (ob (pL k.Formula) fun g=>
 if (decide ((g.length:Int)<=400)) then (if b then (nJ c) else (nJ false)) else (nJ false)) else (nJ false)) else (if (k.Kind == 3) then (ob (mH k.Source) fun h=>
 if h then (ob (sE k.Source) fun i=>
 if (decide ((i.length:Int)<=16000)) then (if b then (nK ((k.Formula.length:Int) == 0)) else (nK false)) else (nK false)) else (nK false)) else (some false))))
def aCG (d:pR):Option Bool:=
 some (decide ((d.Kept.length:Int)<=12))
def rH (a:Int) (b:Bool):Option (Int ⊕ (Unit ⊕ Bool)):=
 if b then (some (.inr (.inr false))) else (some (.inl (wr (a+1))))
def rI (d:pR) (a:Int):Option (Int ⊕ (Unit ⊕ Bool)):=
 if (decide (a < (d.Kept.length:Int))) then (ob (ix d.Kept a) fun c=>
 ob (jQ c) fun f=>
 if (!f) then (rH a true) else (if (decide (0 < a)) then (ob (ix d.Kept (wr (a - 1))) fun e=>
 rH a (nT c.Name e.Name||c.Name == e.Name)) else (rH a false))) else (some (.inr (.inl ())))
def rJ (d:pR):Option Bool:=
 ob (loop (fun (s:Int)=>rI d s) 0) fun r=>match r with|.inl r=>aCG d|.inr r=>some r
def aFs (a:Int):Option aK:=
 ob (ix ([([]:aK),([115,121,115,116,101,109]:aK),([102,111,114,109,117,108,97]:aK),([115,111,117,114,99,101]:aK)]:List aK) a) fun b=>
 some b
def aFt (a:(List aK)):Option aK:=
 if ((a.length:Int) == 0) then (some ([45]:aK)) else (ob (yJ a ([32]:aK)) fun b=>
 some b)
def aBG (t:gM) (b:List aK):Option aK:=
 ob (gN t.N) fun c=>
 ob (eJ c ([32]:aK)) fun d=>
 ob (gN t.I) fun e=>
 ob (eJ d e) fun f=>
 ob (eJ f ([124]:aK)) fun g=>
 ob (slc t.L 1 (t.L.length:Int)) fun h=>
 ob (aFt h) fun i=>
 ob (eJ g i) fun j=>
 ob (eJ j ([124]:aK)) fun k=>
 ob (aFt b) fun l=>
 ob (eJ k l) fun m=>
 some m
def xM (t:gM) (d:List aK) (a:Int):Option ((List aK × Int) ⊕ (List aK)):=
 if (decide (a < (t.E.length:Int))) then (ob (ix t.E a) fun b=>
 ob (aAy ([b.F,b.B,b.To]:List Int) ([58]:aK)) fun e=>
 ob (oN d ([e]:List aK)) fun f=>
 some (.inl (f,wr (a+1)))) else (some (.inr d))
def aEz (t:gM):Option aK:=
 ob (zN t) fun b=>
 if (!b) then (some ([]:aK)) else (ob (loop (fun (s:(List aK × Int))=>xM t s.1 s.2) ([],0)) fun r=>aBG t r)
def aFu (k:Kept):Option aK:=
 if (k.Kind == 1) then (ob (aEz k.S) fun b=>
 some b) else (if (k.Kind == 2) then (ob (pL k.Formula) fun c=>
 some c) else (ob (sE k.Source) fun d=>
 ob (aBk d ([10]:aK) ([59]:aK)) fun e=>
 some e))
def aDW (a:List aK):Option aK:=
 ob (yJ a ([10]:aK)) fun b=>
 some b
def tY (d:pR) (e:List aK) (a:Int):Option ((List aK × Int) ⊕ (List aK)):=
 if (decide (a < (d.Kept.length:Int))) then (ob (ix d.Kept a) fun b=>
 ob (aFs b.Kind) fun f=>
 ob (eJ f ([32]:aK)) fun g=>
 ob (eJ g b.Name) fun h=>
 ob (eJ h ([32]:aK)) fun i=>
 ob (aFu b) fun j=>
 ob (eJ i j) fun k=>
 ob (oN e ([k]:List aK)) fun l=>
 some (.inl (l,wr (a+1)))) else (some (.inr e))
def vB (d:pR):Option aK:=
 ob (rJ d) fun b=>
 if (!b) then (some ([]:aK)) else (ob (loop (fun (s:(List aK × Int))=>tY d s.1 s.2) ([],0)) fun r=>aDW r)
def aGR:Option Bool:=
 some true
def xN (a b:(List aK)) (c:Int):Option (Int ⊕ (Unit ⊕ Bool)):=
 if (decide (c < (a.length:Int))) then (ob (ix a c) fun f=>
 ob (ix b c) fun g=>
 if (!(f == g)) then (some (.inr (.inr false))) else (some (.inl (wr (c+1))))) else (some (.inr (.inl ())))
def rK (a b:(List aK)):Option Bool:=
 if ((a.length:Int) != (b.length:Int)) then (some false) else (ob (loop (fun (s:Int)=>xN a b s) 0) fun r=>match r with|.inl r=>aGR|.inr r=>some r)
def aKm (a b:Edge):Option Bool:=
 if (a.F != b.F) then (some false) else (if (a.B != b.B) then (some false) else (if (a.To != b.To) then (some false) else (some true)))
def aKn:Option Bool:=
 some true
def aBH (a b:(List Edge)) (c:Int):Option (Int ⊕ (Unit ⊕ Bool)):=
 if (decide (c < (a.length:Int))) then (ob (ix a c) fun f=>
 ob (ix b c) fun g=>
 ob (aKm f g) fun h=>
 if (!h) then (some (.inr (.inr false))) else (some (.inl (wr (c+1))))) else (some (.inr (.inl ())))
def aEA (a b:(List Edge)):Option Bool:=
 if ((a.length:Int) != (b.length:Int)) then (some false) else (ob (loop (fun (s:Int)=>aBH a b s) 0) fun r=>match r with|.inl r=>aKn|.inr r=>some r)
def aMK (a b:gM):Option Bool:=
 if (a.N != b.N) then (some false) else (if (a.I != b.I) then (some false) else (ob (rK a.L b.L) fun e=>
 if (!e) then (some false) else (ob (aEA a.E b.E) fun f=>
 if (!f) then (some false) else (some true))))
def aKo (a b:bI):Option Bool:=
 if (a.Kind != b.Kind) then (some false) else (if (a.Variable != b.Variable) then (some false) else (if (!(a.B == b.B)) then (some false) else (if (a.Not != b.Not) then (some false) else (some true))))
def aKp:Option Bool:=
 some true
def aBI (a b:(List bI)) (c:Int):Option (Int ⊕ (Unit ⊕ Bool)):=
 if (decide (c < (a.length:Int))) then (ob (ix a c) fun f=>
 ob (ix b c) fun g=>
 ob (aKo f g) fun h=>
 if (!h) then (some (.inr (.inr false))) else (some (.inl (wr (c+1))))) else (some (.inr (.inl ())))
def aHD (a b:(List bI)):Option Bool:=
 if ((a.length:Int) != (b.length:Int)) then (some false) else (ob (loop (fun (s:Int)=>aBI a b s) 0) fun r=>match r with|.inl r=>aKp|.inr r=>some r)
def aKq (a b:aS):Option Bool:=
 if (a.Kind != b.Kind) then (some false) else (if (a.Value != b.Value) then (some false) else (some true))
def aKr:Option Bool:=
 some true
def aBJ (a b:(List aS)) (c:Int):Option (Int ⊕ (Unit ⊕ Bool)):=
 if (decide (c < (a.length:Int))) then (ob (ix a c) fun f=>
 ob (ix b c) fun g=>
 ob (aKq f g) fun h=>
 if (!h) then (some (.inr (.inr false))) else (some (.inl (wr (c+1))))) else (some (.inr (.inl ())))
def aHE (a b:(List aS)):Option Bool:=
 if ((a.length:Int) != (b.length:Int)) then (some false) else (ob (loop (fun (s:Int)=>aBJ a b s) 0) fun r=>match r with|.inl r=>aKr|.inr r=>some r)
def aIu:Option Bool:=
 some true
def aAm (a b:(List (List aS))) (c:Int):Option (Int ⊕ (Unit ⊕ Bool)):=
 if (decide (c < (a.length:Int))) then (ob (ix a c) fun f=>
 ob (ix b c) fun g=>
 ob (aHE f g) fun h=>
 if (!h) then (some (.inr (.inr false))) else (some (.inl (wr (c+1))))) else (some (.inr (.inl ())))
def aFv (a b:(List (List aS))):Option Bool:=
 if ((a.length:Int) != (b.length:Int)) then (some false) else (ob (loop (fun (s:Int)=>aAm a b s) 0) fun r=>match r with|.inl r=>aIu|.inr r=>some r)
def aKs (a b:bH):Option Bool:=
 if (a.Kind != b.Kind) then (some false) else (if (a.Number != b.Number) then (some false) else (if (!(a.Name == b.Name)) then (some false) else (ob (aFv a.Arguments b.Arguments) fun e=>
 if (!e) then (some false) else (some true))))
def aKt:Option Bool:=
 some true
def aBK (a b:(List bH)) (c:Int):Option (Int ⊕ (Unit ⊕ Bool)):=
 if (decide (c < (a.length:Int))) then (ob (ix a c) fun f=>
 ob (ix b c) fun g=>
 ob (aKs f g) fun h=>
 if (!h) then (some (.inr (.inr false))) else (some (.inl (wr (c+1))))) else (some (.inr (.inl ())))
def aHF (a b:(List bH)):Option Bool:=
 if ((a.length:Int) != (b.length:Int)) then (some false) else (ob (loop (fun (s:Int)=>aBK a b s) 0) fun r=>match r with|.inl r=>aKt|.inr r=>some r)
def xO (a b:Definition):Option Bool:=
 if (!(a.Name == b.Name)) then (some false) else (if (a.Parameters != b.Parameters) then (some false) else (ob (aHF a.Body b.Body) fun e=>
 if (!e) then (some false) else (some true)))
def aCH:Option Bool:=
 some true
def oI (a b:(List Definition)) (c:Int):Option (Int ⊕ (Unit ⊕ Bool)):=
 if (decide (c < (a.length:Int))) then (ob (ix a c) fun f=>
 ob (ix b c) fun g=>
 ob (xO f g) fun h=>
 if (!h) then (some (.inr (.inr false))) else (some (.inl (wr (c+1))))) else (some (.inr (.inl ())))
def uQ (a b:(List Definition)):Option Bool:=
 if ((a.length:Int) != (b.length:Int)) then (some false) else (ob (loop (fun (s:Int)=>oI a b s) 0) fun r=>match r with|.inl r=>aCH|.inr r=>some r)
def aIv:Option Bool:=
 some true
def aAn (a b:(List Int)) (c:Int):Option (Int ⊕ (Unit ⊕ Bool)):=
 if (decide (c < (a.length:Int))) then (ob (ix a c) fun f=>
 ob (ix b c) fun g=>
 if (f != g) then (some (.inr (.inr false))) else (some (.inl (wr (c+1))))) else (some (.inr (.inl ())))
def aCI (a b:(List Int)):Option Bool:=
 if ((a.length:Int) != (b.length:Int)) then (some false) else (ob (loop (fun (s:Int)=>aAn a b s) 0) fun r=>match r with|.inl r=>aIv|.inr r=>some r)
def aAo (a b:bA):Option Bool:=
 if (a.Definition != b.Definition) then (some false) else (ob (aCI a.Values b.Values) fun e=>
 if (!e) then (some false) else (some true))
def aDx:Option Bool:=
 some true
def qG (a b:(List bA)) (c:Int):Option (Int ⊕ (Unit ⊕ Bool)):=
 if (decide (c < (a.length:Int))) then (ob (ix a c) fun f=>
 ob (ix b c) fun g=>
 ob (aAo f g) fun h=>
 if (!h) then (some (.inr (.inr false))) else (some (.inl (wr (c+1))))) else (some (.inr (.inl ())))
def xP (a b:(List bA)):Option Bool:=
 if ((a.length:Int) != (b.length:Int)) then (some false) else (ob (loop (fun (s:Int)=>qG a b s) 0) fun r=>match r with|.inl r=>aDx|.inr r=>some r)
def aDy (a b:bD):Option Bool:=
 if (!(a.Left == b.Left)) then (some false) else (if (!(a.Right == b.Right)) then (some false) else (if (!(a.Result == b.Result)) then (some false) else (some true)))
def aFT:Option Bool:=
 some true
def uR (a b:(List bD)) (c:Int):Option (Int ⊕ (Unit ⊕ Bool)):=
 if (decide (c < (a.length:Int))) then (ob (ix a c) fun f=>
 ob (ix b c) fun g=>
 ob (aDy f g) fun h=>
 if (!h) then (some (.inr (.inr false))) else (some (.inl (wr (c+1))))) else (some (.inr (.inl ())))
def aBL (a b:(List bD)):Option Bool:=
 if ((a.length:Int) != (b.length:Int)) then (some false) else (ob (loop (fun (s:Int)=>uR a b s) 0) fun r=>match r with|.inl r=>aFT|.inr r=>some r)
def aFw (a b:bM):Option Bool:=
 ob (uQ a.Definitions b.Definitions) fun e=>
 if (!e) then (some false) else (ob (xP a.Components b.Components) fun f=>
 if (!f) then (some false) else (ob (aBL a.Meetings b.Meetings) fun g=>
 if (!g) then (some false) else (ob (rK a.Allowed b.Allowed) fun h=>
 if (!h) then (some false) else (ob (rK a.Hidden b.Hidden) fun i=>
 if (!i) then (some false) else (some true)))))
def aKu (a b:Kept):Option Bool:=
 if (!(a.Name == b.Name)) then (some false) else (if (a.Kind != b.Kind) then (some false) else (ob (aMK a.S b.S) fun e=>
 if (!e) then (some false) else (ob (aHD a.Formula b.Formula) fun f=>
 if (!f) then (some false) else (ob (aFw a.Source b.Source) fun g=>
 if (!g) then (some false) else (some true)))))
def aKv:Option Bool:=
 some true
def xQ (a b:(List Kept)) (c:Int):Option (Int ⊕ (Unit ⊕ Bool)):=
 if (decide (c < (a.length:Int))) then (ob (ix a c) fun f=>
 ob (ix b c) fun g=>
 ob (aKu f g) fun h=>
 if (!h) then (some (.inr (.inr false))) else (some (.inl (wr (c+1))))) else (some (.inr (.inl ())))
def aHG (a b:(List Kept)):Option Bool:=
 if ((a.length:Int) != (b.length:Int)) then (some false) else (ob (loop (fun (s:Int)=>xQ a b s) 0) fun r=>match r with|.inl r=>aKv|.inr r=>some r)
def aKw (a b:pR):Option Bool:=
 ob (aHG a.Kept b.Kept) fun e=>
 if (!e) then (some false) else (some true)
def qH (a:pR):Option Bool:=
 ob (aJT a 1048576) fun c=>
 if (decide (c < 0)) then (some true) else (ob (aEw a) fun d=>
 ob (uY d) fun e=>
 ob (aEw a) fun b=>
 ob (vB b) fun f=>
 if (!(f == e)) then (some false) else (ob (aEw a) fun g=>
 ob (aKw b g) fun h=>
 if (!h) then (some false) else (some true)))
end
end Gv
