/- Models of the functions, printed by program off their code. Plain Lean. -/
import Derived.Test.YthbfapccpmppoaaGreatDoorJLM
set_option linter.all false
namespace Gv
noncomputable section
def aDR (a:List Int):Option ((List Int) × Bool):=
 some (a,true)
def rK (b:(List aL)) (c:List Int) (a:Int):Option ((List Int × Int) ⊕ (List Int ⊕ ((List Int) × Bool))):=
 if (decide (a < (b.length:Int))) then (ob (ix b a) fun e=>
 ob (sL e) fun d=>
 if (!d.2) then (some (.inr (.inr ([],false)))) else (ob (oH c ([d.1]:List Int)) fun f=>
 some (.inl (f,wr (a+1))))) else (some (.inr (.inl c)))
def sM (b:(List aL)):Option ((List Int) × Bool):=
 ob (loop (fun (s:(List Int × Int))=>rK b s.1 s.2) ([],0)) fun r=>match r with|.inl r=>aDR r|.inr r=>some r
def aGe (a:aL) (b:List aL):Option aL:=
 ob (aAH b a) fun c=>
 some c
def aAh (c:(List Int)) (b:List aL) (a:Int):Option ((List aL × Int) ⊕ (List aL)):=
 if (decide (a < (c.length:Int))) then (ob (ix c a) fun d=>
 ob (gN d) fun e=>
 ob (ix b a) fun g=>
 ob (st b a (e:aL)) fun f=>
 some (.inl (f,wr (a+1)))) else (some (.inr b))
def aAi (a:(List Int)) (b:aL):Option aL:=
 ob (mkz (a.length:Int) ([]:aL)) fun c=>
 ob (loop (fun (s:(List aL × Int))=>aAh a s.1 s.2) (c,0)) fun r=>aGe b r
def aEJ (a:Bool):Option Bool:=
 some a
def aGT (c:UInt8):Option Bool:=
 if (decide (48<=(c.toNat:Int))) then (aEJ (decide ((c.toNat:Int)<=57))) else (aEJ false)
def aGf (a:Bool):Option Bool:=
 some a
def aCW (a:aL):Option Bool:=
 if (decide (1<=(a.length:Int))) then (aGf (decide ((a.length:Int)<=10))) else (aGf false)
def aAj (a:Int) (b:Bool):Option (Int ⊕ (Unit ⊕ Bool)):=
 if b then (some (.inr (.inr false))) else (some (.inl (wr (a+1))))
def nJ (b:aL) (a:Int) (c:Bool):Option (Int ⊕ (Unit ⊕ Bool)):=
 if (!c) then (if (a == 0) then (aAj a true) else (ob (ix b a) fun d=>
 ob (aGT d) fun e=>
 aAj a (!e))) else (aAj a false)
def uV (a:aL) (b:Int):Option (Int ⊕ (Unit ⊕ Bool)):=
 if (decide (b < (a.length:Int))) then (ob (ix a b) fun c45=>
 if (decide (97<=(c45.toNat:Int))) then (nJ a b (decide ((c45.toNat:Int)<=122))) else (nJ a b false)) else (some (.inr (.inl ())))
def aBU (b:aL):Option Bool:=
 ob (loop (fun (s:Int)=>uV b s) 0) fun r=>match r with|.inl r=>aCW b|.inr r=>some r
def zD (a:Bool):Option Bool:=
 some a
def kZ (a:aL):Option Bool:=
 ob (aBU a) fun b=>
 if b then (zD (!(a == ([116,97,117]:aL)))) else (zD false)
def aGg (a:Bool):Option Bool:=
 some a
def fS (n low b:Int):Option Bool:=
 if (decide (low<=n)) then (aGg (decide (n<=b))) else (aGg false)
def aBC (n:Int):Option Bool:=
 ob (fS n 0 63) fun b=>
 some b
def aBV (n:Int):Option Bool:=
 ob (aBC n) fun b=>
 some (!b)
def kB:Option Int:=
 some (-1)
def eF (b:(List Int)) (a:Int):Option (Int ⊕ (Unit ⊕ Int)):=
 if (decide (a < (b.length:Int))) then (ob (ix b a) fun c=>
 ob (aBV c) fun d=>
 if d then (some (.inr (.inr a))) else (some (.inl (wr (a+1))))) else (some (.inr (.inl ())))
def fN (b:(List Int)):Option Int:=
 ob (loop (fun (s:Int)=>eF b s) 0) fun r=>match r with|.inl r=>kB|.inr r=>some r
def gK (a:(List Int)):Option Bool:=
 ob (fN a) fun b=>
 some (decide (0<=b))
def aAk (a:(List Int)):Option Bool:=
 ob (gK a) fun b=>
 some (!b)
def vQ (a:aL) (b:(List Int)) (c:Bool):Option (aL × Bool):=
 if c then (some (([]:aL),false)) else (if ((b.length:Int) == 0) then (some (a,true)) else (ob (eK a ([40]:aL)) fun d=>
 ob (aAi b ([44]:aL)) fun e=>
 ob (eK d e) fun f=>
 ob (eK f ([41]:aL)) fun g=>
 some (g,true)))
def aDS (b:aL) (a:(List Int)):Option (aL × Bool):=
 if (b == ([116,97,117]:aL)) then (some (([116,97,117]:aL),(a.length:Int) == 0)) else (ob (kZ b) fun c=>
 if (!c) then (vQ b a true) else (if (decide (2 < (a.length:Int))) then (vQ b a true) else (ob (aAk a) fun d=>
 vQ b a (!d))))
def eH (a:Bool):Option Bool:=
 some a
def dY (a b:aL):Option Bool:=
 if (decide ((b.length:Int)<=(a.length:Int))) then (ob (slc a (wr ((a.length:Int) - (b.length:Int))) (a.length:Int)) fun c=>
 eH (c == b)) else (eH false)
def hZ (a b:aL):Option aL:=
 ob (dY a b) fun c=>
 if c then (ob (slc a 0 (wr ((a.length:Int) - (b.length:Int)))) fun d=>
 some d) else (some a)
def lQ (a b:aL):Option aL:=
 ob (hZ a b) fun c=>
 some c
def qK (a:(aL × aL × Bool)) (b:List Int) (c:Bool):Option (aL × (List Int) × Bool):=
 if c then (some (([]:aL),[],false)) else (some (a.1,b,true))
def mR (d:aL) (a:(aL × aL × Bool)) (b:List Int):Option (aL × (List Int) × Bool):=
 ob (aDS a.1 b) fun c=>
 if (!c.2) then (qK a b true) else (qK a b (!(c.1 == d)))
def aCX (b:aL):Option (aL × (List Int) × Bool):=
 ob (l_Cut b ([40]:aL)) fun a=>
 if a.2.2 then (ob (lQ a.2.1 ([41]:aL)) fun d=>
 ob (aIY d ([44]:aL)) fun e=>
 ob (sM e) fun c=>
 if (!c.2) then (some (([]:aL),[],false)) else (mR b a c.1)) else (mR b a [])
def aDT (a:aL):Option Bool:=
 ob (aCX a) fun b=>
 some b.2.2
def aGh (a:Int):Option Int:=
 some a
def mS (a:(List aL)) (b c:Int):Option ((Int × Int) ⊕ (Int ⊕ Int)):=
 if (decide (c < (a.length:Int))) then (ob (ix a c) fun e=>
 if (decide (wr (b - (e.length:Int)) < 0)) then (some (.inr (.inr (-1)))) else (some (.inl (wr (b - (e.length:Int)),wr (c+1))))) else (some (.inr (.inl b)))
def nK (a:(List aL)) (d:Int):Option Int:=
 if (decide (wr (d - (a.length:Int)) < 0)) then (some (-1)) else (ob (loop (fun (s:(Int × Int))=>mS a s.1 s.2) (wr (d - (a.length:Int)),0)) fun r=>match r with|.inl r=>aGh r|.inr r=>some r)
def aGU (a:(List Edge)) (c:Int):Option Int:=
 if (decide (wr (c - (a.length:Int)) < 0)) then (some (-1)) else (some (wr (c - (a.length:Int))))
def aLV (a:gM) (e:Int):Option Int:=
 ob (nK a.L e) fun c=>
 if (decide (c < 0)) then (some (-1)) else (ob (aGU a.E c) fun d=>
 if (decide (d < 0)) then (some (-1)) else (some d))
def aJg (a:bI) (c:Int):Option Int:=
 if (decide (wr (c - (a.B.length:Int)) < 0)) then (some (-1)) else (some (wr (c - (a.B.length:Int))))
def aJh (a:Int):Option Int:=
 some a
def aBa (a:(List bI)) (d b:Int):Option ((Int × Int) ⊕ (Int ⊕ Int)):=
 if (decide (b < (a.length:Int))) then (ob (ix a b) fun f=>
 ob (aJg f d) fun e=>
 if (decide (e < 0)) then (some (.inr (.inr (-1)))) else (some (.inl (e,wr (b+1))))) else (some (.inr (.inl d)))
def aGV (a:(List bI)) (d:Int):Option Int:=
 if (decide (wr (d - (a.length:Int)) < 0)) then (some (-1)) else (ob (loop (fun (s:(Int × Int))=>aBa a s.1 s.2) (wr (d - (a.length:Int)),0)) fun r=>match r with|.inl r=>aJh r|.inr r=>some r)
def aDU (a:(List aR)) (c:Int):Option Int:=
 if (decide (wr (c - (a.length:Int)) < 0)) then (some (-1)) else (some (wr (c - (a.length:Int))))
def aHG (a:Int):Option Int:=
 some a
def zE (a:(List (List aR))) (d b:Int):Option ((Int × Int) ⊕ (Int ⊕ Int)):=
 if (decide (b < (a.length:Int))) then (ob (ix a b) fun f=>
 ob (aDU f d) fun e=>
 if (decide (e < 0)) then (some (.inr (.inr (-1)))) else (some (.inl (e,wr (b+1))))) else (some (.inr (.inl d)))
def aEK (a:(List (List aR))) (d:Int):Option Int:=
 if (decide (wr (d - (a.length:Int)) < 0)) then (some (-1)) else (ob (loop (fun (s:(Int × Int))=>zE a s.1 s.2) (wr (d - (a.length:Int)),0)) fun r=>match r with|.inl r=>aHG r|.inr r=>some r)
def aGi (a:bG) (c:Int):Option Int:=
 if (decide (wr (c - (a.Name.length:Int)) < 0)) then (some (-1)) else (ob (aEK a.Arguments (wr (c - (a.Name.length:Int)))) fun d=>
 if (decide (d < 0)) then (some (-1)) else (some d))
def aJi (a:Int):Option Int:=
 some a
def aBb (a:(List bG)) (d b:Int):Option ((Int × Int) ⊕ (Int ⊕ Int)):=
 if (decide (b < (a.length:Int))) then (ob (ix a b) fun f=>
 ob (aGi f d) fun e=>
 if (decide (e < 0)) then (some (.inr (.inr (-1)))) else (some (.inl (e,wr (b+1))))) else (some (.inr (.inl d)))
def aGW (a:(List bG)) (d:Int):Option Int:=
 if (decide (wr (d - (a.length:Int)) < 0)) then (some (-1)) else (ob (loop (fun (s:(Int × Int))=>aBb a s.1 s.2) (wr (d - (a.length:Int)),0)) fun r=>match r with|.inl r=>aJi r|.inr r=>some r)
def qL (a:Definition) (c:Int):Option Int:=
 if (decide (wr (c - (a.Name.length:Int)) < 0)) then (some (-1)) else (ob (aGW a.Body (wr (c - (a.Name.length:Int)))) fun d=>
 if (decide (d < 0)) then (some (-1)) else (some d))
def aBW (a:Int):Option Int:=
 some a
def nR (a:(List Definition)) (d b:Int):Option ((Int × Int) ⊕ (Int ⊕ Int)):=
 if (decide (b < (a.length:Int))) then (ob (ix a b) fun f=>
 ob (qL f d) fun e=>
 if (decide (e < 0)) then (some (.inr (.inr (-1)))) else (some (.inl (e,wr (b+1))))) else (some (.inr (.inl d)))
def tV (a:(List Definition)) (d:Int):Option Int:=
 if (decide (wr (d - (a.length:Int)) < 0)) then (some (-1)) else (ob (loop (fun (s:(Int × Int))=>nR a s.1 s.2) (wr (d - (a.length:Int)),0)) fun r=>match r with|.inl r=>aBW r|.inr r=>some r)
def aIo (a:(List Int)) (c:Int):Option Int:=
 if (decide (wr (c - (a.length:Int)) < 0)) then (some (-1)) else (some (wr (c - (a.length:Int))))
def sO (a:aY) (d:Int):Option Int:=
 ob (aIo a.Values d) fun b=>
 if (decide (b < 0)) then (some (-1)) else (some b)
def aCY (a:Int):Option Int:=
 some a
def pO (a:(List aY)) (d b:Int):Option ((Int × Int) ⊕ (Int ⊕ Int)):=
 if (decide (b < (a.length:Int))) then (ob (ix a b) fun f=>
 ob (sO f d) fun e=>
 if (decide (e < 0)) then (some (.inr (.inr (-1)))) else (some (.inl (e,wr (b+1))))) else (some (.inr (.inl d)))
def vR (a:(List aY)) (d:Int):Option Int:=
 if (decide (wr (d - (a.length:Int)) < 0)) then (some (-1)) else (ob (loop (fun (s:(Int × Int))=>pO a s.1 s.2) (wr (d - (a.length:Int)),0)) fun r=>match r with|.inl r=>aCY r|.inr r=>some r)
def aAl (a:bB) (c:Int):Option Int:=
 if (decide (wr (c - (a.Left.length:Int)) < 0)) then (some (-1)) else (if (decide (wr ((wr (c - (a.Left.length:Int))) - (a.Right.length:Int)) < 0)) then (some (-1)) else (if (decide (wr ((wr ((wr (c - (a.Left.length:Int))) - (a.Right.length:Int))) - (a.Result.length:Int)) < 0)) then (some (-1)) else (some (wr ((wr ((wr (c - (a.Left.length:Int))) - (a.Right.length:Int))) - (a.Result.length:Int))))))
def aFy (a:Int):Option Int:=
 some a
def tW (a:(List bB)) (d b:Int):Option ((Int × Int) ⊕ (Int ⊕ Int)):=
 if (decide (b < (a.length:Int))) then (ob (ix a b) fun f=>
 ob (aAl f d) fun e=>
 if (decide (e < 0)) then (some (.inr (.inr (-1)))) else (some (.inl (e,wr (b+1))))) else (some (.inr (.inl d)))
def aBc (a:(List bB)) (d:Int):Option Int:=
 if (decide (wr (d - (a.length:Int)) < 0)) then (some (-1)) else (ob (loop (fun (s:(Int × Int))=>tW a s.1 s.2) (wr (d - (a.length:Int)),0)) fun r=>match r with|.inl r=>aFy r|.inr r=>some r)
def aEL (a:bM) (h:Int):Option Int:=
 ob (tV a.Definitions h) fun c=>
 if (decide (c < 0)) then (some (-1)) else (ob (vR a.Components c) fun d=>
 if (decide (d < 0)) then (some (-1)) else (ob (aBc a.Meetings d) fun e=>
 if (decide (e < 0)) then (some (-1)) else (ob (nK a.Allowed e) fun f=>
 if (decide (f < 0)) then (some (-1)) else (ob (nK a.Hidden f) fun g=>
 if (decide (g < 0)) then (some (-1)) else (some g)))))
def aJj (a:pL) (c:Int):Option Int:=
 if (decide (wr (c - (a.Name.length:Int)) < 0)) then (some (-1)) else (ob (aLV a.S (wr (c - (a.Name.length:Int)))) fun d=>
 if (decide (d < 0)) then (some (-1)) else (ob (aGV a.Formula d) fun e=>
 if (decide (e < 0)) then (some (-1)) else (ob (aEL a.Source e) fun f=>
 if (decide (f < 0)) then (some (-1)) else (some f))))
def aDA (a:Bool):Option Bool:=
 some a
def aBX (c:UInt8):Option Bool:=
 if (decide (97<=(c.toNat:Int))) then (aDA (decide ((c.toNat:Int)<=122))) else (aDA false)
def aDB (a:Bool):Option Bool:=
 some a
def aBY (c:UInt8):Option Bool:=
 if (decide (48<=(c.toNat:Int))) then (aDB (decide ((c.toNat:Int)<=57))) else (aDB false)
def aEM:Option Bool:=
 some true
def aBd (a:Int) (b:Bool):Option (Int ⊕ (Unit ⊕ Bool)):=
 if b then (some (.inr (.inr false))) else (some (.inl (wr (a+1))))
def vS (b:aL) (a:Int):Option (Int ⊕ (Unit ⊕ Bool)):=
 if (decide (a < (b.length:Int))) then (ob (ix b a) fun c=>
 ob (aBX c) fun d=>
 if (!d) then (ob (aBY c) fun e=>
 aBd a (!e)) else (aBd a false)) else (some (.inr (.inl ())))
def nS (b:aL) (c:Bool):Option Bool:=
 if c then (some false) else (ob (loop (fun (s:Int)=>vS b s) 0) fun r=>match r with|.inl r=>aEM|.inr r=>some r)
def rL (a:aL):Option Bool:=
 if (a == ([]:aL)) then (nS a true) else (if (decide (10 < (a.length:Int))) then (nS a true) else (ob (ix a 0) fun b=>
 ob (aBX b) fun c=>
 nS a (!c)))
def aIp (a:Bool):Option Bool:=
 some a
def jF (n low b:Int):Option Bool:=
 if (decide (low<=n)) then (aIp (decide (n<=b))) else (aIp false)
def vT (a:Bool):Option Bool:=
 some a
def kS (a:aL):Option Bool:=
 ob (rL a) fun b=>
 if b then (vT (!(a == ([116,97,117]:aL)))) else (vT false)
def aJk (a:aL):Option Int:=
 some (a.length:Int)
def aBe (b:aL) (a:Int):Option (Int ⊕ (Unit ⊕ Int)):=
 if (decide (a < (b.length:Int))) then (ob (ix b a) fun c=>
 if ((c.toNat:Int) == 40) then (some (.inr (.inr a))) else (some (.inl (wr (a+1))))) else (some (.inr (.inl ())))
def aDV (b:aL):Option Int:=
 ob (loop (fun (s:Int)=>aBe b s) 0) fun r=>match r with|.inl r=>aJk b|.inr r=>some r
def aDC (a:aL) (b:List aL) (c:Int):Option (List aL):=
 ob (slc a c (a.length:Int)) fun d=>
 ob (oH b ([d]:List aL)) fun e=>
 some e
def oV (a:Int) (b:List aL) (c:Int):Option ((List aL × Int × Int) ⊕ (List aL × Int)):=
 some (.inl (b,c,wr (a+1)))
def zF (b:aL) (e:UInt8) (c:List aL) (d a:Int):Option ((List aL × Int × Int) ⊕ (List aL × Int)):=
 if (decide (a < (b.length:Int))) then (ob (ix b a) fun f=>
 if ((f.toNat:Int) == (e.toNat:Int)) then (ob (slc b d a) fun g=>
 ob (oH c ([g]:List aL)) fun h=>
 oV a h (wr (a+1))) else (oV a c d)) else (some (.inr (c,d)))
def aBZ (a:aL) (c:UInt8):Option (List aL):=
 ob (loop (fun (s:(List aL × Int × Int))=>zF a c s.1 s.2.1 s.2.2) (([]:List aL),0,0)) fun r=>aDC a r.1 r.2
def aCa (a:Int):Option (Int × Bool):=
 some (a,true)
def vU (b a:Int):Option (Int × Bool):=
 if (b == 1) then (aCa (wr (0 - a))) else (aCa a)
def mT (b:aL) (c a:Int):Option ((Int × Int) ⊕ (Int ⊕ (Int × Bool))):=
 if (decide (a < (b.length:Int))) then (ob (ix b a) fun c45=>
 ob (aBY c45) fun d=>
 if (!d) then (some (.inr (.inr (0,false)))) else (some (.inl (wr ((wr (10 * c))+(wr ((c45 - (48:UInt8)).toNat:Int))),wr (a+1))))) else (some (.inr (.inl c)))
def jM (c:aL) (b:Int) (d:Bool):Option (Int × Bool):=
 if d then (some (0,false)) else (ob (loop (fun (s:(Int × Int))=>mT c s.1 s.2) (0,b)) fun r=>match r with|.inl r=>vU b r|.inr r=>some r)
def mU (a:aL) (b:Int):Option (Int × Bool):=
 if ((a.length:Int) == b) then (jM a b true) else (if (decide (18 < wr ((a.length:Int) - b))) then (jM a b true) else (ob (ix a b) fun c=>
 if ((c.toNat:Int) == 48) then (jM a b (decide (1 < (a.length:Int)))) else (jM a b false)))
def qM (a:aL) (b:Bool):Option (Int × Bool):=
 if b then (mU a 1) else (mU a 0)
def uW (a:aL):Option (Int × Bool):=
 if (decide (0 < (a.length:Int))) then (ob (ix a 0) fun b=>
 qM a ((b.toNat:Int) == 45)) else (qM a false)
def aCb (a:List Int):Option ((List Int) × Bool):=
 some (a,decide ((a.length:Int)<=2))
def vV (a:List Int) (b:Int) (c:(Int × Bool)) (d:Bool):Option ((List Int × Int) ⊕ (List Int ⊕ ((List Int) × Bool))):=
 if d then (some (.inr (.inr ([],false)))) else (ob (oH a ([c.1]:List Int)) fun e=>
 some (.inl (e,wr (b+1))))
def qN (d:(List aL)) (c:List Int) (a:Int):Option ((List Int × Int) ⊕ (List Int ⊕ ((List Int) × Bool))):=
 if (decide (a < (d.length:Int))) then (ob (ix d a) fun e=>
 ob (uW e) fun b=>
 if (!b.2) then (vV c a b true) else (ob (jF b.1 0 63) fun f=>
 vV c a b (!f))) else (some (.inr (.inl c)))
def mV (b:aL) (c:Int) (d:Bool):Option ((List Int) × Bool):=
 if d then (some ([],false)) else (ob (slc b (wr (c+1)) (wr ((b.length:Int) - 1))) fun e=>
 ob (aBZ e (44:UInt8)) fun f=>
 ob (loop (fun (s:(List Int × Int))=>qN f s.1 s.2) (([]:List Int),0)) fun r=>match r with|.inl r=>aCb r|.inr r=>some r)
def aCZ (a:aL):Option ((List Int) × Bool):=
 ob (aDV a) fun b=>
 if (b == (a.length:Int)) then (ob (rL a) fun c=>
 some (([]:List Int),c)) else (ob (slc a 0 b) fun d=>
 ob (kS d) fun e=>
 if (!e) then (mV a b true) else (ob (ix a (wr ((a.length:Int) - 1))) fun f=>
 mV a b ((f.toNat:Int) != 41)))
def aCc (a:aL):Option Bool:=
 ob (aCZ a) fun b=>
 some b.2
def aHH:Option Bool:=
 some true
def oW (a:Int) (b:Bool):Option (Int ⊕ (Unit ⊕ Bool)):=
 if b then (some (.inr (.inr false))) else (some (.inl (wr (a+1))))
def sP (b:(List aL)) (a:Int):Option (Int ⊕ (Unit ⊕ Bool)):=
 if (decide (a < (b.length:Int))) then (ob (ix b a) fun c=>
 ob (aCc c) fun d=>
 if (!d) then (oW a true) else (if (c == ([116,97,117]:aL)) then (oW a true) else (if (decide (1 < a)) then (ob (ix b (wr (a - 1))) fun e=>
 oW a (!pM e c)) else (oW a false)))) else (some (.inr (.inl ())))
def oX (b:(List aL)) (c:Bool):Option Bool:=
 if c then (some false) else (ob (loop (fun (s:Int)=>sP b s) 1) fun r=>match r with|.inl r=>aHH|.inr r=>some r)
def aCd (a:(List aL)):Option Bool:=
 if ((a.length:Int) == 0) then (oX a true) else (if (decide (12 < (a.length:Int))) then (oX a true) else (ob (ix a 0) fun b=>
 oX a (!(b == ([116,97,117]:aL)))))
def aGX (a b:Edge):Option Bool:=
 if (a.F != b.F) then (some (decide (a.F < b.F))) else (if (a.B != b.B) then (some (decide (a.B < b.B))) else (some (decide (a.To < b.To))))
def aMu:Option Bool:=
 some true
def aEN (a:Int) (b:Bool):Option (Int ⊕ (Unit ⊕ Bool)):=
 if b then (some (.inr (.inr false))) else (some (.inl (wr (a+1))))
def yB (t:gM) (a:Int) (c:Edge) (d:Bool):Option (Int ⊕ (Unit ⊕ Bool)):=
 if d then (some (.inr (.inr false))) else (if (decide (0 < a)) then (ob (ix t.E (wr (a - 1))) fun e=>
 ob (aGX e c) fun f=>
 aEN a (!f)) else (aEN a false))
def aCe (t:gM) (c:Int):Option (Int ⊕ (Unit ⊕ Bool)):=
 if (decide (c < (t.E.length:Int))) then (ob (ix t.E c) fun b=>
 ob (jF b.F 0 (wr (t.N - 1))) fun d=>
 if (!d) then (yB t c b true) else (ob (jF b.To 0 (wr (t.N - 1))) fun e=>
 if (!e) then (yB t c b true) else (ob (jF b.B 0 (wr ((t.L.length:Int) - 1))) fun f=>
 yB t c b (!f)))) else (some (.inr (.inl ())))
def uK (t:gM) (c:Bool):Option Bool:=
 if c then (some false) else (ob (loop (fun (s:Int)=>aCe t s) 0) fun r=>match r with|.inl r=>aMu|.inr r=>some r)
def aJl (t:gM):Option Bool:=
 ob (jF t.N 1 40) fun b=>
 if (!b) then (uK t true) else (ob (jF t.I 0 (wr (t.N - 1))) fun c=>
 if (!c) then (uK t true) else (ob (aCd t.L) fun d=>
 if (!d) then (uK t true) else (uK t (decide (300 < (t.E.length:Int))))))
def aDW (a:bM):Option Bool:=
 some ((wr ((wr ((wr ((wr ((a.Definitions.length:Int)+(a.Components.length:Int)))+(a.Meetings.length:Int)))+(a.Allowed.length:Int)))+(a.Hidden.length:Int))) == 0)
def zH (a:Bool):Option Int:=
 if a then (some 2) else (some 1)
def oY (a:Int) (b:Bool):Option Int:=
 if b then (some 0) else (if (a == 2) then (zH (a == 2)) else (zH (a == 3)))
def uL (a:Int):Option Int:=
 if (a == 0) then (oY a (a == 0)) else (if (a == 1) then (oY a (a == 1)) else (oY a (a == 6)))
def tX (a:Bool):Option Bool:=
 some a
def oN (a:aL) (b:Bool):Option Bool:=
 if b then (some true) else (ob (ix a (wr ((a.length:Int) - 1))) fun c=>
 if ((c.toNat:Int) == 42) then (ob (slc a 0 (wr ((a.length:Int) - 1))) fun d=>
 ob (kS d) fun e=>
 tX e) else (tX false))
def vW (a:aL):Option Bool:=
 if (a == ([]:aL)) then (oN a true) else (ob (aCc a) fun b=>
 oN a b)
def aHI (a:Int):Option Bool:=
 some (a == 0)
def oZ (a b c:Int) (d:Bool):Option ((Int × Int) ⊕ (Int ⊕ Bool)):=
 if d then (some (.inr (.inr false))) else (some (.inl (wr (a+(wr (c - 1))),wr (b+1))))
def sQ (a b:Int) (d:bI) (c:Int) (e:Bool):Option ((Int × Int) ⊕ (Int ⊕ Bool)):=
 if e then (ob (vW d.B) fun f=>
 if (!f) then (oZ a b c true) else (oZ a b c false)) else (if (!(d.B == ([]:aL))) then (oZ a b c true) else (oZ a b c d.Not))
def sS (e:(List bI)) (c b:Int) (f:Bool):Option ((Int × Int) ⊕ (Int ⊕ Bool)):=
 if f then (some (.inr (.inr false))) else (ob (ix e b) fun a=>
 ob (uL a.Kind) fun d=>
 if (a.Kind == 4) then (sQ c b a d true) else (sQ c b a d (a.Kind == 5)))
def sT (a:(List bI)) (d b c:Int):Option ((Int × Int) ⊕ (Int ⊕ Bool)):=
 if (decide (c < (a.length:Int))) then (if (b == 0) then (sS a b c true) else (ob (ix a c) fun e=>
 ob (jF e.Kind 0 d) fun f=>
 sS a b c (!f))) else (some (.inr (.inl b)))
def pA (b:(List bI)) (c:Int) (d:Bool):Option Bool:=
 if d then (some false) else (ob (loop (fun (s:(Int × Int))=>sT b c s.1 s.2) (1,0)) fun r=>match r with|.inl r=>aHI r|.inr r=>some r)
def yC (a:(List bI)) (c b:Int):Option Bool:=
 if (decide ((a.length:Int) < 1)) then (pA a b true) else (pA a b (decide (c < (a.length:Int))))
def zJ (a:Bool):Option Bool:=
 some a
def yD (n:bI):Option Bool:=
 if (n.Kind == 7) then (zJ true) else (zJ (n.Kind == 8))
def aGj (a:Int):Option Int:=
 some a
def aDa (c:(List bI)) (a b:Int):Option ((Int × Int) ⊕ Int):=
 if (decide (0 < b)) then (ob (ix c a) fun d=>
 ob (uL d.Kind) fun e=>
 some (.inl (wr (a+1),wr (b+(wr (e - 1)))))) else (some (.inr a))
def aDX (a:(List bI)) (k:Int):Option Int:=
 ob (loop (fun (s:(Int × Int))=>aDa a s.1 s.2) (k,1)) fun r=>aGj r
def aGk:Option Int:=
 some (-1)
def qO (a:Int) (b:Bool):Option (Int ⊕ (Unit ⊕ Int)):=
 if b then (some (.inr (.inr a))) else (some (.inl (wr (a - 1))))
def qP (b:(List bI)) (k a:Int):Option (Int ⊕ (Unit ⊕ Int)):=
 if (decide (0<=a)) then (ob (ix b a) fun d=>
 ob (yD d) fun e=>
 if e then (ob (ix b k) fun f=>
 if (d.Variable == f.Variable) then (ob (aDX b a) fun g=>
 qO a (decide (k < g))) else (qO a false)) else (qO a false)) else (some (.inr (.inl ())))
def uX (c:(List bI)) (k:Int):Option Int:=
 ob (loop (fun (s:Int)=>qP c k s) (wr (k - 1))) fun r=>match r with|.inl r=>aGk|.inr r=>some r
def aIq:Option Bool:=
 some true
def aEO (a:Int) (b:Bool):Option (Int ⊕ (Unit ⊕ Bool)):=
 if b then (some (.inr (.inr false))) else (some (.inl (wr (a+1))))
def aCf (b:(List bI)) (a:Int):Option (Int ⊕ (Unit ⊕ Bool)):=
 ob (ix b a) fun c=>
 if (c.Kind == 6) then (ob (uX b a) fun d=>
 aEO a (decide (d < 0))) else (aEO a false)
def aEP (a:(List bI)) (b:Int) (c:Bool):Option (Int ⊕ (Unit ⊕ Bool)):=
 if c then (ob (ix a b) fun d=>
 ob (jF d.Variable 0 2) fun e=>
 if (!e) then (some (.inr (.inr false))) else (aCf a b)) else (ob (ix a b) fun f=>
 if (f.Variable != 0) then (some (.inr (.inr false))) else (aCf a b))
def aCg (a:(List bI)) (b:Int):Option (Int ⊕ (Unit ⊕ Bool)):=
 if (decide (b < (a.length:Int))) then (ob (ix a b) fun c=>
 ob (yD c) fun d=>
 if d then (aEP a b true) else (aEP a b (c.Kind == 6))) else (some (.inr (.inl ())))
def aEQ (b:(List bI)):Option Bool:=
 ob (yC b 30 8) fun c=>
 if (!c) then (some false) else (ob (loop (fun (s:Int)=>aCg b s) 0) fun r=>match r with|.inl r=>aIq|.inr r=>some r)
def iM (a:aL) (b:Bool):Option aL:=
 if b then (ob (eK ([40]:aL) a) fun c=>
 ob (eK c ([41]:aL)) fun d=>
 some d) else (some a)
def aGl (a:List UInt8):Option aL:=
 some a
def aDb (c b:List UInt8) (a:Int):Option ((List UInt8 × Int) ⊕ (List UInt8)):=
 if (decide (0<=a)) then (ob (ix c a) fun d=>
 ob (oH b ([d]:List UInt8)) fun e=>
 some (.inl (e,wr (a - 1)))) else (some (.inr b))
def aAm (a:List UInt8):Option aL:=
 ob (loop (fun (s:(List UInt8 × Int))=>aDb a s.1 s.2) (([]:List UInt8),wr ((a.length:Int) - 1))) fun r=>aGl r
def aDc (n:Int) (a:List UInt8):Option aL:=
 if (decide (n < 0)) then (ob (oH a ([(45:UInt8)]:List UInt8)) fun c=>
 aAm c) else (aAm a)
def aDd (a:List UInt8) (b c:Int):Option ((List UInt8 × Int) ⊕ (List UInt8)):=
 ob (oH a ([(UInt8.ofInt (wr (48+c)))]:List UInt8)) fun d=>
 ob (qu b 10) fun e=>
 some (.inl (d,e))
def aAn (b:List UInt8) (a:Int):Option ((List UInt8 × Int) ⊕ (List UInt8)):=
 if (a != 0) then (ob (rm a 10) fun c=>
 if (decide (c < 0)) then (aDd b a (wr (0 - c))) else (aDd b a c)) else (some (.inr b))
def iD (n:Int):Option aL:=
 if (n == 0) then (some ([48]:aL)) else (ob (loop (fun (s:(List UInt8 × Int))=>aAn s.1 s.2) (([]:List UInt8),n)) fun r=>aDc n r)
def rM (b:Bool) (a:aL):Option aL:=
 if b then (ob (eK ([33]:aL) a) fun c=>
 some c) else (some a)
def aBD (a:aL) (b:Bool):Option aL:=
 if ((a.length:Int) == 0) then (rM b ([95]:aL)) else (ob (ix a (wr ((a.length:Int) - 1))) fun c=>
 if ((c.toNat:Int) == 42) then (ob (slc a 0 (wr ((a.length:Int) - 1))) fun d=>
 ob (eK d ([40,42,41]:aL)) fun e=>
 rM b e) else (rM b a))
def aAJ (a:List aL):Option aL:=
 ob (ix a 0) fun b=>
 some b
def cZ (a:List aL) (b:List Int) (d:Int) (e:bI) (c:Int) (f:aL):Option ((List aL × List Int × Int) ⊕ (List aL)):=
 ob (slc a 0 (wr ((a.length:Int) - c))) fun g=>
 ob (oH g ([f]:List aL)) fun h=>
 ob (slc b 0 (wr ((b.length:Int) - c))) fun i=>
 ob (oH i ([e.Kind]:List Int)) fun j=>
 some (.inl (h,j,wr (d - 1)))
def tY (a:List aL) (b:List Int) (c:Int) (d:bI) (e:Int) (f:aL):Option ((List aL × List Int × Int) ⊕ (List aL)):=
 cZ a b c d e f
def gT (b:List aL) (c:List Int) (d:Int) (a:bI) (e:Int) (f:aL):Option ((List aL × List Int × Int) ⊕ (List aL)):=
 if (a.Kind == 0) then (cZ b c d a e ([116,114,117,101]:aL)) else (if (a.Kind == 1) then (cZ b c d a e ([102,97,108,115,101]:aL)) else (if (a.Kind == 6) then (ob (iD a.Variable) fun i=>
 ob (eK ([88]:aL) i) fun j=>
 cZ b c d a e j) else (if (a.Kind == 4) then (ob (aBD a.B a.Not) fun k=>
 ob (eK ([60]:aL) k) fun l=>
 ob (eK l ([62]:aL)) fun m=>
 ob (eK m f) fun n=>
 cZ b c d a e n) else (if (a.Kind == 5) then (ob (aBD a.B a.Not) fun o=>
 ob (eK ([91]:aL) o) fun p=>
 ob (eK p ([93]:aL)) fun q=>
 ob (eK q f) fun r=>
 cZ b c d a e r) else (if (a.Kind == 7) then (ob (iD a.Variable) fun s=>
 ob (eK ([109,117,32,88]:aL) s) fun t=>
 ob (eK t ([46]:aL)) fun u=>
 ob (eK u f) fun v=>
 cZ b c d a e v) else (if (a.Kind == 8) then (ob (iD a.Variable) fun w=>
 ob (eK ([110,117,32,88]:aL) w) fun x=>
 ob (eK x ([46]:aL)) fun y=>
 ob (eK y f) fun z=>
 cZ b c d a e z) else (if (a.Kind == 2) then (ob (ix b (wr ((b.length:Int) - 1))) fun g=>
 ob (ix c (wr ((b.length:Int) - 1))) fun h=>
 if (h == 2) then (ob (iM g true) fun a0=>
 ob (eK a0 ([32,38,32]:aL)) fun a1=>
 ob (ix b (wr ((wr ((b.length:Int) - 1)) - 1))) fun a2=>
 ob (ix c (wr ((wr ((b.length:Int) - 1)) - 1))) fun a3=>
 ob (iM a2 (a3 == 3)) fun a4=>
 ob (eK a1 a4) fun a5=>
 tY b c d a e a5) else (ob (iM g (h == 3)) fun a6=>
 ob (eK a6 ([32,38,32]:aL)) fun a7=>
 ob (ix b (wr ((wr ((b.length:Int) - 1)) - 1))) fun a8=>
 ob (ix c (wr ((wr ((b.length:Int) - 1)) - 1))) fun a9=>
 ob (iM a8 (a9 == 3)) fun b0=>
 ob (eK a7 b0) fun b1=>
 tY b c d a e b1)) else (if (a.Kind == 3) then (ob (ix b (wr ((b.length:Int) - 1))) fun b2=>
 ob (ix c (wr ((b.length:Int) - 1))) fun b3=>
 ob (iM b2 (b3 == 3)) fun b4=>
 ob (eK b4 ([32,124,32]:aL)) fun b5=>
 ob (ix b (wr ((wr ((b.length:Int) - 1)) - 1))) fun b6=>
 ob (eK b5 b6) fun b7=>
 cZ b c d a e b7) else (cZ b c d a e f)))))))))
def jV (a:List aL) (b:List Int) (c:Int) (d:bI) (e:Int) (f:aL):Option ((List aL × List Int × Int) ⊕ (List aL)):=
 gT a b c d e f
def eX (h:(List bI)) (a:List aL) (c:List Int) (b:Int):Option ((List aL × List Int × Int) ⊕ (List aL)):=
 if (decide (0<=b)) then (ob (ix h b) fun d=>
 ob (uL d.Kind) fun e=>
 if (e == 1) then (ob (ix a (wr ((a.length:Int) - 1))) fun f=>
 ob (ix c (wr ((a.length:Int) - 1))) fun g=>
 if (g == 2) then (ob (iM f true) fun i=>
 jV a c b d e i) else (ob (iM f (g == 3)) fun j=>
 jV a c b d e j)) else (gT a c b d e ([]:aL))) else (some (.inr a))
def kK (a:(List bI)):Option aL:=
 ob (loop (fun (s:(List aL × List Int × Int))=>eX a s.1 s.2.1 s.2.2) (([]:List aL),([]:List Int),wr ((a.length:Int) - 1))) fun r=>aAJ r
def pB (a:Bool):Option Bool:=
 some a
def yE (t:gM):Option Bool:=
 if (t.N == 0) then (if (t.I == 0) then (if ((t.L.length:Int) == 0) then (pB ((t.E.length:Int) == 0)) else (pB false)) else (pB false)) else (pB false)
def qQ (p:bG) (b:Bool):Option Int:=
 if b then (some 1) else (if (p.Kind == 2) then (some 2) else (some 0))
def uY (p:bG):Option Int:=
 if (p.Kind == 1) then (qQ p (p.Kind == 1)) else (if (p.Kind == 3) then (qQ p (p.Kind == 3)) else (qQ p (p.Kind == 4)))
def aHJ (a:Int):Option Bool:=
 some (a == 0)
def zM (c:(List bG)) (a b:Int):Option ((Int × Int) ⊕ (Int ⊕ Bool)):=
 if (decide (b < (c.length:Int))) then (if (a == 0) then (some (.inr (.inr false))) else (ob (ix c b) fun d=>
 ob (uY d) fun e=>
 some (.inl (wr (a+(wr (e - 1))),wr (b+1))))) else (some (.inr (.inl a)))
def sU (b:(List bG)) (c:Bool):Option Bool:=
 if c then (some false) else (ob (loop (fun (s:(Int × Int))=>zM b s.1 s.2) (1,0)) fun r=>match r with|.inl r=>aHJ r|.inr r=>some r)
def aCh (a:(List bG)):Option Bool:=
 if ((a.length:Int) == 0) then (sU a true) else (sU a (decide (20 < (a.length:Int))))
def vX (a:Bool):Option Bool:=
 some a
def aBf (a:Bool):Option Bool:=
 some a
def aBg (a:Bool):Option Bool:=
 some a
def vY (p:bG) (b:Bool):Option Bool:=
 if b then (if (p.Number == 0) then (if (p.Name == ([]:aL)) then (vX ((p.Arguments.length:Int) == 0)) else (vX false)) else (vX false)) else (if (p.Kind == 1) then (some (p.Number == 0)) else (if (p.Kind == 3) then (if (p.Number == 0) then (aBf (p.Name == ([]:aL))) else (aBf false)) else (if (p.Kind == 4) then (if (p.Name == ([]:aL)) then (aBg ((p.Arguments.length:Int) == 0)) else (aBg false)) else (if (p.Kind == 5) then (some (p.Name == ([]:aL))) else (some false)))))
def aDY (p:bG):Option Bool:=
 if (p.Kind == 0) then (vY p (p.Kind == 0)) else (vY p (p.Kind == 2))
def aGm (a:Int):Option Int:=
 some a
def aGn (c:(List bG)) (a b:Int):Option ((Int × Int) ⊕ Int):=
 if (decide (0 < b)) then (ob (ix c a) fun d=>
 ob (uY d) fun e=>
 some (.inl (wr (a+1),wr (b+(wr (e - 1)))))) else (some (.inr a))
def aGo (a:(List bG)) (b:Int):Option Int:=
 ob (loop (fun (s:(Int × Int))=>aGn a s.1 s.2) (b,1)) fun r=>aGm r
def aHK (a:Int):Option Int:=
 some a
def sV (a b:Int):Option ((Int × Int) ⊕ Int):=
 some (.inl (b,wr (a+1)))
def zN (a b:Int) (c:Bool):Option ((Int × Int) ⊕ Int):=
 if c then (sV b (wr (a+1))) else (sV b a)
def jG (d:Definition) (e b a:Int):Option ((Int × Int) ⊕ Int):=
 if (decide (a < e)) then (ob (ix d.Body a) fun f=>
 if (f.Kind == 4) then (ob (aGo d.Body a) fun g=>
 zN b a (decide (e < g))) else (zN b a false)) else (some (.inr b))
def yF (d:Definition) (b:Int):Option Int:=
 ob (loop (fun (s:(Int × Int))=>jG d b s.1 s.2) (d.Parameters,0)) fun r=>aHK r
def aGY (t:aR) (b:Int):Option Bool:=
 if (t.Kind == 0) then (ob (jF t.Value 0 63) fun c=>
 some c) else (if (t.Kind == 1) then (ob (jF t.Value 0 (wr (b - 1))) fun d=>
 some d) else (if (t.Kind == 2) then (ob (jF t.Value 0 8) fun e=>
 some e) else (if (t.Kind == 3) then (some (t.Value == 0)) else (some false))))
def aER (t:aR):Option Int:=
 if (t.Kind == 2) then (some 2) else (if (t.Kind == 3) then (some 1) else (some 0))
def aMv (a:Int):Option Bool:=
 some (a == 0)
def aES (e:(List aR)) (c a:Int) (d:Bool):Option ((Int × Int) ⊕ (Int ⊕ Bool)):=
 if d then (some (.inr (.inr false))) else (ob (ix e a) fun f=>
 ob (aER f) fun g=>
 some (.inl (wr (c+(wr (g - 1))),wr (a+1))))
def aCi (e:(List aR)) (d b c:Int):Option ((Int × Int) ⊕ (Int ⊕ Bool)):=
 if (decide (c < (e.length:Int))) then (if (b == 0) then (aES e b c true) else (ob (ix e c) fun f=>
 ob (aGY f d) fun g=>
 aES e b c (!g))) else (some (.inr (.inl b)))
def aJm (e:(List aR)) (c d:Int):Option Bool:=
 if (decide (d < (e.length:Int))) then (some false) else (ob (loop (fun (s:(Int × Int))=>aCi e c s.1 s.2) (1,0)) fun r=>match r with|.inl r=>aMv r|.inr r=>some r)
def aCj:Option Int:=
 some 0
def qR (b:bG) (c a:Int):Option (Int ⊕ (Unit ⊕ Int)):=
 if (decide (a < (b.Arguments.length:Int))) then (ob (ix b.Arguments a) fun d=>
 ob (aJm d c 15) fun e=>
 if (!e) then (some (.inr (.inr 8))) else (some (.inl (wr (a+1))))) else (some (.inr (.inl ())))
def mW (b:bG) (c:Int) (d:Bool):Option Int:=
 if d then (some 7) else (ob (loop (fun (s:Int)=>qR b c s) 0) fun r=>match r with|.inl r=>aCj|.inr r=>some r)
def lA (d:Definition) (e:Int) (a:bG) (f:Bool):Option Int:=
 if f then (some 6) else (ob (yF d e) fun b=>
 if (a.Kind == 4) then (mW a b (decide (6<=b))) else (mW a b false))
def iE (d:Definition) (a:Int) (c:bG):Option Int:=
 if (c.Kind == 5) then (if (a == 0) then (lA d a c true) else (ob (ix d.Body (wr (a - 1))) fun e=>
 lA d a c (e.Kind != 1))) else (lA d a c false)
def qS (d:Definition) (b:Int) (c:bG) (e:Bool):Option Int:=
 if e then (some 5) else (iE d b c)
def iF (e:(List Definition)) (d:Definition) (c:Int) (a:bG) (f:Bool):Option Int:=
 if f then (some 4) else (if (a.Kind == 1) then (if (decide (2 < (a.Arguments.length:Int))) then (qS d c a true) else (if (decide (0 < (a.Arguments.length:Int))) then (qS d c a (a.Name == ([116,97,117]:aL))) else (qS d c a false))) else (if (a.Kind == 3) then (if ((a.Arguments.length:Int) != 1) then (some 5) else (iE d c a)) else (if (a.Kind == 5) then (ob (ix e a.Number) fun g=>
 if ((a.Arguments.length:Int) != g.Parameters) then (some 5) else (iE d c a)) else (iE d c a))))
def mX (b:(List Definition)) (d:Definition) (e:Int) (a:bG) (f:Bool):Option Int:=
 if f then (some 3) else (if (a.Kind == 4) then (ob (jF a.Number 1 7) fun g=>
 if (!g) then (iF b d e a true) else (if (a.Kind == 5) then (ob (jF a.Number 0 (wr ((b.length:Int) - 1))) fun h=>
 iF b d e a (!h)) else (iF b d e a false))) else (if (a.Kind == 5) then (ob (jF a.Number 0 (wr ((b.length:Int) - 1))) fun i=>
 iF b d e a (!i)) else (iF b d e a false)))
def uZ (e:(List Definition)) (d:Definition) (c:Int):Option Int:=
 ob (ix d.Body c) fun a=>
 ob (aDY a) fun f=>
 if (!f) then (some 2) else (if (a.Kind == 1) then (ob (rL a.Name) fun g=>
 mX e d c a (!g)) else (mX e d c a false))
def aJn:Option (Int × Int):=
 some (0,0)
def vZ (e:(List Definition)) (d:Definition) (a:Int):Option (Int ⊕ (Unit ⊕ (Int × Int))):=
 if (decide (a < (d.Body.length:Int))) then (ob (uZ e d a) fun c=>
 if (decide (0 < c)) then (some (.inr (.inr (a,c)))) else (some (.inl (wr (a+1))))) else (some (.inr (.inl ())))
def aBE (c:(List Definition)) (d:Definition):Option (Int × Int):=
 ob (aCh d.Body) fun e=>
 if (!e) then (some (0,1)) else (ob (loop (fun (s:Int)=>vZ c d s) 0) fun r=>match r with|.inl r=>aJn|.inr r=>some r)
def aJo:Option Bool:=
 some true
def aBh (a:(List Definition)) (b:Int):Option (Int ⊕ (Unit ⊕ Bool)):=
 if (decide (b < (a.length:Int))) then (ob (ix a b) fun c=>
 ob (aBE a c) fun d=>
 if (decide (0 < d.2)) then (some (.inr (.inr false))) else (some (.inl (wr (b+1))))) else (some (.inr (.inl ())))
def wA (b:(List Definition)):Option Bool:=
 ob (loop (fun (s:Int)=>aBh b s) 0) fun r=>match r with|.inl r=>aJo|.inr r=>some r
def aBi (a:Int):Option (Int ⊕ (Unit ⊕ Bool)):=
 some (.inl (wr (a+1)))
def aBj (a:Int):Option (Int ⊕ (Unit ⊕ Bool)):=
 aBi a
def aBk (b:(List Definition)) (c a:Int):Option (Int ⊕ (Unit ⊕ Bool)):=
 if (decide (a < c)) then (ob (ix b a) fun d=>
 ob (ix b c) fun e=>
 if (d.Name == e.Name) then (some (.inr (.inr false))) else (some (.inl (wr (a+1))))) else (some (.inr (.inl ())))
def wB (c:(List Definition)) (b:Int) (d:Bool):Option (Int ⊕ (Unit ⊕ Bool)):=
 if d then (some (.inr (.inr false))) else (ob (loop (fun (s:Int)=>aBk c b s) 0) fun r=>match r with|.inl r=>aBj b|.inr r=>some (.inr (.inr r)))
def wC (a:(List Definition)) (b:Int):Option (Int ⊕ (Unit ⊕ Bool)):=
 if (decide (b < (a.length:Int))) then (ob (ix a b) fun c=>
 ob (rL c.Name) fun d=>
 if (!d) then (wB a b true) else (ob (jF c.Parameters 0 3) fun e=>
 wB a b (!e))) else (some (.inr (.inl ())))
def rN (b:(List Definition)) (c:Bool):Option Bool:=
 if c then (some false) else (ob (loop (fun (s:Int)=>wC b s) 0) fun r=>match r with|.inl r=>wA b|.inr r=>some r)
def yG (a:(List Definition)):Option Bool:=
 if ((a.length:Int) == 0) then (rN a true) else (rN a (decide (4 < (a.length:Int))))
def aJp:Option Bool:=
 some true
def aBl (b:(List Int)) (a:Int):Option (Int ⊕ (Unit ⊕ Bool)):=
 if (decide (a < (b.length:Int))) then (ob (ix b a) fun c=>
 ob (jF c 0 63) fun d=>
 if (!d) then (some (.inr (.inr false))) else (some (.inl (wr (a+1))))) else (some (.inr (.inl ())))
def aDZ (b:(List Int)):Option Bool:=
 ob (loop (fun (s:Int)=>aBl b s) 0) fun r=>match r with|.inl r=>aJp|.inr r=>some r
def aCk:Option Bool:=
 some true
def nT (a:Int) (b:Bool):Option (Int ⊕ (Unit ⊕ Bool)):=
 if b then (some (.inr (.inr false))) else (some (.inl (wr (a+1))))
def lB (a:bM) (b:Int):Option (Int ⊕ (Unit ⊕ Bool)):=
 if (decide (b < (a.Components.length:Int))) then (ob (ix a.Components b) fun c=>
 ob (jF c.Definition 0 (wr ((a.Definitions.length:Int) - 1))) fun d=>
 if (!d) then (some (.inr (.inr false))) else (ob (ix a.Definitions c.Definition) fun e=>
 if ((c.Values.length:Int) != e.Parameters) then (nT b true) else (ob (aDZ c.Values) fun f=>
 nT b (!f)))) else (some (.inr (.inl ())))
def lC (b:bM) (c:Bool):Option Bool:=
 if c then (some false) else (ob (loop (fun (s:Int)=>lB b s) 0) fun r=>match r with|.inl r=>aCk|.inr r=>some r)
def oO (a:bM):Option Bool:=
 if ((a.Components.length:Int) == 0) then (lC a true) else (lC a (decide (3 < (a.Components.length:Int))))
def aEa:Option Bool:=
 some true
def rO (a:Int):Option (Int ⊕ (Unit ⊕ Bool)):=
 some (.inl (wr (a+1)))
def yH (a:Int):Option (Int ⊕ (Unit ⊕ Bool)):=
 rO a
def rP (a:Int) (b:Bool):Option (Int ⊕ (Unit ⊕ Bool)):=
 if b then (some (.inr (.inr false))) else (some (.inl (wr (a+1))))
def mY (b:(List bB)) (c:bB) (a:Int):Option (Int ⊕ (Unit ⊕ Bool)):=
 if (decide (a < (b.length:Int))) then (ob (ix b a) fun d=>
 if (d.Left == c.Result) then (rP a true) else (rP a (d.Right == c.Result))) else (some (.inr (.inl ())))
def gZ (b:(List bB)) (c:Int) (d:bB) (e:Bool):Option (Int ⊕ (Unit ⊕ Bool)):=
 if e then (some (.inr (.inr false))) else (ob (loop (fun (s:Int)=>mY b d s) 0) fun r=>match r with|.inl r=>yH c|.inr r=>some (.inr (.inr r)))
def hH (c:(List bB)) (b:Int) (a:bB) (e:Bool):Option (Int ⊕ (Unit ⊕ Bool)):=
 if e then (some (.inr (.inr false))) else (if (decide (0 < b)) then (ob (ix c (wr (b - 1))) fun d=>
 if (!(pM d.Left a.Left||d.Left == a.Left)) then (gZ c b a true) else (if (d.Left == a.Left) then (gZ c b a (!pM d.Right a.Right)) else (gZ c b a false))) else (gZ c b a false))
def kU (b:(List bB)) (c:Int):Option (Int ⊕ (Unit ⊕ Bool)):=
 if (decide (c < (b.length:Int))) then (ob (ix b c) fun a=>
 ob (kS a.Left) fun d=>
 if (!d) then (hH b c a true) else (ob (kS a.Right) fun e=>
 if (!e) then (hH b c a true) else (ob (kS a.Result) fun f=>
 if (!f) then (hH b c a true) else (hH b c a (!(pM a.Left a.Right||a.Left == a.Right)))))) else (some (.inr (.inl ())))
def sW (b:(List bB)):Option Bool:=
 if (decide (6 < (b.length:Int))) then (some false) else (ob (loop (fun (s:Int)=>kU b s) 0) fun r=>match r with|.inl r=>aEa|.inr r=>some r)
def aFz:Option Bool:=
 some true
def tZ (b:(List aL)) (a:Int):Option (Int ⊕ (Unit ⊕ Bool)):=
 if (decide (a < (b.length:Int))) then (ob (ix b a) fun c=>
 ob (kS c) fun d=>
 if (!d) then (some (.inr (.inr false))) else (some (.inl (wr (a+1))))) else (some (.inr (.inl ())))
def wD (b:(List aL)):Option Bool:=
 ob (loop (fun (s:Int)=>tZ b s) 0) fun r=>match r with|.inl r=>aFz|.inr r=>some r
def aHL:Option Bool:=
 some true
def sX (b:(List aL)) (a:Int):Option (Int ⊕ (Unit ⊕ Bool)):=
 if (decide (a < (b.length:Int))) then (ob (ix b (wr (a - 1))) fun c=>
 ob (ix b a) fun d=>
 if (!pM c d) then (some (.inr (.inr false))) else (some (.inl (wr (a+1))))) else (some (.inr (.inl ())))
def sY (b:(List aL)) (c:Bool):Option Bool:=
 if c then (some false) else (ob (loop (fun (s:Int)=>sX b s) 1) fun r=>match r with|.inl r=>aHL|.inr r=>some r)
def yI (a:(List aL)):Option Bool:=
 if (decide (12 < (a.length:Int))) then (sY a true) else (ob (wD a) fun b=>
 sY a (!b))
def aET (a:bM):Option Int:=
 ob (yG a.Definitions) fun b=>
 if (!b) then (some 1) else (ob (oO a) fun c=>
 if (!c) then (some 2) else (ob (sW a.Meetings) fun d=>
 if (!d) then (some 3) else (ob (yI a.Allowed) fun e=>
 if (!e) then (some 4) else (ob (yI a.Hidden) fun f=>
 if (!f) then (some 5) else (some 0)))))
def aJq (a:bM):Option Bool:=
 ob (aET a) fun b=>
 some (b == 0)
def aDD (a:Int) (b:Bool):Option Int:=
 if b then (some 4) else (if (a == 2) then (some 5) else (some 3))
def aEU (a:Int):Option Int:=
 if (a == 8) then (some 1) else (if (a == 7) then (some 2) else (if (a == 0) then (aDD a (a == 0)) else (aDD a (a == 1))))
def aJr:Option (List aL):=
 some ([([43]:aL),([45]:aL),([42]:aL),([61]:aL),([35]:aL),([60]:aL),([60,61]:aL),([38]:aL),([124]:aL)]:List aL)
def aJs (a:List aL):Option aL:=
 ob (ix a 0) fun b=>
 some b
def jH (a:Int) (b:List aL) (c:List Int):Option ((List aL × List Int × Int) ⊕ (List aL)):=
 some (.inl (b,c,wr (a - 1)))
def wE (a:List aL) (b:List Int) (c:Int) (d:aL):Option ((List aL × List Int × Int) ⊕ (List aL)):=
 ob (slc a 0 (wr ((a.length:Int) - 1))) fun e=>
 ob (eK ([33]:aL) d) fun f=>
 ob (oH e ([f]:List aL)) fun g=>
 ob (slc b 0 (wr ((a.length:Int) - 1))) fun h=>
 ob (oH h ([6]:List Int)) fun i=>
 jH c g i
def wF (a:List aL) (b:List Int) (c:Int) (d:aR) (e:Int) (f g:aL):Option ((List aL × List Int × Int) ⊕ (List aL)):=
 ob (slc a 0 (wr ((wr ((a.length:Int) - 1)) - 1))) fun h=>
 ob (aJr) fun i=>
 ob (ix i d.Value) fun j=>
 ob (eK f j) fun k=>
 ob (eK k g) fun l=>
 ob (oH h ([l]:List aL)) fun m=>
 ob (slc b 0 (wr ((wr ((a.length:Int) - 1)) - 1))) fun n=>
 ob (oH n ([e]:List Int)) fun o=>
 jH c m o
def wG (a:List aL) (b:List Int) (d:Int) (e:aR) (c:Int) (f g:aL):Option ((List aL × List Int × Int) ⊕ (List aL)):=
 ob (ix b (wr ((wr ((a.length:Int) - 1)) - 1))) fun h=>
 if (decide (h<=c)) then (ob (eK ([40]:aL) f) fun i=>
 ob (eK i ([41]:aL)) fun j=>
 wF a b d e c g j) else (wF a b d e c g f)
def nU (e:(List aR)) (a:List aL) (b:List Int) (c:Int):Option ((List aL × List Int × Int) ⊕ (List aL)):=
 if (decide (0<=c)) then (ob (ix e c) fun d=>
 if (d.Kind == 0) then (ob (iD d.Value) fun k=>
 ob (oH a ([k]:List aL)) fun l=>
 ob (oH b ([7]:List Int)) fun m=>
 jH c l m) else (if (d.Kind == 1) then (ob (iD d.Value) fun n=>
 ob (eK ([118]:aL) n) fun o=>
 ob (oH a ([o]:List aL)) fun p=>
 ob (oH b ([7]:List Int)) fun q=>
 jH c p q) else (if (d.Kind == 3) then (ob (ix a (wr ((a.length:Int) - 1))) fun g=>
 ob (ix b (wr ((a.length:Int) - 1))) fun r=>
 if (decide (r < 6)) then (ob (eK ([40]:aL) g) fun s=>
 ob (eK s ([41]:aL)) fun t=>
 wE a b c t) else (wE a b c g)) else (if (d.Kind == 2) then (ob (aEU d.Value) fun f=>
 ob (ix a (wr ((a.length:Int) - 1))) fun h=>
 ob (ix a (wr ((wr ((a.length:Int) - 1)) - 1))) fun i=>
 ob (ix b (wr ((a.length:Int) - 1))) fun u=>
 if (decide (u < f)) then (ob (eK ([40]:aL) h) fun v=>
 ob (eK v ([41]:aL)) fun w=>
 wG a b c d f i w) else (wG a b c d f i h)) else (jH c a b))))) else (some (.inr a))
def vA (e:(List aR)):Option aL:=
 ob (loop (fun (s:(List aL × List Int × Int))=>nU e s.1 s.2.1 s.2.2) (([]:List aL),([]:List Int),wr ((e.length:Int) - 1))) fun r=>aJs r
def aLd (a:aL):Option aL:=
 some a
def aAo (b:(List (List aR))) (a:Int) (c:aL):Option ((aL × Int) ⊕ aL):=
 ob (ix b a) fun d=>
 ob (vA d) fun e=>
 ob (eK c e) fun f=>
 some (.inl (f,wr (a+1)))
def aAp (b:(List (List aR))) (d c:aL) (a:Int):Option ((aL × Int) ⊕ aL):=
 if (decide (a < (b.length:Int))) then (if (decide (0 < a)) then (ob (eK c d) fun e=>
 aAo b a e) else (aAo b a c)) else (some (.inr c))
def aGp (a:(List (List aR))) (b:aL):Option aL:=
 ob (loop (fun (s:(aL × Int))=>aAp a b s.1 s.2) (([]:aL),0)) fun r=>aLd r
def aEb (a:(List (List aR))):Option aL:=
 if ((a.length:Int) == 0) then (some ([]:aL)) else (ob (aGp a ([44]:aL)) fun b=>
 ob (eK ([40]:aL) b) fun c=>
 ob (eK c ([41]:aL)) fun d=>
 some d)
def aEV (a:List aL):Option aL:=
 ob (ix a 0) fun b=>
 some b
def gU (a:Int) (b:List aL) (c:List Bool):Option ((List aL × List Bool × Int) ⊕ (List aL)):=
 some (.inl (b,c,wr (a - 1)))
def nV (e:(List Definition)) (f:(List bG)) (a:List aL) (c:List Bool) (d:Int):Option ((List aL × List Bool × Int) ⊕ (List aL)):=
 if (decide (0<=d)) then (ob (ix f d) fun b=>
 if (b.Kind == 0) then (ob (oH a ([([48]:aL)]:List aL)) fun g=>
 ob (oH c ([false]:List Bool)) fun h=>
 gU d g h) else (if (b.Kind == 5) then (ob (ix e b.Number) fun i=>
 ob (aEb b.Arguments) fun j=>
 ob (eK i.Name j) fun k=>
 ob (oH a ([k]:List aL)) fun l=>
 ob (oH c ([false]:List Bool)) fun m=>
 gU d l m) else (if (b.Kind == 2) then (ob (ix a (wr ((a.length:Int) - 1))) fun n=>
 ob (ix c (wr ((a.length:Int) - 1))) fun o=>
 ob (iM n o) fun p=>
 ob (eK p ([32,43,32]:aL)) fun q=>
 ob (ix a (wr ((wr ((a.length:Int) - 1)) - 1))) fun r=>
 ob (eK q r) fun s=>
 ob (slc a 0 (wr ((wr ((a.length:Int) - 1)) - 1))) fun t=>
 ob (oH t ([s]:List aL)) fun u=>
 ob (slc c 0 (wr ((wr ((a.length:Int) - 1)) - 1))) fun v=>
 ob (oH v ([true]:List Bool)) fun w=>
 gU d u w) else (if (b.Kind == 1) then (ob (aEb b.Arguments) fun x=>
 ob (eK b.Name x) fun y=>
 ob (eK y ([46]:aL)) fun z=>
 ob (ix a (wr ((a.length:Int) - 1))) fun a0=>
 ob (ix c (wr ((a.length:Int) - 1))) fun a1=>
 ob (iM a0 a1) fun a2=>
 ob (eK z a2) fun a3=>
 ob (slc a 0 (wr ((a.length:Int) - 1))) fun a4=>
 ob (oH a4 ([a3]:List aL)) fun a5=>
 ob (slc c 0 (wr ((a.length:Int) - 1))) fun a6=>
 ob (oH a6 ([false]:List Bool)) fun a7=>
 gU d a5 a7) else (if (b.Kind == 3) then (ob (ix b.Arguments 0) fun a8=>
 ob (vA a8) fun a9=>
 ob (eK ([91]:aL) a9) fun b0=>
 ob (eK b0 ([93]:aL)) fun b1=>
 ob (ix a (wr ((a.length:Int) - 1))) fun b2=>
 ob (ix c (wr ((a.length:Int) - 1))) fun b3=>
 ob (iM b2 b3) fun b4=>
 ob (eK b1 b4) fun b5=>
 ob (slc a 0 (wr ((a.length:Int) - 1))) fun b6=>
 ob (oH b6 ([b5]:List aL)) fun b7=>
 ob (slc c 0 (wr ((a.length:Int) - 1))) fun b8=>
 ob (oH b8 ([false]:List Bool)) fun b9=>
 gU d b7 b9) else (if (b.Kind == 4) then (ob (iD b.Number) fun c0=>
 ob (eK ([115,117,109,32]:aL) c0) fun c1=>
 ob (eK c1 ([46]:aL)) fun c2=>
 ob (ix a (wr ((a.length:Int) - 1))) fun c3=>
 ob (ix c (wr ((a.length:Int) - 1))) fun c4=>
 ob (iM c3 c4) fun c5=>
 ob (eK c2 c5) fun c6=>
 ob (slc a 0 (wr ((a.length:Int) - 1))) fun c7=>
 ob (oH c7 ([c6]:List aL)) fun c8=>
 ob (slc c 0 (wr ((a.length:Int) - 1))) fun c9=>
 ob (oH c9 ([false]:List Bool)) fun d0=>
 gU d c8 d0) else (gU d a c))))))) else (some (.inr a))
def yJ (b:(List Definition)) (a:(List bG)):Option aL:=
 ob (loop (fun (s:(List aL × List Bool × Int))=>nV b a s.1 s.2.1 s.2.2) (([]:List aL),([]:List Bool),wr ((a.length:Int) - 1))) fun r=>aEV r
def aGZ (b:(List Definition)) (k:Int):Option aL:=
 ob (ix b k) fun a=>
 ob (eK ([112,114,111,99,32]:aL) a.Name) fun d=>
 ob (eK d ([32]:aL)) fun e=>
 ob (iD a.Parameters) fun f=>
 ob (eK e f) fun g=>
 ob (eK g ([32,61,32]:aL)) fun h=>
 ob (yJ b a.Body) fun i=>
 ob (eK h i) fun j=>
 some j
def aJt (a:aL):Option aL:=
 some a
def aBm (b:(List Int)) (a:Int) (c:aL):Option ((aL × Int) ⊕ aL):=
 ob (ix b a) fun d=>
 ob (iD d) fun e=>
 ob (eK c e) fun f=>
 some (.inl (f,wr (a+1)))
def nW (b:(List Int)) (c:aL) (a:Int):Option ((aL × Int) ⊕ aL):=
 if (decide (a < (b.length:Int))) then (if (decide (0 < a)) then (ob (eK c ([44]:aL)) fun d=>
 aBm b a d) else (aBm b a c)) else (some (.inr c))
def aEc (a:(List Int)):Option aL:=
 if ((a.length:Int) == 0) then (some ([45]:aL)) else (ob (loop (fun (s:(aL × Int))=>nW a s.1 s.2) (([]:aL),0)) fun r=>aJt r)
def aDE (a:aL):Option aL:=
 some a
def sZ (b:(List aL)) (c:aL) (a:Int):Option ((aL × Int) ⊕ aL):=
 if (decide (a < (b.length:Int))) then (ob (ix b a) fun d=>
 ob (eK ([32]:aL) d) fun e=>
 ob (eK c e) fun f=>
 some (.inl (f,wr (a+1)))) else (some (.inr c))
def yK (a:aL) (b:(List aL)):Option aL:=
 ob (loop (fun (s:(aL × Int))=>sZ b s.1 s.2) (a,0)) fun r=>aDE r
def zO (a:List aL):Option (List aL):=
 some a
def pC (a:bM) (b:List aL):Option (List aL):=
 if (decide (0 < (a.Hidden.length:Int))) then (ob (yK ([104,105,100,101]:aL) a.Hidden) fun c=>
 ob (oH b ([c]:List aL)) fun d=>
 zO d) else (zO b)
def zQ (a:bM) (b:List aL):Option (List aL):=
 if (decide (0 < (a.Allowed.length:Int))) then (ob (yK ([97,108,108,111,119]:aL) a.Allowed) fun c=>
 ob (oH b ([c]:List aL)) fun d=>
 pC a d) else (pC a b)
def zU (c:bM) (d:List aL) (a:Int):Option ((List aL × Int) ⊕ (List aL)):=
 if (decide (a < (c.Meetings.length:Int))) then (ob (ix c.Meetings a) fun b=>
 ob (eK ([109,101,101,116,32]:aL) b.Left) fun e=>
 ob (eK e ([32]:aL)) fun f=>
 ob (eK f b.Right) fun g=>
 ob (eK g ([32]:aL)) fun h=>
 ob (eK h b.Result) fun i=>
 ob (oH d ([i]:List aL)) fun j=>
 some (.inl (j,wr (a+1)))) else (some (.inr d))
def zV (a:bM) (b:List aL) (c:aL):Option (List aL):=
 ob (oH b ([c]:List aL)) fun d=>
 ob (loop (fun (s:(List aL × Int))=>zU a s.1 s.2) (d,0)) fun r=>zQ a r
def tA (a:Int) (b:aL):Option ((aL × Int) ⊕ aL):=
 some (.inl (b,wr (a+1)))
def tB (c:bM) (a:Int) (e:aL):Option ((aL × Int) ⊕ aL):=
 ob (ix c.Components a) fun b=>
 ob (ix c.Definitions b.Definition) fun f=>
 ob (eK e f.Name) fun d=>
 if (decide (0 < (b.Values.length:Int))) then (ob (aEc b.Values) fun g=>
 ob (eK ([40]:aL) g) fun h=>
 ob (eK h ([41]:aL)) fun i=>
 ob (eK d i) fun j=>
 tA a j) else (tA a d)
def tC (b:bM) (c:aL) (a:Int):Option ((aL × Int) ⊕ aL):=
 if (decide (a < (b.Components.length:Int))) then (if (decide (0 < a)) then (ob (eK c ([32,124,32]:aL)) fun d=>
 tB b a d) else (tB b a c)) else (some (.inr c))
def zW (a:bM) (b:List aL):Option (List aL):=
 ob (loop (fun (s:(aL × Int))=>tC a s.1 s.2) (([114,117,110,32]:aL),0)) fun r=>zV a b r
def wH (b:bM) (c:List aL) (a:Int):Option ((List aL × Int) ⊕ (List aL)):=
 if (decide (a < (b.Definitions.length:Int))) then (ob (aGZ b.Definitions a) fun d=>
 ob (oH c ([d]:List aL)) fun e=>
 some (.inl (e,wr (a+1)))) else (some (.inr c))
def aCl (a:bM):Option (List aL):=
 ob (loop (fun (s:(List aL × Int))=>wH a s.1 s.2) (([]:List aL),0)) fun r=>zW a r
def aJu (a:aL):Option aL:=
 some a
def wI (b:(List aL)) (a:Int) (c:aL):Option ((aL × Int) ⊕ aL):=
 ob (ix b a) fun d=>
 ob (eK c d) fun e=>
 some (.inl (e,wr (a+1)))
def wJ (b:(List aL)) (c:aL) (a:Int):Option ((aL × Int) ⊕ aL):=
 if (decide (a < (b.length:Int))) then (if (decide (0 < a)) then (ob (eK c ([10]:aL)) fun d=>
 wI b a d) else (wI b a c)) else (some (.inr c))
def yL (a:bM):Option aL:=
 ob (aCl a) fun b=>
 ob (loop (fun (s:(aL × Int))=>wJ b s.1 s.2) (([]:aL),0)) fun r=>aJu r
def aCm (a:Bool):Option Bool:=
 some a
def yM (a:Bool):Option Bool:=
 some a
def yN (a:Bool):Option Bool:=
 some a
def aEW (k:pL):Option Bool:=
 ob (rL k.Name) fun b=>
 if (!b) then (some false) else (if (k.Kind == 1) then (ob (aJl k.S) fun c=>
 if c then (if ((k.Formula.length:Int) == 0) then (ob (aDW k.Source) fun d=>
 aCm d) else (aCm false)) else (aCm false)) else (if (k.Kind == 2) then (ob (aEQ k.Formula) fun e=>
 if e then (ob (kK k.Formula) fun f=>
 if (decide ((f.length:Int)<=400)) then (ob (yE k.S) fun g=>
 if g then (ob (aDW k.Source) fun h=>
 yM h) else (yM false)) else (yM false)) else (yM false)) else (if (k.Kind == 3) then (ob (aJq k.Source) fun i=>
 if i then (ob (yL k.Source) fun j=>
 if (decide ((j.length:Int)<=16000)) then (if ((k.Formula.length:Int) == 0) then (ob (yE k.S) fun l=>
 yN l) else (yN false)) else (yN false)) else (yN false)) else (some false))))
def aEX (a:aL):Option aL:=
 some a
def aBn (t:gM) (a:aL):Option aL:=
 if ((t.E.length:Int) == 0) then (ob (eK a ([45]:aL)) fun c=>
 aEX c) else (aEX a)
def rQ (t:gM) (b:Int) (d:aL):Option ((aL × Int) ⊕ aL):=
 ob (ix t.E b) fun a=>
 ob (iD a.F) fun e=>
 ob (eK e ([58]:aL)) fun f=>
 ob (iD a.B) fun g=>
 ob (eK f g) fun h=>
 ob (eK h ([58]:aL)) fun i=>
 ob (iD a.To) fun j=>
 ob (eK i j) fun k=>
 ob (eK d k) fun l=>
 some (.inl (l,wr (b+1)))
def wK (t:gM) (c:aL) (a:Int):Option ((aL × Int) ⊕ aL):=
 if (decide (a < (t.E.length:Int))) then (if (decide (0 < a)) then (ob (eK c ([32]:aL)) fun d=>
 rQ t a d) else (rQ t a c)) else (some (.inr c))
def rR (t:gM) (b:aL):Option aL:=
 ob (eK b ([124]:aL)) fun c=>
 ob (loop (fun (s:(aL × Int))=>wK t s.1 s.2) (c,0)) fun r=>aBn t r
def aBo (t:gM) (b:aL):Option aL:=
 if ((t.L.length:Int) == 1) then (ob (eK b ([45]:aL)) fun c=>
 rR t c) else (rR t b)
def wL (t:gM) (a:Int) (c:aL):Option ((aL × Int) ⊕ aL):=
 ob (ix t.L a) fun d=>
 ob (eK c d) fun e=>
 some (.inl (e,wr (a+1)))
def rS (t:gM) (c:aL) (a:Int):Option ((aL × Int) ⊕ aL):=
 if (decide (a < (t.L.length:Int))) then (if (decide (1 < a)) then (ob (eK c ([32]:aL)) fun d=>
 wL t a d) else (wL t a c)) else (some (.inr c))
def aEd (t:gM):Option aL:=
 ob (iD t.N) fun b=>
 ob (eK b ([32]:aL)) fun c=>
 ob (iD t.I) fun d=>
 ob (eK c d) fun e=>
 ob (eK e ([124]:aL)) fun f=>
 ob (loop (fun (s:(aL × Int))=>rS t s.1 s.2) (f,1)) fun r=>aBo t r
def aEe (k:pL):Option aL:=
 if (k.Kind == 1) then (ob (aEd k.S) fun b=>
 some b) else (if (k.Kind == 2) then (ob (kK k.Formula) fun c=>
 some c) else (ob (yL k.Source) fun d=>
 ob (aOY d (10:UInt8) (59:UInt8)) fun e=>
 some e))
def aCn (k:pL):Option aL:=
 ob (aEW k) fun b=>
 if (!b) then (some ([]:aL)) else (ob (aEe k) fun c=>
 some c)
def aGq (a:List aL):Option (List aL):=
 some a
def wM (a:(List aL)) (c:List aL) (b:Int):Option ((List aL × Int) ⊕ (List aL)):=
 if (decide (b < (a.length:Int))) then (ob (ix a b) fun e=>
 ob (ix c b) fun g=>
 ob (st c b (e:aL)) fun f=>
 some (.inl (f,wr (b+1)))) else (some (.inr c))
def qT (a:(List aL)):Option (List aL):=
 ob (mkz (a.length:Int) ([]:aL)) fun c=>
 ob (loop (fun (s:(List aL × Int))=>wM a s.1 s.2) (c,0)) fun r=>aGq r
def aMw (a:Edge):Option Edge:=
 some a
def aJv (a:List Edge):Option (List Edge):=
 some a
def aBp (a:(List Edge)) (c:List Edge) (b:Int):Option ((List Edge × Int) ⊕ (List Edge)):=
 if (decide (b < (a.length:Int))) then (ob (ix a b) fun f=>
 ob (aMw f) fun d=>
 ob (ix c b) fun h=>
 ob (st c b (⟨d.F,d.B,d.To⟩:Edge)) fun g=>
 some (.inl (g,wr (b+1)))) else (some (.inr c))
def aEf (a:(List Edge)):Option (List Edge):=
 ob (mkz (a.length:Int) (⟨0,0,0⟩:Edge)) fun c=>
 ob (loop (fun (s:(List Edge × Int))=>aBp a s.1 s.2) (c,0)) fun r=>aJv r
def aLW (a:gM):Option gM:=
 ob (qT a.L) fun c=>
 ob (aEf a.E) fun d=>
 some ⟨a.N,a.I,c,d⟩
def aMx (a:bI):Option bI:=
 some a
def aJw (a:List bI):Option (List bI):=
 some a
def wN (a:(List bI)) (d:List bI) (b:Int):Option ((List bI × Int) ⊕ (List bI)):=
 if (decide (b < (a.length:Int))) then (ob (ix a b) fun f=>
 ob (aMx f) fun c=>
 ob (ix d b) fun h=>
 ob (st d b (⟨c.Kind,c.Variable,c.B,c.Not⟩:bI)) fun g=>
 some (.inl (g,wr (b+1)))) else (some (.inr d))
def aHa (a:(List bI)):Option (List bI):=
 ob (mkz (a.length:Int) (⟨0,0,[],false⟩:bI)) fun c=>
 ob (loop (fun (s:(List bI × Int))=>wN a s.1 s.2) (c,0)) fun r=>aJw r
def aMy (a:aR):Option aR:=
 some a
def aJx (a:List aR):Option (List aR):=
 some a
def wO (a:(List aR)) (c:List aR) (b:Int):Option ((List aR × Int) ⊕ (List aR)):=
 if (decide (b < (a.length:Int))) then (ob (ix a b) fun f=>
 ob (aMy f) fun e=>
 ob (ix c b) fun h=>
 ob (st c b (⟨e.Kind,e.Value⟩:aR)) fun g=>
 some (.inl (g,wr (b+1)))) else (some (.inr c))
def aHb (a:(List aR)):Option (List aR):=
 ob (mkz (a.length:Int) (⟨0,0⟩:aR)) fun c=>
 ob (loop (fun (s:(List aR × Int))=>wO a s.1 s.2) (c,0)) fun r=>aJx r
def aHM (a:List (List aR)):Option (List (List aR)):=
 some a
def tD (a:(List (List aR))) (c:List (List aR)) (b:Int):Option ((List (List aR) × Int) ⊕ (List (List aR))):=
 if (decide (b < (a.length:Int))) then (ob (ix a b) fun e=>
 ob (aHb e) fun f=>
 ob (ix c b) fun h=>
 ob (st c b f) fun g=>
 some (.inl (g,wr (b+1)))) else (some (.inr c))
def aEY (a:(List (List aR))):Option (List (List aR)):=
 ob (mkz (a.length:Int) ([]:(List aR))) fun c=>
 ob (loop (fun (s:(List (List aR) × Int))=>tD a s.1 s.2) (c,0)) fun r=>aHM r
def aMz (a:bG):Option bG:=
 ob (aEY a.Arguments) fun c=>
 some ⟨a.Kind,a.Number,a.Name,c⟩
def aJy (a:List bG):Option (List bG):=
 some a
def wP (a:(List bG)) (c:List bG) (b:Int):Option ((List bG × Int) ⊕ (List bG)):=
 if (decide (b < (a.length:Int))) then (ob (ix a b) fun e=>
 ob (aMz e) fun f=>
 ob (ix c b) fun h=>
 ob (st c b (f:bG)) fun g=>
 some (.inl (g,wr (b+1)))) else (some (.inr c))
def aHc (a:(List bG)):Option (List bG):=
 ob (mkz (a.length:Int) (⟨0,0,[],[]⟩:bG)) fun c=>
 ob (loop (fun (s:(List bG × Int))=>wP a s.1 s.2) (c,0)) fun r=>aJy r
def aCo (a:Definition):Option Definition:=
 ob (aHc a.Body) fun c=>
 some ⟨a.Name,a.Parameters,c⟩
def aCp (a:List Definition):Option (List Definition):=
 some a
def lD (a:(List Definition)) (c:List Definition) (b:Int):Option ((List Definition × Int) ⊕ (List Definition)):=
 if (decide (b < (a.length:Int))) then (ob (ix a b) fun e=>
 ob (aCo e) fun f=>
 ob (ix c b) fun h=>
 ob (st c b (f:Definition)) fun g=>
 some (.inl (g,wr (b+1)))) else (some (.inr c))
def uA (a:(List Definition)):Option (List Definition):=
 ob (mkz (a.length:Int) (⟨[],0,[]⟩:Definition)) fun c=>
 ob (loop (fun (s:(List Definition × Int))=>lD a s.1 s.2) (c,0)) fun r=>aCp r
def aHN (a:List Int):Option (List Int):=
 some a
def tE (a:(List Int)) (c:List Int) (b:Int):Option ((List Int × Int) ⊕ (List Int)):=
 if (decide (b < (a.length:Int))) then (ob (ix a b) fun e=>
 ob (ix c b) fun g=>
 ob (st c b (e:Int)) fun f=>
 some (.inl (f,wr (b+1)))) else (some (.inr c))
def aEZ (a:(List Int)):Option (List Int):=
 ob (mkz (a.length:Int) (0:Int)) fun c=>
 ob (loop (fun (s:(List Int × Int))=>tE a s.1 s.2) (c,0)) fun r=>aHN r
def aDF (a:aY):Option aY:=
 ob (aEZ a.Values) fun c=>
 some ⟨a.Definition,c⟩
def aDe (a:List aY):Option (List aY):=
 some a
def lR (a:(List aY)) (c:List aY) (b:Int):Option ((List aY × Int) ⊕ (List aY)):=
 if (decide (b < (a.length:Int))) then (ob (ix a b) fun e=>
 ob (aDF e) fun f=>
 ob (ix c b) fun h=>
 ob (st c b (f:aY)) fun g=>
 some (.inl (g,wr (b+1)))) else (some (.inr c))
def wQ (a:(List aY)):Option (List aY):=
 ob (mkz (a.length:Int) (⟨0,[]⟩:aY)) fun c=>
 ob (loop (fun (s:(List aY × Int))=>lR a s.1 s.2) (c,0)) fun r=>aDe r
def aGr (a:bB):Option bB:=
 some a
def aFA (a:List bB):Option (List bB):=
 some a
def oP (a:(List bB)) (c:List bB) (b:Int):Option ((List bB × Int) ⊕ (List bB)):=
 if (decide (b < (a.length:Int))) then (ob (ix a b) fun f=>
 ob (aGr f) fun d=>
 ob (ix c b) fun h=>
 ob (st c b (⟨d.Left,d.Right,d.Result⟩:bB)) fun g=>
 some (.inl (g,wr (b+1)))) else (some (.inr c))
def aBq (a:(List bB)):Option (List bB):=
 ob (mkz (a.length:Int) (⟨[],[],[]⟩:bB)) fun c=>
 ob (loop (fun (s:(List bB × Int))=>oP a s.1 s.2) (c,0)) fun r=>aFA r
def aCq (a:bM):Option bM:=
 ob (uA a.Definitions) fun c=>
 ob (wQ a.Components) fun d=>
 ob (aBq a.Meetings) fun e=>
 ob (qT a.Allowed) fun f=>
 ob (qT a.Hidden) fun g=>
 some ⟨c,d,e,f,g⟩
def aCr (a:pL):Option pL:=
 ob (aLW a.S) fun d=>
 ob (aHa a.Formula) fun e=>
 ob (aCq a.Source) fun c=>
 some ⟨a.Name,a.Kind,⟨d.N,d.I,d.L,d.E⟩,e,⟨c.Definitions,c.Components,c.Meetings,c.Allowed,c.Hidden⟩⟩
def iT:Option Bool:=
 some true
def iU (b c:(List Edge)) (a:Int):Option (Int ⊕ (Unit ⊕ Bool)):=
 if (decide (a < (b.length:Int))) then (ob (ix b a) fun d=>
 ob (ix c a) fun e=>
 if (!decide ((d:Edge)=e)) then (some (.inr (.inr false))) else (some (.inl (wr (a+1))))) else (some (.inr (.inl ())))
def dZ (b c:(List Edge)):Option Bool:=
 if ((b.length:Int) != (c.length:Int)) then (some false) else (ob (loop (fun (s:Int)=>iU b c s) 0) fun r=>match r with|.inl r=>iT|.inr r=>some r)
def lE:Option Bool:=
 some true
def uM (b c:(List aL)) (a:Int):Option (Int ⊕ (Unit ⊕ Bool)):=
 if (decide (a < (b.length:Int))) then (ob (ix b a) fun d=>
 ob (ix c a) fun e=>
 if (!(d == e)) then (some (.inr (.inr false))) else (some (.inl (wr (a+1))))) else (some (.inr (.inl ())))
def dG (b c:(List aL)):Option Bool:=
 if ((b.length:Int) != (c.length:Int)) then (some false) else (ob (loop (fun (s:Int)=>uM b c s) 0) fun r=>match r with|.inl r=>lE|.inr r=>some r)
def rT (a:Bool):Option Bool:=
 some a
def aEg (a b:gM):Option Bool:=
 if (a.N == b.N) then (if (a.I == b.I) then (ob (dG a.L b.L) fun e=>
 if e then (ob (dZ a.E b.E) fun f=>
 rT f) else (rT false)) else (rT false)) else (rT false)
def iV:Option Bool:=
 some true
def iW (b c:(List aR)) (a:Int):Option (Int ⊕ (Unit ⊕ Bool)):=
 if (decide (a < (b.length:Int))) then (ob (ix b a) fun d=>
 ob (ix c a) fun e=>
 if (!decide ((d:aR)=e)) then (some (.inr (.inr false))) else (some (.inl (wr (a+1))))) else (some (.inr (.inl ())))
def gB (b c:(List aR)):Option Bool:=
 if ((b.length:Int) != (c.length:Int)) then (some false) else (ob (loop (fun (s:Int)=>iW b c s) 0) fun r=>match r with|.inl r=>iV|.inr r=>some r)
def dS:Option Bool:=
 some true
def dU (b c:(List (List aR))) (a:Int):Option (Int ⊕ (Unit ⊕ Bool)):=
 if (decide (a < (b.length:Int))) then (ob (ix b a) fun d=>
 ob (ix c a) fun e=>
 ob (gB d e) fun f=>
 if (!f) then (some (.inr (.inr false))) else (some (.inl (wr (a+1))))) else (some (.inr (.inl ())))
def cJ (b c:(List (List aR))):Option Bool:=
 if ((b.length:Int) != (c.length:Int)) then (some false) else (ob (loop (fun (s:Int)=>dU b c s) 0) fun r=>match r with|.inl r=>dS|.inr r=>some r)
def tF (a:Bool):Option Bool:=
 some a
def aIr (a b:bG):Option Bool:=
 if (a.Kind == b.Kind) then (if (a.Number == b.Number) then (if (a.Name == b.Name) then (ob (cJ a.Arguments b.Arguments) fun e=>
 tF e) else (tF false)) else (tF false)) else (tF false)
def eP:Option Bool:=
 some true
def eQ (b c:(List bG)) (a:Int):Option (Int ⊕ (Unit ⊕ Bool)):=
 if (decide (a < (b.length:Int))) then (ob (ix b a) fun d=>
 ob (ix c a) fun e=>
 ob (aIr d e) fun f=>
 if (!f) then (some (.inr (.inr false))) else (some (.inl (wr (a+1))))) else (some (.inr (.inl ())))
def dC (b c:(List bG)):Option Bool:=
 if ((b.length:Int) != (c.length:Int)) then (some false) else (ob (loop (fun (s:Int)=>eQ b c s) 0) fun r=>match r with|.inl r=>eP|.inr r=>some r)
def mI (a:Bool):Option Bool:=
 some a
def yO (a b:Definition):Option Bool:=
 if (a.Name == b.Name) then (if (a.Parameters == b.Parameters) then (ob (dC a.Body b.Body) fun e=>
 mI e) else (mI false)) else (mI false)
def lS:Option Bool:=
 some true
def wR (b c:(List Int)) (a:Int):Option (Int ⊕ (Unit ⊕ Bool)):=
 if (decide (a < (b.length:Int))) then (ob (ix b a) fun d=>
 ob (ix c a) fun e=>
 if (d != e) then (some (.inr (.inr false))) else (some (.inl (wr (a+1))))) else (some (.inr (.inl ())))
def jN (b c:(List Int)):Option Bool:=
 if ((b.length:Int) != (c.length:Int)) then (some false) else (ob (loop (fun (s:Int)=>wR b c s) 0) fun r=>match r with|.inl r=>lS|.inr r=>some r)
def uN (a:Bool):Option Bool:=
 some a
def aAK (a b:aY):Option Bool:=
 if (a.Definition == b.Definition) then (ob (jN a.Values b.Values) fun e=>
 uN e) else (uN false)
def gO:Option Bool:=
 some true
def gP (b c:(List bB)) (a:Int):Option (Int ⊕ (Unit ⊕ Bool)):=
 if (decide (a < (b.length:Int))) then (ob (ix b a) fun d=>
 ob (ix c a) fun e=>
 if (!decide ((d:bB)=e)) then (some (.inr (.inr false))) else (some (.inl (wr (a+1))))) else (some (.inr (.inl ())))
def dA (b c:(List bB)):Option Bool:=
 if ((b.length:Int) != (c.length:Int)) then (some false) else (ob (loop (fun (s:Int)=>gP b c s) 0) fun r=>match r with|.inl r=>gO|.inr r=>some r)
def cO:Option Bool:=
 some true
def cP (b c:(List Definition)) (a:Int):Option (Int ⊕ (Unit ⊕ Bool)):=
 if (decide (a < (b.length:Int))) then (ob (ix b a) fun d=>
 ob (ix c a) fun e=>
 ob (yO d e) fun f=>
 if (!f) then (some (.inr (.inr false))) else (some (.inl (wr (a+1))))) else (some (.inr (.inl ())))
def bA (b c:(List Definition)):Option Bool:=
 if ((b.length:Int) != (c.length:Int)) then (some false) else (ob (loop (fun (s:Int)=>cP b c s) 0) fun r=>match r with|.inl r=>cO|.inr r=>some r)
def cW:Option Bool:=
 some true
def cX (b c:(List aY)) (a:Int):Option (Int ⊕ (Unit ⊕ Bool)):=
 if (decide (a < (b.length:Int))) then (ob (ix b a) fun d=>
 ob (ix c a) fun e=>
 ob (aAK d e) fun f=>
 if (!f) then (some (.inr (.inr false))) else (some (.inl (wr (a+1))))) else (some (.inr (.inl ())))
def bF (b c:(List aY)):Option Bool:=
 if ((b.length:Int) != (c.length:Int)) then (some false) else (ob (loop (fun (s:Int)=>cX b c s) 0) fun r=>match r with|.inl r=>cW|.inr r=>some r)
def jW (a:Bool):Option Bool:=
 some a
def wS (a b:bM):Option Bool:=
 ob (bA a.Definitions b.Definitions) fun e=>
 if e then (ob (bF a.Components b.Components) fun f=>
 if f then (ob (dA a.Meetings b.Meetings) fun g=>
 if g then (ob (dG a.Allowed b.Allowed) fun h=>
 if h then (ob (dG a.Hidden b.Hidden) fun i=>
 jW i) else (jW false)) else (jW false)) else (jW false)) else (jW false)
def pD (t:gM) (k:Int):Option Bool:=
 ob (fS k 0 (wr (t.N - 1))) fun c=>
 some c
def aBr (i many:Int):Option Bool:=
 ob (fS i 0 (wr (many - 1))) fun b=>
 some b
def nX (a:Int):Option Bool:=
 some (a != a)
def fT (a y:Int):Option Int:=
 ob (nX a) fun d=>
 ob (nX y) fun c=>
 if d then (if c then (some 0) else (some (-1))) else (if c then (some 1) else (if (decide (a < y)) then (some (-1)) else (if (decide (y < a)) then (some 1) else (some 0))))
def yP:Option Int:=
 some 0
def hJ (b:(List Int)) (a:Int):Option (Int ⊕ (Unit ⊕ Int)):=
 if (decide (a < (b.length:Int))) then (ob (ix b a) fun c=>
 if (c != 0) then (some (.inr (.inr c))) else (some (.inl (wr (a+1))))) else (some (.inr (.inl ())))
def tG (b:(List Int)):Option Int:=
 ob (loop (fun (s:Int)=>hJ b s) 0) fun r=>match r with|.inl r=>yP|.inr r=>some r
def qU (a b:Edge):Option Int:=
 ob (fT a.F b.F) fun e=>
 ob (fT a.B b.B) fun f=>
 ob (fT a.To b.To) fun g=>
 ob (tG ([e,f,g]:List Int)) fun h=>
 some h
def aHO:Option Bool:=
 some true
def mD (a:Int) (b:Bool):Option (Int ⊕ (Unit ⊕ Bool)):=
 if b then (some (.inr (.inr false))) else (some (.inl (wr (a+1))))
def tH (t:gM) (a:Int):Option (Int ⊕ (Unit ⊕ Bool)):=
 if (decide (a < (t.E.length:Int))) then (ob (ix t.E a) fun c=>
 ob (pD t c.F) fun d=>
 if (!d) then (mD a true) else (ob (pD t c.To) fun e=>
 if (!e) then (mD a true) else (ob (aBr c.B (t.L.length:Int)) fun f=>
 if (!f) then (mD a true) else (if (decide (0 < a)) then (ob (ix t.E (wr (a - 1))) fun g=>
 ob (qU g c) fun h=>
 mD a (decide (0<=h))) else (mD a false))))) else (some (.inr (.inl ())))
def zX (t:gM):Option Bool:=
 ob (loop (fun (s:Int)=>tH t s) 0) fun r=>match r with|.inl r=>aHO|.inr r=>some r
def pE (a:Int) (b:Bool):Option (Int ⊕ (Unit ⊕ Bool)):=
 if b then (some (.inr (.inr false))) else (some (.inl (wr (a+1))))
def tI (t:gM) (a:Int):Option (Int ⊕ (Unit ⊕ Bool)):=
 if (decide (a < (t.L.length:Int))) then (ob (ix t.L a) fun b=>
 ob (aDT b) fun e=>
 if (!e) then (pE a true) else (if ((b == ([116,97,117]:aL)) != (a == 0)) then (pE a true) else (if (decide (1 < a)) then (ob (ix t.L (wr (a - 1))) fun d=>
 pE a (pM b d||b == d)) else (pE a false)))) else (some (.inr (.inl ())))
def mE (t:gM) (c:Bool):Option Bool:=
 if c then (some false) else (ob (loop (fun (s:Int)=>tI t s) 0) fun r=>match r with|.inl r=>zX t|.inr r=>some r)
def yQ (t:gM):Option Bool:=
 ob (fS t.N 1 40) fun b=>
 if (!b) then (mE t true) else (ob (pD t t.I) fun c=>
 if (!c) then (mE t true) else (ob (fS (t.L.length:Int) 1 12) fun d=>
 if (!d) then (mE t true) else (mE t (decide (300 < (t.E.length:Int))))))
def jA (a:Bool):Option Int:=
 if a then (some 1) else (some 0)
def lF (n:bI) (b:Bool):Option Int:=
 if b then (some 2) else (if (n.Kind == 4) then (jA (n.Kind == 4)) else (if (n.Kind == 5) then (jA (n.Kind == 5)) else (if (n.Kind == 7) then (jA (n.Kind == 7)) else (jA (n.Kind == 8)))))
def jX (n:bI):Option Int:=
 if (n.Kind == 2) then (lF n (n.Kind == 2)) else (lF n (n.Kind == 3))
def aJz (a:Int):Option Bool:=
 some (a == 0)
def aBs (c:(List bI)) (a b:Int):Option ((Int × Int) ⊕ (Int ⊕ Bool)):=
 if (decide (b < (c.length:Int))) then (ob (ix c b) fun d=>
 if (a == 0) then (some (.inr (.inr false))) else (ob (jX d) fun e=>
 some (.inl (wr (a+(wr (e - 1))),wr (b+1))))) else (some (.inr (.inl a)))
def aEh (b:(List bI)):Option Bool:=
 ob (loop (fun (s:(Int × Int))=>aBs b s.1 s.2) (1,0)) fun r=>match r with|.inl r=>aJz r|.inr r=>some r
def lT (a:Bool):Option Bool:=
 some a
def pP (n:bI):Option Bool:=
 if (n.Kind == 4) then (lT true) else (lT (n.Kind == 5))
def iG (a b:aL):Option (aL × Bool):=
 ob (dY a b) fun c=>
 if (!c) then (some (a,false)) else (ob (slc a 0 (wr ((a.length:Int) - (b.length:Int)))) fun d=>
 some (d,true))
def kC (b c:aL):Option (aL × Bool):=
 ob (iG b c) fun a=>
 some (a.1,a.2)
def mZ (a:Bool):Option Bool:=
 some a
def aAq (a:aL):Option Bool:=
 ob (kC a ([42]:aL)) fun b=>
 if (a == ([]:aL)) then (mZ true) else (ob (aDT a) fun c=>
 if c then (mZ true) else (if b.2 then (ob (kZ b.1) fun d=>
 mZ d) else (mZ false)))
def nY (a:Bool):Option Bool:=
 some a
def oQ (n:bI):Option Bool:=
 ob (pP n) fun b=>
 if b then (ob (aAq n.B) fun c=>
 some c) else (if (n.B == ([]:aL)) then (nY (!n.Not)) else (nY false))
def pQ (a:Bool):Option Bool:=
 some a
def nA (n:bI):Option Bool:=
 if (n.Kind == 7) then (pQ true) else (pQ (n.Kind == 8))
def pR (n:bI) (b:Bool):Option Bool:=
 if b then (ob (fS n.Variable 0 2) fun c=>
 some c) else (some (n.Variable == 0))
def qV (n:bI):Option Bool:=
 ob (nA n) fun b=>
 if b then (pR n true) else (pR n (n.Kind == 6))
def aAL (a:Int):Option Int:=
 some a
def uB (c:(List bI)) (a b:Int):Option ((Int × Int) ⊕ Int):=
 if (decide (0 < b)) then (ob (ix c a) fun d=>
 ob (jX d) fun e=>
 some (.inl (wr (a+1),wr (b+(wr (e - 1)))))) else (some (.inr a))
def kL (a:(List bI)) (k:Int):Option Int:=
 ob (loop (fun (s:(Int × Int))=>uB a s.1 s.2) (k,1)) fun r=>aAL r
def aLe:Option Int:=
 some (-1)
def aAr (a:Int) (b:Bool):Option (Int ⊕ (Unit ⊕ Int)):=
 if b then (some (.inr (.inr a))) else (some (.inl (wr (a - 1))))
def aAs (b:(List bI)) (k a:Int):Option (Int ⊕ (Unit ⊕ Int)):=
 if (decide (0<=a)) then (ob (ix b a) fun d=>
 ob (nA d) fun e=>
 if e then (ob (ix b k) fun f=>
 if (d.Variable == f.Variable) then (ob (kL b a) fun g=>
 aAr a (decide (k < g))) else (aAr a false)) else (aAr a false)) else (some (.inr (.inl ())))
def aCs (c:(List bI)) (k:Int):Option Int:=
 ob (loop (fun (s:Int)=>aAs c k s) (wr (k - 1))) fun r=>match r with|.inl r=>aLe|.inr r=>some r
def wT:Option Bool:=
 some true
def iH (a:Int) (b:Bool):Option (Int ⊕ (Unit ⊕ Bool)):=
 if b then (some (.inr (.inr false))) else (some (.inl (wr (a+1))))
def lU (c:(List bI)) (a:Int):Option (Int ⊕ (Unit ⊕ Bool)):=
 if (decide (a < (c.length:Int))) then (ob (ix c a) fun b=>
 ob (fS b.Kind 0 8) fun d=>
 if (!d) then (iH a true) else (ob (oQ b) fun e=>
 if (!e) then (iH a true) else (ob (qV b) fun f=>
 if (!f) then (iH a true) else (if (b.Kind == 6) then (ob (aCs c a) fun g=>
 iH a (decide (g < 0))) else (iH a false))))) else (some (.inr (.inl ())))
def lV (b:(List bI)) (c:Bool):Option Bool:=
 if c then (some false) else (ob (loop (fun (s:Int)=>lU b s) 0) fun r=>match r with|.inl r=>wT|.inr r=>some r)
def gQ (a:(List bI)):Option Bool:=
 ob (fS (a.length:Int) 1 30) fun b=>
 if (!b) then (lV a true) else (ob (aEh a) fun c=>
 lV a (!c))
def yR (a:bI) (b:List (Tr bI)) (c:List bI):Option ((Tr bI) × (List bI)):=
 some ((Tr.mk a b),c)
def nB (e:(List bI)->Option ((Tr bI) × (List bI))) (f:Int) (a:List (Tr bI)) (b:List bI) (c:Int):Option ((List (Tr bI) × List bI × Int) ⊕ (List (Tr bI) × List bI)):=
 if (decide (c < f)) then (ob (e b) fun d=>
 ob (oH a ([d.1]:List (Tr bI))) fun g=>
 some (.inl (g,d.2,wr (c+1)))) else (some (.inr (a,b)))
def gV (d:(List bI)->Option ((Tr bI) × (List bI))) (a:(List bI)):Option ((Tr bI) × (List bI)):=
 ob (ix a 0) fun b=>
 ob (slc a 1 (a.length:Int)) fun e=>
 ob (jX b) fun f=>
 ob (loop (fun (s:(List (Tr bI) × List bI × Int))=>nB d f s.1 s.2.1 s.2.2) ([],e,0)) fun r=>yR b r.1 r.2
def gW:Nat->(List bI)->Option ((Tr bI) × (List bI))
 |0=>fun _=>none
 |n+1=>gV (gW n)
def aDG (a:(List bI)):Option ((Tr bI) × (List bI)):=
 gW 100000 a
def aGs (a:(List bI)):Option (Tr bI):=
 ob (aDG a) fun b=>
 some b.1
def pF (b:Bool) (a:aL):Option aL:=
 if b then (ob (eK ([33]:aL) a) fun c=>
 some c) else (some a)
def yS (a:aL) (b:Bool):Option aL:=
 ob (kC a ([42]:aL)) fun c=>
 if (a == ([]:aL)) then (pF b ([95]:aL)) else (if c.2 then (ob (eK c.1 ([40,42,41]:aL)) fun d=>
 pF b d) else (pF b a))
def lW:Option Int:=
 some (-1)
def dE (b:(List Int)) (c a:Int):Option (Int ⊕ (Unit ⊕ Int)):=
 if (decide (a < (b.length:Int))) then (ob (ix b a) fun d=>
 if (c == d) then (some (.inr (.inr a))) else (some (.inl (wr (a+1))))) else (some (.inr (.inl ())))
def eS (b:(List Int)) (c:Int):Option Int:=
 ob (loop (fun (s:Int)=>dE b c s) 0) fun r=>match r with|.inl r=>lW|.inr r=>some r
def cC (a:(List Int)) (b:Int):Option Bool:=
 ob (eS a b) fun c=>
 some (decide (0<=c))
def eJ (c:(Tr bI)->Option aL) (a:(Tr bI)) (d:(List Int)):Option aL:=
 ob (cC d a.val.Kind) fun e=>
 if e then (ob (c a) fun f=>
 ob (eK ([40]:aL) f) fun g=>
 ob (eK g ([41]:aL)) fun h=>
 some h) else (ob (c a) fun i=>
 some i)
def aDf (a:aL):Option aL:=
 some a
def aDg (a:aL):Option aL:=
 some a
def aDh (a:aL):Option aL:=
 some a
def aDi (a:aL):Option aL:=
 some a
def aDj (a:aL):Option aL:=
 some a
def gC (b:(Tr bI)->Option aL) (a:(Tr bI)):Option aL:=
 if (a.val.Kind == 0) then (some ([116,114,117,101]:aL)) else (if (a.val.Kind == 1) then (some ([102,97,108,115,101]:aL)) else (if (a.val.Kind == 2) then (ob (ix a.kids 0) fun c=>
 ob (ix a.kids 1) fun d=>
 ob (eJ b c ([2,3]:List Int)) fun e=>
 ob (eK e ([32,38,32]:aL)) fun f=>
 ob (eJ b d ([3]:List Int)) fun g=>
 ob (eK f g) fun h=>
 aDf h) else (if (a.val.Kind == 3) then (ob (ix a.kids 0) fun i=>
 ob (ix a.kids 1) fun j=>
 ob (eJ b i ([3]:List Int)) fun k=>
 ob (eK k ([32,124,32]:aL)) fun l=>
 ob (eJ b j []) fun m=>
 ob (eK l m) fun n=>
 some n) else (if (a.val.Kind == 4) then (ob (ix a.kids 0) fun o=>
 ob (yS a.val.B a.val.Not) fun p=>
 ob (eK ([60]:aL) p) fun q=>
 ob (eK q ([62]:aL)) fun r=>
 ob (eJ b o ([2,3]:List Int)) fun s=>
 ob (eK r s) fun t=>
 aDg t) else (if (a.val.Kind == 5) then (ob (ix a.kids 0) fun u=>
 ob (yS a.val.B a.val.Not) fun v=>
 ob (eK ([91]:aL) v) fun w=>
 ob (eK w ([93]:aL)) fun x=>
 ob (eJ b u ([2,3]:List Int)) fun y=>
 ob (eK x y) fun z=>
 aDh z) else (if (a.val.Kind == 7) then (ob (ix a.kids 0) fun a0=>
 ob (gN a.val.Variable) fun a1=>
 ob (eK ([109,117,32,88]:aL) a1) fun a2=>
 ob (eK a2 ([46]:aL)) fun a3=>
 ob (eJ b a0 ([2,3]:List Int)) fun a4=>
 ob (eK a3 a4) fun a5=>
 aDi a5) else (if (a.val.Kind == 8) then (ob (ix a.kids 0) fun a6=>
 ob (gN a.val.Variable) fun a7=>
 ob (eK ([110,117,32,88]:aL) a7) fun a8=>
 ob (eK a8 ([46]:aL)) fun a9=>
 ob (eJ b a6 ([2,3]:List Int)) fun b0=>
 ob (eK a9 b0) fun b1=>
 aDj b1) else (ob (gN a.val.Variable) fun b2=>
 ob (eK ([88]:aL) b2) fun b3=>
 some b3))))))))
def eA:Nat->(Tr bI)->Option aL
 |0=>fun _=>none
 |n+1=>gC (eA n)
def aCt (a:(Tr bI)):Option aL:=
 eA 100000 a
def pG (a:(List bI)):Option aL:=
 ob (gQ a) fun b=>
 if (!b) then (some ([]:aL)) else (ob (aGs a) fun c=>
 ob (aCt c) fun d=>
 some d)
def wU (d:Definition):Option Bool:=
 ob (fS d.Parameters 0 3) fun b=>
 some (!b)
def fI:Option Int:=
 some (-1)
def bX (b:(List Definition)) (a:Int):Option (Int ⊕ (Unit ⊕ Int)):=
 if (decide (a < (b.length:Int))) then (ob (ix b a) fun c=>
 ob (wU c) fun d=>
 if d then (some (.inr (.inr a))) else (some (.inl (wr (a+1))))) else (some (.inr (.inl ())))
def cU (b:(List Definition)):Option Int:=
 ob (loop (fun (s:Int)=>bX b s) 0) fun r=>match r with|.inl r=>fI|.inr r=>some r
def cM (a:(List Definition)):Option Bool:=
 ob (cU a) fun b=>
 some (decide (0<=b))
def wV (a:(List Definition)):Option Bool:=
 ob (cM a) fun b=>
 some (!b)
def qW (d:Definition) (p:aL):Option Bool:=
 some (d.Name == p)
def fE:Option Int:=
 some (-1)
def bQ (b:(List Definition)) (c:aL) (a:Int):Option (Int ⊕ (Unit ⊕ Int)):=
 if (decide (a < (b.length:Int))) then (ob (ix b a) fun d=>
 ob (qW d c) fun e=>
 if e then (some (.inr (.inr a))) else (some (.inl (wr (a+1))))) else (some (.inr (.inl ())))
def cN (b:(List Definition)) (c:aL):Option Int:=
 ob (loop (fun (s:Int)=>bQ b c s) 0) fun r=>match r with|.inl r=>fE|.inr r=>some r
def lX (a:(List Definition)) (b:aL):Option Int:=
 ob (cN a b) fun c=>
 some c
def rU (p:bG) (b:Bool):Option Int:=
 if b then (some 1) else (if (p.Kind == 2) then (some 2) else (some 0))
def tJ (p:bG):Option Int:=
 if (p.Kind == 1) then (rU p (p.Kind == 1)) else (if (p.Kind == 3) then (rU p (p.Kind == 3)) else (rU p (p.Kind == 4)))
def mJ (a:Int):Option Int:=
 some a
def gL (d:Definition) (a c:Int):Option ((Int × Int) ⊕ (Int ⊕ Int)):=
 if (decide (0 < c)) then (if (decide ((d.Body.length:Int)<=a)) then (some (.inr (.inr (-1)))) else (ob (ix d.Body a) fun e=>
 ob (tJ e) fun f=>
 some (.inl (wr (a+1),wr (c+(wr (f - 1))))))) else (some (.inr (.inl a)))
def kV (d:Definition) (c:Int):Option Int:=
 ob (loop (fun (s:(Int × Int))=>gL d s.1 s.2) (c,1)) fun r=>match r with|.inl r=>mJ r|.inr r=>some r
def iR (a:Int) (b:List dH):Option (Int × (List dH)):=
 some (a,b)
def eV (f:Int->dH->(List dH)->Definition->Definition->Option (Int × (List dH))) (a:Definition) (g:bG) (h i b c:Int) (d:List dH):Option ((Int × Int × List dH) ⊕ (Int × List dH)):=
 if (decide (c < i)) then (ob (f b ⟨h,g.Kind == 1⟩ d a a) fun e=>
 some (.inl (e.1,wr (c+1),e.2))) else (some (.inr (b,d)))
def cV (c:Int->dH->(List dH)->Definition->Definition->Option (Int × (List dH))) (d:Int) (e:Definition) (f:List dH) (a:bG) (g:Int):Option (Int × (List dH)):=
 ob (tJ a) fun h=>
 ob (loop (fun (s:(Int × Int × List dH))=>eV c e a g h s.1 s.2.1 s.2.2) (wr (d+1),0,f)) fun r=>iR r.1 r.2
def dP (d:Int->dH->(List dH)->Definition->Definition->Option (Int × (List dH))) (a:Int) (p:dH) (e:(List dH)) (h f:Definition):Option (Int × (List dH)):=
 ob (ix e a) fun i=>
 ob (st e a (⟨p.scope,p.behind⟩:dH)) fun g=>
 ob (ix h.Body a) fun c=>
 if (c.Kind == 4) then (cV d a f g c (wr (p.scope+1))) else (cV d a f g c p.scope)
def cH:Nat->Int->dH->(List dH)->Definition->Definition->Option (Int × (List dH))
 |0=>fun _ _ _ _ _=>none
 |n+1=>dP (cH n)
def nZ (a:Int) (p:dH) (c:(List dH)) (d e:Definition):Option (Int × (List dH)):=
 cH 100000 a p c d e
def kD (d:Definition):Option (List dH):=
 ob (mkz (d.Body.length:Int) (⟨0,false⟩:dH)) fun b=>
 ob (nZ 0 ⟨d.Parameters,false⟩ b d d) fun c=>
 some c.2
def eB (a:Bool):Option Bool:=
 some a
def kW (p:bG) (c b:Bool):Option Bool:=
 ob (fS p.Kind 0 5) fun d=>
 if d then (if c then (if (p.Kind == 1) then (if b then (eB true) else (eB ((p.Arguments.length:Int) == 0))) else (if (p.Name == ([]:aL)) then (if b then (eB true) else (eB ((p.Arguments.length:Int) == 0))) else (eB false))) else (if (p.Number == 0) then (if (p.Kind == 1) then (if b then (eB true) else (eB ((p.Arguments.length:Int) == 0))) else (if (p.Name == ([]:aL)) then (if b then (eB true) else (eB ((p.Arguments.length:Int) == 0))) else (eB false))) else (eB false))) else (eB false)
def nC (p:bG) (b:Bool):Option Bool:=
 if (p.Kind == 1) then (kW p b true) else (if (p.Kind == 3) then (kW p b true) else (kW p b (p.Kind == 5)))
def tK (p:bG):Option Bool:=
 if (p.Kind == 4) then (nC p true) else (nC p (p.Kind == 5))
def lY (a:Bool):Option Bool:=
 some a
def qX (p:bG) (b:(List Definition)):Option Bool:=
 if (p.Kind == 1) then (if ((p.Arguments.length:Int) == 0) then (lY true) else (if (!(p.Name == ([116,97,117]:aL))) then (lY (decide ((p.Arguments.length:Int)<=2))) else (lY false))) else (if (p.Kind == 3) then (some ((p.Arguments.length:Int) == 1)) else (if (p.Kind == 5) then (ob (ix b p.Number) fun c=>
 some ((p.Arguments.length:Int) == c.Parameters)) else (some true)))
def aBt (t:aR) (b:Int):Option Bool:=
 if (t.Kind == 0) then (ob (aBC t.Value) fun c=>
 some c) else (if (t.Kind == 1) then (ob (fS t.Value 0 (wr (b - 1))) fun d=>
 some d) else (if (t.Kind == 2) then (ob (fS t.Value 0 8) fun e=>
 some e) else (if (t.Kind == 3) then (some (t.Value == 0)) else (some false))))
def uC (t:aR):Option Int:=
 if (t.Kind == 2) then (some 2) else (if (t.Kind == 3) then (some 1) else (some 0))
def aFB (a:Int):Option Bool:=
 some (a == 0)
def uD (a b:Int) (c:aR) (d:Bool):Option ((Int × Int) ⊕ (Int ⊕ Bool)):=
 if d then (some (.inr (.inr false))) else (ob (uC c) fun e=>
 some (.inl (wr (a+(wr (e - 1))),wr (b+1))))
def oR (e:(List aR)) (f a b:Int):Option ((Int × Int) ⊕ (Int ⊕ Bool)):=
 if (decide (b < (e.length:Int))) then (ob (ix e b) fun c=>
 if (a == 0) then (uD a b c true) else (ob (aBt c f) fun g=>
 uD a b c (!g))) else (some (.inr (.inl a)))
def lM (e:(List aR)) (c:Int) (d:Bool):Option Bool:=
 if d then (some false) else (ob (loop (fun (s:(Int × Int))=>oR e c s.1 s.2) (1,0)) fun r=>match r with|.inl r=>aFB r|.inr r=>some r)
def wW (e:(List aR)) (b c:Int):Option Bool:=
 ob (fS b 0 29) fun d=>
 if (!d) then (lM e b true) else (ob (fS c 1 60) fun f=>
 if (!f) then (lM e b true) else (ob (fS (e.length:Int) 1 c) fun g=>
 lM e b (!g)))
def yT (e:(List aR)) (p:dH):Option Bool:=
 ob (wW e p.scope 15) fun c=>
 some (!c)
def gG:Option Int:=
 some (-1)
def cK (b:(List (List aR))) (c:dH) (a:Int):Option (Int ⊕ (Unit ⊕ Int)):=
 if (decide (a < (b.length:Int))) then (ob (ix b a) fun d=>
 ob (yT d c) fun e=>
 if e then (some (.inr (.inr a))) else (some (.inl (wr (a+1))))) else (some (.inr (.inl ())))
def dV (b:(List (List aR))) (c:dH):Option Int:=
 ob (loop (fun (s:Int)=>cK b c s) 0) fun r=>match r with|.inl r=>gG|.inr r=>some r
def dI (a:(List (List aR))) (b:dH):Option Bool:=
 ob (dV a b) fun c=>
 some (decide (0<=c))
def kX (p:bG) (b:dH) (c:Bool):Option Int:=
 if c then (some 7) else (ob (dI p.Arguments b) fun d=>
 if d then (some 8) else (some 0))
def kY (p:bG) (b:dH) (c:Bool):Option Int:=
 if c then (some 6) else (if (p.Kind == 4) then (kX p b (decide (6<=b.scope))) else (kX p b false))
def gD (p:bG) (c:(List Definition)) (b:dH) (d:Bool):Option Int:=
 if d then (some 4) else (ob (qX p c) fun e=>
 if (!e) then (some 5) else (if (p.Kind == 5) then (kY p b (!b.behind)) else (kY p b false)))
def jB (p:bG) (b:(List Definition)) (c:dH) (d:Bool):Option Int:=
 if d then (some 3) else (if (p.Kind == 4) then (ob (fS p.Number 1 7) fun e=>
 if (!e) then (gD p b c true) else (if (p.Kind == 5) then (ob (aBr p.Number (b.length:Int)) fun f=>
 gD p b c (!f)) else (gD p b c false))) else (if (p.Kind == 5) then (ob (aBr p.Number (b.length:Int)) fun g=>
 gD p b c (!g)) else (gD p b c false)))
def pH (p:bG) (b:(List Definition)) (c:dH):Option Int:=
 ob (tK p) fun d=>
 if (!d) then (some 2) else (if (p.Kind == 1) then (if (!(p.Name == ([116,97,117]:aL))) then (ob (kZ p.Name) fun e=>
 jB p b c (!e)) else (jB p b c false)) else (jB p b c false))
def aGt:Option (Int × Int):=
 some (0,0)
def qY (e:(List Definition)) (d:Definition) (f:(List dH)) (a:Int):Option (Int ⊕ (Unit ⊕ (Int × Int))):=
 if (decide (a < (d.Body.length:Int))) then (ob (ix d.Body a) fun g=>
 ob (ix f a) fun h=>
 ob (pH g e h) fun c=>
 if (c != 0) then (some (.inr (.inr (a,c)))) else (some (.inl (wr (a+1))))) else (some (.inr (.inl ())))
def qZ (c:(List Definition)) (d:Definition) (e:Bool):Option (Int × Int):=
 if e then (some (0,1)) else (ob (kD d) fun f=>
 ob (loop (fun (s:Int)=>qY c d f s) 0) fun r=>match r with|.inl r=>aGt|.inr r=>some r)
def vB (b:(List Definition)) (d:Definition):Option (Int × Int):=
 ob (fS (d.Body.length:Int) 1 20) fun c=>
 if (!c) then (qZ b d true) else (ob (kV d 0) fun e=>
 qZ b d (e != (d.Body.length:Int)))
def xO:Option Bool:=
 some true
def lH (a:(List Definition)) (b:Int) (c:Definition) (d:Bool):Option (Int ⊕ (Unit ⊕ Bool)):=
 if d then (some (.inr (.inr false))) else (ob (vB a c) fun e=>
 if (e.2 != 0) then (some (.inr (.inr false))) else (some (.inl (wr (b+1)))))
def iX (a:(List Definition)) (b:Int):Option (Int ⊕ (Unit ⊕ Bool)):=
 if (decide (b < (a.length:Int))) then (ob (ix a b) fun c=>
 ob (aBU c.Name) fun d=>
 if (!d) then (lH a b c true) else (ob (slc a 0 b) fun e=>
 ob (lX e c.Name) fun f=>
 lH a b c (decide (0<=f)))) else (some (.inr (.inl ())))
def iY (b:(List Definition)) (c:Bool):Option Bool:=
 if c then (some false) else (ob (loop (fun (s:Int)=>iX b s) 0) fun r=>match r with|.inl r=>xO|.inr r=>some r)
def gX (a:(List Definition)):Option Bool:=
 ob (fS (a.length:Int) 1 4) fun b=>
 if (!b) then (iY a true) else (ob (wV a) fun c=>
 iY a (!c))
def nD (a:Bool):Option Bool:=
 some a
def tL (b:(List Definition)) (c:aY):Option Bool:=
 ob (aBr c.Definition (b.length:Int)) fun d=>
 if d then (ob (ix b c.Definition) fun e=>
 if ((c.Values.length:Int) == e.Parameters) then (ob (aAk c.Values) fun f=>
 nD f) else (nD false)) else (nD false)
def mK (a:aL):Option Bool:=
 some (!(a == a))
def iZ (a y:aL):Option Int:=
 ob (mK a) fun d=>
 ob (mK y) fun c=>
 if d then (if c then (some 0) else (some (-1))) else (if c then (some 1) else (if (pM a y) then (some (-1)) else (if (!(pM a y||a == y)) then (some 1) else (some 0))))
def kE (a b:(List aL)):Option Int:=
 if (decide ((a.length:Int) < (b.length:Int))) then (some (-1)) else (some 0)
def bS (b c:(List aL)) (a:Int):Option (Int ⊕ (Unit ⊕ Int)):=
 if (decide (a < (b.length:Int))) then (ob (ix b a) fun e=>
 if (decide ((c.length:Int)<=a)) then (some (.inr (.inr 1))) else (ob (ix c a) fun f=>
 ob (iZ e f) fun d=>
 if (d != 0) then (some (.inr (.inr d))) else (some (.inl (wr (a+1)))))) else (some (.inr (.inl ())))
def fO (b c:(List aL)):Option Int:=
 ob (loop (fun (s:Int)=>bS b c s) 0) fun r=>match r with|.inl r=>kE b c|.inr r=>some r
def lZ (a b:bB):Option Int:=
 ob (fO ([a.Left,a.Right]:List aL) ([b.Left,b.Right]:List aL)) fun e=>
 some e
def oA (a:Bool):Option Bool:=
 some a
def uE (o p:bB):Option Bool:=
 if (o.Left == p.Result) then (oA true) else (oA (o.Right == p.Result))
def fU:Option Int:=
 some (-1)
def cG (b:(List bB)) (c:bB) (a:Int):Option (Int ⊕ (Unit ⊕ Int)):=
 if (decide (a < (b.length:Int))) then (ob (ix b a) fun d=>
 ob (uE d c) fun e=>
 if e then (some (.inr (.inr a))) else (some (.inl (wr (a+1))))) else (some (.inr (.inl ())))
def dM (b:(List bB)) (c:bB):Option Int:=
 ob (loop (fun (s:Int)=>cG b c s) 0) fun r=>match r with|.inl r=>fU|.inr r=>some r
def dF (a:(List bB)) (b:bB):Option Bool:=
 ob (dM a b) fun c=>
 some (decide (0<=c))
def aFC (a:(List bB)):Option Bool:=
 some (decide ((a.length:Int)<=6))
def fX (a:(List bB)) (b:Int) (c:bB) (d:Bool):Option (Int ⊕ (Unit ⊕ Bool)):=
 if d then (some (.inr (.inr false))) else (ob (dF a c) fun e=>
 if e then (some (.inr (.inr false))) else (some (.inl (wr (b+1)))))
def iO (c:(List bB)) (b:Int):Option (Int ⊕ (Unit ⊕ Bool)):=
 if (decide (b < (c.length:Int))) then (ob (ix c b) fun a=>
 ob (kZ a.Left) fun d=>
 if (!d) then (fX c b a true) else (ob (kZ a.Right) fun e=>
 if (!e) then (fX c b a true) else (ob (kZ a.Result) fun f=>
 if (!f) then (fX c b a true) else (if (!(pM a.Left a.Right||a.Left == a.Right)) then (fX c b a true) else (if (decide (0 < b)) then (ob (ix c (wr (b - 1))) fun g=>
 ob (lZ g a) fun h=>
 fX c b a (decide (0<=h))) else (fX c b a false)))))) else (some (.inr (.inl ())))
def oB (b:(List bB)):Option Bool:=
 ob (loop (fun (s:Int)=>iO b s) 0) fun r=>match r with|.inl r=>aFC b|.inr r=>some r
def aFa (a:(List aL)):Option Bool:=
 some (decide ((a.length:Int)<=12))
def wX (a:Int) (b:Bool):Option (Int ⊕ (Unit ⊕ Bool)):=
 if b then (some (.inr (.inr false))) else (some (.inl (wr (a+1))))
def wY (b:(List aL)) (a:Int):Option (Int ⊕ (Unit ⊕ Bool)):=
 if (decide (a < (b.length:Int))) then (ob (ix b a) fun c=>
 ob (kZ c) fun e=>
 if (!e) then (wX a true) else (if (decide (0 < a)) then (ob (ix b (wr (a - 1))) fun d=>
 wX a (pM c d||c == d)) else (wX a false))) else (some (.inr (.inl ())))
def aBF (b:(List aL)):Option Bool:=
 ob (loop (fun (s:Int)=>wY b s) 0) fun r=>match r with|.inl r=>aFa b|.inr r=>some r
def yU (c:aY) (p:bM):Option Bool:=
 ob (tL p.Definitions c) fun d=>
 some (!d)
def fM:Option Int:=
 some (-1)
def cA (b:(List aY)) (c:bM) (a:Int):Option (Int ⊕ (Unit ⊕ Int)):=
 if (decide (a < (b.length:Int))) then (ob (ix b a) fun d=>
 ob (yU d c) fun e=>
 if e then (some (.inr (.inr a))) else (some (.inl (wr (a+1))))) else (some (.inr (.inl ())))
def dB (b:(List aY)) (c:bM):Option Int:=
 ob (loop (fun (s:Int)=>cA b c s) 0) fun r=>match r with|.inl r=>fM|.inr r=>some r
def cQ (a:(List aY)) (b:bM):Option Bool:=
 ob (dB a b) fun c=>
 some (decide (0<=c))
def rV (a:bM) (b:Bool):Option Int:=
 if b then (some 2) else (ob (oB a.Meetings) fun c=>
 if (!c) then (some 3) else (ob (aBF a.Allowed) fun d=>
 if (!d) then (some 4) else (ob (aBF a.Hidden) fun e=>
 if (!e) then (some 5) else (some 0))))
def tM (a:bM):Option Int:=
 ob (gX a.Definitions) fun b=>
 if (!b) then (some 1) else (ob (fS (a.Components.length:Int) 1 3) fun c=>
 if (!c) then (rV a true) else (ob (cQ a.Components a) fun d=>
 rV a d))
def mF (a:bM):Option Bool:=
 ob (tM a) fun b=>
 some (b == 0)
def aDH (a:aR) (b:List (Tr aR)) (c:List aR):Option ((Tr aR) × (List aR)):=
 some ((Tr.mk a b),c)
def tN (e:(List aR)->Option ((Tr aR) × (List aR))) (f:Int) (a:List (Tr aR)) (b:List aR) (c:Int):Option ((List (Tr aR) × List aR × Int) ⊕ (List (Tr aR) × List aR)):=
 if (decide (c < f)) then (ob (e b) fun d=>
 ob (oH a ([d.1]:List (Tr aR))) fun g=>
 some (.inl (g,d.2,wr (c+1)))) else (some (.inr (a,b)))
def kM (d:(List aR)->Option ((Tr aR) × (List aR))) (e:(List aR)):Option ((Tr aR) × (List aR)):=
 ob (ix e 0) fun b=>
 ob (slc e 1 (e.length:Int)) fun f=>
 ob (uC b) fun g=>
 ob (loop (fun (s:(List (Tr aR) × List aR × Int))=>tN d g s.1 s.2.1 s.2.2) ([],f,0)) fun r=>aDH b r.1 r.2
def kN:Nat->(List aR)->Option ((Tr aR) × (List aR))
 |0=>fun _=>none
 |n+1=>kM (kN n)
def aIs (e:(List aR)):Option ((Tr aR) × (List aR)):=
 kN 100000 e
def aIt (e:(List aR)):Option (Tr aR):=
 ob (aIs e) fun b=>
 some b.1
def iI (a:(Tr aR)):Option Int:=
 if (a.val.Kind == 2) then (ob (ix aKq a.val.Value) fun b=>
 some b) else (some 9)
def fV (b:(Tr aR)->Option aL) (a:(Tr aR)) (d:Bool):Option aL:=
 if d then (ob (b a) fun e=>
 ob (eK ([40]:aL) e) fun f=>
 ob (eK f ([41]:aL)) fun g=>
 some g) else (ob (b a) fun h=>
 some h)
def jI (b:(Tr aR)->Option aL) (a:(Tr aR)):Option aL:=
 if (a.val.Kind == 0) then (ob (gN a.val.Value) fun g=>
 some g) else (if (a.val.Kind == 1) then (ob (gN a.val.Value) fun h=>
 ob (eK ([118]:aL) h) fun i=>
 some i) else (if (a.val.Kind == 3) then (ob (ix a.kids 0) fun c=>
 ob (fV b c (c.val.Kind == 2)) fun j=>
 ob (eK ([33]:aL) j) fun k=>
 some k) else (ob (ix a.kids 0) fun d=>
 ob (ix a.kids 1) fun e=>
 ob (iI a) fun f=>
 ob (ix aIi a.val.Value) fun l=>
 ob (iI d) fun m=>
 ob (fV b d (decide (m < f))) fun n=>
 ob (eK n l) fun o=>
 ob (iI e) fun p=>
 ob (fV b e (decide (p<=f))) fun q=>
 ob (eK o q) fun r=>
 some r)))
def fY:Nat->(Tr aR)->Option aL
 |0=>fun _=>none
 |n+1=>jI (fY n)
def aAt (a:(Tr aR)):Option aL:=
 fY 100000 a
def aGu (a:List aL):Option aL:=
 ob (aAH a ([44]:aL)) fun b=>
 ob (eK ([40]:aL) b) fun c=>
 ob (eK c ([41]:aL)) fun d=>
 some d
def aDk (b:(List (List aR))) (c:List aL) (a:Int):Option ((List aL × Int) ⊕ (List aL)):=
 if (decide (a < (b.length:Int))) then (ob (ix b a) fun d=>
 ob (aIt d) fun e=>
 ob (aAt e) fun f=>
 ob (oH c ([f]:List aL)) fun g=>
 some (.inl (g,wr (a+1)))) else (some (.inr c))
def aAu (a:(List (List aR))):Option aL:=
 if ((a.length:Int) == 0) then (some ([]:aL)) else (ob (loop (fun (s:(List aL × Int))=>aDk a s.1 s.2) ([],0)) fun r=>aGu r)
def jC (b:(List Definition)->(List bG)->Option (aL × (List bG))) (c:(List Definition)) (a:(List bG)):Option (aL × (List bG)):=
 ob (ix a 0) fun f=>
 if (f.Kind == 2) then (ob (b c a) fun d=>
 ob (eK ([40]:aL) d.1) fun g=>
 ob (eK g ([41]:aL)) fun h=>
 some (h,d.2)) else (ob (b c a) fun e=>
 some (e.1,e.2))
def sE (d:(List Definition)->(List bG)->Option (aL × (List bG))) (b:(List Definition)) (e:(List bG)):Option (aL × (List bG)):=
 ob (ix e 0) fun a=>
 ob (slc e 1 (e.length:Int)) fun c=>
 if (a.Kind == 1) then (ob (aAu a.Arguments) fun k=>
 ob (eK a.Name k) fun l=>
 ob (eK l ([46]:aL)) fun m=>
 ob (jC d b c) fun f=>
 ob (eK m f.1) fun n=>
 some (n,f.2)) else (if (a.Kind == 2) then (ob (jC d b c) fun g=>
 ob (eK g.1 ([32,43,32]:aL)) fun o=>
 ob (d b g.2) fun h=>
 ob (eK o h.1) fun p=>
 some (p,h.2)) else (if (a.Kind == 3) then (ob (ix a.Arguments 0) fun q=>
 ob (aIt q) fun r=>
 ob (aAt r) fun s=>
 ob (eK ([91]:aL) s) fun t=>
 ob (eK t ([93]:aL)) fun u=>
 ob (jC d b c) fun i=>
 ob (eK u i.1) fun v=>
 some (v,i.2)) else (if (a.Kind == 4) then (ob (gN a.Number) fun w=>
 ob (eK ([115,117,109,32]:aL) w) fun x=>
 ob (eK x ([46]:aL)) fun y=>
 ob (jC d b c) fun j=>
 ob (eK y j.1) fun z=>
 some (z,j.2)) else (if (a.Kind == 5) then (ob (ix b a.Number) fun a0=>
 ob (aAu a.Arguments) fun a1=>
 ob (eK a0.Name a1) fun a2=>
 some (a2,c)) else (some (([48]:aL),c))))))
def kF:Nat->(List Definition)->(List bG)->Option (aL × (List bG))
 |0=>fun _ _=>none
 |n+1=>sE (kF n)
def aJA (a:(List Definition)) (b:(List bG)):Option (aL × (List bG)):=
 kF 100000 a b
def fW (b:(List Definition)->(List bG)->Option (aL × (List bG))) (c:(List Definition)) (a:(List bG)):Option (aL × (List bG)):=
 ob (ix a 0) fun f=>
 if (f.Kind == 2) then (ob (b c a) fun d=>
 ob (eK ([40]:aL) d.1) fun g=>
 ob (eK g ([41]:aL)) fun h=>
 some (h,d.2)) else (ob (b c a) fun e=>
 some (e.1,e.2))
def fG (d:(List Definition)->(List bG)->Option (aL × (List bG))) (b:(List Definition)) (e:(List bG)):Option (aL × (List bG)):=
 ob (ix e 0) fun a=>
 ob (slc e 1 (e.length:Int)) fun c=>
 if (a.Kind == 1) then (ob (aAu a.Arguments) fun k=>
 ob (eK a.Name k) fun l=>
 ob (eK l ([46]:aL)) fun m=>
 ob (fW d b c) fun f=>
 ob (eK m f.1) fun n=>
 some (n,f.2)) else (if (a.Kind == 2) then (ob (fW d b c) fun g=>
 ob (eK g.1 ([32,43,32]:aL)) fun o=>
 ob (d b g.2) fun h=>
 ob (eK o h.1) fun p=>
 some (p,h.2)) else (if (a.Kind == 3) then (ob (ix a.Arguments 0) fun q=>
 ob (aIt q) fun r=>
 ob (aAt r) fun s=>
 ob (eK ([91]:aL) s) fun t=>
 ob (eK t ([93]:aL)) fun u=>
 ob (fW d b c) fun i=>
 ob (eK u i.1) fun v=>
 some (v,i.2)) else (if (a.Kind == 4) then (ob (gN a.Number) fun w=>
 ob (eK ([115,117,109,32]:aL) w) fun x=>
 ob (eK x ([46]:aL)) fun y=>
 ob (fW d b c) fun j=>
 ob (eK y j.1) fun z=>
 some (z,j.2)) else (if (a.Kind == 5) then (ob (ix b a.Number) fun a0=>
 ob (aAu a.Arguments) fun a1=>
 ob (eK a0.Name a1) fun a2=>
 some (a2,c)) else (some (([48]:aL),c))))))
def eG:Nat->(List Definition)->(List bG)->Option (aL × (List bG))
 |0=>fun _ _=>none
 |n+1=>fG (eG n)
def wZ (a:(List Definition)) (b:(List bG)):Option (aL × (List bG)):=
 eG 100000 a b
def nE (b:(List Definition)) (d:Definition):Option aL:=
 ob (eK ([112,114,111,99,32]:aL) d.Name) fun c=>
 ob (eK c ([32]:aL)) fun e=>
 ob (gN d.Parameters) fun f=>
 ob (eK e f) fun g=>
 ob (eK g ([32,61,32]:aL)) fun h=>
 ob (wZ b d.Body) fun i=>
 ob (eK h i.1) fun j=>
 some j
def pT (a:List aL):Option (List aL):=
 some a
def jR (a:bM) (b:List aL):Option (List aL):=
 if (decide (0 < (a.Hidden.length:Int))) then (ob (aAH a.Hidden ([32]:aL)) fun c=>
 ob (eK ([104,105,100,101,32]:aL) c) fun d=>
 ob (oH b ([d]:List aL)) fun e=>
 pT e) else (pT b)
def pU (a:bM) (b:List aL):Option (List aL):=
 if (decide (0 < (a.Allowed.length:Int))) then (ob (aAH a.Allowed ([32]:aL)) fun c=>
 ob (eK ([97,108,108,111,119,32]:aL) c) fun d=>
 ob (oH b ([d]:List aL)) fun e=>
 jR a e) else (jR a b)
def pV (c:bM) (d:List aL) (a:Int):Option ((List aL × Int) ⊕ (List aL)):=
 if (decide (a < (c.Meetings.length:Int))) then (ob (ix c.Meetings a) fun b=>
 ob (eK ([109,101,101,116,32]:aL) b.Left) fun e=>
 ob (eK e ([32]:aL)) fun f=>
 ob (eK f b.Right) fun g=>
 ob (eK g ([32]:aL)) fun h=>
 ob (eK h b.Result) fun i=>
 ob (oH d ([i]:List aL)) fun j=>
 some (.inl (j,wr (a+1)))) else (some (.inr d))
def pW (a:bM) (b c:List aL):Option (List aL):=
 ob (aAH c ([32,124,32]:aL)) fun d=>
 ob (eK ([114,117,110,32]:aL) d) fun e=>
 ob (oH b ([e]:List aL)) fun f=>
 ob (loop (fun (s:(List aL × Int))=>pV a s.1 s.2) (f,0)) fun r=>pU a r
def pX (a:List aL) (b:Int) (c:aL):Option ((List aL × Int) ⊕ (List aL)):=
 ob (oH a ([c]:List aL)) fun d=>
 some (.inl (d,wr (b+1)))
def mA (b:bM) (c:List aL) (a:Int):Option ((List aL × Int) ⊕ (List aL)):=
 if (decide (a < (b.Components.length:Int))) then (ob (ix b.Components a) fun d=>
 ob (ix b.Definitions d.Definition) fun e=>
 if (decide (0 < (d.Values.length:Int))) then (ob (aAi d.Values ([44]:aL)) fun f=>
 ob (eK ([40]:aL) f) fun g=>
 ob (eK g ([41]:aL)) fun h=>
 ob (eK e.Name h) fun i=>
 pX c a i) else (pX c a e.Name)) else (some (.inr c))
def pY (a:bM) (b:List aL):Option (List aL):=
 ob (loop (fun (s:(List aL × Int))=>mA a s.1 s.2) ([],0)) fun r=>pW a b r
def pZ (a:bM) (c:List aL) (b:Int):Option ((List aL × Int) ⊕ (List aL)):=
 if (decide (b < (a.Definitions.length:Int))) then (ob (ix a.Definitions b) fun d=>
 ob (nE a.Definitions d) fun e=>
 ob (oH c ([e]:List aL)) fun f=>
 some (.inl (f,wr (b+1)))) else (some (.inr c))
def rA (a:bM):Option (List aL):=
 ob (loop (fun (s:(List aL × Int))=>pZ a s.1 s.2) ([],0)) fun r=>pY a r
def rW (a:bM):Option aL:=
 ob (mF a) fun b=>
 if (!b) then (some ([]:aL)) else (ob (rA a) fun c=>
 ob (aAH c ([10]:aL)) fun d=>
 some d)
def rB (a:Bool):Option Bool:=
 some a
def nF (a:Bool):Option Bool:=
 some a
def nG (a:Bool):Option Bool:=
 some a
def mB (k:pL):Option Bool:=
 ob (aBU k.Name) fun d=>
 if (!d) then (some false) else (ob (aEg k.S ⟨0,0,[],[]⟩) fun b=>
 ob (wS k.Source ⟨[],[],[],[],[]⟩) fun c=>
 if (k.Kind == 1) then (ob (yQ k.S) fun e=>
 if e then (if ((k.Formula.length:Int) == 0) then (rB c) else (rB false)) else (rB false)) else (if (k.Kind == 2) then (ob (gQ k.Formula) fun f=>
 if f then (ob (pG k.Formula) fun g=>
 if (decide ((g.length:Int)<=400)) then (if b then (nF c) else (nF false)) else (nF false)) else (nF false)) else (if (k.Kind == 3) then (ob (mF k.Source) fun h=>
 if h then (ob (rW k.Source) fun i=>
 if (decide ((i.length:Int)<=16000)) then (if b then (nG ((k.Formula.length:Int) == 0)) else (nG false)) else (nG false)) else (nG false)) else (some false))))
def aFb (a:(List aL)):Option aL:=
 if ((a.length:Int) == 0) then (some ([45]:aL)) else (ob (aAH a ([32]:aL)) fun b=>
 some b)
def aBu (t:gM) (b:List aL):Option aL:=
 ob (gN t.N) fun c=>
 ob (eK c ([32]:aL)) fun d=>
 ob (gN t.I) fun e=>
 ob (eK d e) fun f=>
 ob (eK f ([124]:aL)) fun g=>
 ob (slc t.L 1 (t.L.length:Int)) fun h=>
 ob (aFb h) fun i=>
 ob (eK g i) fun j=>
 ob (eK j ([124]:aL)) fun k=>
 ob (aFb b) fun l=>
 ob (eK k l) fun m=>
 some m
def xA (t:gM) (d:List aL) (a:Int):Option ((List aL × Int) ⊕ (List aL)):=
 if (decide (a < (t.E.length:Int))) then (ob (ix t.E a) fun b=>
 ob (aAi ([b.F,b.B,b.To]:List Int) ([58]:aL)) fun e=>
 ob (oH d ([e]:List aL)) fun f=>
 some (.inl (f,wr (a+1)))) else (some (.inr d))
def aEi (t:gM):Option aL:=
 ob (yQ t) fun b=>
 if (!b) then (some ([]:aL)) else (ob (loop (fun (s:(List aL × Int))=>xA t s.1 s.2) ([],0)) fun r=>aBu t r)
def aFc (k:pL):Option aL:=
 if (k.Kind == 1) then (ob (aEi k.S) fun b=>
 some b) else (if (k.Kind == 2) then (ob (pG k.Formula) fun c=>
 some c) else (ob (rW k.Source) fun d=>
 ob (aAY d ([10]:aL) ([59]:aL)) fun e=>
 some e))
def aCu (k:pL):Option aL:=
 ob (mB k) fun b=>
 if (!b) then (some ([]:aL)) else (ob (aFc k) fun c=>
 some c)
def aGv:Option Bool:=
 some true
def xB (a b:(List aL)) (c:Int):Option (Int ⊕ (Unit ⊕ Bool)):=
 if (decide (c < (a.length:Int))) then (ob (ix a c) fun f=>
 ob (ix b c) fun g=>
 if (!(f == g)) then (some (.inr (.inr false))) else (some (.inl (wr (c+1))))) else (some (.inr (.inl ())))
def rC (a b:(List aL)):Option Bool:=
 if ((a.length:Int) != (b.length:Int)) then (some false) else (ob (loop (fun (s:Int)=>xB a b s) 0) fun r=>match r with|.inl r=>aGv|.inr r=>some r)
def aJB (a b:Edge):Option Bool:=
 if (a.F != b.F) then (some false) else (if (a.B != b.B) then (some false) else (if (a.To != b.To) then (some false) else (some true)))
def aJC:Option Bool:=
 some true
def aBv (a b:(List Edge)) (c:Int):Option (Int ⊕ (Unit ⊕ Bool)):=
 if (decide (c < (a.length:Int))) then (ob (ix a c) fun f=>
 ob (ix b c) fun g=>
 ob (aJB f g) fun h=>
 if (!h) then (some (.inr (.inr false))) else (some (.inl (wr (c+1))))) else (some (.inr (.inl ())))
def aEj (a b:(List Edge)):Option Bool:=
 if ((a.length:Int) != (b.length:Int)) then (some false) else (ob (loop (fun (s:Int)=>aBv a b s) 0) fun r=>match r with|.inl r=>aJC|.inr r=>some r)
def aLX (a b:gM):Option Bool:=
 if (a.N != b.N) then (some false) else (if (a.I != b.I) then (some false) else (ob (rC a.L b.L) fun e=>
 if (!e) then (some false) else (ob (aEj a.E b.E) fun f=>
 if (!f) then (some false) else (some true))))
def aJD (a b:bI):Option Bool:=
 if (a.Kind != b.Kind) then (some false) else (if (a.Variable != b.Variable) then (some false) else (if (!(a.B == b.B)) then (some false) else (if (a.Not != b.Not) then (some false) else (some true))))
def aJE:Option Bool:=
 some true
def aBw (a b:(List bI)) (c:Int):Option (Int ⊕ (Unit ⊕ Bool)):=
 if (decide (c < (a.length:Int))) then (ob (ix a c) fun f=>
 ob (ix b c) fun g=>
 ob (aJD f g) fun h=>
 if (!h) then (some (.inr (.inr false))) else (some (.inl (wr (c+1))))) else (some (.inr (.inl ())))
def aHd (a b:(List bI)):Option Bool:=
 if ((a.length:Int) != (b.length:Int)) then (some false) else (ob (loop (fun (s:Int)=>aBw a b s) 0) fun r=>match r with|.inl r=>aJE|.inr r=>some r)
def aJF (a b:aR):Option Bool:=
 if (a.Kind != b.Kind) then (some false) else (if (a.Value != b.Value) then (some false) else (some true))
def aJG:Option Bool:=
 some true
def aBx (a b:(List aR)) (c:Int):Option (Int ⊕ (Unit ⊕ Bool)):=
 if (decide (c < (a.length:Int))) then (ob (ix a c) fun f=>
 ob (ix b c) fun g=>
 ob (aJF f g) fun h=>
 if (!h) then (some (.inr (.inr false))) else (some (.inl (wr (c+1))))) else (some (.inr (.inl ())))
def aHe (a b:(List aR)):Option Bool:=
 if ((a.length:Int) != (b.length:Int)) then (some false) else (ob (loop (fun (s:Int)=>aBx a b s) 0) fun r=>match r with|.inl r=>aJG|.inr r=>some r)
def aHP:Option Bool:=
 some true
def zY (a b:(List (List aR))) (c:Int):Option (Int ⊕ (Unit ⊕ Bool)):=
 if (decide (c < (a.length:Int))) then (ob (ix a c) fun f=>
 ob (ix b c) fun g=>
 ob (aHe f g) fun h=>
 if (!h) then (some (.inr (.inr false))) else (some (.inl (wr (c+1))))) else (some (.inr (.inl ())))
def aFd (a b:(List (List aR))):Option Bool:=
 if ((a.length:Int) != (b.length:Int)) then (some false) else (ob (loop (fun (s:Int)=>zY a b s) 0) fun r=>match r with|.inl r=>aHP|.inr r=>some r)
def aJH (a b:bG):Option Bool:=
 if (a.Kind != b.Kind) then (some false) else (if (a.Number != b.Number) then (some false) else (if (!(a.Name == b.Name)) then (some false) else (ob (aFd a.Arguments b.Arguments) fun e=>
 if (!e) then (some false) else (some true))))
def aJI:Option Bool:=
 some true
def aBy (a b:(List bG)) (c:Int):Option (Int ⊕ (Unit ⊕ Bool)):=
 if (decide (c < (a.length:Int))) then (ob (ix a c) fun f=>
 ob (ix b c) fun g=>
 ob (aJH f g) fun h=>
 if (!h) then (some (.inr (.inr false))) else (some (.inl (wr (c+1))))) else (some (.inr (.inl ())))
def aHf (a b:(List bG)):Option Bool:=
 if ((a.length:Int) != (b.length:Int)) then (some false) else (ob (loop (fun (s:Int)=>aBy a b s) 0) fun r=>match r with|.inl r=>aJI|.inr r=>some r)
def xC (a b:Definition):Option Bool:=
 if (!(a.Name == b.Name)) then (some false) else (if (a.Parameters != b.Parameters) then (some false) else (ob (aHf a.Body b.Body) fun e=>
 if (!e) then (some false) else (some true)))
def aCv:Option Bool:=
 some true
def oC (a b:(List Definition)) (c:Int):Option (Int ⊕ (Unit ⊕ Bool)):=
 if (decide (c < (a.length:Int))) then (ob (ix a c) fun f=>
 ob (ix b c) fun g=>
 ob (xC f g) fun h=>
 if (!h) then (some (.inr (.inr false))) else (some (.inl (wr (c+1))))) else (some (.inr (.inl ())))
def uF (a b:(List Definition)):Option Bool:=
 if ((a.length:Int) != (b.length:Int)) then (some false) else (ob (loop (fun (s:Int)=>oC a b s) 0) fun r=>match r with|.inl r=>aCv|.inr r=>some r)
def aHQ:Option Bool:=
 some true
def zZ (a b:(List Int)) (c:Int):Option (Int ⊕ (Unit ⊕ Bool)):=
 if (decide (c < (a.length:Int))) then (ob (ix a c) fun f=>
 ob (ix b c) fun g=>
 if (f != g) then (some (.inr (.inr false))) else (some (.inl (wr (c+1))))) else (some (.inr (.inl ())))
def aCw (a b:(List Int)):Option Bool:=
 if ((a.length:Int) != (b.length:Int)) then (some false) else (ob (loop (fun (s:Int)=>zZ a b s) 0) fun r=>match r with|.inl r=>aHQ|.inr r=>some r)
def aAa (a b:aY):Option Bool:=
 if (a.Definition != b.Definition) then (some false) else (ob (aCw a.Values b.Values) fun e=>
 if (!e) then (some false) else (some true))
def aDl:Option Bool:=
 some true
def qA (a b:(List aY)) (c:Int):Option (Int ⊕ (Unit ⊕ Bool)):=
 if (decide (c < (a.length:Int))) then (ob (ix a c) fun f=>
 ob (ix b c) fun g=>
 ob (aAa f g) fun h=>
 if (!h) then (some (.inr (.inr false))) else (some (.inl (wr (c+1))))) else (some (.inr (.inl ())))
def xD (a b:(List aY)):Option Bool:=
 if ((a.length:Int) != (b.length:Int)) then (some false) else (ob (loop (fun (s:Int)=>qA a b s) 0) fun r=>match r with|.inl r=>aDl|.inr r=>some r)
def aDm (a b:bB):Option Bool:=
 if (!(a.Left == b.Left)) then (some false) else (if (!(a.Right == b.Right)) then (some false) else (if (!(a.Result == b.Result)) then (some false) else (some true)))
def aFD:Option Bool:=
 some true
def uG (a b:(List bB)) (c:Int):Option (Int ⊕ (Unit ⊕ Bool)):=
 if (decide (c < (a.length:Int))) then (ob (ix a c) fun f=>
 ob (ix b c) fun g=>
 ob (aDm f g) fun h=>
 if (!h) then (some (.inr (.inr false))) else (some (.inl (wr (c+1))))) else (some (.inr (.inl ())))
def aBz (a b:(List bB)):Option Bool:=
 if ((a.length:Int) != (b.length:Int)) then (some false) else (ob (loop (fun (s:Int)=>uG a b s) 0) fun r=>match r with|.inl r=>aFD|.inr r=>some r)
def aFe (a b:bM):Option Bool:=
 ob (uF a.Definitions b.Definitions) fun e=>
 if (!e) then (some false) else (ob (xD a.Components b.Components) fun f=>
 if (!f) then (some false) else (ob (aBz a.Meetings b.Meetings) fun g=>
 if (!g) then (some false) else (ob (rC a.Allowed b.Allowed) fun h=>
 if (!h) then (some false) else (ob (rC a.Hidden b.Hidden) fun i=>
 if (!i) then (some false) else (some true)))))
def aJJ (a b:pL):Option Bool:=
 if (!(a.Name == b.Name)) then (some false) else (if (a.Kind != b.Kind) then (some false) else (ob (aLX a.S b.S) fun e=>
 if (!e) then (some false) else (ob (aHd a.Formula b.Formula) fun f=>
 if (!f) then (some false) else (ob (aFe a.Source b.Source) fun g=>
 if (!g) then (some false) else (some true)))))
def qB (a:pL):Option Bool:=
 ob (aJj a 1048576) fun c=>
 if (decide (c < 0)) then (some true) else (ob (aCr a) fun d=>
 ob (aCn d) fun e=>
 ob (aCr a) fun b=>
 ob (aCu b) fun f=>
 if (!(f == e)) then (some false) else (ob (aCr a) fun g=>
 ob (aJJ b g) fun h=>
 if (!h) then (some false) else (some true)))
end
end Gv
