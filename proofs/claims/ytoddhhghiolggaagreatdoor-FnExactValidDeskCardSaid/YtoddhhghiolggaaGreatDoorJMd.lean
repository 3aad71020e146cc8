/- Models of the functions, printed by program off their code. Plain Lean. -/
import Derived.Test.YtoddhhghiolggaaGreatDoorJLM
set_option linter.all false
namespace Gv
noncomputable section
def aDF (a:List Int):Option ((List Int) × Bool):=
 some (a,true)
def rI (b:(List aN)) (c:List Int) (a:Int):Option ((List Int × Int) ⊕ (List Int ⊕ ((List Int) × Bool))):=
 if (decide (a < (b.length:Int))) then (ob (ix b a) fun e=>
 ob (sG e) fun d=>
 if (!d.2) then (some (.inr (.inr ([],false)))) else (ob (oR c ([d.1]:List Int)) fun f=>
 some (.inl (f,wr (a+1))))) else (some (.inr (.inl c)))
def sH (b:(List aN)):Option ((List Int) × Bool):=
 ob (loop (fun (s:(List Int × Int))=>rI b s.1 s.2) ([],0)) fun r=>match r with|.inl r=>aDF r|.inr r=>some r
def aFF (a:aN) (b:List aN):Option aN:=
 ob (aBB b a) fun c=>
 some c
def aAc (c:(List Int)) (b:List aN) (a:Int):Option ((List aN × Int) ⊕ (List aN)):=
 if (decide (a < (c.length:Int))) then (ob (ix c a) fun d=>
 ob (iF d) fun e=>
 ob (ix b a) fun g=>
 ob (st b a (e:aN)) fun f=>
 some (.inl (f,wr (a+1)))) else (some (.inr b))
def aBI (a:(List Int)) (b:aN):Option aN:=
 ob (mkz (a.length:Int) ([]:aN)) fun c=>
 ob (loop (fun (s:(List aN × Int))=>aAc a s.1 s.2) (c,0)) fun r=>aFF b r
def aEv (a:Bool):Option Bool:=
 some a
def aGv (c:UInt8):Option Bool:=
 if (decide (48<=(c.toNat:Int))) then (aEv (decide ((c.toNat:Int)<=57))) else (aEv false)
def aFG (a:Bool):Option Bool:=
 some a
def aCJ (a:aN):Option Bool:=
 if (decide (1<=(a.length:Int))) then (aFG (decide ((a.length:Int)<=10))) else (aFG false)
def aAd (a:Int) (b:Bool):Option (Int ⊕ (Unit ⊕ Bool)):=
 if b then (some (.inr (.inr false))) else (some (.inl (wr (a+1))))
def nE (b:aN) (a:Int) (c:Bool):Option (Int ⊕ (Unit ⊕ Bool)):=
 if (!c) then (if (a == 0) then (aAd a true) else (ob (ix b a) fun d=>
 ob (aGv d) fun e=>
 aAd a (!e))) else (aAd a false)
def uN (a:aN) (b:Int):Option (Int ⊕ (Unit ⊕ Bool)):=
 if (decide (b < (a.length:Int))) then (ob (ix a b) fun c45=>
 if (decide (97<=(c45.toNat:Int))) then (nE a b (decide ((c45.toNat:Int)<=122))) else (nE a b false)) else (some (.inr (.inl ())))
def aBJ (b:aN):Option Bool:=
 ob (loop (fun (s:Int)=>uN b s) 0) fun r=>match r with|.inl r=>aCJ b|.inr r=>some r
def yQ (a:Bool):Option Bool:=
 some a
def kW (a:aN):Option Bool:=
 ob (aBJ a) fun b=>
 if b then (yQ (!(a == ([116,97,117]:aN)))) else (yQ false)
def aFH (a:Bool):Option Bool:=
 some a
def fR (n low b:Int):Option Bool:=
 if (decide (low<=n)) then (aFH (decide (n<=b))) else (aFH false)
def aBp (n:Int):Option Bool:=
 ob (fR n 0 63) fun b=>
 some b
def aBK (n:Int):Option Bool:=
 ob (aBp n) fun b=>
 some (!b)
def jZ:Option Int:=
 some (-1)
def eB (b:(List Int)) (a:Int):Option (Int ⊕ (Unit ⊕ Int)):=
 if (decide (a < (b.length:Int))) then (ob (ix b a) fun c=>
 ob (aBK c) fun d=>
 if d then (some (.inr (.inr a))) else (some (.inl (wr (a+1))))) else (some (.inr (.inl ())))
def fL (b:(List Int)):Option Int:=
 ob (loop (fun (s:Int)=>eB b s) 0) fun r=>match r with|.inl r=>jZ|.inr r=>some r
def gF (a:(List Int)):Option Bool:=
 ob (fL a) fun b=>
 some (decide (0<=b))
def aAe (a:(List Int)):Option Bool:=
 ob (gF a) fun b=>
 some (!b)
def vL (a:aN) (b:(List Int)) (c:Bool):Option (aN × Bool):=
 if c then (some (([]:aN),false)) else (if ((b.length:Int) == 0) then (some (a,true)) else (ob (fA a ([40]:aN)) fun d=>
 ob (aBI b ([44]:aN)) fun e=>
 ob (fA d e) fun f=>
 ob (fA f ([41]:aN)) fun g=>
 some (g,true)))
def aDG (b:aN) (a:(List Int)):Option (aN × Bool):=
 if (b == ([116,97,117]:aN)) then (some (([116,97,117]:aN),(a.length:Int) == 0)) else (ob (kW b) fun c=>
 if (!c) then (vL b a true) else (if (decide (2 < (a.length:Int))) then (vL b a true) else (ob (aAe a) fun d=>
 vL b a (!d))))
def eF (a:Bool):Option Bool:=
 some a
def dV (a b:aN):Option Bool:=
 if (decide ((b.length:Int)<=(a.length:Int))) then (ob (slc a (wr ((a.length:Int) - (b.length:Int))) (a.length:Int)) fun c=>
 eF (c == b)) else (eF false)
def gW (a b:aN):Option aN:=
 ob (dV a b) fun c=>
 if c then (ob (slc a 0 (wr ((a.length:Int) - (b.length:Int)))) fun d=>
 some d) else (some a)
def lN (a b:aN):Option aN:=
 ob (gW a b) fun c=>
 some c
def qF (a:(aN × aN × Bool)) (b:List Int) (c:Bool):Option (aN × (List Int) × Bool):=
 if c then (some (([]:aN),[],false)) else (some (a.1,b,true))
def mM (d:aN) (a:(aN × aN × Bool)) (b:List Int):Option (aN × (List Int) × Bool):=
 ob (aDG a.1 b) fun c=>
 if (!c.2) then (qF a b true) else (qF a b (!(c.1 == d)))
def aCK (b:aN):Option (aN × (List Int) × Bool):=
 ob (l_Cut b ([40]:aN)) fun a=>
 if a.2.2 then (ob (lN a.2.1 ([41]:aN)) fun d=>
 ob (aIH d ([44]:aN)) fun e=>
 ob (sH e) fun c=>
 if (!c.2) then (some (([]:aN),[],false)) else (mM b a c.1)) else (mM b a [])
def aDH (a:aN):Option Bool:=
 ob (aCK a) fun b=>
 some b.2.2
def aFI (a:Int):Option Int:=
 some a
def mN (a:(List aN)) (b c:Int):Option ((Int × Int) ⊕ (Int ⊕ Int)):=
 if (decide (c < (a.length:Int))) then (ob (ix a c) fun e=>
 if (decide (wr (b - (e.length:Int)) < 0)) then (some (.inr (.inr (-1)))) else (some (.inl (wr (b - (e.length:Int)),wr (c+1))))) else (some (.inr (.inl b)))
def nF (a:(List aN)) (d:Int):Option Int:=
 if (decide (wr (d - (a.length:Int)) < 0)) then (some (-1)) else (ob (loop (fun (s:(Int × Int))=>mN a s.1 s.2) (wr (d - (a.length:Int)),0)) fun r=>match r with|.inl r=>aFI r|.inr r=>some r)
def aGw (a:(List Edge)) (c:Int):Option Int:=
 if (decide (wr (c - (a.length:Int)) < 0)) then (some (-1)) else (some (wr (c - (a.length:Int))))
def aLI (a:hJ) (e:Int):Option Int:=
 ob (nF a.L e) fun c=>
 if (decide (c < 0)) then (some (-1)) else (ob (aGw a.E c) fun d=>
 if (decide (d < 0)) then (some (-1)) else (some d))
def aIP (a:bH) (c:Int):Option Int:=
 if (decide (wr (c - (a.B.length:Int)) < 0)) then (some (-1)) else (some (wr (c - (a.B.length:Int))))
def aIQ (a:Int):Option Int:=
 some a
def aAP (a:(List bH)) (d b:Int):Option ((Int × Int) ⊕ (Int ⊕ Int)):=
 if (decide (b < (a.length:Int))) then (ob (ix a b) fun f=>
 ob (aIP f d) fun e=>
 if (decide (e < 0)) then (some (.inr (.inr (-1)))) else (some (.inl (e,wr (b+1))))) else (some (.inr (.inl d)))
def aGx (a:(List bH)) (d:Int):Option Int:=
 if (decide (wr (d - (a.length:Int)) < 0)) then (some (-1)) else (ob (loop (fun (s:(Int × Int))=>aAP a s.1 s.2) (wr (d - (a.length:Int)),0)) fun r=>match r with|.inl r=>aIQ r|.inr r=>some r)
def aDI (a:(List aR)) (c:Int):Option Int:=
 if (decide (wr (c - (a.length:Int)) < 0)) then (some (-1)) else (some (wr (c - (a.length:Int))))
def aHl (a:Int):Option Int:=
 some a
def yR (a:(List (List aR))) (d b:Int):Option ((Int × Int) ⊕ (Int ⊕ Int)):=
 if (decide (b < (a.length:Int))) then (ob (ix a b) fun f=>
 ob (aDI f d) fun e=>
 if (decide (e < 0)) then (some (.inr (.inr (-1)))) else (some (.inl (e,wr (b+1))))) else (some (.inr (.inl d)))
def aEw (a:(List (List aR))) (d:Int):Option Int:=
 if (decide (wr (d - (a.length:Int)) < 0)) then (some (-1)) else (ob (loop (fun (s:(Int × Int))=>yR a s.1 s.2) (wr (d - (a.length:Int)),0)) fun r=>match r with|.inl r=>aHl r|.inr r=>some r)
def aFJ (a:bG) (c:Int):Option Int:=
 if (decide (wr (c - (a.Name.length:Int)) < 0)) then (some (-1)) else (ob (aEw a.Arguments (wr (c - (a.Name.length:Int)))) fun d=>
 if (decide (d < 0)) then (some (-1)) else (some d))
def aIR (a:Int):Option Int:=
 some a
def aAQ (a:(List bG)) (d b:Int):Option ((Int × Int) ⊕ (Int ⊕ Int)):=
 if (decide (b < (a.length:Int))) then (ob (ix a b) fun f=>
 ob (aFJ f d) fun e=>
 if (decide (e < 0)) then (some (.inr (.inr (-1)))) else (some (.inl (e,wr (b+1))))) else (some (.inr (.inl d)))
def aGy (a:(List bG)) (d:Int):Option Int:=
 if (decide (wr (d - (a.length:Int)) < 0)) then (some (-1)) else (ob (loop (fun (s:(Int × Int))=>aAQ a s.1 s.2) (wr (d - (a.length:Int)),0)) fun r=>match r with|.inl r=>aIR r|.inr r=>some r)
def qG (a:Definition) (c:Int):Option Int:=
 if (decide (wr (c - (a.Name.length:Int)) < 0)) then (some (-1)) else (ob (aGy a.Body (wr (c - (a.Name.length:Int)))) fun d=>
 if (decide (d < 0)) then (some (-1)) else (some d))
def aBL (a:Int):Option Int:=
 some a
def nM (a:(List Definition)) (d b:Int):Option ((Int × Int) ⊕ (Int ⊕ Int)):=
 if (decide (b < (a.length:Int))) then (ob (ix a b) fun f=>
 ob (qG f d) fun e=>
 if (decide (e < 0)) then (some (.inr (.inr (-1)))) else (some (.inl (e,wr (b+1))))) else (some (.inr (.inl d)))
def tQ (a:(List Definition)) (d:Int):Option Int:=
 if (decide (wr (d - (a.length:Int)) < 0)) then (some (-1)) else (ob (loop (fun (s:(Int × Int))=>nM a s.1 s.2) (wr (d - (a.length:Int)),0)) fun r=>match r with|.inl r=>aBL r|.inr r=>some r)
def aHV (a:(List Int)) (c:Int):Option Int:=
 if (decide (wr (c - (a.length:Int)) < 0)) then (some (-1)) else (some (wr (c - (a.length:Int))))
def sI (a:aX) (d:Int):Option Int:=
 ob (aHV a.Values d) fun b=>
 if (decide (b < 0)) then (some (-1)) else (some b)
def aCL (a:Int):Option Int:=
 some a
def pK (a:(List aX)) (d b:Int):Option ((Int × Int) ⊕ (Int ⊕ Int)):=
 if (decide (b < (a.length:Int))) then (ob (ix a b) fun f=>
 ob (sI f d) fun e=>
 if (decide (e < 0)) then (some (.inr (.inr (-1)))) else (some (.inl (e,wr (b+1))))) else (some (.inr (.inl d)))
def vM (a:(List aX)) (d:Int):Option Int:=
 if (decide (wr (d - (a.length:Int)) < 0)) then (some (-1)) else (ob (loop (fun (s:(Int × Int))=>pK a s.1 s.2) (wr (d - (a.length:Int)),0)) fun r=>match r with|.inl r=>aCL r|.inr r=>some r)
def aAf (a:bB) (c:Int):Option Int:=
 if (decide (wr (c - (a.Left.length:Int)) < 0)) then (some (-1)) else (if (decide (wr ((wr (c - (a.Left.length:Int))) - (a.Right.length:Int)) < 0)) then (some (-1)) else (if (decide (wr ((wr ((wr (c - (a.Left.length:Int))) - (a.Right.length:Int))) - (a.Result.length:Int)) < 0)) then (some (-1)) else (some (wr ((wr ((wr (c - (a.Left.length:Int))) - (a.Right.length:Int))) - (a.Result.length:Int))))))
def aFf (a:Int):Option Int:=
 some a
def tR (a:(List bB)) (d b:Int):Option ((Int × Int) ⊕ (Int ⊕ Int)):=
 if (decide (b < (a.length:Int))) then (ob (ix a b) fun f=>
 ob (aAf f d) fun e=>
 if (decide (e < 0)) then (some (.inr (.inr (-1)))) else (some (.inl (e,wr (b+1))))) else (some (.inr (.inl d)))
def aAR (a:(List bB)) (d:Int):Option Int:=
 if (decide (wr (d - (a.length:Int)) < 0)) then (some (-1)) else (ob (loop (fun (s:(Int × Int))=>tR a s.1 s.2) (wr (d - (a.length:Int)),0)) fun r=>match r with|.inl r=>aFf r|.inr r=>some r)
def aEx (a:bL) (h:Int):Option Int:=
 ob (tQ a.Definitions h) fun c=>
 if (decide (c < 0)) then (some (-1)) else (ob (vM a.Components c) fun d=>
 if (decide (d < 0)) then (some (-1)) else (ob (aAR a.Meetings d) fun e=>
 if (decide (e < 0)) then (some (-1)) else (ob (nF a.Allowed e) fun f=>
 if (decide (f < 0)) then (some (-1)) else (ob (nF a.Hidden f) fun g=>
 if (decide (g < 0)) then (some (-1)) else (some g)))))
def aFK (a:Kept) (c:Int):Option Int:=
 if (decide (wr (c - (a.Name.length:Int)) < 0)) then (some (-1)) else (ob (aLI a.S (wr (c - (a.Name.length:Int)))) fun d=>
 if (decide (d < 0)) then (some (-1)) else (ob (aGx a.Formula d) fun e=>
 if (decide (e < 0)) then (some (-1)) else (ob (aEx a.Source e) fun f=>
 if (decide (f < 0)) then (some (-1)) else (some f))))
def aIS (a:Int):Option Int:=
 some a
def vN (a:(List Kept)) (d b:Int):Option ((Int × Int) ⊕ (Int ⊕ Int)):=
 if (decide (b < (a.length:Int))) then (ob (ix a b) fun f=>
 ob (aFK f d) fun e=>
 if (decide (e < 0)) then (some (.inr (.inr (-1)))) else (some (.inl (e,wr (b+1))))) else (some (.inr (.inl d)))
def aGz (a:(List Kept)) (d:Int):Option Int:=
 if (decide (wr (d - (a.length:Int)) < 0)) then (some (-1)) else (ob (loop (fun (s:(Int × Int))=>vN a s.1 s.2) (wr (d - (a.length:Int)),0)) fun r=>match r with|.inl r=>aIS r|.inr r=>some r)
def aIT (a:vI) (d:Int):Option Int:=
 ob (aGz a.Kept d) fun b=>
 if (decide (b < 0)) then (some (-1)) else (some b)
def aDn (a:Bool):Option Bool:=
 some a
def aBM (c:UInt8):Option Bool:=
 if (decide (97<=(c.toNat:Int))) then (aDn (decide ((c.toNat:Int)<=122))) else (aDn false)
def aDo (a:Bool):Option Bool:=
 some a
def aBN (c:UInt8):Option Bool:=
 if (decide (48<=(c.toNat:Int))) then (aDo (decide ((c.toNat:Int)<=57))) else (aDo false)
def aEy:Option Bool:=
 some true
def aAS (a:Int) (b:Bool):Option (Int ⊕ (Unit ⊕ Bool)):=
 if b then (some (.inr (.inr false))) else (some (.inl (wr (a+1))))
def vO (b:aN) (a:Int):Option (Int ⊕ (Unit ⊕ Bool)):=
 if (decide (a < (b.length:Int))) then (ob (ix b a) fun c=>
 ob (aBM c) fun d=>
 if (!d) then (ob (aBN c) fun e=>
 aAS a (!e)) else (aAS a false)) else (some (.inr (.inl ())))
def nN (b:aN) (c:Bool):Option Bool:=
 if c then (some false) else (ob (loop (fun (s:Int)=>vO b s) 0) fun r=>match r with|.inl r=>aEy|.inr r=>some r)
def rJ (a:aN):Option Bool:=
 if (a == ([]:aN)) then (nN a true) else (if (decide (10 < (a.length:Int))) then (nN a true) else (ob (ix a 0) fun b=>
 ob (aBM b) fun c=>
 nN a (!c)))
def aHW (a:Bool):Option Bool:=
 some a
def jC (n low b:Int):Option Bool:=
 if (decide (low<=n)) then (aHW (decide (n<=b))) else (aHW false)
def vP (a:Bool):Option Bool:=
 some a
def kO (a:aN):Option Bool:=
 ob (rJ a) fun b=>
 if b then (vP (!(a == ([116,97,117]:aN)))) else (vP false)
def aIU (a:aN):Option Int:=
 some (a.length:Int)
def aAT (b:aN) (a:Int):Option (Int ⊕ (Unit ⊕ Int)):=
 if (decide (a < (b.length:Int))) then (ob (ix b a) fun c=>
 if ((c.toNat:Int) == 40) then (some (.inr (.inr a))) else (some (.inl (wr (a+1))))) else (some (.inr (.inl ())))
def aDJ (b:aN):Option Int:=
 ob (loop (fun (s:Int)=>aAT b s) 0) fun r=>match r with|.inl r=>aIU b|.inr r=>some r
def aDp (a:aN) (b:List aN) (c:Int):Option (List aN):=
 ob (slc a c (a.length:Int)) fun d=>
 ob (oR b ([d]:List aN)) fun e=>
 some e
def oS (a:Int) (b:List aN) (c:Int):Option ((List aN × Int × Int) ⊕ (List aN × Int)):=
 some (.inl (b,c,wr (a+1)))
def yS (b:aN) (e:UInt8) (c:List aN) (d a:Int):Option ((List aN × Int × Int) ⊕ (List aN × Int)):=
 if (decide (a < (b.length:Int))) then (ob (ix b a) fun f=>
 if ((f.toNat:Int) == (e.toNat:Int)) then (ob (slc b d a) fun g=>
 ob (oR c ([g]:List aN)) fun h=>
 oS a h (wr (a+1))) else (oS a c d)) else (some (.inr (c,d)))
def aBO (a:aN) (c:UInt8):Option (List aN):=
 ob (loop (fun (s:(List aN × Int × Int))=>yS a c s.1 s.2.1 s.2.2) (([]:List aN),0,0)) fun r=>aDp a r.1 r.2
def aBP (a:Int):Option (Int × Bool):=
 some (a,true)
def vQ (b a:Int):Option (Int × Bool):=
 if (b == 1) then (aBP (wr (0 - a))) else (aBP a)
def mO (b:aN) (c a:Int):Option ((Int × Int) ⊕ (Int ⊕ (Int × Bool))):=
 if (decide (a < (b.length:Int))) then (ob (ix b a) fun c45=>
 ob (aBN c45) fun d=>
 if (!d) then (some (.inr (.inr (0,false)))) else (some (.inl (wr ((wr (10 * c))+(wr ((c45 - (48:UInt8)).toNat:Int))),wr (a+1))))) else (some (.inr (.inl c)))
def jJ (c:aN) (b:Int) (d:Bool):Option (Int × Bool):=
 if d then (some (0,false)) else (ob (loop (fun (s:(Int × Int))=>mO c s.1 s.2) (0,b)) fun r=>match r with|.inl r=>vQ b r|.inr r=>some r)
def mP (a:aN) (b:Int):Option (Int × Bool):=
 if ((a.length:Int) == b) then (jJ a b true) else (if (decide (18 < wr ((a.length:Int) - b))) then (jJ a b true) else (ob (ix a b) fun c=>
 if ((c.toNat:Int) == 48) then (jJ a b (decide (1 < (a.length:Int)))) else (jJ a b false)))
def qH (a:aN) (b:Bool):Option (Int × Bool):=
 if b then (mP a 1) else (mP a 0)
def uO (a:aN):Option (Int × Bool):=
 if (decide (0 < (a.length:Int))) then (ob (ix a 0) fun b=>
 qH a ((b.toNat:Int) == 45)) else (qH a false)
def aBQ (a:List Int):Option ((List Int) × Bool):=
 some (a,decide ((a.length:Int)<=2))
def vR (a:List Int) (b:Int) (c:(Int × Bool)) (d:Bool):Option ((List Int × Int) ⊕ (List Int ⊕ ((List Int) × Bool))):=
 if d then (some (.inr (.inr ([],false)))) else (ob (oR a ([c.1]:List Int)) fun e=>
 some (.inl (e,wr (b+1))))
def qI (d:(List aN)) (c:List Int) (a:Int):Option ((List Int × Int) ⊕ (List Int ⊕ ((List Int) × Bool))):=
 if (decide (a < (d.length:Int))) then (ob (ix d a) fun e=>
 ob (uO e) fun b=>
 if (!b.2) then (vR c a b true) else (ob (jC b.1 0 63) fun f=>
 vR c a b (!f))) else (some (.inr (.inl c)))
def mQ (b:aN) (c:Int) (d:Bool):Option ((List Int) × Bool):=
 if d then (some ([],false)) else (ob (slc b (wr (c+1)) (wr ((b.length:Int) - 1))) fun e=>
 ob (aBO e (44:UInt8)) fun f=>
 ob (loop (fun (s:(List Int × Int))=>qI f s.1 s.2) (([]:List Int),0)) fun r=>match r with|.inl r=>aBQ r|.inr r=>some r)
def aCM (a:aN):Option ((List Int) × Bool):=
 ob (aDJ a) fun b=>
 if (b == (a.length:Int)) then (ob (rJ a) fun c=>
 some (([]:List Int),c)) else (ob (slc a 0 b) fun d=>
 ob (kO d) fun e=>
 if (!e) then (mQ a b true) else (ob (ix a (wr ((a.length:Int) - 1))) fun f=>
 mQ a b ((f.toNat:Int) != 41)))
def aBR (a:aN):Option Bool:=
 ob (aCM a) fun b=>
 some b.2
def aHm:Option Bool:=
 some true
def oT (a:Int) (b:Bool):Option (Int ⊕ (Unit ⊕ Bool)):=
 if b then (some (.inr (.inr false))) else (some (.inl (wr (a+1))))
def sJ (b:(List aN)) (a:Int):Option (Int ⊕ (Unit ⊕ Bool)):=
 if (decide (a < (b.length:Int))) then (ob (ix b a) fun c=>
 ob (aBR c) fun d=>
 if (!d) then (oT a true) else (if (c == ([116,97,117]:aN)) then (oT a true) else (if (decide (1 < a)) then (ob (ix b (wr (a - 1))) fun e=>
 oT a (!nI e c)) else (oT a false)))) else (some (.inr (.inl ())))
def oU (b:(List aN)) (c:Bool):Option Bool:=
 if c then (some false) else (ob (loop (fun (s:Int)=>sJ b s) 1) fun r=>match r with|.inl r=>aHm|.inr r=>some r)
def aBS (a:(List aN)):Option Bool:=
 if ((a.length:Int) == 0) then (oU a true) else (if (decide (12 < (a.length:Int))) then (oU a true) else (ob (ix a 0) fun b=>
 oU a (!(b == ([116,97,117]:aN)))))
def aGA (a b:Edge):Option Bool:=
 if (a.F != b.F) then (some (decide (a.F < b.F))) else (if (a.B != b.B) then (some (decide (a.B < b.B))) else (some (decide (a.To < b.To))))
def aMg:Option Bool:=
 some true
def aEz (a:Int) (b:Bool):Option (Int ⊕ (Unit ⊕ Bool)):=
 if b then (some (.inr (.inr false))) else (some (.inl (wr (a+1))))
def xS (t:hJ) (a:Int) (c:Edge) (d:Bool):Option (Int ⊕ (Unit ⊕ Bool)):=
 if d then (some (.inr (.inr false))) else (if (decide (0 < a)) then (ob (ix t.E (wr (a - 1))) fun e=>
 ob (aGA e c) fun f=>
 aEz a (!f)) else (aEz a false))
def aBT (t:hJ) (c:Int):Option (Int ⊕ (Unit ⊕ Bool)):=
 if (decide (c < (t.E.length:Int))) then (ob (ix t.E c) fun b=>
 ob (jC b.F 0 (wr (t.N - 1))) fun d=>
 if (!d) then (xS t c b true) else (ob (jC b.To 0 (wr (t.N - 1))) fun e=>
 if (!e) then (xS t c b true) else (ob (jC b.B 0 (wr ((t.L.length:Int) - 1))) fun f=>
 xS t c b (!f)))) else (some (.inr (.inl ())))
def uF (t:hJ) (c:Bool):Option Bool:=
 if c then (some false) else (ob (loop (fun (s:Int)=>aBT t s) 0) fun r=>match r with|.inl r=>aMg|.inr r=>some r)
def aIV (t:hJ):Option Bool:=
 ob (jC t.N 1 40) fun b=>
 if (!b) then (uF t true) else (ob (jC t.I 0 (wr (t.N - 1))) fun c=>
 if (!c) then (uF t true) else (ob (aBS t.L) fun d=>
 if (!d) then (uF t true) else (uF t (decide (300 < (t.E.length:Int))))))
def aDK (a:bL):Option Bool:=
 some ((wr ((wr ((wr ((wr ((a.Definitions.length:Int)+(a.Components.length:Int)))+(a.Meetings.length:Int)))+(a.Allowed.length:Int)))+(a.Hidden.length:Int))) == 0)
def yT (a:Bool):Option Int:=
 if a then (some 2) else (some 1)
def oV (a:Int) (b:Bool):Option Int:=
 if b then (some 0) else (if (a == 2) then (yT (a == 2)) else (yT (a == 3)))
def uG (a:Int):Option Int:=
 if (a == 0) then (oV a (a == 0)) else (if (a == 1) then (oV a (a == 1)) else (oV a (a == 6)))
def tS (a:Bool):Option Bool:=
 some a
def oJ (a:aN) (b:Bool):Option Bool:=
 if b then (some true) else (ob (ix a (wr ((a.length:Int) - 1))) fun c=>
 if ((c.toNat:Int) == 42) then (ob (slc a 0 (wr ((a.length:Int) - 1))) fun d=>
 ob (kO d) fun e=>
 tS e) else (tS false))
def vS (a:aN):Option Bool:=
 if (a == ([]:aN)) then (oJ a true) else (ob (aBR a) fun b=>
 oJ a b)
def aHn (a:Int):Option Bool:=
 some (a == 0)
def oW (a b c:Int) (d:Bool):Option ((Int × Int) ⊕ (Int ⊕ Bool)):=
 if d then (some (.inr (.inr false))) else (some (.inl (wr (a+(wr (c - 1))),wr (b+1))))
def sK (a b:Int) (d:bH) (c:Int) (e:Bool):Option ((Int × Int) ⊕ (Int ⊕ Bool)):=
 if e then (ob (vS d.B) fun f=>
 if (!f) then (oW a b c true) else (oW a b c false)) else (if (!(d.B == ([]:aN))) then (oW a b c true) else (oW a b c d.Not))
def sL (e:(List bH)) (c b:Int) (f:Bool):Option ((Int × Int) ⊕ (Int ⊕ Bool)):=
 if f then (some (.inr (.inr false))) else (ob (ix e b) fun a=>
 ob (uG a.Kind) fun d=>
 if (a.Kind == 4) then (sK c b a d true) else (sK c b a d (a.Kind == 5)))
def sM (a:(List bH)) (d b c:Int):Option ((Int × Int) ⊕ (Int ⊕ Bool)):=
 if (decide (c < (a.length:Int))) then (if (b == 0) then (sL a b c true) else (ob (ix a c) fun e=>
 ob (jC e.Kind 0 d) fun f=>
 sL a b c (!f))) else (some (.inr (.inl b)))
def oX (b:(List bH)) (c:Int) (d:Bool):Option Bool:=
 if d then (some false) else (ob (loop (fun (s:(Int × Int))=>sM b c s.1 s.2) (1,0)) fun r=>match r with|.inl r=>aHn r|.inr r=>some r)
def xT (a:(List bH)) (c b:Int):Option Bool:=
 if (decide ((a.length:Int) < 1)) then (oX a b true) else (oX a b (decide (c < (a.length:Int))))
def yU (a:Bool):Option Bool:=
 some a
def xU (n:bH):Option Bool:=
 if (n.Kind == 7) then (yU true) else (yU (n.Kind == 8))
def aFL (a:Int):Option Int:=
 some a
def aCN (c:(List bH)) (a b:Int):Option ((Int × Int) ⊕ Int):=
 if (decide (0 < b)) then (ob (ix c a) fun d=>
 ob (uG d.Kind) fun e=>
 some (.inl (wr (a+1),wr (b+(wr (e - 1)))))) else (some (.inr a))
def aDL (a:(List bH)) (k:Int):Option Int:=
 ob (loop (fun (s:(Int × Int))=>aCN a s.1 s.2) (k,1)) fun r=>aFL r
def aFM:Option Int:=
 some (-1)
def qJ (a:Int) (b:Bool):Option (Int ⊕ (Unit ⊕ Int)):=
 if b then (some (.inr (.inr a))) else (some (.inl (wr (a - 1))))
def qK (b:(List bH)) (k a:Int):Option (Int ⊕ (Unit ⊕ Int)):=
 if (decide (0<=a)) then (ob (ix b a) fun d=>
 ob (xU d) fun e=>
 if e then (ob (ix b k) fun f=>
 if (d.Variable == f.Variable) then (ob (aDL b a) fun g=>
 qJ a (decide (k < g))) else (qJ a false)) else (qJ a false)) else (some (.inr (.inl ())))
def uP (c:(List bH)) (k:Int):Option Int:=
 ob (loop (fun (s:Int)=>qK c k s) (wr (k - 1))) fun r=>match r with|.inl r=>aFM|.inr r=>some r
def aHX:Option Bool:=
 some true
def aEA (a:Int) (b:Bool):Option (Int ⊕ (Unit ⊕ Bool)):=
 if b then (some (.inr (.inr false))) else (some (.inl (wr (a+1))))
def aBU (b:(List bH)) (a:Int):Option (Int ⊕ (Unit ⊕ Bool)):=
 ob (ix b a) fun c=>
 if (c.Kind == 6) then (ob (uP b a) fun d=>
 aEA a (decide (d < 0))) else (aEA a false)
def aEB (a:(List bH)) (b:Int) (c:Bool):Option (Int ⊕ (Unit ⊕ Bool)):=
 if c then (ob (ix a b) fun d=>
 ob (jC d.Variable 0 2) fun e=>
 if (!e) then (some (.inr (.inr false))) else (aBU a b)) else (ob (ix a b) fun f=>
 if (f.Variable != 0) then (some (.inr (.inr false))) else (aBU a b))
def aBV (a:(List bH)) (b:Int):Option (Int ⊕ (Unit ⊕ Bool)):=
 if (decide (b < (a.length:Int))) then (ob (ix a b) fun c=>
 ob (xU c) fun d=>
 if d then (aEB a b true) else (aEB a b (c.Kind == 6))) else (some (.inr (.inl ())))
def aEC (b:(List bH)):Option Bool:=
 ob (xT b 30 8) fun c=>
 if (!c) then (some false) else (ob (loop (fun (s:Int)=>aBV b s) 0) fun r=>match r with|.inl r=>aHX|.inr r=>some r)
def iG (a:aN) (b:Bool):Option aN:=
 if b then (ob (fA ([40]:aN) a) fun c=>
 ob (fA c ([41]:aN)) fun d=>
 some d) else (some a)
def aFN (a:List UInt8):Option aN:=
 some a
def aCO (c b:List UInt8) (a:Int):Option ((List UInt8 × Int) ⊕ (List UInt8)):=
 if (decide (0<=a)) then (ob (ix c a) fun d=>
 ob (oR b ([d]:List UInt8)) fun e=>
 some (.inl (e,wr (a - 1)))) else (some (.inr b))
def aAg (a:List UInt8):Option aN:=
 ob (loop (fun (s:(List UInt8 × Int))=>aCO a s.1 s.2) (([]:List UInt8),wr ((a.length:Int) - 1))) fun r=>aFN r
def aCP (n:Int) (a:List UInt8):Option aN:=
 if (decide (n < 0)) then (ob (oR a ([(45:UInt8)]:List UInt8)) fun c=>
 aAg c) else (aAg a)
def aCQ (a:List UInt8) (b c:Int):Option ((List UInt8 × Int) ⊕ (List UInt8)):=
 ob (oR a ([(UInt8.ofInt (wr (48+c)))]:List UInt8)) fun d=>
 ob (qu b 10) fun e=>
 some (.inl (d,e))
def aAh (b:List UInt8) (a:Int):Option ((List UInt8 × Int) ⊕ (List UInt8)):=
 if (a != 0) then (ob (rm a 10) fun c=>
 if (decide (c < 0)) then (aCQ b a (wr (0 - c))) else (aCQ b a c)) else (some (.inr b))
def lO (n:Int):Option aN:=
 if (n == 0) then (some ([48]:aN)) else (ob (loop (fun (s:(List UInt8 × Int))=>aAh s.1 s.2) (([]:List UInt8),n)) fun r=>aCP n r)
def rK (b:Bool) (a:aN):Option aN:=
 if b then (ob (fA ([33]:aN) a) fun c=>
 some c) else (some a)
def aBq (a:aN) (b:Bool):Option aN:=
 if ((a.length:Int) == 0) then (rK b ([95]:aN)) else (ob (ix a (wr ((a.length:Int) - 1))) fun c=>
 if ((c.toNat:Int) == 42) then (ob (slc a 0 (wr ((a.length:Int) - 1))) fun d=>
 ob (fA d ([40,42,41]:aN)) fun e=>
 rK b e) else (rK b a))
def aAC (a:List aN):Option aN:=
 ob (ix a 0) fun b=>
 some b
def cY (a:List aN) (b:List Int) (d:Int) (e:bH) (c:Int) (f:aN):Option ((List aN × List Int × Int) ⊕ (List aN)):=
 ob (slc a 0 (wr ((a.length:Int) - c))) fun g=>
 ob (oR g ([f]:List aN)) fun h=>
 ob (slc b 0 (wr ((b.length:Int) - c))) fun i=>
 ob (oR i ([e.Kind]:List Int)) fun j=>
 some (.inl (h,j,wr (d - 1)))
def tT (a:List aN) (b:List Int) (c:Int) (d:bH) (e:Int) (f:aN):Option ((List aN × List Int × Int) ⊕ (List aN)):=
 cY a b c d e f
def gN (b:List aN) (c:List Int) (d:Int) (a:bH) (e:Int) (f:aN):Option ((List aN × List Int × Int) ⊕ (List aN)):=
 if (a.Kind == 0) then (cY b c d a e ([116,114,117,101]:aN)) else (if (a.Kind == 1) then (cY b c d a e ([102,97,108,115,101]:aN)) else (if (a.Kind == 6) then (ob (lO a.Variable) fun i=>
 ob (fA ([88]:aN) i) fun j=>
 cY b c d a e j) else (if (a.Kind == 4) then (ob (aBq a.B a.Not) fun k=>
 ob (fA ([60]:aN) k) fun l=>
 ob (fA l ([62]:aN)) fun m=>
 ob (fA m f) fun n=>
 cY b c d a e n) else (if (a.Kind == 5) then (ob (aBq a.B a.Not) fun o=>
 ob (fA ([91]:aN) o) fun p=>
 ob (fA p ([93]:aN)) fun q=>
 ob (fA q f) fun r=>
 cY b c d a e r) else (if (a.Kind == 7) then (ob (lO a.Variable) fun s=>
 ob (fA ([109,117,32,88]:aN) s) fun t=>
 ob (fA t ([46]:aN)) fun u=>
 ob (fA u f) fun v=>
 cY b c d a e v) else (if (a.Kind == 8) then (ob (lO a.Variable) fun w=>
 ob (fA ([110,117,32,88]:aN) w) fun x=>
 ob (fA x ([46]:aN)) fun y=>
 ob (fA y f) fun z=>
 cY b c d a e z) else (if (a.Kind == 2) then (ob (ix b (wr ((b.length:Int) - 1))) fun g=>
 ob (ix c (wr ((b.length:Int) - 1))) fun h=>
 if (h == 2) then (ob (iG g true) fun a0=>
 ob (fA a0 ([32,38,32]:aN)) fun a1=>
 ob (ix b (wr ((wr ((b.length:Int) - 1)) - 1))) fun a2=>
 ob (ix c (wr ((wr ((b.length:Int) - 1)) - 1))) fun a3=>
 ob (iG a2 (a3 == 3)) fun a4=>
 ob (fA a1 a4) fun a5=>
 tT b c d a e a5) else (ob (iG g (h == 3)) fun a6=>
 ob (fA a6 ([32,38,32]:aN)) fun a7=>
 ob (ix b (wr ((wr ((b.length:Int) - 1)) - 1))) fun a8=>
 ob (ix c (wr ((wr ((b.length:Int) - 1)) - 1))) fun a9=>
 ob (iG a8 (a9 == 3)) fun b0=>
 ob (fA a7 b0) fun b1=>
 tT b c d a e b1)) else (if (a.Kind == 3) then (ob (ix b (wr ((b.length:Int) - 1))) fun b2=>
 ob (ix c (wr ((b.length:Int) - 1))) fun b3=>
 ob (iG b2 (b3 == 3)) fun b4=>
 ob (fA b4 ([32,124,32]:aN)) fun b5=>
 ob (ix b (wr ((wr ((b.length:Int) - 1)) - 1))) fun b6=>
 ob (fA b5 b6) fun b7=>
 cY b c d a e b7) else (cY b c d a e f)))))))))
def jT (a:List aN) (b:List Int) (c:Int) (d:bH) (e:Int) (f:aN):Option ((List aN × List Int × Int) ⊕ (List aN)):=
 gN a b c d e f
def eU (h:(List bH)) (a:List aN) (c:List Int) (b:Int):Option ((List aN × List Int × Int) ⊕ (List aN)):=
 if (decide (0<=b)) then (ob (ix h b) fun d=>
 ob (uG d.Kind) fun e=>
 if (e == 1) then (ob (ix a (wr ((a.length:Int) - 1))) fun f=>
 ob (ix c (wr ((a.length:Int) - 1))) fun g=>
 if (g == 2) then (ob (iG f true) fun i=>
 jT a c b d e i) else (ob (iG f (g == 3)) fun j=>
 jT a c b d e j)) else (gN a c b d e ([]:aN))) else (some (.inr a))
def nO (a:(List bH)):Option aN:=
 ob (loop (fun (s:(List aN × List Int × Int))=>eU a s.1 s.2.1 s.2.2) (([]:List aN),([]:List Int),wr ((a.length:Int) - 1))) fun r=>aAC r
def oY (a:Bool):Option Bool:=
 some a
def xV (t:hJ):Option Bool:=
 if (t.N == 0) then (if (t.I == 0) then (if ((t.L.length:Int) == 0) then (oY ((t.E.length:Int) == 0)) else (oY false)) else (oY false)) else (oY false)
def qL (p:bG) (b:Bool):Option Int:=
 if b then (some 1) else (if (p.Kind == 2) then (some 2) else (some 0))
def uQ (p:bG):Option Int:=
 if (p.Kind == 1) then (qL p (p.Kind == 1)) else (if (p.Kind == 3) then (qL p (p.Kind == 3)) else (qL p (p.Kind == 4)))
def aHo (a:Int):Option Bool:=
 some (a == 0)
def yV (c:(List bG)) (a b:Int):Option ((Int × Int) ⊕ (Int ⊕ Bool)):=
 if (decide (b < (c.length:Int))) then (if (a == 0) then (some (.inr (.inr false))) else (ob (ix c b) fun d=>
 ob (uQ d) fun e=>
 some (.inl (wr (a+(wr (e - 1))),wr (b+1))))) else (some (.inr (.inl a)))
def sO (b:(List bG)) (c:Bool):Option Bool:=
 if c then (some false) else (ob (loop (fun (s:(Int × Int))=>yV b s.1 s.2) (1,0)) fun r=>match r with|.inl r=>aHo r|.inr r=>some r)
def aBW (a:(List bG)):Option Bool:=
 if ((a.length:Int) == 0) then (sO a true) else (sO a (decide (20 < (a.length:Int))))
def vT (a:Bool):Option Bool:=
 some a
def aAU (a:Bool):Option Bool:=
 some a
def aAV (a:Bool):Option Bool:=
 some a
def vU (p:bG) (b:Bool):Option Bool:=
 if b then (if (p.Number == 0) then (if (p.Name == ([]:aN)) then (vT ((p.Arguments.length:Int) == 0)) else (vT false)) else (vT false)) else (if (p.Kind == 1) then (some (p.Number == 0)) else (if (p.Kind == 3) then (if (p.Number == 0) then (aAU (p.Name == ([]:aN))) else (aAU false)) else (if (p.Kind == 4) then (if (p.Name == ([]:aN)) then (aAV ((p.Arguments.length:Int) == 0)) else (aAV false)) else (if (p.Kind == 5) then (some (p.Name == ([]:aN))) else (some false)))))
def aDM (p:bG):Option Bool:=
 if (p.Kind == 0) then (vU p (p.Kind == 0)) else (vU p (p.Kind == 2))
def aFO (a:Int):Option Int:=
 some a
def aFP (c:(List bG)) (a b:Int):Option ((Int × Int) ⊕ Int):=
 if (decide (0 < b)) then (ob (ix c a) fun d=>
 ob (uQ d) fun e=>
 some (.inl (wr (a+1),wr (b+(wr (e - 1)))))) else (some (.inr a))
def aFQ (a:(List bG)) (b:Int):Option Int:=
 ob (loop (fun (s:(Int × Int))=>aFP a s.1 s.2) (b,1)) fun r=>aFO r
def aHp (a:Int):Option Int:=
 some a
def sP (a b:Int):Option ((Int × Int) ⊕ Int):=
 some (.inl (b,wr (a+1)))
def yW (a b:Int) (c:Bool):Option ((Int × Int) ⊕ Int):=
 if c then (sP b (wr (a+1))) else (sP b a)
def jD (d:Definition) (e b a:Int):Option ((Int × Int) ⊕ Int):=
 if (decide (a < e)) then (ob (ix d.Body a) fun f=>
 if (f.Kind == 4) then (ob (aFQ d.Body a) fun g=>
 yW b a (decide (e < g))) else (yW b a false)) else (some (.inr b))
def xW (d:Definition) (b:Int):Option Int:=
 ob (loop (fun (s:(Int × Int))=>jD d b s.1 s.2) (d.Parameters,0)) fun r=>aHp r
def aGB (t:aR) (b:Int):Option Bool:=
 if (t.Kind == 0) then (ob (jC t.Value 0 63) fun c=>
 some c) else (if (t.Kind == 1) then (ob (jC t.Value 0 (wr (b - 1))) fun d=>
 some d) else (if (t.Kind == 2) then (ob (jC t.Value 0 8) fun e=>
 some e) else (if (t.Kind == 3) then (some (t.Value == 0)) else (some false))))
def aED (t:aR):Option Int:=
 if (t.Kind == 2) then (some 2) else (if (t.Kind == 3) then (some 1) else (some 0))
def aMh (a:Int):Option Bool:=
 some (a == 0)
def aEE (e:(List aR)) (c a:Int) (d:Bool):Option ((Int × Int) ⊕ (Int ⊕ Bool)):=
 if d then (some (.inr (.inr false))) else (ob (ix e a) fun f=>
 ob (aED f) fun g=>
 some (.inl (wr (c+(wr (g - 1))),wr (a+1))))
def aBX (e:(List aR)) (d b c:Int):Option ((Int × Int) ⊕ (Int ⊕ Bool)):=
 if (decide (c < (e.length:Int))) then (if (b == 0) then (aEE e b c true) else (ob (ix e c) fun f=>
 ob (aGB f d) fun g=>
 aEE e b c (!g))) else (some (.inr (.inl b)))
def aIW (e:(List aR)) (c d:Int):Option Bool:=
 if (decide (d < (e.length:Int))) then (some false) else (ob (loop (fun (s:(Int × Int))=>aBX e c s.1 s.2) (1,0)) fun r=>match r with|.inl r=>aMh r|.inr r=>some r)
def aBY:Option Int:=
 some 0
def qM (b:bG) (c a:Int):Option (Int ⊕ (Unit ⊕ Int)):=
 if (decide (a < (b.Arguments.length:Int))) then (ob (ix b.Arguments a) fun d=>
 ob (aIW d c 15) fun e=>
 if (!e) then (some (.inr (.inr 8))) else (some (.inl (wr (a+1))))) else (some (.inr (.inl ())))
def mR (b:bG) (c:Int) (d:Bool):Option Int:=
 if d then (some 7) else (ob (loop (fun (s:Int)=>qM b c s) 0) fun r=>match r with|.inl r=>aBY|.inr r=>some r)
def kX (d:Definition) (e:Int) (a:bG) (f:Bool):Option Int:=
 if f then (some 6) else (ob (xW d e) fun b=>
 if (a.Kind == 4) then (mR a b (decide (6<=b))) else (mR a b false))
def hQ (d:Definition) (a:Int) (c:bG):Option Int:=
 if (c.Kind == 5) then (if (a == 0) then (kX d a c true) else (ob (ix d.Body (wr (a - 1))) fun e=>
 kX d a c (e.Kind != 1))) else (kX d a c false)
def qN (d:Definition) (b:Int) (c:bG) (e:Bool):Option Int:=
 if e then (some 5) else (hQ d b c)
def hZ (e:(List Definition)) (d:Definition) (c:Int) (a:bG) (f:Bool):Option Int:=
 if f then (some 4) else (if (a.Kind == 1) then (if (decide (2 < (a.Arguments.length:Int))) then (qN d c a true) else (if (decide (0 < (a.Arguments.length:Int))) then (qN d c a (a.Name == ([116,97,117]:aN))) else (qN d c a false))) else (if (a.Kind == 3) then (if ((a.Arguments.length:Int) != 1) then (some 5) else (hQ d c a)) else (if (a.Kind == 5) then (ob (ix e a.Number) fun g=>
 if ((a.Arguments.length:Int) != g.Parameters) then (some 5) else (hQ d c a)) else (hQ d c a))))
def mS (b:(List Definition)) (d:Definition) (e:Int) (a:bG) (f:Bool):Option Int:=
 if f then (some 3) else (if (a.Kind == 4) then (ob (jC a.Number 1 7) fun g=>
 if (!g) then (hZ b d e a true) else (if (a.Kind == 5) then (ob (jC a.Number 0 (wr ((b.length:Int) - 1))) fun h=>
 hZ b d e a (!h)) else (hZ b d e a false))) else (if (a.Kind == 5) then (ob (jC a.Number 0 (wr ((b.length:Int) - 1))) fun i=>
 hZ b d e a (!i)) else (hZ b d e a false)))
def uR (e:(List Definition)) (d:Definition) (c:Int):Option Int:=
 ob (ix d.Body c) fun a=>
 ob (aDM a) fun f=>
 if (!f) then (some 2) else (if (a.Kind == 1) then (ob (rJ a.Name) fun g=>
 mS e d c a (!g)) else (mS e d c a false))
def aIX:Option (Int × Int):=
 some (0,0)
def vV (e:(List Definition)) (d:Definition) (a:Int):Option (Int ⊕ (Unit ⊕ (Int × Int))):=
 if (decide (a < (d.Body.length:Int))) then (ob (uR e d a) fun c=>
 if (decide (0 < c)) then (some (.inr (.inr (a,c)))) else (some (.inl (wr (a+1))))) else (some (.inr (.inl ())))
def aBr (c:(List Definition)) (d:Definition):Option (Int × Int):=
 ob (aBW d.Body) fun e=>
 if (!e) then (some (0,1)) else (ob (loop (fun (s:Int)=>vV c d s) 0) fun r=>match r with|.inl r=>aIX|.inr r=>some r)
def aIY:Option Bool:=
 some true
def aAW (a:(List Definition)) (b:Int):Option (Int ⊕ (Unit ⊕ Bool)):=
 if (decide (b < (a.length:Int))) then (ob (ix a b) fun c=>
 ob (aBr a c) fun d=>
 if (decide (0 < d.2)) then (some (.inr (.inr false))) else (some (.inl (wr (b+1))))) else (some (.inr (.inl ())))
def vW (b:(List Definition)):Option Bool:=
 ob (loop (fun (s:Int)=>aAW b s) 0) fun r=>match r with|.inl r=>aIY|.inr r=>some r
def aAX (a:Int):Option (Int ⊕ (Unit ⊕ Bool)):=
 some (.inl (wr (a+1)))
def aAY (a:Int):Option (Int ⊕ (Unit ⊕ Bool)):=
 aAX a
def aAZ (b:(List Definition)) (c a:Int):Option (Int ⊕ (Unit ⊕ Bool)):=
 if (decide (a < c)) then (ob (ix b a) fun d=>
 ob (ix b c) fun e=>
 if (d.Name == e.Name) then (some (.inr (.inr false))) else (some (.inl (wr (a+1))))) else (some (.inr (.inl ())))
def vX (c:(List Definition)) (b:Int) (d:Bool):Option (Int ⊕ (Unit ⊕ Bool)):=
 if d then (some (.inr (.inr false))) else (ob (loop (fun (s:Int)=>aAZ c b s) 0) fun r=>match r with|.inl r=>aAY b|.inr r=>some (.inr (.inr r)))
def vY (a:(List Definition)) (b:Int):Option (Int ⊕ (Unit ⊕ Bool)):=
 if (decide (b < (a.length:Int))) then (ob (ix a b) fun c=>
 ob (rJ c.Name) fun d=>
 if (!d) then (vX a b true) else (ob (jC c.Parameters 0 3) fun e=>
 vX a b (!e))) else (some (.inr (.inl ())))
def rL (b:(List Definition)) (c:Bool):Option Bool:=
 if c then (some false) else (ob (loop (fun (s:Int)=>vY b s) 0) fun r=>match r with|.inl r=>vW b|.inr r=>some r)
def xX (a:(List Definition)):Option Bool:=
 if ((a.length:Int) == 0) then (rL a true) else (rL a (decide (4 < (a.length:Int))))
def aIZ:Option Bool:=
 some true
def aBa (b:(List Int)) (a:Int):Option (Int ⊕ (Unit ⊕ Bool)):=
 if (decide (a < (b.length:Int))) then (ob (ix b a) fun c=>
 ob (jC c 0 63) fun d=>
 if (!d) then (some (.inr (.inr false))) else (some (.inl (wr (a+1))))) else (some (.inr (.inl ())))
def aDN (b:(List Int)):Option Bool:=
 ob (loop (fun (s:Int)=>aBa b s) 0) fun r=>match r with|.inl r=>aIZ|.inr r=>some r
def aBZ:Option Bool:=
 some true
def nP (a:Int) (b:Bool):Option (Int ⊕ (Unit ⊕ Bool)):=
 if b then (some (.inr (.inr false))) else (some (.inl (wr (a+1))))
def kY (a:bL) (b:Int):Option (Int ⊕ (Unit ⊕ Bool)):=
 if (decide (b < (a.Components.length:Int))) then (ob (ix a.Components b) fun c=>
 ob (jC c.Definition 0 (wr ((a.Definitions.length:Int) - 1))) fun d=>
 if (!d) then (some (.inr (.inr false))) else (ob (ix a.Definitions c.Definition) fun e=>
 if ((c.Values.length:Int) != e.Parameters) then (nP b true) else (ob (aDN c.Values) fun f=>
 nP b (!f)))) else (some (.inr (.inl ())))
def kZ (b:bL) (c:Bool):Option Bool:=
 if c then (some false) else (ob (loop (fun (s:Int)=>kY b s) 0) fun r=>match r with|.inl r=>aBZ|.inr r=>some r)
def oK (a:bL):Option Bool:=
 if ((a.Components.length:Int) == 0) then (kZ a true) else (kZ a (decide (3 < (a.Components.length:Int))))
def aDO:Option Bool:=
 some true
def rM (a:Int):Option (Int ⊕ (Unit ⊕ Bool)):=
 some (.inl (wr (a+1)))
def xY (a:Int):Option (Int ⊕ (Unit ⊕ Bool)):=
 rM a
def rN (a:Int) (b:Bool):Option (Int ⊕ (Unit ⊕ Bool)):=
 if b then (some (.inr (.inr false))) else (some (.inl (wr (a+1))))
def mT (b:(List bB)) (c:bB) (a:Int):Option (Int ⊕ (Unit ⊕ Bool)):=
 if (decide (a < (b.length:Int))) then (ob (ix b a) fun d=>
 if (d.Left == c.Result) then (rN a true) else (rN a (d.Right == c.Result))) else (some (.inr (.inl ())))
def gT (b:(List bB)) (c:Int) (d:bB) (e:Bool):Option (Int ⊕ (Unit ⊕ Bool)):=
 if e then (some (.inr (.inr false))) else (ob (loop (fun (s:Int)=>mT b d s) 0) fun r=>match r with|.inl r=>xY c|.inr r=>some (.inr (.inr r)))
def gU (c:(List bB)) (b:Int) (a:bB) (e:Bool):Option (Int ⊕ (Unit ⊕ Bool)):=
 if e then (some (.inr (.inr false))) else (if (decide (0 < b)) then (ob (ix c (wr (b - 1))) fun d=>
 if (!(nI d.Left a.Left||d.Left == a.Left)) then (gT c b a true) else (if (d.Left == a.Left) then (gT c b a (!nI d.Right a.Right)) else (gT c b a false))) else (gT c b a false))
def kP (b:(List bB)) (c:Int):Option (Int ⊕ (Unit ⊕ Bool)):=
 if (decide (c < (b.length:Int))) then (ob (ix b c) fun a=>
 ob (kO a.Left) fun d=>
 if (!d) then (gU b c a true) else (ob (kO a.Right) fun e=>
 if (!e) then (gU b c a true) else (ob (kO a.Result) fun f=>
 if (!f) then (gU b c a true) else (gU b c a (!(nI a.Left a.Right||a.Left == a.Right)))))) else (some (.inr (.inl ())))
def sQ (b:(List bB)):Option Bool:=
 if (decide (6 < (b.length:Int))) then (some false) else (ob (loop (fun (s:Int)=>kP b s) 0) fun r=>match r with|.inl r=>aDO|.inr r=>some r)
def aFg:Option Bool:=
 some true
def tU (b:(List aN)) (a:Int):Option (Int ⊕ (Unit ⊕ Bool)):=
 if (decide (a < (b.length:Int))) then (ob (ix b a) fun c=>
 ob (kO c) fun d=>
 if (!d) then (some (.inr (.inr false))) else (some (.inl (wr (a+1))))) else (some (.inr (.inl ())))
def vZ (b:(List aN)):Option Bool:=
 ob (loop (fun (s:Int)=>tU b s) 0) fun r=>match r with|.inl r=>aFg|.inr r=>some r
def aHq:Option Bool:=
 some true
def sS (b:(List aN)) (a:Int):Option (Int ⊕ (Unit ⊕ Bool)):=
 if (decide (a < (b.length:Int))) then (ob (ix b (wr (a - 1))) fun c=>
 ob (ix b a) fun d=>
 if (!nI c d) then (some (.inr (.inr false))) else (some (.inl (wr (a+1))))) else (some (.inr (.inl ())))
def sT (b:(List aN)) (c:Bool):Option Bool:=
 if c then (some false) else (ob (loop (fun (s:Int)=>sS b s) 1) fun r=>match r with|.inl r=>aHq|.inr r=>some r)
def xZ (a:(List aN)):Option Bool:=
 if (decide (12 < (a.length:Int))) then (sT a true) else (ob (vZ a) fun b=>
 sT a (!b))
def aEF (a:bL):Option Int:=
 ob (xX a.Definitions) fun b=>
 if (!b) then (some 1) else (ob (oK a) fun c=>
 if (!c) then (some 2) else (ob (sQ a.Meetings) fun d=>
 if (!d) then (some 3) else (ob (xZ a.Allowed) fun e=>
 if (!e) then (some 4) else (ob (xZ a.Hidden) fun f=>
 if (!f) then (some 5) else (some 0)))))
def aJa (a:bL):Option Bool:=
 ob (aEF a) fun b=>
 some (b == 0)
def aDq (a:Int) (b:Bool):Option Int:=
 if b then (some 4) else (if (a == 2) then (some 5) else (some 3))
def aEG (a:Int):Option Int:=
 if (a == 8) then (some 1) else (if (a == 7) then (some 2) else (if (a == 0) then (aDq a (a == 0)) else (aDq a (a == 1))))
def aJb:Option (List aN):=
 some ([([43]:aN),([45]:aN),([42]:aN),([61]:aN),([35]:aN),([60]:aN),([60,61]:aN),([38]:aN),([124]:aN)]:List aN)
def aJc (a:List aN):Option aN:=
 ob (ix a 0) fun b=>
 some b
def jE (a:Int) (b:List aN) (c:List Int):Option ((List aN × List Int × Int) ⊕ (List aN)):=
 some (.inl (b,c,wr (a - 1)))
def wA (a:List aN) (b:List Int) (c:Int) (d:aN):Option ((List aN × List Int × Int) ⊕ (List aN)):=
 ob (slc a 0 (wr ((a.length:Int) - 1))) fun e=>
 ob (fA ([33]:aN) d) fun f=>
 ob (oR e ([f]:List aN)) fun g=>
 ob (slc b 0 (wr ((a.length:Int) - 1))) fun h=>
 ob (oR h ([6]:List Int)) fun i=>
 jE c g i
def wB (a:List aN) (b:List Int) (c:Int) (d:aR) (e:Int) (f g:aN):Option ((List aN × List Int × Int) ⊕ (List aN)):=
 ob (slc a 0 (wr ((wr ((a.length:Int) - 1)) - 1))) fun h=>
 ob (aJb) fun i=>
 ob (ix i d.Value) fun j=>
 ob (fA f j) fun k=>
 ob (fA k g) fun l=>
 ob (oR h ([l]:List aN)) fun m=>
 ob (slc b 0 (wr ((wr ((a.length:Int) - 1)) - 1))) fun n=>
 ob (oR n ([e]:List Int)) fun o=>
 jE c m o
def wC (a:List aN) (b:List Int) (d:Int) (e:aR) (c:Int) (f g:aN):Option ((List aN × List Int × Int) ⊕ (List aN)):=
 ob (ix b (wr ((wr ((a.length:Int) - 1)) - 1))) fun h=>
 if (decide (h<=c)) then (ob (fA ([40]:aN) f) fun i=>
 ob (fA i ([41]:aN)) fun j=>
 wB a b d e c g j) else (wB a b d e c g f)
def nR (e:(List aR)) (a:List aN) (b:List Int) (c:Int):Option ((List aN × List Int × Int) ⊕ (List aN)):=
 if (decide (0<=c)) then (ob (ix e c) fun d=>
 if (d.Kind == 0) then (ob (lO d.Value) fun k=>
 ob (oR a ([k]:List aN)) fun l=>
 ob (oR b ([7]:List Int)) fun m=>
 jE c l m) else (if (d.Kind == 1) then (ob (lO d.Value) fun n=>
 ob (fA ([118]:aN) n) fun o=>
 ob (oR a ([o]:List aN)) fun p=>
 ob (oR b ([7]:List Int)) fun q=>
 jE c p q) else (if (d.Kind == 3) then (ob (ix a (wr ((a.length:Int) - 1))) fun g=>
 ob (ix b (wr ((a.length:Int) - 1))) fun r=>
 if (decide (r < 6)) then (ob (fA ([40]:aN) g) fun s=>
 ob (fA s ([41]:aN)) fun t=>
 wA a b c t) else (wA a b c g)) else (if (d.Kind == 2) then (ob (aEG d.Value) fun f=>
 ob (ix a (wr ((a.length:Int) - 1))) fun h=>
 ob (ix a (wr ((wr ((a.length:Int) - 1)) - 1))) fun i=>
 ob (ix b (wr ((a.length:Int) - 1))) fun u=>
 if (decide (u < f)) then (ob (fA ([40]:aN) h) fun v=>
 ob (fA v ([41]:aN)) fun w=>
 wC a b c d f i w) else (wC a b c d f i h)) else (jE c a b))))) else (some (.inr a))
def uS (e:(List aR)):Option aN:=
 ob (loop (fun (s:(List aN × List Int × Int))=>nR e s.1 s.2.1 s.2.2) (([]:List aN),([]:List Int),wr ((e.length:Int) - 1))) fun r=>aJc r
def aKQ (a:aN):Option aN:=
 some a
def aAi (b:(List (List aR))) (a:Int) (c:aN):Option ((aN × Int) ⊕ aN):=
 ob (ix b a) fun d=>
 ob (uS d) fun e=>
 ob (fA c e) fun f=>
 some (.inl (f,wr (a+1)))
def aAj (b:(List (List aR))) (d c:aN) (a:Int):Option ((aN × Int) ⊕ aN):=
 if (decide (a < (b.length:Int))) then (if (decide (0 < a)) then (ob (fA c d) fun e=>
 aAi b a e) else (aAi b a c)) else (some (.inr c))
def aFR (a:(List (List aR))) (b:aN):Option aN:=
 ob (loop (fun (s:(aN × Int))=>aAj a b s.1 s.2) (([]:aN),0)) fun r=>aKQ r
def aDP (a:(List (List aR))):Option aN:=
 if ((a.length:Int) == 0) then (some ([]:aN)) else (ob (aFR a ([44]:aN)) fun b=>
 ob (fA ([40]:aN) b) fun c=>
 ob (fA c ([41]:aN)) fun d=>
 some d)
def aEH (a:List aN):Option aN:=
 ob (ix a 0) fun b=>
 some b
def gO (a:Int) (b:List aN) (c:List Bool):Option ((List aN × List Bool × Int) ⊕ (List aN)):=
 some (.inl (b,c,wr (a - 1)))
def nS (e:(List Definition)) (f:(List bG)) (a:List aN) (c:List Bool) (d:Int):Option ((List aN × List Bool × Int) ⊕ (List aN)):=
 if (decide (0<=d)) then (ob (ix f d) fun b=>
 if (b.Kind == 0) then (ob (oR a ([([48]:aN)]:List aN)) fun g=>
 ob (oR c ([false]:List Bool)) fun h=>
 gO d g h) else (if (b.Kind == 5) then (ob (ix e b.Number) fun i=>
 ob (aDP b.Arguments) fun j=>
 ob (fA i.Name j) fun k=>
 ob (oR a ([k]:List aN)) fun l=>
 ob (oR c ([false]:List Bool)) fun m=>
 gO d l m) else (if (b.Kind == 2) then (ob (ix a (wr ((a.length:Int) - 1))) fun n=>
 ob (ix c (wr ((a.length:Int) - 1))) fun o=>
 ob (iG n o) fun p=>
 ob (fA p ([32,43,32]:aN)) fun q=>
 ob (ix a (wr ((wr ((a.length:Int) - 1)) - 1))) fun r=>
 ob (fA q r) fun s=>
 ob (slc a 0 (wr ((wr ((a.length:Int) - 1)) - 1))) fun t=>
 ob (oR t ([s]:List aN)) fun u=>
 ob (slc c 0 (wr ((wr ((a.length:Int) - 1)) - 1))) fun v=>
 ob (oR v ([true]:List Bool)) fun w=>
 gO d u w) else (if (b.Kind == 1) then (ob (aDP b.Arguments) fun x=>
 ob (fA b.Name x) fun y=>
 ob (fA y ([46]:aN)) fun z=>
 ob (ix a (wr ((a.length:Int) - 1))) fun a0=>
 ob (ix c (wr ((a.length:Int) - 1))) fun a1=>
 ob (iG a0 a1) fun a2=>
 ob (fA z a2) fun a3=>
 ob (slc a 0 (wr ((a.length:Int) - 1))) fun a4=>
 ob (oR a4 ([a3]:List aN)) fun a5=>
 ob (slc c 0 (wr ((a.length:Int) - 1))) fun a6=>
 ob (oR a6 ([false]:List Bool)) fun a7=>
 gO d a5 a7) else (if (b.Kind == 3) then (ob (ix b.Arguments 0) fun a8=>
 ob (uS a8) fun a9=>
 ob (fA ([91]:aN) a9) fun b0=>
 ob (fA b0 ([93]:aN)) fun b1=>
 ob (ix a (wr ((a.length:Int) - 1))) fun b2=>
 ob (ix c (wr ((a.length:Int) - 1))) fun b3=>
 ob (iG b2 b3) fun b4=>
 ob (fA b1 b4) fun b5=>
 ob (slc a 0 (wr ((a.length:Int) - 1))) fun b6=>
 ob (oR b6 ([b5]:List aN)) fun b7=>
 ob (slc c 0 (wr ((a.length:Int) - 1))) fun b8=>
 ob (oR b8 ([false]:List Bool)) fun b9=>
 gO d b7 b9) else (if (b.Kind == 4) then (ob (lO b.Number) fun c0=>
 ob (fA ([115,117,109,32]:aN) c0) fun c1=>
 ob (fA c1 ([46]:aN)) fun c2=>
 ob (ix a (wr ((a.length:Int) - 1))) fun c3=>
 ob (ix c (wr ((a.length:Int) - 1))) fun c4=>
 ob (iG c3 c4) fun c5=>
 ob (fA c2 c5) fun c6=>
 ob (slc a 0 (wr ((a.length:Int) - 1))) fun c7=>
 ob (oR c7 ([c6]:List aN)) fun c8=>
 ob (slc c 0 (wr ((a.length:Int) - 1))) fun c9=>
 ob (oR c9 ([false]:List Bool)) fun d0=>
 gO d c8 d0) else (gO d a c))))))) else (some (.inr a))
def yA (b:(List Definition)) (a:(List bG)):Option aN:=
 ob (loop (fun (s:(List aN × List Bool × Int))=>nS b a s.1 s.2.1 s.2.2) (([]:List aN),([]:List Bool),wr ((a.length:Int) - 1))) fun r=>aEH r
def aGC (b:(List Definition)) (k:Int):Option aN:=
 ob (ix b k) fun a=>
 ob (fA ([112,114,111,99,32]:aN) a.Name) fun d=>
 ob (fA d ([32]:aN)) fun e=>
 ob (lO a.Parameters) fun f=>
 ob (fA e f) fun g=>
 ob (fA g ([32,61,32]:aN)) fun h=>
 ob (yA b a.Body) fun i=>
 ob (fA h i) fun j=>
 some j
def aJd (a:aN):Option aN:=
 some a
def aBb (b:(List Int)) (a:Int) (c:aN):Option ((aN × Int) ⊕ aN):=
 ob (ix b a) fun d=>
 ob (lO d) fun e=>
 ob (fA c e) fun f=>
 some (.inl (f,wr (a+1)))
def nT (b:(List Int)) (c:aN) (a:Int):Option ((aN × Int) ⊕ aN):=
 if (decide (a < (b.length:Int))) then (if (decide (0 < a)) then (ob (fA c ([44]:aN)) fun d=>
 aBb b a d) else (aBb b a c)) else (some (.inr c))
def aDQ (a:(List Int)):Option aN:=
 if ((a.length:Int) == 0) then (some ([45]:aN)) else (ob (loop (fun (s:(aN × Int))=>nT a s.1 s.2) (([]:aN),0)) fun r=>aJd r)
def aDr (a:aN):Option aN:=
 some a
def sU (b:(List aN)) (c:aN) (a:Int):Option ((aN × Int) ⊕ aN):=
 if (decide (a < (b.length:Int))) then (ob (ix b a) fun d=>
 ob (fA ([32]:aN) d) fun e=>
 ob (fA c e) fun f=>
 some (.inl (f,wr (a+1)))) else (some (.inr c))
def yB (a:aN) (b:(List aN)):Option aN:=
 ob (loop (fun (s:(aN × Int))=>sU b s.1 s.2) (a,0)) fun r=>aDr r
def yX (a:List aN):Option (List aN):=
 some a
def oZ (a:bL) (b:List aN):Option (List aN):=
 if (decide (0 < (a.Hidden.length:Int))) then (ob (yB ([104,105,100,101]:aN) a.Hidden) fun c=>
 ob (oR b ([c]:List aN)) fun d=>
 yX d) else (yX b)
def yY (a:bL) (b:List aN):Option (List aN):=
 if (decide (0 < (a.Allowed.length:Int))) then (ob (yB ([97,108,108,111,119]:aN) a.Allowed) fun c=>
 ob (oR b ([c]:List aN)) fun d=>
 oZ a d) else (oZ a b)
def yZ (c:bL) (d:List aN) (a:Int):Option ((List aN × Int) ⊕ (List aN)):=
 if (decide (a < (c.Meetings.length:Int))) then (ob (ix c.Meetings a) fun b=>
 ob (fA ([109,101,101,116,32]:aN) b.Left) fun e=>
 ob (fA e ([32]:aN)) fun f=>
 ob (fA f b.Right) fun g=>
 ob (fA g ([32]:aN)) fun h=>
 ob (fA h b.Result) fun i=>
 ob (oR d ([i]:List aN)) fun j=>
 some (.inl (j,wr (a+1)))) else (some (.inr d))
def zD (a:bL) (b:List aN) (c:aN):Option (List aN):=
 ob (oR b ([c]:List aN)) fun d=>
 ob (loop (fun (s:(List aN × Int))=>yZ a s.1 s.2) (d,0)) fun r=>yY a r
def sV (a:Int) (b:aN):Option ((aN × Int) ⊕ aN):=
 some (.inl (b,wr (a+1)))
def sW (c:bL) (a:Int) (e:aN):Option ((aN × Int) ⊕ aN):=
 ob (ix c.Components a) fun b=>
 ob (ix c.Definitions b.Definition) fun f=>
 ob (fA e f.Name) fun d=>
 if (decide (0 < (b.Values.length:Int))) then (ob (aDQ b.Values) fun g=>
 ob (fA ([40]:aN) g) fun h=>
 ob (fA h ([41]:aN)) fun i=>
 ob (fA d i) fun j=>
 sV a j) else (sV a d)
def sX (b:bL) (c:aN) (a:Int):Option ((aN × Int) ⊕ aN):=
 if (decide (a < (b.Components.length:Int))) then (if (decide (0 < a)) then (ob (fA c ([32,124,32]:aN)) fun d=>
 sW b a d) else (sW b a c)) else (some (.inr c))
def zE (a:bL) (b:List aN):Option (List aN):=
 ob (loop (fun (s:(aN × Int))=>sX a s.1 s.2) (([114,117,110,32]:aN),0)) fun r=>zD a b r
def wD (b:bL) (c:List aN) (a:Int):Option ((List aN × Int) ⊕ (List aN)):=
 if (decide (a < (b.Definitions.length:Int))) then (ob (aGC b.Definitions a) fun d=>
 ob (oR c ([d]:List aN)) fun e=>
 some (.inl (e,wr (a+1)))) else (some (.inr c))
def aCa (a:bL):Option (List aN):=
 ob (loop (fun (s:(List aN × Int))=>wD a s.1 s.2) (([]:List aN),0)) fun r=>zE a r
def aJe (a:aN):Option aN:=
 some a
def wE (b:(List aN)) (a:Int) (c:aN):Option ((aN × Int) ⊕ aN):=
 ob (ix b a) fun d=>
 ob (fA c d) fun e=>
 some (.inl (e,wr (a+1)))
def wF (b:(List aN)) (c:aN) (a:Int):Option ((aN × Int) ⊕ aN):=
 if (decide (a < (b.length:Int))) then (if (decide (0 < a)) then (ob (fA c ([10]:aN)) fun d=>
 wE b a d) else (wE b a c)) else (some (.inr c))
def aDR (a:bL):Option aN:=
 ob (aCa a) fun b=>
 ob (loop (fun (s:(aN × Int))=>wF b s.1 s.2) (([]:aN),0)) fun r=>aJe r
def aCb (a:Bool):Option Bool:=
 some a
def yC (a:Bool):Option Bool:=
 some a
def yD (a:Bool):Option Bool:=
 some a
def aEI (k:Kept):Option Bool:=
 ob (rJ k.Name) fun b=>
 if (!b) then (some false) else (if (k.Kind == 1) then (ob (aIV k.S) fun c=>
 if c then (if ((k.Formula.length:Int) == 0) then (ob (aDK k.Source) fun d=>
 aCb d) else (aCb false)) else (aCb false)) else (if (k.Kind == 2) then (ob (aEC k.Formula) fun e=>
 if e then (ob (nO k.Formula) fun f=>
 if (decide ((f.length:Int)<=400)) then (ob (xV k.S) fun g=>
 if g then (ob (aDK k.Source) fun h=>
 yC h) else (yC false)) else (yC false)) else (yC false)) else (if (k.Kind == 3) then (ob (aJa k.Source) fun i=>
 if i then (ob (aDR k.Source) fun j=>
 if (decide ((j.length:Int)<=16000)) then (if ((k.Formula.length:Int) == 0) then (ob (xV k.S) fun l=>
 yD l) else (yD false)) else (yD false)) else (yD false)) else (some false))))
def aHY:Option Bool:=
 some true
def aCc (a:Int) (b:Bool):Option (Int ⊕ (Unit ⊕ Bool)):=
 if b then (some (.inr (.inr false))) else (some (.inl (wr (a+1))))
def aCd (d:vI) (a:Int):Option (Int ⊕ (Unit ⊕ Bool)):=
 if (decide (a < (d.Kept.length:Int))) then (ob (ix d.Kept a) fun c=>
 ob (aEI c) fun e=>
 if (!e) then (aCc a true) else (if (decide (0 < a)) then (ob (ix d.Kept (wr (a - 1))) fun f=>
 aCc a (!nI f.Name c.Name)) else (aCc a false))) else (some (.inr (.inl ())))
def aJf (d:vI):Option Bool:=
 if (decide (12 < (d.Kept.length:Int))) then (some false) else (ob (loop (fun (s:Int)=>aCd d s) 0) fun r=>match r with|.inl r=>aHY|.inr r=>some r)
def aAk (d:vI):Option Bool:=
 ob (aJf d) fun b=>
 some b
def aFS (a:List aN):Option (List aN):=
 some a
def wG (a:(List aN)) (c:List aN) (b:Int):Option ((List aN × Int) ⊕ (List aN)):=
 if (decide (b < (a.length:Int))) then (ob (ix a b) fun e=>
 ob (ix c b) fun g=>
 ob (st c b (e:aN)) fun f=>
 some (.inl (f,wr (b+1)))) else (some (.inr c))
def qO (a:(List aN)):Option (List aN):=
 ob (mkz (a.length:Int) ([]:aN)) fun c=>
 ob (loop (fun (s:(List aN × Int))=>wG a s.1 s.2) (c,0)) fun r=>aFS r
def aMi (a:Edge):Option Edge:=
 some a
def aJg (a:List Edge):Option (List Edge):=
 some a
def aBc (a:(List Edge)) (c:List Edge) (b:Int):Option ((List Edge × Int) ⊕ (List Edge)):=
 if (decide (b < (a.length:Int))) then (ob (ix a b) fun f=>
 ob (aMi f) fun d=>
 ob (ix c b) fun h=>
 ob (st c b (⟨d.F,d.B,d.To⟩:Edge)) fun g=>
 some (.inl (g,wr (b+1)))) else (some (.inr c))
def aDS (a:(List Edge)):Option (List Edge):=
 ob (mkz (a.length:Int) (⟨0,0,0⟩:Edge)) fun c=>
 ob (loop (fun (s:(List Edge × Int))=>aBc a s.1 s.2) (c,0)) fun r=>aJg r
def aLJ (a:hJ):Option hJ:=
 ob (qO a.L) fun c=>
 ob (aDS a.E) fun d=>
 some ⟨a.N,a.I,c,d⟩
def aMj (a:bH):Option bH:=
 some a
def aJh (a:List bH):Option (List bH):=
 some a
def wH (a:(List bH)) (d:List bH) (b:Int):Option ((List bH × Int) ⊕ (List bH)):=
 if (decide (b < (a.length:Int))) then (ob (ix a b) fun f=>
 ob (aMj f) fun c=>
 ob (ix d b) fun h=>
 ob (st d b (⟨c.Kind,c.Variable,c.B,c.Not⟩:bH)) fun g=>
 some (.inl (g,wr (b+1)))) else (some (.inr d))
def aGD (a:(List bH)):Option (List bH):=
 ob (mkz (a.length:Int) (⟨0,0,[],false⟩:bH)) fun c=>
 ob (loop (fun (s:(List bH × Int))=>wH a s.1 s.2) (c,0)) fun r=>aJh r
def aMk (a:aR):Option aR:=
 some a
def aJi (a:List aR):Option (List aR):=
 some a
def wI (a:(List aR)) (c:List aR) (b:Int):Option ((List aR × Int) ⊕ (List aR)):=
 if (decide (b < (a.length:Int))) then (ob (ix a b) fun f=>
 ob (aMk f) fun e=>
 ob (ix c b) fun h=>
 ob (st c b (⟨e.Kind,e.Value⟩:aR)) fun g=>
 some (.inl (g,wr (b+1)))) else (some (.inr c))
def aGE (a:(List aR)):Option (List aR):=
 ob (mkz (a.length:Int) (⟨0,0⟩:aR)) fun c=>
 ob (loop (fun (s:(List aR × Int))=>wI a s.1 s.2) (c,0)) fun r=>aJi r
def aHr (a:List (List aR)):Option (List (List aR)):=
 some a
def sY (a:(List (List aR))) (c:List (List aR)) (b:Int):Option ((List (List aR) × Int) ⊕ (List (List aR))):=
 if (decide (b < (a.length:Int))) then (ob (ix a b) fun e=>
 ob (aGE e) fun f=>
 ob (ix c b) fun h=>
 ob (st c b f) fun g=>
 some (.inl (g,wr (b+1)))) else (some (.inr c))
def aEJ (a:(List (List aR))):Option (List (List aR)):=
 ob (mkz (a.length:Int) ([]:(List aR))) fun c=>
 ob (loop (fun (s:(List (List aR) × Int))=>sY a s.1 s.2) (c,0)) fun r=>aHr r
def aMl (a:bG):Option bG:=
 ob (aEJ a.Arguments) fun c=>
 some ⟨a.Kind,a.Number,a.Name,c⟩
def aJj (a:List bG):Option (List bG):=
 some a
def wJ (a:(List bG)) (c:List bG) (b:Int):Option ((List bG × Int) ⊕ (List bG)):=
 if (decide (b < (a.length:Int))) then (ob (ix a b) fun e=>
 ob (aMl e) fun f=>
 ob (ix c b) fun h=>
 ob (st c b (f:bG)) fun g=>
 some (.inl (g,wr (b+1)))) else (some (.inr c))
def aGF (a:(List bG)):Option (List bG):=
 ob (mkz (a.length:Int) (⟨0,0,[],[]⟩:bG)) fun c=>
 ob (loop (fun (s:(List bG × Int))=>wJ a s.1 s.2) (c,0)) fun r=>aJj r
def aCe (a:Definition):Option Definition:=
 ob (aGF a.Body) fun c=>
 some ⟨a.Name,a.Parameters,c⟩
def aCf (a:List Definition):Option (List Definition):=
 some a
def lA (a:(List Definition)) (c:List Definition) (b:Int):Option ((List Definition × Int) ⊕ (List Definition)):=
 if (decide (b < (a.length:Int))) then (ob (ix a b) fun e=>
 ob (aCe e) fun f=>
 ob (ix c b) fun h=>
 ob (st c b (f:Definition)) fun g=>
 some (.inl (g,wr (b+1)))) else (some (.inr c))
def tV (a:(List Definition)):Option (List Definition):=
 ob (mkz (a.length:Int) (⟨[],0,[]⟩:Definition)) fun c=>
 ob (loop (fun (s:(List Definition × Int))=>lA a s.1 s.2) (c,0)) fun r=>aCf r
def aHs (a:List Int):Option (List Int):=
 some a
def sZ (a:(List Int)) (c:List Int) (b:Int):Option ((List Int × Int) ⊕ (List Int)):=
 if (decide (b < (a.length:Int))) then (ob (ix a b) fun e=>
 ob (ix c b) fun g=>
 ob (st c b (e:Int)) fun f=>
 some (.inl (f,wr (b+1)))) else (some (.inr c))
def aEK (a:(List Int)):Option (List Int):=
 ob (mkz (a.length:Int) (0:Int)) fun c=>
 ob (loop (fun (s:(List Int × Int))=>sZ a s.1 s.2) (c,0)) fun r=>aHs r
def aDs (a:aX):Option aX:=
 ob (aEK a.Values) fun c=>
 some ⟨a.Definition,c⟩
def aCR (a:List aX):Option (List aX):=
 some a
def lP (a:(List aX)) (c:List aX) (b:Int):Option ((List aX × Int) ⊕ (List aX)):=
 if (decide (b < (a.length:Int))) then (ob (ix a b) fun e=>
 ob (aDs e) fun f=>
 ob (ix c b) fun h=>
 ob (st c b (f:aX)) fun g=>
 some (.inl (g,wr (b+1)))) else (some (.inr c))
def wK (a:(List aX)):Option (List aX):=
 ob (mkz (a.length:Int) (⟨0,[]⟩:aX)) fun c=>
 ob (loop (fun (s:(List aX × Int))=>lP a s.1 s.2) (c,0)) fun r=>aCR r
def aFT (a:bB):Option bB:=
 some a
def aFh (a:List bB):Option (List bB):=
 some a
def oL (a:(List bB)) (c:List bB) (b:Int):Option ((List bB × Int) ⊕ (List bB)):=
 if (decide (b < (a.length:Int))) then (ob (ix a b) fun f=>
 ob (aFT f) fun d=>
 ob (ix c b) fun h=>
 ob (st c b (⟨d.Left,d.Right,d.Result⟩:bB)) fun g=>
 some (.inl (g,wr (b+1)))) else (some (.inr c))
def aBd (a:(List bB)):Option (List bB):=
 ob (mkz (a.length:Int) (⟨[],[],[]⟩:bB)) fun c=>
 ob (loop (fun (s:(List bB × Int))=>oL a s.1 s.2) (c,0)) fun r=>aFh r
def aCg (a:bL):Option bL:=
 ob (tV a.Definitions) fun c=>
 ob (wK a.Components) fun d=>
 ob (aBd a.Meetings) fun e=>
 ob (qO a.Allowed) fun f=>
 ob (qO a.Hidden) fun g=>
 some ⟨c,d,e,f,g⟩
def aFU (a:Kept):Option Kept:=
 ob (aLJ a.S) fun d=>
 ob (aGD a.Formula) fun e=>
 ob (aCg a.Source) fun c=>
 some ⟨a.Name,a.Kind,⟨d.N,d.I,d.L,d.E⟩,e,⟨c.Definitions,c.Components,c.Meetings,c.Allowed,c.Hidden⟩⟩
def aJk (a:List Kept):Option (List Kept):=
 some a
def wL (a:(List Kept)) (d:List Kept) (c:Int):Option ((List Kept × Int) ⊕ (List Kept)):=
 if (decide (c < (a.length:Int))) then (ob (ix a c) fun f=>
 ob (aFU f) fun b=>
 ob (ix d c) fun h=>
 ob (st d c (⟨b.Name,b.Kind,⟨b.S.N,b.S.I,b.S.L,b.S.E⟩,b.Formula,⟨b.Source.Definitions,b.Source.Components,b.Source.Meetings,b.Source.Allowed,b.Source.Hidden⟩⟩:Kept)) fun g=>
 some (.inl (g,wr (c+1)))) else (some (.inr d))
def aGG (a:(List Kept)):Option (List Kept):=
 ob (mkz (a.length:Int) (⟨[],0,⟨0,0,[],[]⟩,[],⟨[],[],[],[],[]⟩⟩:Kept)) fun c=>
 ob (loop (fun (s:(List Kept × Int))=>wL a s.1 s.2) (c,0)) fun r=>aJk r
def aDT (a:vI):Option vI:=
 ob (aGG a.Kept) fun c=>
 some ⟨c⟩
def iQ:Option Bool:=
 some true
def iR (b c:(List Edge)) (a:Int):Option (Int ⊕ (Unit ⊕ Bool)):=
 if (decide (a < (b.length:Int))) then (ob (ix b a) fun d=>
 ob (ix c a) fun e=>
 if (!decide ((d:Edge)=e)) then (some (.inr (.inr false))) else (some (.inl (wr (a+1))))) else (some (.inr (.inl ())))
def dW (b c:(List Edge)):Option Bool:=
 if ((b.length:Int) != (c.length:Int)) then (some false) else (ob (loop (fun (s:Int)=>iR b c s) 0) fun r=>match r with|.inl r=>iQ|.inr r=>some r)
def lB:Option Bool:=
 some true
def uH (b c:(List aN)) (a:Int):Option (Int ⊕ (Unit ⊕ Bool)):=
 if (decide (a < (b.length:Int))) then (ob (ix b a) fun d=>
 ob (ix c a) fun e=>
 if (!(d == e)) then (some (.inr (.inr false))) else (some (.inl (wr (a+1))))) else (some (.inr (.inl ())))
def dE (b c:(List aN)):Option Bool:=
 if ((b.length:Int) != (c.length:Int)) then (some false) else (ob (loop (fun (s:Int)=>uH b c s) 0) fun r=>match r with|.inl r=>lB|.inr r=>some r)
def rO (a:Bool):Option Bool:=
 some a
def aDU (a b:hJ):Option Bool:=
 if (a.N == b.N) then (if (a.I == b.I) then (ob (dE a.L b.L) fun e=>
 if e then (ob (dW a.E b.E) fun f=>
 rO f) else (rO false)) else (rO false)) else (rO false)
def iS:Option Bool:=
 some true
def iT (b c:(List aR)) (a:Int):Option (Int ⊕ (Unit ⊕ Bool)):=
 if (decide (a < (b.length:Int))) then (ob (ix b a) fun d=>
 ob (ix c a) fun e=>
 if (!decide ((d:aR)=e)) then (some (.inr (.inr false))) else (some (.inl (wr (a+1))))) else (some (.inr (.inl ())))
def fZ (b c:(List aR)):Option Bool:=
 if ((b.length:Int) != (c.length:Int)) then (some false) else (ob (loop (fun (s:Int)=>iT b c s) 0) fun r=>match r with|.inl r=>iS|.inr r=>some r)
def dO:Option Bool:=
 some true
def dP (b c:(List (List aR))) (a:Int):Option (Int ⊕ (Unit ⊕ Bool)):=
 if (decide (a < (b.length:Int))) then (ob (ix b a) fun d=>
 ob (ix c a) fun e=>
 ob (fZ d e) fun f=>
 if (!f) then (some (.inr (.inr false))) else (some (.inl (wr (a+1))))) else (some (.inr (.inl ())))
def cI (b c:(List (List aR))):Option Bool:=
 if ((b.length:Int) != (c.length:Int)) then (some false) else (ob (loop (fun (s:Int)=>dP b c s) 0) fun r=>match r with|.inl r=>dO|.inr r=>some r)
def tA (a:Bool):Option Bool:=
 some a
def aHZ (a b:bG):Option Bool:=
 if (a.Kind == b.Kind) then (if (a.Number == b.Number) then (if (a.Name == b.Name) then (ob (cI a.Arguments b.Arguments) fun e=>
 tA e) else (tA false)) else (tA false)) else (tA false)
def eK:Option Bool:=
 some true
def eL (b c:(List bG)) (a:Int):Option (Int ⊕ (Unit ⊕ Bool)):=
 if (decide (a < (b.length:Int))) then (ob (ix b a) fun d=>
 ob (ix c a) fun e=>
 ob (aHZ d e) fun f=>
 if (!f) then (some (.inr (.inr false))) else (some (.inl (wr (a+1))))) else (some (.inr (.inl ())))
def dB (b c:(List bG)):Option Bool:=
 if ((b.length:Int) != (c.length:Int)) then (some false) else (ob (loop (fun (s:Int)=>eL b c s) 0) fun r=>match r with|.inl r=>eK|.inr r=>some r)
def mE (a:Bool):Option Bool:=
 some a
def yE (a b:Definition):Option Bool:=
 if (a.Name == b.Name) then (if (a.Parameters == b.Parameters) then (ob (dB a.Body b.Body) fun e=>
 mE e) else (mE false)) else (mE false)
def lQ:Option Bool:=
 some true
def wM (b c:(List Int)) (a:Int):Option (Int ⊕ (Unit ⊕ Bool)):=
 if (decide (a < (b.length:Int))) then (ob (ix b a) fun d=>
 ob (ix c a) fun e=>
 if (d != e) then (some (.inr (.inr false))) else (some (.inl (wr (a+1))))) else (some (.inr (.inl ())))
def jK (b c:(List Int)):Option Bool:=
 if ((b.length:Int) != (c.length:Int)) then (some false) else (ob (loop (fun (s:Int)=>wM b c s) 0) fun r=>match r with|.inl r=>lQ|.inr r=>some r)
def uI (a:Bool):Option Bool:=
 some a
def aAD (a b:aX):Option Bool:=
 if (a.Definition == b.Definition) then (ob (jK a.Values b.Values) fun e=>
 uI e) else (uI false)
def gI:Option Bool:=
 some true
def gJ (b c:(List bB)) (a:Int):Option (Int ⊕ (Unit ⊕ Bool)):=
 if (decide (a < (b.length:Int))) then (ob (ix b a) fun d=>
 ob (ix c a) fun e=>
 if (!decide ((d:bB)=e)) then (some (.inr (.inr false))) else (some (.inl (wr (a+1))))) else (some (.inr (.inl ())))
def cZ (b c:(List bB)):Option Bool:=
 if ((b.length:Int) != (c.length:Int)) then (some false) else (ob (loop (fun (s:Int)=>gJ b c s) 0) fun r=>match r with|.inl r=>gI|.inr r=>some r)
def cO:Option Bool:=
 some true
def cP (b c:(List Definition)) (a:Int):Option (Int ⊕ (Unit ⊕ Bool)):=
 if (decide (a < (b.length:Int))) then (ob (ix b a) fun d=>
 ob (ix c a) fun e=>
 ob (yE d e) fun f=>
 if (!f) then (some (.inr (.inr false))) else (some (.inl (wr (a+1))))) else (some (.inr (.inl ())))
def bA (b c:(List Definition)):Option Bool:=
 if ((b.length:Int) != (c.length:Int)) then (some false) else (ob (loop (fun (s:Int)=>cP b c s) 0) fun r=>match r with|.inl r=>cO|.inr r=>some r)
def cV:Option Bool:=
 some true
def cW (b c:(List aX)) (a:Int):Option (Int ⊕ (Unit ⊕ Bool)):=
 if (decide (a < (b.length:Int))) then (ob (ix b a) fun d=>
 ob (ix c a) fun e=>
 ob (aAD d e) fun f=>
 if (!f) then (some (.inr (.inr false))) else (some (.inl (wr (a+1))))) else (some (.inr (.inl ())))
def bC (b c:(List aX)):Option Bool:=
 if ((b.length:Int) != (c.length:Int)) then (some false) else (ob (loop (fun (s:Int)=>cW b c s) 0) fun r=>match r with|.inl r=>cV|.inr r=>some r)
def jU (a:Bool):Option Bool:=
 some a
def wN (a b:bL):Option Bool:=
 ob (bA a.Definitions b.Definitions) fun e=>
 if e then (ob (bC a.Components b.Components) fun f=>
 if f then (ob (cZ a.Meetings b.Meetings) fun g=>
 if g then (ob (dE a.Allowed b.Allowed) fun h=>
 if h then (ob (dE a.Hidden b.Hidden) fun i=>
 jU i) else (jU false)) else (jU false)) else (jU false)) else (jU false)
def pA (t:hJ) (k:Int):Option Bool:=
 ob (fR k 0 (wr (t.N - 1))) fun c=>
 some c
def aBe (i many:Int):Option Bool:=
 ob (fR i 0 (wr (many - 1))) fun b=>
 some b
def nU (a:Int):Option Bool:=
 some (a != a)
def fS (a y:Int):Option Int:=
 ob (nU a) fun d=>
 ob (nU y) fun c=>
 if d then (if c then (some 0) else (some (-1))) else (if c then (some 1) else (if (decide (a < y)) then (some (-1)) else (if (decide (y < a)) then (some 1) else (some 0))))
def yF:Option Int:=
 some 0
def gV (b:(List Int)) (a:Int):Option (Int ⊕ (Unit ⊕ Int)):=
 if (decide (a < (b.length:Int))) then (ob (ix b a) fun c=>
 if (c != 0) then (some (.inr (.inr c))) else (some (.inl (wr (a+1))))) else (some (.inr (.inl ())))
def tB (b:(List Int)):Option Int:=
 ob (loop (fun (s:Int)=>gV b s) 0) fun r=>match r with|.inl r=>yF|.inr r=>some r
def qP (a b:Edge):Option Int:=
 ob (fS a.F b.F) fun e=>
 ob (fS a.B b.B) fun f=>
 ob (fS a.To b.To) fun g=>
 ob (tB ([e,f,g]:List Int)) fun h=>
 some h
def aHt:Option Bool:=
 some true
def lZ (a:Int) (b:Bool):Option (Int ⊕ (Unit ⊕ Bool)):=
 if b then (some (.inr (.inr false))) else (some (.inl (wr (a+1))))
def tC (t:hJ) (a:Int):Option (Int ⊕ (Unit ⊕ Bool)):=
 if (decide (a < (t.E.length:Int))) then (ob (ix t.E a) fun c=>
 ob (pA t c.F) fun d=>
 if (!d) then (lZ a true) else (ob (pA t c.To) fun e=>
 if (!e) then (lZ a true) else (ob (aBe c.B (t.L.length:Int)) fun f=>
 if (!f) then (lZ a true) else (if (decide (0 < a)) then (ob (ix t.E (wr (a - 1))) fun g=>
 ob (qP g c) fun h=>
 lZ a (decide (0<=h))) else (lZ a false))))) else (some (.inr (.inl ())))
def zF (t:hJ):Option Bool:=
 ob (loop (fun (s:Int)=>tC t s) 0) fun r=>match r with|.inl r=>aHt|.inr r=>some r
def pB (a:Int) (b:Bool):Option (Int ⊕ (Unit ⊕ Bool)):=
 if b then (some (.inr (.inr false))) else (some (.inl (wr (a+1))))
def tD (t:hJ) (a:Int):Option (Int ⊕ (Unit ⊕ Bool)):=
 if (decide (a < (t.L.length:Int))) then (ob (ix t.L a) fun b=>
 ob (aDH b) fun e=>
 if (!e) then (pB a true) else (if ((b == ([116,97,117]:aN)) != (a == 0)) then (pB a true) else (if (decide (1 < a)) then (ob (ix t.L (wr (a - 1))) fun d=>
 pB a (nI b d||b == d)) else (pB a false)))) else (some (.inr (.inl ())))
def mA (t:hJ) (c:Bool):Option Bool:=
 if c then (some false) else (ob (loop (fun (s:Int)=>tD t s) 0) fun r=>match r with|.inl r=>zF t|.inr r=>some r)
def aCh (t:hJ):Option Bool:=
 ob (fR t.N 1 40) fun b=>
 if (!b) then (mA t true) else (ob (pA t t.I) fun c=>
 if (!c) then (mA t true) else (ob (fR (t.L.length:Int) 1 12) fun d=>
 if (!d) then (mA t true) else (mA t (decide (300 < (t.E.length:Int))))))
def iX (a:Bool):Option Int:=
 if a then (some 1) else (some 0)
def lC (n:bH) (b:Bool):Option Int:=
 if b then (some 2) else (if (n.Kind == 4) then (iX (n.Kind == 4)) else (if (n.Kind == 5) then (iX (n.Kind == 5)) else (if (n.Kind == 7) then (iX (n.Kind == 7)) else (iX (n.Kind == 8)))))
def jV (n:bH):Option Int:=
 if (n.Kind == 2) then (lC n (n.Kind == 2)) else (lC n (n.Kind == 3))
def aJl (a:Int):Option Bool:=
 some (a == 0)
def aBf (c:(List bH)) (a b:Int):Option ((Int × Int) ⊕ (Int ⊕ Bool)):=
 if (decide (b < (c.length:Int))) then (ob (ix c b) fun d=>
 if (a == 0) then (some (.inr (.inr false))) else (ob (jV d) fun e=>
 some (.inl (wr (a+(wr (e - 1))),wr (b+1))))) else (some (.inr (.inl a)))
def aDV (b:(List bH)):Option Bool:=
 ob (loop (fun (s:(Int × Int))=>aBf b s.1 s.2) (1,0)) fun r=>match r with|.inl r=>aJl r|.inr r=>some r
def lR (a:Bool):Option Bool:=
 some a
def pL (n:bH):Option Bool:=
 if (n.Kind == 4) then (lR true) else (lR (n.Kind == 5))
def iA (a b:aN):Option (aN × Bool):=
 ob (dV a b) fun c=>
 if (!c) then (some (a,false)) else (ob (slc a 0 (wr ((a.length:Int) - (b.length:Int)))) fun d=>
 some (d,true))
def kA (b c:aN):Option (aN × Bool):=
 ob (iA b c) fun a=>
 some (a.1,a.2)
def mU (a:Bool):Option Bool:=
 some a
def aAl (a:aN):Option Bool:=
 ob (kA a ([42]:aN)) fun b=>
 if (a == ([]:aN)) then (mU true) else (ob (aDH a) fun c=>
 if c then (mU true) else (if b.2 then (ob (kW b.1) fun d=>
 mU d) else (mU false)))
def nV (a:Bool):Option Bool:=
 some a
def oM (n:bH):Option Bool:=
 ob (pL n) fun b=>
 if b then (ob (aAl n.B) fun c=>
 some c) else (if (n.B == ([]:aN)) then (nV (!n.Not)) else (nV false))
def pM (a:Bool):Option Bool:=
 some a
def mV (n:bH):Option Bool:=
 if (n.Kind == 7) then (pM true) else (pM (n.Kind == 8))
def pN (n:bH) (b:Bool):Option Bool:=
 if b then (ob (fR n.Variable 0 2) fun c=>
 some c) else (some (n.Variable == 0))
def qQ (n:bH):Option Bool:=
 ob (mV n) fun b=>
 if b then (pN n true) else (pN n (n.Kind == 6))
def aAE (a:Int):Option Int:=
 some a
def tW (c:(List bH)) (a b:Int):Option ((Int × Int) ⊕ Int):=
 if (decide (0 < b)) then (ob (ix c a) fun d=>
 ob (jV d) fun e=>
 some (.inl (wr (a+1),wr (b+(wr (e - 1)))))) else (some (.inr a))
def kJ (a:(List bH)) (k:Int):Option Int:=
 ob (loop (fun (s:(Int × Int))=>tW a s.1 s.2) (k,1)) fun r=>aAE r
def aKR:Option Int:=
 some (-1)
def aAm (a:Int) (b:Bool):Option (Int ⊕ (Unit ⊕ Int)):=
 if b then (some (.inr (.inr a))) else (some (.inl (wr (a - 1))))
def aAn (b:(List bH)) (k a:Int):Option (Int ⊕ (Unit ⊕ Int)):=
 if (decide (0<=a)) then (ob (ix b a) fun d=>
 ob (mV d) fun e=>
 if e then (ob (ix b k) fun f=>
 if (d.Variable == f.Variable) then (ob (kJ b a) fun g=>
 aAm a (decide (k < g))) else (aAm a false)) else (aAm a false)) else (some (.inr (.inl ())))
def aCi (c:(List bH)) (k:Int):Option Int:=
 ob (loop (fun (s:Int)=>aAn c k s) (wr (k - 1))) fun r=>match r with|.inl r=>aKR|.inr r=>some r
def wO:Option Bool:=
 some true
def iB (a:Int) (b:Bool):Option (Int ⊕ (Unit ⊕ Bool)):=
 if b then (some (.inr (.inr false))) else (some (.inl (wr (a+1))))
def lS (c:(List bH)) (a:Int):Option (Int ⊕ (Unit ⊕ Bool)):=
 if (decide (a < (c.length:Int))) then (ob (ix c a) fun b=>
 ob (fR b.Kind 0 8) fun d=>
 if (!d) then (iB a true) else (ob (oM b) fun e=>
 if (!e) then (iB a true) else (ob (qQ b) fun f=>
 if (!f) then (iB a true) else (if (b.Kind == 6) then (ob (aCi c a) fun g=>
 iB a (decide (g < 0))) else (iB a false))))) else (some (.inr (.inl ())))
def lT (b:(List bH)) (c:Bool):Option Bool:=
 if c then (some false) else (ob (loop (fun (s:Int)=>lS b s) 0) fun r=>match r with|.inl r=>wO|.inr r=>some r)
def gK (a:(List bH)):Option Bool:=
 ob (fR (a.length:Int) 1 30) fun b=>
 if (!b) then (lT a true) else (ob (aDV a) fun c=>
 lT a (!c))
def yG (a:bH) (b:List (Tr bH)) (c:List bH):Option ((Tr bH) × (List bH)):=
 some ((Tr.mk a b),c)
def mW (e:(List bH)->Option ((Tr bH) × (List bH))) (f:Int) (a:List (Tr bH)) (b:List bH) (c:Int):Option ((List (Tr bH) × List bH × Int) ⊕ (List (Tr bH) × List bH)):=
 if (decide (c < f)) then (ob (e b) fun d=>
 ob (oR a ([d.1]:List (Tr bH))) fun g=>
 some (.inl (g,d.2,wr (c+1)))) else (some (.inr (a,b)))
def gP (d:(List bH)->Option ((Tr bH) × (List bH))) (a:(List bH)):Option ((Tr bH) × (List bH)):=
 ob (ix a 0) fun b=>
 ob (slc a 1 (a.length:Int)) fun e=>
 ob (jV b) fun f=>
 ob (loop (fun (s:(List (Tr bH) × List bH × Int))=>mW d f s.1 s.2.1 s.2.2) ([],e,0)) fun r=>yG b r.1 r.2
def gQ:Nat->(List bH)->Option ((Tr bH) × (List bH))
 |0=>fun _=>none
 |n+1=>gP (gQ n)
def aDt (a:(List bH)):Option ((Tr bH) × (List bH)):=
 gQ 100000 a
def aFV (a:(List bH)):Option (Tr bH):=
 ob (aDt a) fun b=>
 some b.1
def pC (b:Bool) (a:aN):Option aN:=
 if b then (ob (fA ([33]:aN) a) fun c=>
 some c) else (some a)
def yH (a:aN) (b:Bool):Option aN:=
 ob (kA a ([42]:aN)) fun c=>
 if (a == ([]:aN)) then (pC b ([95]:aN)) else (if c.2 then (ob (fA c.1 ([40,42,41]:aN)) fun d=>
 pC b d) else (pC b a))
def lU:Option Int:=
 some (-1)
def dC (b:(List Int)) (c a:Int):Option (Int ⊕ (Unit ⊕ Int)):=
 if (decide (a < (b.length:Int))) then (ob (ix b a) fun d=>
 if (c == d) then (some (.inr (.inr a))) else (some (.inl (wr (a+1))))) else (some (.inr (.inl ())))
def eN (b:(List Int)) (c:Int):Option Int:=
 ob (loop (fun (s:Int)=>dC b c s) 0) fun r=>match r with|.inl r=>lU|.inr r=>some r
def cB (a:(List Int)) (b:Int):Option Bool:=
 ob (eN a b) fun c=>
 some (decide (0<=c))
def eH (c:(Tr bH)->Option aN) (a:(Tr bH)) (d:(List Int)):Option aN:=
 ob (cB d a.val.Kind) fun e=>
 if e then (ob (c a) fun f=>
 ob (fA ([40]:aN) f) fun g=>
 ob (fA g ([41]:aN)) fun h=>
 some h) else (ob (c a) fun i=>
 some i)
def aCS (a:aN):Option aN:=
 some a
def aCT (a:aN):Option aN:=
 some a
def aCU (a:aN):Option aN:=
 some a
def aCV (a:aN):Option aN:=
 some a
def aCW (a:aN):Option aN:=
 some a
def gA (b:(Tr bH)->Option aN) (a:(Tr bH)):Option aN:=
 if (a.val.Kind == 0) then (some ([116,114,117,101]:aN)) else (if (a.val.Kind == 1) then (some ([102,97,108,115,101]:aN)) else (if (a.val.Kind == 2) then (ob (ix a.kids 0) fun c=>
 ob (ix a.kids 1) fun d=>
 ob (eH b c ([2,3]:List Int)) fun e=>
 ob (fA e ([32,38,32]:aN)) fun f=>
 ob (eH b d ([3]:List Int)) fun g=>
 ob (fA f g) fun h=>
 aCS h) else (if (a.val.Kind == 3) then (ob (ix a.kids 0) fun i=>
 ob (ix a.kids 1) fun j=>
 ob (eH b i ([3]:List Int)) fun k=>
 ob (fA k ([32,124,32]:aN)) fun l=>
 ob (eH b j []) fun m=>
 ob (fA l m) fun n=>
 some n) else (if (a.val.Kind == 4) then (ob (ix a.kids 0) fun o=>
 ob (yH a.val.B a.val.Not) fun p=>
 ob (fA ([60]:aN) p) fun q=>
 ob (fA q ([62]:aN)) fun r=>
 ob (eH b o ([2,3]:List Int)) fun s=>
 ob (fA r s) fun t=>
 aCT t) else (if (a.val.Kind == 5) then (ob (ix a.kids 0) fun u=>
 ob (yH a.val.B a.val.Not) fun v=>
 ob (fA ([91]:aN) v) fun w=>
 ob (fA w ([93]:aN)) fun x=>
 ob (eH b u ([2,3]:List Int)) fun y=>
 ob (fA x y) fun z=>
 aCU z) else (if (a.val.Kind == 7) then (ob (ix a.kids 0) fun a0=>
 ob (iF a.val.Variable) fun a1=>
 ob (fA ([109,117,32,88]:aN) a1) fun a2=>
 ob (fA a2 ([46]:aN)) fun a3=>
 ob (eH b a0 ([2,3]:List Int)) fun a4=>
 ob (fA a3 a4) fun a5=>
 aCV a5) else (if (a.val.Kind == 8) then (ob (ix a.kids 0) fun a6=>
 ob (iF a.val.Variable) fun a7=>
 ob (fA ([110,117,32,88]:aN) a7) fun a8=>
 ob (fA a8 ([46]:aN)) fun a9=>
 ob (eH b a6 ([2,3]:List Int)) fun b0=>
 ob (fA a9 b0) fun b1=>
 aCW b1) else (ob (iF a.val.Variable) fun b2=>
 ob (fA ([88]:aN) b2) fun b3=>
 some b3))))))))
def dX:Nat->(Tr bH)->Option aN
 |0=>fun _=>none
 |n+1=>gA (dX n)
def aCj (a:(Tr bH)):Option aN:=
 dX 100000 a
def zH (a:(List bH)):Option aN:=
 ob (gK a) fun b=>
 if (!b) then (some ([]:aN)) else (ob (aFV a) fun c=>
 ob (aCj c) fun d=>
 some d)
def wP (d:Definition):Option Bool:=
 ob (fR d.Parameters 0 3) fun b=>
 some (!b)
def fG:Option Int:=
 some (-1)
def bW (b:(List Definition)) (a:Int):Option (Int ⊕ (Unit ⊕ Int)):=
 if (decide (a < (b.length:Int))) then (ob (ix b a) fun c=>
 ob (wP c) fun d=>
 if d then (some (.inr (.inr a))) else (some (.inl (wr (a+1))))) else (some (.inr (.inl ())))
def cT (b:(List Definition)):Option Int:=
 ob (loop (fun (s:Int)=>bW b s) 0) fun r=>match r with|.inl r=>fG|.inr r=>some r
def cM (a:(List Definition)):Option Bool:=
 ob (cT a) fun b=>
 some (decide (0<=b))
def wQ (a:(List Definition)):Option Bool:=
 ob (cM a) fun b=>
 some (!b)
def qR (d:Definition) (p:aN):Option Bool:=
 some (d.Name == p)
def fD:Option Int:=
 some (-1)
def bR (b:(List Definition)) (c:aN) (a:Int):Option (Int ⊕ (Unit ⊕ Int)):=
 if (decide (a < (b.length:Int))) then (ob (ix b a) fun d=>
 ob (qR d c) fun e=>
 if e then (some (.inr (.inr a))) else (some (.inl (wr (a+1))))) else (some (.inr (.inl ())))
def cN (b:(List Definition)) (c:aN):Option Int:=
 ob (loop (fun (s:Int)=>bR b c s) 0) fun r=>match r with|.inl r=>fD|.inr r=>some r
def lV (a:(List Definition)) (b:aN):Option Int:=
 ob (cN a b) fun c=>
 some c
def rP (p:bG) (b:Bool):Option Int:=
 if b then (some 1) else (if (p.Kind == 2) then (some 2) else (some 0))
def tE (p:bG):Option Int:=
 if (p.Kind == 1) then (rP p (p.Kind == 1)) else (if (p.Kind == 3) then (rP p (p.Kind == 3)) else (rP p (p.Kind == 4)))
def mF (a:Int):Option Int:=
 some a
def gG (d:Definition) (a c:Int):Option ((Int × Int) ⊕ (Int ⊕ Int)):=
 if (decide (0 < c)) then (if (decide ((d.Body.length:Int)<=a)) then (some (.inr (.inr (-1)))) else (ob (ix d.Body a) fun e=>
 ob (tE e) fun f=>
 some (.inl (wr (a+1),wr (c+(wr (f - 1))))))) else (some (.inr (.inl a)))
def kQ (d:Definition) (c:Int):Option Int:=
 ob (loop (fun (s:(Int × Int))=>gG d s.1 s.2) (c,1)) fun r=>match r with|.inl r=>mF r|.inr r=>some r
def iN (a:Int) (b:List dF):Option (Int × (List dF)):=
 some (a,b)
def eS (f:Int->dF->(List dF)->Definition->Definition->Option (Int × (List dF))) (a:Definition) (g:bG) (h i b c:Int) (d:List dF):Option ((Int × Int × List dF) ⊕ (Int × List dF)):=
 if (decide (c < i)) then (ob (f b ⟨h,g.Kind == 1⟩ d a a) fun e=>
 some (.inl (e.1,wr (c+1),e.2))) else (some (.inr (b,d)))
def cU (c:Int->dF->(List dF)->Definition->Definition->Option (Int × (List dF))) (d:Int) (e:Definition) (f:List dF) (a:bG) (g:Int):Option (Int × (List dF)):=
 ob (tE a) fun h=>
 ob (loop (fun (s:(Int × Int × List dF))=>eS c e a g h s.1 s.2.1 s.2.2) (wr (d+1),0,f)) fun r=>iN r.1 r.2
def dL (d:Int->dF->(List dF)->Definition->Definition->Option (Int × (List dF))) (a:Int) (p:dF) (e:(List dF)) (h f:Definition):Option (Int × (List dF)):=
 ob (ix e a) fun i=>
 ob (st e a (⟨p.scope,p.behind⟩:dF)) fun g=>
 ob (ix h.Body a) fun c=>
 if (c.Kind == 4) then (cU d a f g c (wr (p.scope+1))) else (cU d a f g c p.scope)
def cF:Nat->Int->dF->(List dF)->Definition->Definition->Option (Int × (List dF))
 |0=>fun _ _ _ _ _=>none
 |n+1=>dL (cF n)
def nW (a:Int) (p:dF) (c:(List dF)) (d e:Definition):Option (Int × (List dF)):=
 cF 100000 a p c d e
def kB (d:Definition):Option (List dF):=
 ob (mkz (d.Body.length:Int) (⟨0,false⟩:dF)) fun b=>
 ob (nW 0 ⟨d.Parameters,false⟩ b d d) fun c=>
 some c.2
def dY (a:Bool):Option Bool:=
 some a
def kR (p:bG) (c b:Bool):Option Bool:=
 ob (fR p.Kind 0 5) fun d=>
 if d then (if c then (if (p.Kind == 1) then (if b then (dY true) else (dY ((p.Arguments.length:Int) == 0))) else (if (p.Name == ([]:aN)) then (if b then (dY true) else (dY ((p.Arguments.length:Int) == 0))) else (dY false))) else (if (p.Number == 0) then (if (p.Kind == 1) then (if b then (dY true) else (dY ((p.Arguments.length:Int) == 0))) else (if (p.Name == ([]:aN)) then (if b then (dY true) else (dY ((p.Arguments.length:Int) == 0))) else (dY false))) else (dY false))) else (dY false)
def mX (p:bG) (b:Bool):Option Bool:=
 if (p.Kind == 1) then (kR p b true) else (if (p.Kind == 3) then (kR p b true) else (kR p b (p.Kind == 5)))
def tF (p:bG):Option Bool:=
 if (p.Kind == 4) then (mX p true) else (mX p (p.Kind == 5))
def lW (a:Bool):Option Bool:=
 some a
def qS (p:bG) (b:(List Definition)):Option Bool:=
 if (p.Kind == 1) then (if ((p.Arguments.length:Int) == 0) then (lW true) else (if (!(p.Name == ([116,97,117]:aN))) then (lW (decide ((p.Arguments.length:Int)<=2))) else (lW false))) else (if (p.Kind == 3) then (some ((p.Arguments.length:Int) == 1)) else (if (p.Kind == 5) then (ob (ix b p.Number) fun c=>
 some ((p.Arguments.length:Int) == c.Parameters)) else (some true)))
def aBg (t:aR) (b:Int):Option Bool:=
 if (t.Kind == 0) then (ob (aBp t.Value) fun c=>
 some c) else (if (t.Kind == 1) then (ob (fR t.Value 0 (wr (b - 1))) fun d=>
 some d) else (if (t.Kind == 2) then (ob (fR t.Value 0 8) fun e=>
 some e) else (if (t.Kind == 3) then (some (t.Value == 0)) else (some false))))
def tX (t:aR):Option Int:=
 if (t.Kind == 2) then (some 2) else (if (t.Kind == 3) then (some 1) else (some 0))
def aFi (a:Int):Option Bool:=
 some (a == 0)
def tY (a b:Int) (c:aR) (d:Bool):Option ((Int × Int) ⊕ (Int ⊕ Bool)):=
 if d then (some (.inr (.inr false))) else (ob (tX c) fun e=>
 some (.inl (wr (a+(wr (e - 1))),wr (b+1))))
def oN (e:(List aR)) (f a b:Int):Option ((Int × Int) ⊕ (Int ⊕ Bool)):=
 if (decide (b < (e.length:Int))) then (ob (ix e b) fun c=>
 if (a == 0) then (tY a b c true) else (ob (aBg c f) fun g=>
 tY a b c (!g))) else (some (.inr (.inl a)))
def lJ (e:(List aR)) (c:Int) (d:Bool):Option Bool:=
 if d then (some false) else (ob (loop (fun (s:(Int × Int))=>oN e c s.1 s.2) (1,0)) fun r=>match r with|.inl r=>aFi r|.inr r=>some r)
def wR (e:(List aR)) (b c:Int):Option Bool:=
 ob (fR b 0 29) fun d=>
 if (!d) then (lJ e b true) else (ob (fR c 1 60) fun f=>
 if (!f) then (lJ e b true) else (ob (fR (e.length:Int) 1 c) fun g=>
 lJ e b (!g)))
def yI (e:(List aR)) (p:dF):Option Bool:=
 ob (wR e p.scope 15) fun c=>
 some (!c)
def gD:Option Int:=
 some (-1)
def cJ (b:(List (List aR))) (c:dF) (a:Int):Option (Int ⊕ (Unit ⊕ Int)):=
 if (decide (a < (b.length:Int))) then (ob (ix b a) fun d=>
 ob (yI d c) fun e=>
 if e then (some (.inr (.inr a))) else (some (.inl (wr (a+1))))) else (some (.inr (.inl ())))
def dQ (b:(List (List aR))) (c:dF):Option Int:=
 ob (loop (fun (s:Int)=>cJ b c s) 0) fun r=>match r with|.inl r=>gD|.inr r=>some r
def dG (a:(List (List aR))) (b:dF):Option Bool:=
 ob (dQ a b) fun c=>
 some (decide (0<=c))
def kS (p:bG) (b:dF) (c:Bool):Option Int:=
 if c then (some 7) else (ob (dG p.Arguments b) fun d=>
 if d then (some 8) else (some 0))
def kT (p:bG) (b:dF) (c:Bool):Option Int:=
 if c then (some 6) else (if (p.Kind == 4) then (kS p b (decide (6<=b.scope))) else (kS p b false))
def gB (p:bG) (c:(List Definition)) (b:dF) (d:Bool):Option Int:=
 if d then (some 4) else (ob (qS p c) fun e=>
 if (!e) then (some 5) else (if (p.Kind == 5) then (kT p b (!b.behind)) else (kT p b false)))
def iY (p:bG) (b:(List Definition)) (c:dF) (d:Bool):Option Int:=
 if d then (some 3) else (if (p.Kind == 4) then (ob (fR p.Number 1 7) fun e=>
 if (!e) then (gB p b c true) else (if (p.Kind == 5) then (ob (aBe p.Number (b.length:Int)) fun f=>
 gB p b c (!f)) else (gB p b c false))) else (if (p.Kind == 5) then (ob (aBe p.Number (b.length:Int)) fun g=>
 gB p b c (!g)) else (gB p b c false)))
def pD (p:bG) (b:(List Definition)) (c:dF):Option Int:=
 ob (tF p) fun d=>
 if (!d) then (some 2) else (if (p.Kind == 1) then (if (!(p.Name == ([116,97,117]:aN))) then (ob (kW p.Name) fun e=>
 iY p b c (!e)) else (iY p b c false)) else (iY p b c false))
def aFW:Option (Int × Int):=
 some (0,0)
def qT (e:(List Definition)) (d:Definition) (f:(List dF)) (a:Int):Option (Int ⊕ (Unit ⊕ (Int × Int))):=
 if (decide (a < (d.Body.length:Int))) then (ob (ix d.Body a) fun g=>
 ob (ix f a) fun h=>
 ob (pD g e h) fun c=>
 if (c != 0) then (some (.inr (.inr (a,c)))) else (some (.inl (wr (a+1))))) else (some (.inr (.inl ())))
def qU (c:(List Definition)) (d:Definition) (e:Bool):Option (Int × Int):=
 if e then (some (0,1)) else (ob (kB d) fun f=>
 ob (loop (fun (s:Int)=>qT c d f s) 0) fun r=>match r with|.inl r=>aFW|.inr r=>some r)
def uT (b:(List Definition)) (d:Definition):Option (Int × Int):=
 ob (fR (d.Body.length:Int) 1 20) fun c=>
 if (!c) then (qU b d true) else (ob (kQ d 0) fun e=>
 qU b d (e != (d.Body.length:Int)))
def xI:Option Bool:=
 some true
def lE (a:(List Definition)) (b:Int) (c:Definition) (d:Bool):Option (Int ⊕ (Unit ⊕ Bool)):=
 if d then (some (.inr (.inr false))) else (ob (uT a c) fun e=>
 if (e.2 != 0) then (some (.inr (.inr false))) else (some (.inl (wr (b+1)))))
def iU (a:(List Definition)) (b:Int):Option (Int ⊕ (Unit ⊕ Bool)):=
 if (decide (b < (a.length:Int))) then (ob (ix a b) fun c=>
 ob (aBJ c.Name) fun d=>
 if (!d) then (lE a b c true) else (ob (slc a 0 b) fun e=>
 ob (lV e c.Name) fun f=>
 lE a b c (decide (0<=f)))) else (some (.inr (.inl ())))
def iV (b:(List Definition)) (c:Bool):Option Bool:=
 if c then (some false) else (ob (loop (fun (s:Int)=>iU b s) 0) fun r=>match r with|.inl r=>xI|.inr r=>some r)
def gR (a:(List Definition)):Option Bool:=
 ob (fR (a.length:Int) 1 4) fun b=>
 if (!b) then (iV a true) else (ob (wQ a) fun c=>
 iV a (!c))
def mY (a:Bool):Option Bool:=
 some a
def tG (b:(List Definition)) (c:aX):Option Bool:=
 ob (aBe c.Definition (b.length:Int)) fun d=>
 if d then (ob (ix b c.Definition) fun e=>
 if ((c.Values.length:Int) == e.Parameters) then (ob (aAe c.Values) fun f=>
 mY f) else (mY false)) else (mY false)
def mG (a:aN):Option Bool:=
 some (!(a == a))
def iW (a y:aN):Option Int:=
 ob (mG a) fun d=>
 ob (mG y) fun c=>
 if d then (if c then (some 0) else (some (-1))) else (if c then (some 1) else (if (nI a y) then (some (-1)) else (if (!(nI a y||a == y)) then (some 1) else (some 0))))
def kC (a b:(List aN)):Option Int:=
 if (decide ((a.length:Int) < (b.length:Int))) then (some (-1)) else (some 0)
def bS (b c:(List aN)) (a:Int):Option (Int ⊕ (Unit ⊕ Int)):=
 if (decide (a < (b.length:Int))) then (ob (ix b a) fun e=>
 if (decide ((c.length:Int)<=a)) then (some (.inr (.inr 1))) else (ob (ix c a) fun f=>
 ob (iW e f) fun d=>
 if (d != 0) then (some (.inr (.inr d))) else (some (.inl (wr (a+1)))))) else (some (.inr (.inl ())))
def fM (b c:(List aN)):Option Int:=
 ob (loop (fun (s:Int)=>bS b c s) 0) fun r=>match r with|.inl r=>kC b c|.inr r=>some r
def lX (a b:bB):Option Int:=
 ob (fM ([a.Left,a.Right]:List aN) ([b.Left,b.Right]:List aN)) fun e=>
 some e
def nX (a:Bool):Option Bool:=
 some a
def tZ (o p:bB):Option Bool:=
 if (o.Left == p.Result) then (nX true) else (nX (o.Right == p.Result))
def fT:Option Int:=
 some (-1)
def cE (b:(List bB)) (c:bB) (a:Int):Option (Int ⊕ (Unit ⊕ Int)):=
 if (decide (a < (b.length:Int))) then (ob (ix b a) fun d=>
 ob (tZ d c) fun e=>
 if e then (some (.inr (.inr a))) else (some (.inl (wr (a+1))))) else (some (.inr (.inl ())))
def dJ (b:(List bB)) (c:bB):Option Int:=
 ob (loop (fun (s:Int)=>cE b c s) 0) fun r=>match r with|.inl r=>fT|.inr r=>some r
def dD (a:(List bB)) (b:bB):Option Bool:=
 ob (dJ a b) fun c=>
 some (decide (0<=c))
def aFj (a:(List bB)):Option Bool:=
 some (decide ((a.length:Int)<=6))
def fW (a:(List bB)) (b:Int) (c:bB) (d:Bool):Option (Int ⊕ (Unit ⊕ Bool)):=
 if d then (some (.inr (.inr false))) else (ob (dD a c) fun e=>
 if e then (some (.inr (.inr false))) else (some (.inl (wr (b+1)))))
def iJ (c:(List bB)) (b:Int):Option (Int ⊕ (Unit ⊕ Bool)):=
 if (decide (b < (c.length:Int))) then (ob (ix c b) fun a=>
 ob (kW a.Left) fun d=>
 if (!d) then (fW c b a true) else (ob (kW a.Right) fun e=>
 if (!e) then (fW c b a true) else (ob (kW a.Result) fun f=>
 if (!f) then (fW c b a true) else (if (!(nI a.Left a.Right||a.Left == a.Right)) then (fW c b a true) else (if (decide (0 < b)) then (ob (ix c (wr (b - 1))) fun g=>
 ob (lX g a) fun h=>
 fW c b a (decide (0<=h))) else (fW c b a false)))))) else (some (.inr (.inl ())))
def nY (b:(List bB)):Option Bool:=
 ob (loop (fun (s:Int)=>iJ b s) 0) fun r=>match r with|.inl r=>aFj b|.inr r=>some r
def aEL (a:(List aN)):Option Bool:=
 some (decide ((a.length:Int)<=12))
def wS (a:Int) (b:Bool):Option (Int ⊕ (Unit ⊕ Bool)):=
 if b then (some (.inr (.inr false))) else (some (.inl (wr (a+1))))
def wT (b:(List aN)) (a:Int):Option (Int ⊕ (Unit ⊕ Bool)):=
 if (decide (a < (b.length:Int))) then (ob (ix b a) fun c=>
 ob (kW c) fun e=>
 if (!e) then (wS a true) else (if (decide (0 < a)) then (ob (ix b (wr (a - 1))) fun d=>
 wS a (nI c d||c == d)) else (wS a false))) else (some (.inr (.inl ())))
def aBs (b:(List aN)):Option Bool:=
 ob (loop (fun (s:Int)=>wT b s) 0) fun r=>match r with|.inl r=>aEL b|.inr r=>some r
def yJ (c:aX) (p:bL):Option Bool:=
 ob (tG p.Definitions c) fun d=>
 some (!d)
def fK:Option Int:=
 some (-1)
def bZ (b:(List aX)) (c:bL) (a:Int):Option (Int ⊕ (Unit ⊕ Int)):=
 if (decide (a < (b.length:Int))) then (ob (ix b a) fun d=>
 ob (yJ d c) fun e=>
 if e then (some (.inr (.inr a))) else (some (.inl (wr (a+1))))) else (some (.inr (.inl ())))
def dA (b:(List aX)) (c:bL):Option Int:=
 ob (loop (fun (s:Int)=>bZ b c s) 0) fun r=>match r with|.inl r=>fK|.inr r=>some r
def cR (a:(List aX)) (b:bL):Option Bool:=
 ob (dA a b) fun c=>
 some (decide (0<=c))
def rQ (a:bL) (b:Bool):Option Int:=
 if b then (some 2) else (ob (nY a.Meetings) fun c=>
 if (!c) then (some 3) else (ob (aBs a.Allowed) fun d=>
 if (!d) then (some 4) else (ob (aBs a.Hidden) fun e=>
 if (!e) then (some 5) else (some 0))))
def tH (a:bL):Option Int:=
 ob (gR a.Definitions) fun b=>
 if (!b) then (some 1) else (ob (fR (a.Components.length:Int) 1 3) fun c=>
 if (!c) then (rQ a true) else (ob (cR a.Components a) fun d=>
 rQ a d))
def mB (a:bL):Option Bool:=
 ob (tH a) fun b=>
 some (b == 0)
def aDu (a:aR) (b:List (Tr aR)) (c:List aR):Option ((Tr aR) × (List aR)):=
 some ((Tr.mk a b),c)
def tI (e:(List aR)->Option ((Tr aR) × (List aR))) (f:Int) (a:List (Tr aR)) (b:List aR) (c:Int):Option ((List (Tr aR) × List aR × Int) ⊕ (List (Tr aR) × List aR)):=
 if (decide (c < f)) then (ob (e b) fun d=>
 ob (oR a ([d.1]:List (Tr aR))) fun g=>
 some (.inl (g,d.2,wr (c+1)))) else (some (.inr (a,b)))
def kK (d:(List aR)->Option ((Tr aR) × (List aR))) (e:(List aR)):Option ((Tr aR) × (List aR)):=
 ob (ix e 0) fun b=>
 ob (slc e 1 (e.length:Int)) fun f=>
 ob (tX b) fun g=>
 ob (loop (fun (s:(List (Tr aR) × List aR × Int))=>tI d g s.1 s.2.1 s.2.2) ([],f,0)) fun r=>aDu b r.1 r.2
def kL:Nat->(List aR)->Option ((Tr aR) × (List aR))
 |0=>fun _=>none
 |n+1=>kK (kL n)
def aIa (e:(List aR)):Option ((Tr aR) × (List aR)):=
 kL 100000 e
def aIb (e:(List aR)):Option (Tr aR):=
 ob (aIa e) fun b=>
 some b.1
def iC (a:(Tr aR)):Option Int:=
 if (a.val.Kind == 2) then (ob (ix aKe a.val.Value) fun b=>
 some b) else (some 9)
def fU (b:(Tr aR)->Option aN) (a:(Tr aR)) (d:Bool):Option aN:=
 if d then (ob (b a) fun e=>
 ob (fA ([40]:aN) e) fun f=>
 ob (fA f ([41]:aN)) fun g=>
 some g) else (ob (b a) fun h=>
 some h)
def jF (b:(Tr aR)->Option aN) (a:(Tr aR)):Option aN:=
 if (a.val.Kind == 0) then (ob (iF a.val.Value) fun g=>
 some g) else (if (a.val.Kind == 1) then (ob (iF a.val.Value) fun h=>
 ob (fA ([118]:aN) h) fun i=>
 some i) else (if (a.val.Kind == 3) then (ob (ix a.kids 0) fun c=>
 ob (fU b c (c.val.Kind == 2)) fun j=>
 ob (fA ([33]:aN) j) fun k=>
 some k) else (ob (ix a.kids 0) fun d=>
 ob (ix a.kids 1) fun e=>
 ob (iC a) fun f=>
 ob (ix aHP a.val.Value) fun l=>
 ob (iC d) fun m=>
 ob (fU b d (decide (m < f))) fun n=>
 ob (fA n l) fun o=>
 ob (iC e) fun p=>
 ob (fU b e (decide (p<=f))) fun q=>
 ob (fA o q) fun r=>
 some r)))
def fX:Nat->(Tr aR)->Option aN
 |0=>fun _=>none
 |n+1=>jF (fX n)
def aAo (a:(Tr aR)):Option aN:=
 fX 100000 a
def aFX (a:List aN):Option aN:=
 ob (aBB a ([44]:aN)) fun b=>
 ob (fA ([40]:aN) b) fun c=>
 ob (fA c ([41]:aN)) fun d=>
 some d
def aCX (b:(List (List aR))) (c:List aN) (a:Int):Option ((List aN × Int) ⊕ (List aN)):=
 if (decide (a < (b.length:Int))) then (ob (ix b a) fun d=>
 ob (aIb d) fun e=>
 ob (aAo e) fun f=>
 ob (oR c ([f]:List aN)) fun g=>
 some (.inl (g,wr (a+1)))) else (some (.inr c))
def aAp (a:(List (List aR))):Option aN:=
 if ((a.length:Int) == 0) then (some ([]:aN)) else (ob (loop (fun (s:(List aN × Int))=>aCX a s.1 s.2) ([],0)) fun r=>aFX r)
def iZ (b:(List Definition)->(List bG)->Option (aN × (List bG))) (c:(List Definition)) (a:(List bG)):Option (aN × (List bG)):=
 ob (ix a 0) fun f=>
 if (f.Kind == 2) then (ob (b c a) fun d=>
 ob (fA ([40]:aN) d.1) fun g=>
 ob (fA g ([41]:aN)) fun h=>
 some (h,d.2)) else (ob (b c a) fun e=>
 some (e.1,e.2))
def sA (d:(List Definition)->(List bG)->Option (aN × (List bG))) (b:(List Definition)) (e:(List bG)):Option (aN × (List bG)):=
 ob (ix e 0) fun a=>
 ob (slc e 1 (e.length:Int)) fun c=>
 if (a.Kind == 1) then (ob (aAp a.Arguments) fun k=>
 ob (fA a.Name k) fun l=>
 ob (fA l ([46]:aN)) fun m=>
 ob (iZ d b c) fun f=>
 ob (fA m f.1) fun n=>
 some (n,f.2)) else (if (a.Kind == 2) then (ob (iZ d b c) fun g=>
 ob (fA g.1 ([32,43,32]:aN)) fun o=>
 ob (d b g.2) fun h=>
 ob (fA o h.1) fun p=>
 some (p,h.2)) else (if (a.Kind == 3) then (ob (ix a.Arguments 0) fun q=>
 ob (aIb q) fun r=>
 ob (aAo r) fun s=>
 ob (fA ([91]:aN) s) fun t=>
 ob (fA t ([93]:aN)) fun u=>
 ob (iZ d b c) fun i=>
 ob (fA u i.1) fun v=>
 some (v,i.2)) else (if (a.Kind == 4) then (ob (iF a.Number) fun w=>
 ob (fA ([115,117,109,32]:aN) w) fun x=>
 ob (fA x ([46]:aN)) fun y=>
 ob (iZ d b c) fun j=>
 ob (fA y j.1) fun z=>
 some (z,j.2)) else (if (a.Kind == 5) then (ob (ix b a.Number) fun a0=>
 ob (aAp a.Arguments) fun a1=>
 ob (fA a0.Name a1) fun a2=>
 some (a2,c)) else (some (([48]:aN),c))))))
def kD:Nat->(List Definition)->(List bG)->Option (aN × (List bG))
 |0=>fun _ _=>none
 |n+1=>sA (kD n)
def aJm (a:(List Definition)) (b:(List bG)):Option (aN × (List bG)):=
 kD 100000 a b
def fV (b:(List Definition)->(List bG)->Option (aN × (List bG))) (c:(List Definition)) (a:(List bG)):Option (aN × (List bG)):=
 ob (ix a 0) fun f=>
 if (f.Kind == 2) then (ob (b c a) fun d=>
 ob (fA ([40]:aN) d.1) fun g=>
 ob (fA g ([41]:aN)) fun h=>
 some (h,d.2)) else (ob (b c a) fun e=>
 some (e.1,e.2))
def fF (d:(List Definition)->(List bG)->Option (aN × (List bG))) (b:(List Definition)) (e:(List bG)):Option (aN × (List bG)):=
 ob (ix e 0) fun a=>
 ob (slc e 1 (e.length:Int)) fun c=>
 if (a.Kind == 1) then (ob (aAp a.Arguments) fun k=>
 ob (fA a.Name k) fun l=>
 ob (fA l ([46]:aN)) fun m=>
 ob (fV d b c) fun f=>
 ob (fA m f.1) fun n=>
 some (n,f.2)) else (if (a.Kind == 2) then (ob (fV d b c) fun g=>
 ob (fA g.1 ([32,43,32]:aN)) fun o=>
 ob (d b g.2) fun h=>
 ob (fA o h.1) fun p=>
 some (p,h.2)) else (if (a.Kind == 3) then (ob (ix a.Arguments 0) fun q=>
 ob (aIb q) fun r=>
 ob (aAo r) fun s=>
 ob (fA ([91]:aN) s) fun t=>
 ob (fA t ([93]:aN)) fun u=>
 ob (fV d b c) fun i=>
 ob (fA u i.1) fun v=>
 some (v,i.2)) else (if (a.Kind == 4) then (ob (iF a.Number) fun w=>
 ob (fA ([115,117,109,32]:aN) w) fun x=>
 ob (fA x ([46]:aN)) fun y=>
 ob (fV d b c) fun j=>
 ob (fA y j.1) fun z=>
 some (z,j.2)) else (if (a.Kind == 5) then (ob (ix b a.Number) fun a0=>
 ob (aAp a.Arguments) fun a1=>
 ob (fA a0.Name a1) fun a2=>
 some (a2,c)) else (some (([48]:aN),c))))))
def eC:Nat->(List Definition)->(List bG)->Option (aN × (List bG))
 |0=>fun _ _=>none
 |n+1=>fF (eC n)
def wU (a:(List Definition)) (b:(List bG)):Option (aN × (List bG)):=
 eC 100000 a b
def mZ (b:(List Definition)) (d:Definition):Option aN:=
 ob (fA ([112,114,111,99,32]:aN) d.Name) fun c=>
 ob (fA c ([32]:aN)) fun e=>
 ob (iF d.Parameters) fun f=>
 ob (fA e f) fun g=>
 ob (fA g ([32,61,32]:aN)) fun h=>
 ob (wU b d.Body) fun i=>
 ob (fA h i.1) fun j=>
 some j
def pO (a:List aN):Option (List aN):=
 some a
def jP (a:bL) (b:List aN):Option (List aN):=
 if (decide (0 < (a.Hidden.length:Int))) then (ob (aBB a.Hidden ([32]:aN)) fun c=>
 ob (fA ([104,105,100,101,32]:aN) c) fun d=>
 ob (oR b ([d]:List aN)) fun e=>
 pO e) else (pO b)
def pP (a:bL) (b:List aN):Option (List aN):=
 if (decide (0 < (a.Allowed.length:Int))) then (ob (aBB a.Allowed ([32]:aN)) fun c=>
 ob (fA ([97,108,108,111,119,32]:aN) c) fun d=>
 ob (oR b ([d]:List aN)) fun e=>
 jP a e) else (jP a b)
def pQ (c:bL) (d:List aN) (a:Int):Option ((List aN × Int) ⊕ (List aN)):=
 if (decide (a < (c.Meetings.length:Int))) then (ob (ix c.Meetings a) fun b=>
 ob (fA ([109,101,101,116,32]:aN) b.Left) fun e=>
 ob (fA e ([32]:aN)) fun f=>
 ob (fA f b.Right) fun g=>
 ob (fA g ([32]:aN)) fun h=>
 ob (fA h b.Result) fun i=>
 ob (oR d ([i]:List aN)) fun j=>
 some (.inl (j,wr (a+1)))) else (some (.inr d))
def pR (a:bL) (b c:List aN):Option (List aN):=
 ob (aBB c ([32,124,32]:aN)) fun d=>
 ob (fA ([114,117,110,32]:aN) d) fun e=>
 ob (oR b ([e]:List aN)) fun f=>
 ob (loop (fun (s:(List aN × Int))=>pQ a s.1 s.2) (f,0)) fun r=>pP a r
def pT (a:List aN) (b:Int) (c:aN):Option ((List aN × Int) ⊕ (List aN)):=
 ob (oR a ([c]:List aN)) fun d=>
 some (.inl (d,wr (b+1)))
def lY (b:bL) (c:List aN) (a:Int):Option ((List aN × Int) ⊕ (List aN)):=
 if (decide (a < (b.Components.length:Int))) then (ob (ix b.Components a) fun d=>
 ob (ix b.Definitions d.Definition) fun e=>
 if (decide (0 < (d.Values.length:Int))) then (ob (aBI d.Values ([44]:aN)) fun f=>
 ob (fA ([40]:aN) f) fun g=>
 ob (fA g ([41]:aN)) fun h=>
 ob (fA e.Name h) fun i=>
 pT c a i) else (pT c a e.Name)) else (some (.inr c))
def pU (a:bL) (b:List aN):Option (List aN):=
 ob (loop (fun (s:(List aN × Int))=>lY a s.1 s.2) ([],0)) fun r=>pR a b r
def pV (a:bL) (c:List aN) (b:Int):Option ((List aN × Int) ⊕ (List aN)):=
 if (decide (b < (a.Definitions.length:Int))) then (ob (ix a.Definitions b) fun d=>
 ob (mZ a.Definitions d) fun e=>
 ob (oR c ([e]:List aN)) fun f=>
 some (.inl (f,wr (b+1)))) else (some (.inr c))
def qV (a:bL):Option (List aN):=
 ob (loop (fun (s:(List aN × Int))=>pV a s.1 s.2) ([],0)) fun r=>pU a r
def aBh (a:bL):Option aN:=
 ob (mB a) fun b=>
 if (!b) then (some ([]:aN)) else (ob (qV a) fun c=>
 ob (aBB c ([10]:aN)) fun d=>
 some d)
def qW (a:Bool):Option Bool:=
 some a
def nA (a:Bool):Option Bool:=
 some a
def nB (a:Bool):Option Bool:=
 some a
def qX (k:Kept):Option Bool:=
 ob (aBJ k.Name) fun d=>
 if (!d) then (some false) else (ob (aDU k.S ⟨0,0,[],[]⟩) fun b=>
 ob (wN k.Source ⟨[],[],[],[],[]⟩) fun c=>
 if (k.Kind == 1) then (ob (aCh k.S) fun e=>
 if e then (if ((k.Formula.length:Int) == 0) then (qW c) else (qW false)) else (qW false)) else (if (k.Kind == 2) then (ob (gK k.Formula) fun f=>
 if f then (ob (zH k.Formula) fun g=>
 if (decide ((g.length:Int)<=400)) then (if b then (nA c) else (nA false)) else (nA false)) else (nA false)) else (if (k.Kind == 3) then (ob (mB k.Source) fun h=>
 if h then (ob (aBh k.Source) fun i=>
 if (decide ((i.length:Int)<=16000)) then (if b then (nB ((k.Formula.length:Int) == 0)) else (nB false)) else (nB false)) else (nB false)) else (some false))))
def aCk (d:vI):Option Bool:=
 some (decide ((d.Kept.length:Int)<=12))
def qY (a:Int) (b:Bool):Option (Int ⊕ (Unit ⊕ Bool)):=
 if b then (some (.inr (.inr false))) else (some (.inl (wr (a+1))))
def qZ (d:vI) (a:Int):Option (Int ⊕ (Unit ⊕ Bool)):=
 if (decide (a < (d.Kept.length:Int))) then (ob (ix d.Kept a) fun c=>
 ob (qX c) fun f=>
 if (!f) then (qY a true) else (if (decide (0 < a)) then (ob (ix d.Kept (wr (a - 1))) fun e=>
 qY a (nI c.Name e.Name||c.Name == e.Name)) else (qY a false))) else (some (.inr (.inl ())))
def uU (d:vI):Option Bool:=
 ob (loop (fun (s:Int)=>qZ d s) 0) fun r=>match r with|.inl r=>aCk d|.inr r=>some r
def aFY:Option Bool:=
 some true
def wV (a b:(List aN)) (c:Int):Option (Int ⊕ (Unit ⊕ Bool)):=
 if (decide (c < (a.length:Int))) then (ob (ix a c) fun f=>
 ob (ix b c) fun g=>
 if (!(f == g)) then (some (.inr (.inr false))) else (some (.inl (wr (c+1))))) else (some (.inr (.inl ())))
def rA (a b:(List aN)):Option Bool:=
 if ((a.length:Int) != (b.length:Int)) then (some false) else (ob (loop (fun (s:Int)=>wV a b s) 0) fun r=>match r with|.inl r=>aFY|.inr r=>some r)
def aJn (a b:Edge):Option Bool:=
 if (a.F != b.F) then (some false) else (if (a.B != b.B) then (some false) else (if (a.To != b.To) then (some false) else (some true)))
def aJo:Option Bool:=
 some true
def aBi (a b:(List Edge)) (c:Int):Option (Int ⊕ (Unit ⊕ Bool)):=
 if (decide (c < (a.length:Int))) then (ob (ix a c) fun f=>
 ob (ix b c) fun g=>
 ob (aJn f g) fun h=>
 if (!h) then (some (.inr (.inr false))) else (some (.inl (wr (c+1))))) else (some (.inr (.inl ())))
def aDW (a b:(List Edge)):Option Bool:=
 if ((a.length:Int) != (b.length:Int)) then (some false) else (ob (loop (fun (s:Int)=>aBi a b s) 0) fun r=>match r with|.inl r=>aJo|.inr r=>some r)
def aLK (a b:hJ):Option Bool:=
 if (a.N != b.N) then (some false) else (if (a.I != b.I) then (some false) else (ob (rA a.L b.L) fun e=>
 if (!e) then (some false) else (ob (aDW a.E b.E) fun f=>
 if (!f) then (some false) else (some true))))
def aJp (a b:bH):Option Bool:=
 if (a.Kind != b.Kind) then (some false) else (if (a.Variable != b.Variable) then (some false) else (if (!(a.B == b.B)) then (some false) else (if (a.Not != b.Not) then (some false) else (some true))))
def aJq:Option Bool:=
 some true
def aBj (a b:(List bH)) (c:Int):Option (Int ⊕ (Unit ⊕ Bool)):=
 if (decide (c < (a.length:Int))) then (ob (ix a c) fun f=>
 ob (ix b c) fun g=>
 ob (aJp f g) fun h=>
 if (!h) then (some (.inr (.inr false))) else (some (.inl (wr (c+1))))) else (some (.inr (.inl ())))
def aGH (a b:(List bH)):Option Bool:=
 if ((a.length:Int) != (b.length:Int)) then (some false) else (ob (loop (fun (s:Int)=>aBj a b s) 0) fun r=>match r with|.inl r=>aJq|.inr r=>some r)
def aJr (a b:aR):Option Bool:=
 if (a.Kind != b.Kind) then (some false) else (if (a.Value != b.Value) then (some false) else (some true))
def aJs:Option Bool:=
 some true
def aBk (a b:(List aR)) (c:Int):Option (Int ⊕ (Unit ⊕ Bool)):=
 if (decide (c < (a.length:Int))) then (ob (ix a c) fun f=>
 ob (ix b c) fun g=>
 ob (aJr f g) fun h=>
 if (!h) then (some (.inr (.inr false))) else (some (.inl (wr (c+1))))) else (some (.inr (.inl ())))
def aGI (a b:(List aR)):Option Bool:=
 if ((a.length:Int) != (b.length:Int)) then (some false) else (ob (loop (fun (s:Int)=>aBk a b s) 0) fun r=>match r with|.inl r=>aJs|.inr r=>some r)
def aHu:Option Bool:=
 some true
def zJ (a b:(List (List aR))) (c:Int):Option (Int ⊕ (Unit ⊕ Bool)):=
 if (decide (c < (a.length:Int))) then (ob (ix a c) fun f=>
 ob (ix b c) fun g=>
 ob (aGI f g) fun h=>
 if (!h) then (some (.inr (.inr false))) else (some (.inl (wr (c+1))))) else (some (.inr (.inl ())))
def aEM (a b:(List (List aR))):Option Bool:=
 if ((a.length:Int) != (b.length:Int)) then (some false) else (ob (loop (fun (s:Int)=>zJ a b s) 0) fun r=>match r with|.inl r=>aHu|.inr r=>some r)
def aJt (a b:bG):Option Bool:=
 if (a.Kind != b.Kind) then (some false) else (if (a.Number != b.Number) then (some false) else (if (!(a.Name == b.Name)) then (some false) else (ob (aEM a.Arguments b.Arguments) fun e=>
 if (!e) then (some false) else (some true))))
def aJu:Option Bool:=
 some true
def aBl (a b:(List bG)) (c:Int):Option (Int ⊕ (Unit ⊕ Bool)):=
 if (decide (c < (a.length:Int))) then (ob (ix a c) fun f=>
 ob (ix b c) fun g=>
 ob (aJt f g) fun h=>
 if (!h) then (some (.inr (.inr false))) else (some (.inl (wr (c+1))))) else (some (.inr (.inl ())))
def aGJ (a b:(List bG)):Option Bool:=
 if ((a.length:Int) != (b.length:Int)) then (some false) else (ob (loop (fun (s:Int)=>aBl a b s) 0) fun r=>match r with|.inl r=>aJu|.inr r=>some r)
def wW (a b:Definition):Option Bool:=
 if (!(a.Name == b.Name)) then (some false) else (if (a.Parameters != b.Parameters) then (some false) else (ob (aGJ a.Body b.Body) fun e=>
 if (!e) then (some false) else (some true)))
def aCl:Option Bool:=
 some true
def nZ (a b:(List Definition)) (c:Int):Option (Int ⊕ (Unit ⊕ Bool)):=
 if (decide (c < (a.length:Int))) then (ob (ix a c) fun f=>
 ob (ix b c) fun g=>
 ob (wW f g) fun h=>
 if (!h) then (some (.inr (.inr false))) else (some (.inl (wr (c+1))))) else (some (.inr (.inl ())))
def uA (a b:(List Definition)):Option Bool:=
 if ((a.length:Int) != (b.length:Int)) then (some false) else (ob (loop (fun (s:Int)=>nZ a b s) 0) fun r=>match r with|.inl r=>aCl|.inr r=>some r)
def aHv:Option Bool:=
 some true
def zM (a b:(List Int)) (c:Int):Option (Int ⊕ (Unit ⊕ Bool)):=
 if (decide (c < (a.length:Int))) then (ob (ix a c) fun f=>
 ob (ix b c) fun g=>
 if (f != g) then (some (.inr (.inr false))) else (some (.inl (wr (c+1))))) else (some (.inr (.inl ())))
def aCm (a b:(List Int)):Option Bool:=
 if ((a.length:Int) != (b.length:Int)) then (some false) else (ob (loop (fun (s:Int)=>zM a b s) 0) fun r=>match r with|.inl r=>aHv|.inr r=>some r)
def zN (a b:aX):Option Bool:=
 if (a.Definition != b.Definition) then (some false) else (ob (aCm a.Values b.Values) fun e=>
 if (!e) then (some false) else (some true))
def aCY:Option Bool:=
 some true
def pW (a b:(List aX)) (c:Int):Option (Int ⊕ (Unit ⊕ Bool)):=
 if (decide (c < (a.length:Int))) then (ob (ix a c) fun f=>
 ob (ix b c) fun g=>
 ob (zN f g) fun h=>
 if (!h) then (some (.inr (.inr false))) else (some (.inl (wr (c+1))))) else (some (.inr (.inl ())))
def wX (a b:(List aX)):Option Bool:=
 if ((a.length:Int) != (b.length:Int)) then (some false) else (ob (loop (fun (s:Int)=>pW a b s) 0) fun r=>match r with|.inl r=>aCY|.inr r=>some r)
def aCZ (a b:bB):Option Bool:=
 if (!(a.Left == b.Left)) then (some false) else (if (!(a.Right == b.Right)) then (some false) else (if (!(a.Result == b.Result)) then (some false) else (some true)))
def aFk:Option Bool:=
 some true
def uB (a b:(List bB)) (c:Int):Option (Int ⊕ (Unit ⊕ Bool)):=
 if (decide (c < (a.length:Int))) then (ob (ix a c) fun f=>
 ob (ix b c) fun g=>
 ob (aCZ f g) fun h=>
 if (!h) then (some (.inr (.inr false))) else (some (.inl (wr (c+1))))) else (some (.inr (.inl ())))
def aBm (a b:(List bB)):Option Bool:=
 if ((a.length:Int) != (b.length:Int)) then (some false) else (ob (loop (fun (s:Int)=>uB a b s) 0) fun r=>match r with|.inl r=>aFk|.inr r=>some r)
def aEN (a b:bL):Option Bool:=
 ob (uA a.Definitions b.Definitions) fun e=>
 if (!e) then (some false) else (ob (wX a.Components b.Components) fun f=>
 if (!f) then (some false) else (ob (aBm a.Meetings b.Meetings) fun g=>
 if (!g) then (some false) else (ob (rA a.Allowed b.Allowed) fun h=>
 if (!h) then (some false) else (ob (rA a.Hidden b.Hidden) fun i=>
 if (!i) then (some false) else (some true)))))
def aJv (a b:Kept):Option Bool:=
 if (!(a.Name == b.Name)) then (some false) else (if (a.Kind != b.Kind) then (some false) else (ob (aLK a.S b.S) fun e=>
 if (!e) then (some false) else (ob (aGH a.Formula b.Formula) fun f=>
 if (!f) then (some false) else (ob (aEN a.Source b.Source) fun g=>
 if (!g) then (some false) else (some true)))))
def aJw:Option Bool:=
 some true
def wY (a b:(List Kept)) (c:Int):Option (Int ⊕ (Unit ⊕ Bool)):=
 if (decide (c < (a.length:Int))) then (ob (ix a c) fun f=>
 ob (ix b c) fun g=>
 ob (aJv f g) fun h=>
 if (!h) then (some (.inr (.inr false))) else (some (.inl (wr (c+1))))) else (some (.inr (.inl ())))
def aGK (a b:(List Kept)):Option Bool:=
 if ((a.length:Int) != (b.length:Int)) then (some false) else (ob (loop (fun (s:Int)=>wY a b s) 0) fun r=>match r with|.inl r=>aJw|.inr r=>some r)
def aJx (a b:vI):Option Bool:=
 ob (aGK a.Kept b.Kept) fun e=>
 if (!e) then (some false) else (some true)
def oA (a:vI):Option Bool:=
 ob (aIT a 1048576) fun c=>
 if (decide (c < 0)) then (some true) else (ob (aDT a) fun d=>
 ob (aAk d) fun e=>
 ob (aDT a) fun b=>
 ob (uU b) fun f=>
 if (f != e) then (some false) else (ob (aDT a) fun g=>
 ob (aJx b g) fun h=>
 if (!h) then (some false) else (some true)))
end
end Gv
