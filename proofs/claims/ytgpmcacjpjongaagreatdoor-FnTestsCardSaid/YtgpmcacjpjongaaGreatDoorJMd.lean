/- Models of the functions, printed by program off their code. Plain Lean. -/
import Derived.Test.YtgpmcacjpjongaaGreatDoorJLM
set_option linter.all false
namespace Gv
noncomputable section
def aEg (a:List Int):Option ((List Int) × Bool):=
 some (a,true)
def uK (b:(List aF)) (c:List Int) (a:Int):Option ((List Int × Int) ⊕ (List Int ⊕ ((List Int) × Bool))):=
 if (decide (a < (b.length:Int))) then (ob (ix b a) fun e=>
 ob (vV e) fun d=>
 if (!d.2) then (some (.inr (.inr ([],false)))) else (ob (oV c ([d.1]:List Int)) fun f=>
 some (.inl (f,wr (a+1))))) else (some (.inr (.inl c)))
def vW (b:(List aF)):Option ((List Int) × Bool):=
 ob (loop (fun (s:(List Int × Int))=>uK b s.1 s.2) ([],0)) fun r=>match r with|.inl r=>aEg r|.inr r=>some r
def aEP (a:Bool):Option Bool:=
 some a
def aGu (c:UInt8):Option Bool:=
 if (decide (48<=(c.toNat:Int))) then (aEP (decide ((c.toNat:Int)<=57))) else (aEP false)
def aFL (a:Bool):Option Bool:=
 some a
def aDz (a:aF):Option Bool:=
 if (decide (1<=(a.length:Int))) then (aFL (decide ((a.length:Int)<=10))) else (aFL false)
def aAX (a:Int) (b:Bool):Option (Int ⊕ (Unit ⊕ Bool)):=
 if b then (some (.inr (.inr false))) else (some (.inl (wr (a+1))))
def qB (b:aF) (a:Int) (c:Bool):Option (Int ⊕ (Unit ⊕ Bool)):=
 if (!c) then (if (a == 0) then (aAX a true) else (ob (ix b a) fun d=>
 ob (aGu d) fun e=>
 aAX a (!e))) else (aAX a false)
def xT (a:aF) (b:Int):Option (Int ⊕ (Unit ⊕ Bool)):=
 if (decide (b < (a.length:Int))) then (ob (ix a b) fun c45=>
 if (decide (97<=(c45.toNat:Int))) then (qB a b (decide ((c45.toNat:Int)<=122))) else (qB a b false)) else (some (.inr (.inl ())))
def aFM (b:aF):Option Bool:=
 ob (loop (fun (s:Int)=>xT b s) 0) fun r=>match r with|.inl r=>aDz b|.inr r=>some r
def aAH (a:Bool):Option Bool:=
 some a
def xD (a:aF):Option Bool:=
 ob (aFM a) fun b=>
 if b then (aAH (!(a == ([116,97,117]:aF)))) else (aAH false)
def aFN (a:aF) (b:List aF):Option aF:=
 ob (aMu b a) fun c=>
 some c
def aAY (c:(List Int)) (b:List aF) (a:Int):Option ((List aF × Int) ⊕ (List aF)):=
 if (decide (a < (c.length:Int))) then (ob (ix c a) fun d=>
 ob (aEf d) fun e=>
 ob (ix b a) fun g=>
 ob (st b a (e:aF)) fun f=>
 some (.inl (f,wr (a+1)))) else (some (.inr b))
def aEh (a:(List Int)) (b:aF):Option aF:=
 ob (mkz (a.length:Int) ([]:aF)) fun c=>
 ob (loop (fun (s:(List aF × Int))=>aAY a s.1 s.2) (c,0)) fun r=>aFN b r
def aDA (a:Bool):Option Bool:=
 some a
def rC (n low b:Int):Option Bool:=
 if (decide (low<=n)) then (aDA (decide (n<=b))) else (aDA false)
def aIn (n:Int):Option Bool:=
 ob (rC n 0 63) fun b=>
 some b
def aCD (n:Int):Option Bool:=
 ob (aIn n) fun b=>
 some (!b)
def lU:Option Int:=
 some (-1)
def eC (b:(List Int)) (a:Int):Option (Int ⊕ (Unit ⊕ Int)):=
 if (decide (a < (b.length:Int))) then (ob (ix b a) fun c=>
 ob (aCD c) fun d=>
 if d then (some (.inr (.inr a))) else (some (.inl (wr (a+1))))) else (some (.inr (.inl ())))
def gW (b:(List Int)):Option Int:=
 ob (loop (fun (s:Int)=>eC b s) 0) fun r=>match r with|.inl r=>lU|.inr r=>some r
def iS (a:(List Int)):Option Bool:=
 ob (gW a) fun b=>
 some (decide (0<=b))
def aDB (a:(List Int)):Option Bool:=
 ob (iS a) fun b=>
 some (!b)
def yL (a:aF) (b:(List Int)) (c:Bool):Option (aF × Bool):=
 if c then (some (([]:aF),false)) else (if ((b.length:Int) == 0) then (some (a,true)) else (ob (cat a ([40]:aF)) fun d=>
 ob (aEh b ([44]:aF)) fun e=>
 ob (cat d e) fun f=>
 ob (cat f ([41]:aF)) fun g=>
 some (g,true)))
def aEi (b:aF) (a:(List Int)):Option (aF × Bool):=
 if (b == ([116,97,117]:aF)) then (some (([116,97,117]:aF),(a.length:Int) == 0)) else (ob (xD b) fun c=>
 if (!c) then (yL b a true) else (if (decide (2 < (a.length:Int))) then (yL b a true) else (ob (aDB a) fun d=>
 yL b a (!d))))
def gA (a:Bool):Option Bool:=
 some a
def hQ (a b:aF):Option Bool:=
 if (decide ((b.length:Int)<=(a.length:Int))) then (ob (nV a (wr ((a.length:Int) - (b.length:Int))) (a.length:Int)) fun c=>
 gA (c == b)) else (gA false)
def jL (a b:aF):Option aF:=
 ob (hQ a b) fun c=>
 if c then (ob (nV a 0 (wr ((a.length:Int) - (b.length:Int)))) fun d=>
 some d) else (some a)
def nZ (a b:aF):Option aF:=
 ob (jL a b) fun c=>
 some c
def mY (a:(aF × aF × Bool)) (b:List Int) (c:Bool):Option (aF × (List Int) × Bool):=
 if c then (some (([]:aF),[],false)) else (some (a.1,b,true))
def lE (d:aF) (a:(aF × aF × Bool)) (b:List Int):Option (aF × (List Int) × Bool):=
 ob (aEi a.1 b) fun c=>
 if (!c.2) then (mY a b true) else (mY a b (!(c.1 == d)))
def tF (b:aF):Option (aF × (List Int) × Bool):=
 ob (l_Cut b ([40]:aF)) fun a=>
 if a.2.2 then (ob (nZ a.2.1 ([41]:aF)) fun d=>
 ob (aHG d ([44]:aF)) fun e=>
 ob (vW e) fun c=>
 if (!c.2) then (some (([]:aF),[],false)) else (lE b a c.1)) else (lE b a [])
def aCc (a:aF):Option Bool:=
 ob (tF a) fun b=>
 some b.2.2
def aCE (a:aF):Option Bool:=
 ob (aCc a) fun b=>
 some (!b)
def lF:Option Int:=
 some (-1)
def dT (b:(List aF)) (a:Int):Option (Int ⊕ (Unit ⊕ Int)):=
 if (decide (a < (b.length:Int))) then (ob (ix b a) fun c=>
 ob (aCE c) fun d=>
 if d then (some (.inr (.inr a))) else (some (.inl (wr (a+1))))) else (some (.inr (.inl ())))
def gB (b:(List aF)):Option Int:=
 ob (loop (fun (s:Int)=>dT b s) 0) fun r=>match r with|.inl r=>lF|.inr r=>some r
def iH (a:(List aF)):Option Bool:=
 ob (gB a) fun b=>
 some (decide (0<=b))
def aDC (a:(List aF)):Option Bool:=
 ob (iH a) fun b=>
 some (!b)
def mZ:Option Int:=
 some (-1)
def gF (b:(List aF)) (c:aF) (a:Int):Option (Int ⊕ (Unit ⊕ Int)):=
 if (decide (a < (b.length:Int))) then (ob (ix b a) fun d=>
 if (c == d) then (some (.inr (.inr a))) else (some (.inl (wr (a+1))))) else (some (.inr (.inl ())))
def eH (b:(List aF)) (c:aF):Option Int:=
 ob (loop (fun (s:Int)=>gF b c s) 0) fun r=>match r with|.inl r=>mZ|.inr r=>some r
def cV (a:(List aF)) (b:aF):Option Bool:=
 ob (eH a b) fun c=>
 some (decide (0<=c))
def aBr (a:Bool):Option Bool:=
 some a
def uL (a:(List aF)):Option Bool:=
 ob (aDC a) fun b=>
 if b then (ob (cV a ([116,97,117]:aF)) fun c=>
 aBr (!c)) else (aBr false)
def aIo (a:(List UInt8)):Option Bool:=
 some (decide (1048576 < (a.length:Int)))
def aIp (a:(List UInt8)):Option (Int × Int):=
 some (0,0)
def aEj (a b:Edge):Option Bool:=
 if (a.F != b.F) then (some (decide (a.F < b.F))) else (if (a.B != b.B) then (some (decide (a.B < b.B))) else (some (decide (a.To < b.To))))
def aDD (e:Edge) (b:Int) (c:List Edge):Option (List Edge):=
 ob (ix c b) fun f=>
 ob (st c b (⟨e.F,e.B,e.To⟩:Edge)) fun d=>
 some d
def aAZ (d:Int) (b:List Edge) (a:Int):Option ((List Edge × Int) ⊕ (List Edge)):=
 if (decide (d < a)) then (ob (ix b (wr (a - 1))) fun c=>
 ob (ix b a) fun f=>
 ob (st b a (⟨c.F,c.B,c.To⟩:Edge)) fun e=>
 some (.inl (e,wr (a - 1)))) else (some (.inr b))
def xU (a:(List Edge)) (e:Edge) (b:Int) (f:Bool):Option (List Edge):=
 if f then (some a) else (ob (oV a ([⟨0,0,0⟩]:List Edge)) fun c=>
 ob (loop (fun (s:(List Edge × Int))=>aAZ b s.1 s.2) (c,wr ((c.length:Int) - 1))) fun r=>aDD e b r)
def aDE (b:(List Edge)) (e:Edge) (a:Int):Option (List Edge):=
 if (decide (0 < a)) then (ob (ix b (wr (a - 1))) fun d=>
 xU b e a (decide ((d:Edge)=e))) else (xU b e a false)
def aBa (a:Int) (b:Bool):Option (Int ⊕ Int):=
 if b then (some (.inl (wr (a - 1)))) else (some (.inr a))
def xV (b:(List Edge)) (e:Edge) (a:Int):Option (Int ⊕ Int):=
 if (decide (0 < a)) then (ob (ix b (wr (a - 1))) fun d=>
 ob (aEj e d) fun f=>
 aBa a f) else (aBa a false)
def aEk (a:(List Edge)) (e:Edge):Option (List Edge):=
 ob (loop (fun (s:Int)=>xV a e s) (a.length:Int)) fun r=>aDE a e r
def aHJ:Option Int:=
 some (-1)
def aBN (b:(List aF)) (c:aF) (a:Int):Option (Int ⊕ (Unit ⊕ Int)):=
 if (decide (a < (b.length:Int))) then (ob (ix b a) fun d=>
 if (d == c) then (some (.inr (.inr a))) else (some (.inl (wr (a+1))))) else (some (.inr (.inl ())))
def xW (b:(List aF)) (c:aF):Option Int:=
 ob (loop (fun (s:Int)=>aBN b c s) 0) fun r=>match r with|.inl r=>aHJ|.inr r=>some r
def aHK (a:List aF):Option (List aF):=
 some a
def uM (a:Int) (b:List aF):Option ((List aF × Int) ⊕ (List aF)):=
 some (.inl (b,wr (a+1)))
def aBO (c:Int) (d:aF) (a:Int) (b:List aF):Option ((List aF × Int) ⊕ (List aF)):=
 ob (ix b a) fun f=>
 ob (st b a (d:aF)) fun e=>
 uM c e
def yM (c:Int) (b:List aF) (a:Int):Option ((List aF × Int) ⊕ (List aF)):=
 if (decide (c < a)) then (ob (ix b (wr (a - 1))) fun d=>
 ob (ix b a) fun f=>
 ob (st b a (d:aF)) fun e=>
 some (.inl (e,wr (a - 1)))) else (some (.inr b))
def aBP (c:List aF) (d:Int) (e:aF) (a:Int):Option ((List aF × Int) ⊕ (List aF)):=
 ob (oV c ([([]:aF)]:List aF)) fun b=>
 ob (loop (fun (s:(List aF × Int))=>yM a s.1 s.2) (b,wr ((b.length:Int) - 1))) fun r=>aBO d e a r
def yN (a:Int) (b:Bool):Option (Int ⊕ Int):=
 if b then (some (.inl (wr (a+1)))) else (some (.inr a))
def uN (b:List aF) (c:aF) (a:Int):Option (Int ⊕ Int):=
 if (decide (a < (b.length:Int))) then (ob (ix b a) fun d=>
 yN a (vJ d c)) else (yN a false)
def qG (d:(List aF)) (a:List aF) (b:Int):Option ((List aF × Int) ⊕ (List aF)):=
 if (decide (b < (d.length:Int))) then (ob (ix d b) fun c=>
 ob (xW a c) fun e=>
 if (decide (0<=e)) then (uM b a) else (ob (loop (fun (s:Int)=>uN a c s) 1) fun r=>aBP a b c r)) else (some (.inr a))
def aCd (a:(List aF)):Option (List aF):=
 ob (loop (fun (s:(List aF × Int))=>qG a s.1 s.2) (([([116,97,117]:aF)]:List aF),0)) fun r=>aHK r
def aHL (a b:Int) (c:(List aF)) (d:List Edge):Option bF:=
 some ⟨a,b,c,d⟩
def uO (e:(List aF)) (c:(List Edge)) (f:(List aF)) (d:List Edge) (a:Int):Option ((List Edge × Int) ⊕ (List Edge)):=
 if (decide (a < (c.length:Int))) then (ob (ix c a) fun b=>
 ob (ix e b.B) fun g=>
 ob (xW f g) fun h=>
 ob (aEk d ⟨b.F,h,b.To⟩) fun i=>
 some (.inl (i,wr (a+1)))) else (some (.inr d))
def rL (c d:Int) (a:(List aF)) (e:(List Edge)):Option bF:=
 ob (aCd a) fun b=>
 ob (loop (fun (s:(List Edge × Int))=>uO a e b s.1 s.2) (([]:List Edge),0)) fun r=>aHL c d b r
def aCF (t:bF):Option bF:=
 ob (oV ([]:List aF) t.L) fun b=>
 ob (oV ([]:List Edge) t.E) fun c=>
 some ⟨t.N,t.I,b,c⟩
def aHf (a:Bool):Option Bool:=
 some a
def aAI (n low b:Int):Option Bool:=
 if (decide (low<=n)) then (aHf (decide (n<=b))) else (aHf false)
def aDV (a:Bool):Option Bool:=
 some a
def aCG (c:UInt8):Option Bool:=
 if (decide (97<=(c.toNat:Int))) then (aDV (decide ((c.toNat:Int)<=122))) else (aDV false)
def aDW (a:Bool):Option Bool:=
 some a
def aCH (c:UInt8):Option Bool:=
 if (decide (48<=(c.toNat:Int))) then (aDW (decide ((c.toNat:Int)<=57))) else (aDW false)
def aEQ:Option Bool:=
 some true
def aBQ (a:Int) (b:Bool):Option (Int ⊕ (Unit ⊕ Bool)):=
 if b then (some (.inr (.inr false))) else (some (.inl (wr (a+1))))
def yO (b:aF) (a:Int):Option (Int ⊕ (Unit ⊕ Bool)):=
 if (decide (a < (b.length:Int))) then (ob (ix b a) fun c=>
 ob (aCG c) fun d=>
 if (!d) then (ob (aCH c) fun e=>
 aBQ a (!e)) else (aBQ a false)) else (some (.inr (.inl ())))
def qH (b:aF) (c:Bool):Option Bool:=
 if c then (some false) else (ob (loop (fun (s:Int)=>yO b s) 0) fun r=>match r with|.inl r=>aEQ|.inr r=>some r)
def aCe (a:aF):Option Bool:=
 if (a == ([]:aF)) then (qH a true) else (if (decide (10 < (a.length:Int))) then (qH a true) else (ob (ix a 0) fun b=>
 ob (aCG b) fun c=>
 qH a (!c)))
def yP (a:Bool):Option Bool:=
 some a
def xX (a:aF):Option Bool:=
 ob (aCe a) fun b=>
 if b then (yP (!(a == ([116,97,117]:aF)))) else (yP false)
def aHM (a:aF):Option Int:=
 some (a.length:Int)
def aBR (b:aF) (a:Int):Option (Int ⊕ (Unit ⊕ Int)):=
 if (decide (a < (b.length:Int))) then (ob (ix b a) fun c=>
 if ((c.toNat:Int) == 40) then (some (.inr (.inr a))) else (some (.inl (wr (a+1))))) else (some (.inr (.inl ())))
def aCf (b:aF):Option Int:=
 ob (loop (fun (s:Int)=>aBR b s) 0) fun r=>match r with|.inl r=>aHM b|.inr r=>some r
def aDX (a:aF) (b:List aF) (c:Int):Option (List aF):=
 ob (nV a c (a.length:Int)) fun d=>
 ob (oV b ([d]:List aF)) fun e=>
 some e
def rM (a:Int) (b:List aF) (c:Int):Option ((List aF × Int × Int) ⊕ (List aF × Int)):=
 some (.inl (b,c,wr (a+1)))
def aAJ (b:aF) (e:UInt8) (c:List aF) (d a:Int):Option ((List aF × Int × Int) ⊕ (List aF × Int)):=
 if (decide (a < (b.length:Int))) then (ob (ix b a) fun f=>
 if ((f.toNat:Int) == (e.toNat:Int)) then (ob (nV b d a) fun g=>
 ob (oV c ([g]:List aF)) fun h=>
 rM a h (wr (a+1))) else (rM a c d)) else (some (.inr (c,d)))
def aCI (a:aF) (c:UInt8):Option (List aF):=
 ob (loop (fun (s:(List aF × Int × Int))=>aAJ a c s.1 s.2.1 s.2.2) (([]:List aF),0,0)) fun r=>aDX a r.1 r.2
def aCJ (a:Int):Option (Int × Bool):=
 some (a,true)
def yQ (b a:Int):Option (Int × Bool):=
 if (b == 1) then (aCJ (wr (0 - a))) else (aCJ a)
def pF (b:aF) (c a:Int):Option ((Int × Int) ⊕ (Int ⊕ (Int × Bool))):=
 if (decide (a < (b.length:Int))) then (ob (ix b a) fun c45=>
 ob (aCH c45) fun d=>
 if (!d) then (some (.inr (.inr (0,false)))) else (some (.inl (wr ((wr (10 * c))+(wr ((c45 - (48:UInt8)).toNat:Int))),wr (a+1))))) else (some (.inr (.inl c)))
def lG (c:aF) (b:Int) (d:Bool):Option (Int × Bool):=
 if d then (some (0,false)) else (ob (loop (fun (s:(Int × Int))=>pF c s.1 s.2) (0,b)) fun r=>match r with|.inl r=>yQ b r|.inr r=>some r)
def pG (a:aF) (b:Int):Option (Int × Bool):=
 if ((a.length:Int) == b) then (lG a b true) else (if (decide (18 < wr ((a.length:Int) - b))) then (lG a b true) else (ob (ix a b) fun c=>
 if ((c.toNat:Int) == 48) then (lG a b (decide (1 < (a.length:Int)))) else (lG a b false)))
def tG (a:aF) (b:Bool):Option (Int × Bool):=
 if b then (pG a 1) else (pG a 0)
def xY (a:aF):Option (Int × Bool):=
 if (decide (0 < (a.length:Int))) then (ob (ix a 0) fun b=>
 tG a ((b.toNat:Int) == 45)) else (tG a false)
def aCK (a:List Int):Option ((List Int) × Bool):=
 some (a,decide ((a.length:Int)<=2))
def yR (a:List Int) (b:Int) (c:(Int × Bool)) (d:Bool):Option ((List Int × Int) ⊕ (List Int ⊕ ((List Int) × Bool))):=
 if d then (some (.inr (.inr ([],false)))) else (ob (oV a ([c.1]:List Int)) fun e=>
 some (.inl (e,wr (b+1))))
def tH (d:(List aF)) (c:List Int) (a:Int):Option ((List Int × Int) ⊕ (List Int ⊕ ((List Int) × Bool))):=
 if (decide (a < (d.length:Int))) then (ob (ix d a) fun e=>
 ob (xY e) fun b=>
 if (!b.2) then (yR c a b true) else (ob (aAI b.1 0 63) fun f=>
 yR c a b (!f))) else (some (.inr (.inl c)))
def pH (b:aF) (c:Int) (d:Bool):Option ((List Int) × Bool):=
 if d then (some ([],false)) else (ob (nV b (wr (c+1)) (wr ((b.length:Int) - 1))) fun e=>
 ob (aCI e (44:UInt8)) fun f=>
 ob (loop (fun (s:(List Int × Int))=>tH f s.1 s.2) (([]:List Int),0)) fun r=>match r with|.inl r=>aCK r|.inr r=>some r)
def aDF (a:aF):Option ((List Int) × Bool):=
 ob (aCf a) fun b=>
 if (b == (a.length:Int)) then (ob (aCe a) fun c=>
 some (([]:List Int),c)) else (ob (nV a 0 b) fun d=>
 ob (xX d) fun e=>
 if (!e) then (pH a b true) else (ob (ix a (wr ((a.length:Int) - 1))) fun f=>
 pH a b ((f.toNat:Int) != 41)))
def aER (a:aF):Option Bool:=
 ob (aDF a) fun b=>
 some b.2
def aGL:Option Bool:=
 some true
def rN (a:Int) (b:Bool):Option (Int ⊕ (Unit ⊕ Bool)):=
 if b then (some (.inr (.inr false))) else (some (.inl (wr (a+1))))
def vX (b:(List aF)) (a:Int):Option (Int ⊕ (Unit ⊕ Bool)):=
 if (decide (a < (b.length:Int))) then (ob (ix b a) fun c=>
 ob (aER c) fun d=>
 if (!d) then (rN a true) else (if (c == ([116,97,117]:aF)) then (rN a true) else (if (decide (1 < a)) then (ob (ix b (wr (a - 1))) fun e=>
 rN a (!vJ e c)) else (rN a false)))) else (some (.inr (.inl ())))
def rO (b:(List aF)) (c:Bool):Option Bool:=
 if c then (some false) else (ob (loop (fun (s:Int)=>vX b s) 1) fun r=>match r with|.inl r=>aGL|.inr r=>some r)
def aCL (a:(List aF)):Option Bool:=
 if ((a.length:Int) == 0) then (rO a true) else (if (decide (12 < (a.length:Int))) then (rO a true) else (ob (ix a 0) fun b=>
 rO a (!(b == ([116,97,117]:aF)))))
def aJZ:Option Bool:=
 some true
def aES (a:Int) (b:Bool):Option (Int ⊕ (Unit ⊕ Bool)):=
 if b then (some (.inr (.inr false))) else (some (.inl (wr (a+1))))
def aAw (t:bF) (a:Int) (c:Edge) (d:Bool):Option (Int ⊕ (Unit ⊕ Bool)):=
 if d then (some (.inr (.inr false))) else (if (decide (0 < a)) then (ob (ix t.E (wr (a - 1))) fun e=>
 ob (aEj e c) fun f=>
 aES a (!f)) else (aES a false))
def aCM (t:bF) (c:Int):Option (Int ⊕ (Unit ⊕ Bool)):=
 if (decide (c < (t.E.length:Int))) then (ob (ix t.E c) fun b=>
 ob (aAI b.F 0 (wr (t.N - 1))) fun d=>
 if (!d) then (aAw t c b true) else (ob (aAI b.To 0 (wr (t.N - 1))) fun e=>
 if (!e) then (aAw t c b true) else (ob (aAI b.B 0 (wr ((t.L.length:Int) - 1))) fun f=>
 aAw t c b (!f)))) else (some (.inr (.inl ())))
def xE (t:bF) (c:Bool):Option Bool:=
 if c then (some false) else (ob (loop (fun (s:Int)=>aCM t s) 0) fun r=>match r with|.inl r=>aJZ|.inr r=>some r)
def aET (t:bF):Option Bool:=
 ob (aAI t.N 1 40) fun b=>
 if (!b) then (xE t true) else (ob (aAI t.I 0 (wr (t.N - 1))) fun c=>
 if (!c) then (xE t true) else (ob (aCL t.L) fun d=>
 if (!d) then (xE t true) else (xE t (decide (300 < (t.E.length:Int))))))
def aFm:Option Bool:=
 some true
def wO (b:(List aF)) (a:Int):Option (Int ⊕ (Unit ⊕ Bool)):=
 if (decide (a < (b.length:Int))) then (ob (ix b a) fun c=>
 ob (xX c) fun d=>
 if (!d) then (some (.inr (.inr false))) else (some (.inl (wr (a+1))))) else (some (.inr (.inl ())))
def yS (b:(List aF)):Option Bool:=
 ob (loop (fun (s:Int)=>wO b s) 0) fun r=>match r with|.inl r=>aFm|.inr r=>some r
def tI (a:aF):Option aF:=
 ob (aCf a) fun b=>
 ob (nV a 0 b) fun c=>
 some c
def aKa:Option Bool:=
 some true
def xF (t:bF) (a:Int):Option (Int ⊕ (Unit ⊕ Bool)):=
 if (decide (a < (t.L.length:Int))) then (ob (ix t.L a) fun c=>
 ob (tI c) fun d=>
 if (d == ([100,101,108,116,97]:aF)) then (some (.inr (.inr false))) else (some (.inl (wr (a+1))))) else (some (.inr (.inl ())))
def xG (t:bF):Option Bool:=
 ob (loop (fun (s:Int)=>xF t s) 0) fun r=>match r with|.inl r=>aKa|.inr r=>some r
def aCN (a:Int) (b:Bool):Option (Int ⊕ (Unit ⊕ Bool)):=
 if b then (some (.inr (.inr false))) else (some (.inl (wr (a+1))))
def xH (b:(List aF)) (a:Int):Option (Int ⊕ (Unit ⊕ Bool)):=
 if (decide (a < (b.length:Int))) then (ob (ix b a) fun c=>
 if (c == ([100,101,108,116,97]:aF)) then (aCN a true) else (if (decide (0 < a)) then (ob (ix b (wr (a - 1))) fun d=>
 aCN a (!vJ d c)) else (aCN a false))) else (some (.inr (.inl ())))
def aAx (t:bF) (c:(List aF)) (d:Bool):Option Bool:=
 if d then (some false) else (ob (loop (fun (s:Int)=>xH c s) 0) fun r=>match r with|.inl r=>xG t|.inr r=>some r)
def sK (t:bF) (b:(List aF)):Option Bool:=
 ob (aET t) fun c=>
 if (!c) then (aAx t b true) else (ob (yS b) fun d=>
 aAx t b (!d))
def pI (d:(List UInt8)) (b c a:Int):Option (Int × Int × Int):=
 if (decide (wr (b+1)<=(d.length:Int))) then (some (a,wr (b+1),qC ((qC ((qC (c * 6364136223846793005))+(qC a)))+1442695040888963407))) else (ob (shU (qC ((qC ((qC (c * 6364136223846793005))+(qC a)))+1442695040888963407)) 40) fun e=>
 some (wr (anU e 255),wr (b+1),qC ((qC ((qC (c * 6364136223846793005))+(qC a)))+1442695040888963407)))
def rP (a:(List UInt8)) (b c:Int):Option (Int × Int × Int):=
 if (decide (b < (a.length:Int))) then (ob (ix a b) fun d=>
 pI a b c (wr (d.toNat:Int))) else (pI a b c 0)
def pJ (n b c d:Int):Option (Int × Int × Int):=
 ob (rm b n) fun e=>
 some (e,c,d)
def bX (d:(List UInt8)) (e f n:Int):Option (Int × Int × Int):=
 if (decide (n<=1)) then (some (0,e,f)) else (ob (rP d e f) fun a=>
 if (decide (200 < n)) then (ob (rP d a.2.1 a.2.2) fun c=>
 pJ n (wr ((wr (a.1 * 256))+c.1)) c.2.1 c.2.2) else (pJ n a.1 a.2.1 a.2.2))
def iY (b:(List UInt8)) (c d n:Int):Option (Bool × Int × Int):=
 ob (bX b c d n) fun a=>
 some (a.1 == 0,a.2.1,a.2.2)
def sL (a b:Int) (c:List aF):Option ((List aF) × Int × Int):=
 some (c,a,b)
def sM (a:List aF) (b c:Int):Option ((List aF) × Int × Int):=
 if ((a.length:Int) == 1) then (ob (oV a ([([97]:aF)]:List aF)) fun d=>
 sL b c d) else (sL b c a)
def jS (a b c:Int) (d:List aF):Option ((Int × Int × List aF × Int) ⊕ (List aF × Int × Int)):=
 some (.inl (b,c,d,wr (a+1)))
def oA (b:List aF) (a c d:Int) (e:Bool):Option ((Int × Int × List aF × Int) ⊕ (List aF × Int × Int)):=
 if e then (ob (ix ([([97]:aF),([98]:aF),([99]:aF),([103,101,116,40,48,41]:aF),([103,101,116,40,49,41]:aF)]:List aF) a) fun f=>
 ob (oV b ([f]:List aF)) fun g=>
 jS a c d g) else (jS a c d b)
def lN (f:(List UInt8)) (d e:Int) (b:List aF) (c:Int):Option ((Int × Int × List aF × Int) ⊕ (List aF × Int × Int)):=
 if (decide (c < (([([97]:aF),([98]:aF),([99]:aF),([103,101,116,40,48,41]:aF),([103,101,116,40,49,41]:aF)]:List aF).length:Int))) then (ob (iY f d e 2) fun a=>
 if a.1 then (oA b c a.2.1 a.2.2 (decide ((b.length:Int) < 4))) else (oA b c a.2.1 a.2.2 false)) else (some (.inr (b,d,e)))
def tJ (b:(List UInt8)) (c d:Int):Option ((List aF) × Int × Int):=
 ob (loop (fun (s:(Int × Int × List aF × Int))=>lN b s.1 s.2.1 s.2.2.1 s.2.2.2) (c,d,([([116,97,117]:aF)]:List aF),0)) fun r=>sM r.1 r.2.1 r.2.2
def gQ (c:(List UInt8)) (d e:Int) (b:(List Int)):Option (Int × Int × Int):=
 ob (bX c d e (b.length:Int)) fun a=>
 ob (ix b a.1) fun f=>
 some (f,a.2.1,a.2.2)
def tK (d:(List UInt8)) (b c:(Int × Int × Int)) (e:((List aF) × Int × Int)) (f g:Int) (h:List Edge):Option (bF × Int × Int):=
 ob (bX d f g (wr ((wr (1+b.1))+c.1))) fun a=>
 ob (rL (wr ((wr (1+b.1))+c.1)) a.1 e.1 h) fun i=>
 some (i,a.2.1,a.2.2)
def tL (a:(List UInt8)) (c d:(Int × Int × Int)) (e:((List aF) × Int × Int)) (j k:Int) (i:List Edge):Option (bF × Int × Int):=
 ob (iY a j k 3) fun b=>
 if b.1 then (ob (bX a b.2.1 b.2.2 (wr ((wr (1+c.1))+d.1))) fun f=>
 ob (bX a f.2.1 f.2.2 (e.1.length:Int)) fun g=>
 ob (bX a g.2.1 g.2.2 (wr ((wr (1+c.1))+d.1))) fun h=>
 ob (oV i ([⟨f.1,g.1,h.1⟩]:List Edge)) fun l=>
 tK a c d e h.2.1 h.2.2 l) else (tK a c d e b.2.1 b.2.2 i)
def yT (a b c:Int) (d:List Edge):Option ((Int × Int × List Edge × Int) ⊕ (Int × Int × List Edge)):=
 some (.inl (b,c,d,wr (a - 1)))
def yU (a b c:Int) (d:List Edge):Option ((Int × Int × List Edge × Int) ⊕ (Int × Int × List Edge)):=
 yT a b c d
def tM (a b c:Int) (d:List Edge):Option ((Int × Int × List Edge × Int) ⊕ (Int × Int × List Edge)):=
 some (.inl (b,c,d,wr (a+1)))
def tN (c:(List UInt8)) (d:(Int × Int × Int)) (e f:Int) (g:List Edge) (b:Int) (h:List Int):Option ((Int × Int × List Edge × Int) ⊕ (Int × Int × List Edge)):=
 ob (gQ c e f h) fun a=>
 ob (oV g ([⟨b,d.1,a.1⟩]:List Edge)) fun i=>
 tM b a.2.1 a.2.2 i
def tO (a:Int) (b:List Int):Option ((List Int × Int) ⊕ (List Int)):=
 some (.inl (b,wr (a+1)))
def lH (c d:(Int × Int × Int)) (e:List Int) (f:(Int × Int × Int)) (b:List Int) (a:Int):Option ((List Int × Int) ⊕ (List Int)):=
 if (decide (a < wr ((wr (1+c.1))+d.1))) then (ob (ix e a) fun g=>
 if (g == f.1) then (ob (oV b ([a]:List Int)) fun h=>
 tO a h) else (tO a b)) else (some (.inr b))
def pK (h:(List UInt8)) (e f:(Int × Int × Int)) (g:List Int) (i j k:(Int × Int × Int)) (b c:Int) (d:List Edge) (a:Int):Option ((Int × Int × List Edge × Int) ⊕ (Int × Int × List Edge)):=
 if (decide (a < wr ((wr (1+e.1))+f.1))) then (ob (ix g a) fun l=>
 if (l != i.1) then (tM a b c d) else (ob (loop (fun (s:(List Int × Int))=>lH e f g k s.1 s.2) (([]:List Int),0)) fun r=>tN h j b c d a r)) else (some (.inr (b,c,d)))
def nM (a:(List UInt8)) (b k:(Int × Int × Int)) (l:((List aF) × Int × Int)) (m:List Int) (g h:Int) (i:List Edge) (j:Int):Option ((Int × Int × List Edge × Int) ⊕ (Int × Int × List Edge)):=
 if (decide (0 < j)) then (ob (bX a g h (wr (1+b.1))) fun c=>
 ob (bX a c.2.1 c.2.2 (l.1.length:Int)) fun d=>
 ob (bX a d.2.1 d.2.2 (wr (1+b.1))) fun e=>
 ob (loop (fun (s:(Int × Int × List Edge × Int))=>pK a b k m c d e s.1 s.2.1 s.2.2.1 s.2.2.2) (e.2.1,e.2.2,i,0)) fun r=>yU j r.1 r.2.1 r.2.2) else (some (.inr (g,h,i)))
def rD (a:(List UInt8)) (b e:(Int × Int × Int)) (f:((List aF) × Int × Int)) (g h:Int) (i:List Int):Option (bF × Int × Int):=
 ob (bX a g h (wr (2+(wr (2 * (wr (1+b.1))))))) fun c=>
 ob (loop (fun (s:(Int × Int × List Edge × Int))=>nM a b e f i s.1 s.2.1 s.2.2.1 s.2.2.2) (c.2.1,c.2.2,([]:List Edge),c.1)) fun r=>tL a b e f r.1 r.2.1 r.2.2
def nN (a b c:Int) (d:List Int):Option ((Int × Int × List Int × Int) ⊕ (Int × Int × List Int)):=
 some (.inl (b,c,d,wr (a+1)))
def nO (g:(List UInt8)) (b h:(Int × Int × Int)) (c d:Int) (e:List Int) (a:Int):Option ((Int × Int × List Int × Int) ⊕ (Int × Int × List Int)):=
 if (decide (a < wr ((wr (1+b.1))+h.1))) then (if (decide (a < wr (1+b.1))) then (ob (oV e ([a]:List Int)) fun i=>
 nN a c d i) else (ob (bX g c d (wr (1+b.1))) fun f=>
 ob (oV e ([f.1]:List Int)) fun j=>
 nN a f.2.1 f.2.2 j)) else (some (.inr (c,d,e)))
def aBb (a:(List UInt8)) (f g:Int):Option (bF × Int × Int):=
 ob (bX a f g 4) fun b=>
 ob (bX a b.2.1 b.2.2 (wr (7 - (wr (1+b.1))))) fun c=>
 ob (tJ a c.2.1 c.2.2) fun d=>
 ob (loop (fun (s:(Int × Int × List Int × Int))=>nO a b c s.1 s.2.1 s.2.2.1 s.2.2.2) (d.2.1,d.2.2,([]:List Int),0)) fun r=>rD a b c d r.1 r.2.1 r.2.2
def vL (d:(List UInt8)) (b c a:Int):Option (Int × Int × Int):=
 if (decide (wr (b+1)<=(d.length:Int))) then (some (a,wr (b+1),qC ((qC ((qC (c * 6364136223846793005))+(qC a)))+1442695040888963407))) else (ob (shU (qC ((qC ((qC (c * 6364136223846793005))+(qC a)))+1442695040888963407)) 40) fun e=>
 some (wr (anU e 255),wr (b+1),qC ((qC ((qC (c * 6364136223846793005))+(qC a)))+1442695040888963407)))
def mO (a:(List UInt8)) (b c:Int):Option (Int × Int × Int):=
 if (decide (b < (a.length:Int))) then (ob (ix a b) fun d=>
 vL a b c (wr (d.toNat:Int))) else (vL a b c 0)
def vM (a:(List UInt8)) (n c d e:Int):Option (Int × (List UInt8) × Int × Int):=
 ob (rm c n) fun f=>
 some (f,a,d,e)
def aEl (b:(List UInt8)) (e f n:Int):Option (Int × (List UInt8) × Int × Int):=
 if (decide (n<=1)) then (some (0,b,e,f)) else (ob (mO b e f) fun a=>
 if (decide (200 < n)) then (ob (mO b a.2.1 a.2.2) fun d=>
 vM b n (wr ((wr (a.1 * 256))+d.1)) d.2.1 d.2.2) else (vM b n a.1 a.2.1 a.2.2))
def aCO (a:(bF × Int × Int)) (b:List Edge) (c d:Int):Option (bF × Int × Int):=
 ob (rL a.1.N a.1.I a.1.L b) fun e=>
 some (e,c,d)
def pL (c:(List UInt8)) (d:(bF × Int × Int)) (e f:Int) (g:List Edge) (h:Int):Option ((Int × Int × List Edge × Int) ⊕ (List Edge × Int × Int)):=
 if (decide (0 < h)) then (ob (bX c e f d.1.N) fun a=>
 ob (bX c a.2.1 a.2.2 d.1.N) fun b=>
 ob (oV g ([⟨a.1,0,b.1⟩]:List Edge)) fun i=>
 some (.inl (b.2.1,b.2.2,i,wr (h - 1)))) else (some (.inr (g,e,f)))
def yV (c:(List UInt8)) (d:(bF × Int × Int)) (e f:Int) (g:List Edge):Option (bF × Int × Int):=
 ob (bX c e f 3) fun a=>
 ob (loop (fun (s:(Int × Int × List Edge × Int))=>pL c d s.1 s.2.1 s.2.2.1 s.2.2.2) (a.2.1,a.2.2,g,a.1)) fun r=>aCO d r.1 r.2.1 r.2.2
def tP (b:List Edge) (c:Int) (a:Edge) (d e f:Int):Option ((Int × Int × List Edge × Int) ⊕ (Int × Int × List Edge)):=
 ob (oV b ([⟨a.F,f,a.To⟩]:List Edge)) fun g=>
 some (.inl (d,e,g,wr (c+1)))
def pM (h:(List UInt8)) (e:(bF × Int × Int)) (f g:Int) (c:List Edge) (b:Int):Option ((Int × Int × List Edge × Int) ⊕ (Int × Int × List Edge)):=
 if (decide (b < (e.1.E.length:Int))) then (ob (ix e.1.E b) fun d=>
 ob (iY h f g 3) fun a=>
 if a.1 then (tP c b d a.2.1 a.2.2 0) else (tP c b d a.2.1 a.2.2 d.B)) else (some (.inr (f,g,c)))
def aBc (b:(List UInt8)) (d e:Int):Option (bF × Int × Int):=
 ob (aBb b d e) fun a=>
 ob (loop (fun (s:(Int × Int × List Edge × Int))=>pM b a s.1 s.2.1 s.2.2.1 s.2.2.2) (a.2.1,a.2.2,([]:List Edge),0)) fun r=>yV b a r.1 r.2.1 r.2.2
def rQ (c:(List UInt8)) (d e:Int) (b:(List aF)):Option (aF × Int × Int):=
 ob (bX c d e (b.length:Int)) fun a=>
 ob (ix b a.1) fun f=>
 some (f,a.2.1,a.2.2)
def gG (a b:Int) (c:List aF) (d:List Edge) (e f:Int):Option (bF × Int × Int):=
 some (⟨a,b,c,d⟩,e,f)
def aCg (c:(List UInt8)) (n o:Int) (t:bF):Option (bF × Int × Int):=
 ob (aCF t) fun a=>
 ob (iY c n o 8) fun d=>
 if (!d.1) then (some (a,d.2.1,d.2.2)) else (ob (bX c d.2.1 d.2.2 8) fun b=>
 if (b.1 == 0) then (ob (gQ c b.2.1 b.2.2 ([0,(-1),41,40,wr (a.N - 1)]:List Int)) fun g=>
 gG g.1 a.I a.L a.E g.2.1 g.2.2) else (if (b.1 == 1) then (ob (gQ c b.2.1 b.2.2 ([(-1),a.N]:List Int)) fun h=>
 gG a.N h.1 a.L a.E h.2.1 h.2.2) else (if (b.1 == 2) then (ob (ix a.L 0) fun x=>
 ob (st a.L 0 (([97]:aF):aF)) fun q=>
 gG a.N a.I q a.E b.2.1 b.2.2) else (if (b.1 == 3) then (ob (rQ c b.2.1 b.2.2 ([([116,97,117]:aF),([97]:aF),([122,122]:aF),([65]:aF),([]:aF)]:List aF)) fun i=>
 ob (oV a.L ([i.1]:List aF)) fun r=>
 gG a.N a.I r a.E i.2.1 i.2.2) else (if (b.1 == 4) then (if (decide (0 < (a.E.length:Int))) then (ob (ix a.E 0) fun s=>
 ob (oV a.E ([s]:List Edge)) fun u=>
 gG a.N a.I a.L u b.2.1 b.2.2) else (gG a.N a.I a.L a.E b.2.1 b.2.2)) else (if (b.1 == 5) then (if (decide (0 < (a.E.length:Int))) then (ob (bX c b.2.1 b.2.2 (a.E.length:Int)) fun e=>
 ob (gQ c e.2.1 e.2.2 ([(-1),(a.L.length:Int),0]:List Int)) fun j=>
 ob (ix a.E e.1) fun l=>
 ob (st a.E e.1 (⟨l.F,j.1,l.To⟩:Edge)) fun v=>
 gG a.N a.I a.L v j.2.1 j.2.2) else (gG a.N a.I a.L a.E b.2.1 b.2.2)) else (if (b.1 == 6) then (if (decide (0 < (a.E.length:Int))) then (ob (bX c b.2.1 b.2.2 (a.E.length:Int)) fun f=>
 ob (gQ c f.2.1 f.2.2 ([(-1),a.N,0]:List Int)) fun k=>
 ob (ix a.E f.1) fun m=>
 ob (st a.E f.1 (⟨m.F,m.B,k.1⟩:Edge)) fun w=>
 gG a.N a.I a.L w k.2.1 k.2.2) else (gG a.N a.I a.L a.E b.2.1 b.2.2)) else (if (b.1 == 7) then (gG a.N a.I ([]:List aF) a.E b.2.1 b.2.2) else (gG a.N a.I a.L a.E b.2.1 b.2.2)))))))))
def aEm (c:(List UInt8)) (d e:Int):Option (bF × Int × Int):=
 ob (aBc c d e) fun a=>
 ob (aCg c a.2.1 a.2.2 a.1) fun b=>
 some (b.1,b.2.1,b.2.2)
def vN (n b c d:Int):Option (Int × Int × Int):=
 ob (rm b n) fun e=>
 some (e,c,d)
def cD (d:(List UInt8)) (e f n:Int):Option (Int × Int × Int):=
 if (decide (n<=1)) then (some (0,e,f)) else (ob (mO d e f) fun a=>
 if (decide (200 < n)) then (ob (mO d a.2.1 a.2.2) fun c=>
 vN n (wr ((wr (a.1 * 256))+c.1)) c.2.1 c.2.2) else (vN n a.1 a.2.1 a.2.2))
def rE (b:(List UInt8)) (c d n:Int):Option (Bool × Int × Int):=
 ob (cD b c d n) fun a=>
 some (a.1 == 0,a.2.1,a.2.2)
def tQ (a b:Int) (c:List aF):Option ((List aF) × Int × Int):=
 some (c,a,b)
def tR (a:List aF) (b c:Int):Option ((List aF) × Int × Int):=
 if ((a.length:Int) == 1) then (ob (oV a ([([97]:aF)]:List aF)) fun d=>
 tQ b c d) else (tQ b c a)
def oB (a b c:Int) (d:List aF):Option ((Int × Int × List aF × Int) ⊕ (List aF × Int × Int)):=
 some (.inl (b,c,d,wr (a+1)))
def tS (b:List aF) (a c d:Int) (e:Bool):Option ((Int × Int × List aF × Int) ⊕ (List aF × Int × Int)):=
 if e then (ob (ix ([([97]:aF),([98]:aF),([99]:aF),([103,101,116,40,48,41]:aF),([103,101,116,40,49,41]:aF)]:List aF) a) fun f=>
 ob (oV b ([f]:List aF)) fun g=>
 oB a c d g) else (oB a c d b)
def aBd (f:(List UInt8)) (d e:Int) (b:List aF) (c:Int):Option ((Int × Int × List aF × Int) ⊕ (List aF × Int × Int)):=
 if (decide (c < (([([97]:aF),([98]:aF),([99]:aF),([103,101,116,40,48,41]:aF),([103,101,116,40,49,41]:aF)]:List aF).length:Int))) then (ob (rE f d e 2) fun a=>
 if a.1 then (tS b c a.2.1 a.2.2 (decide ((b.length:Int) < 4))) else (tS b c a.2.1 a.2.2 false)) else (some (.inr (b,d,e)))
def yW (b:(List UInt8)) (c d:Int):Option ((List aF) × Int × Int):=
 ob (loop (fun (s:(Int × Int × List aF × Int))=>aBd b s.1 s.2.1 s.2.2.1 s.2.2.2) (c,d,([([116,97,117]:aF)]:List aF),0)) fun r=>tR r.1 r.2.1 r.2.2
def lO (c:(List UInt8)) (d e:Int) (b:(List Int)):Option (Int × Int × Int):=
 ob (cD c d e (b.length:Int)) fun a=>
 ob (ix b a.1) fun f=>
 some (f,a.2.1,a.2.2)
def yX (d:(List UInt8)) (b c:(Int × Int × Int)) (e:((List aF) × Int × Int)) (f g:Int) (h:List Edge):Option (bF × Int × Int):=
 ob (cD d f g (wr ((wr (1+b.1))+c.1))) fun a=>
 ob (rL (wr ((wr (1+b.1))+c.1)) a.1 e.1 h) fun i=>
 some (i,a.2.1,a.2.2)
def sO (a:(List UInt8)) (c d:(Int × Int × Int)) (e:((List aF) × Int × Int)) (j k:Int) (i:List Edge):Option (bF × Int × Int):=
 ob (rE a j k 3) fun b=>
 if b.1 then (ob (cD a b.2.1 b.2.2 (wr ((wr (1+c.1))+d.1))) fun f=>
 ob (cD a f.2.1 f.2.2 (e.1.length:Int)) fun g=>
 ob (cD a g.2.1 g.2.2 (wr ((wr (1+c.1))+d.1))) fun h=>
 ob (oV i ([⟨f.1,g.1,h.1⟩]:List Edge)) fun l=>
 yX a c d e h.2.1 h.2.2 l) else (yX a c d e b.2.1 b.2.2 i)
def yY (a b c:Int) (d:List Edge):Option ((Int × Int × List Edge × Int) ⊕ (Int × Int × List Edge)):=
 some (.inl (b,c,d,wr (a - 1)))
def yZ (a b c:Int) (d:List Edge):Option ((Int × Int × List Edge × Int) ⊕ (Int × Int × List Edge)):=
 yY a b c d
def sP (a b c:Int) (d:List Edge):Option ((Int × Int × List Edge × Int) ⊕ (Int × Int × List Edge)):=
 some (.inl (b,c,d,wr (a+1)))
def sQ (c:(List UInt8)) (d:(Int × Int × Int)) (e f:Int) (g:List Edge) (b:Int) (h:List Int):Option ((Int × Int × List Edge × Int) ⊕ (Int × Int × List Edge)):=
 ob (lO c e f h) fun a=>
 ob (oV g ([⟨b,d.1,a.1⟩]:List Edge)) fun i=>
 sP b a.2.1 a.2.2 i
def sS (a:Int) (b:List Int):Option ((List Int × Int) ⊕ (List Int)):=
 some (.inl (b,wr (a+1)))
def aDG (c d:(Int × Int × Int)) (e:List Int) (f:(Int × Int × Int)) (b:List Int) (a:Int):Option ((List Int × Int) ⊕ (List Int)):=
 if (decide (a < wr ((wr (1+c.1))+d.1))) then (ob (ix e a) fun g=>
 if (g == f.1) then (ob (oV b ([a]:List Int)) fun h=>
 sS a h) else (sS a b)) else (some (.inr b))
def aDH (h:(List UInt8)) (e f:(Int × Int × Int)) (g:List Int) (i j k:(Int × Int × Int)) (b c:Int) (d:List Edge) (a:Int):Option ((Int × Int × List Edge × Int) ⊕ (Int × Int × List Edge)):=
 if (decide (a < wr ((wr (1+e.1))+f.1))) then (ob (ix g a) fun l=>
 if (l != i.1) then (sP a b c d) else (ob (loop (fun (s:(List Int × Int))=>aDG e f g k s.1 s.2) (([]:List Int),0)) fun r=>sQ h j b c d a r)) else (some (.inr (b,c,d)))
def aCP (a:(List UInt8)) (b k:(Int × Int × Int)) (l:((List aF) × Int × Int)) (m:List Int) (g h:Int) (i:List Edge) (j:Int):Option ((Int × Int × List Edge × Int) ⊕ (Int × Int × List Edge)):=
 if (decide (0 < j)) then (ob (cD a g h (wr (1+b.1))) fun c=>
 ob (cD a c.2.1 c.2.2 (l.1.length:Int)) fun d=>
 ob (cD a d.2.1 d.2.2 (wr (1+b.1))) fun e=>
 ob (loop (fun (s:(Int × Int × List Edge × Int))=>aDH a b k m c d e s.1 s.2.1 s.2.2.1 s.2.2.2) (e.2.1,e.2.2,i,0)) fun r=>yZ j r.1 r.2.1 r.2.2) else (some (.inr (g,h,i)))
def qI (a:(List UInt8)) (b e:(Int × Int × Int)) (f:((List aF) × Int × Int)) (g h:Int) (i:List Int):Option (bF × Int × Int):=
 ob (cD a g h (wr (2+(wr (2 * (wr (1+b.1))))))) fun c=>
 ob (loop (fun (s:(Int × Int × List Edge × Int))=>aCP a b e f i s.1 s.2.1 s.2.2.1 s.2.2.2) (c.2.1,c.2.2,([]:List Edge),c.1)) fun r=>sO a b e f r.1 r.2.1 r.2.2
def qJ (a b c:Int) (d:List Int):Option ((Int × Int × List Int × Int) ⊕ (Int × Int × List Int)):=
 some (.inl (b,c,d,wr (a+1)))
def aCQ (g:(List UInt8)) (b h:(Int × Int × Int)) (c d:Int) (e:List Int) (a:Int):Option ((Int × Int × List Int × Int) ⊕ (Int × Int × List Int)):=
 if (decide (a < wr ((wr (1+b.1))+h.1))) then (if (decide (a < wr (1+b.1))) then (ob (oV e ([a]:List Int)) fun i=>
 qJ a c d i) else (ob (cD g c d (wr (1+b.1))) fun f=>
 ob (oV e ([f.1]:List Int)) fun j=>
 qJ a f.2.1 f.2.2 j)) else (some (.inr (c,d,e)))
def aCR (a:(List UInt8)) (f g:Int):Option (bF × Int × Int):=
 ob (cD a f g 4) fun b=>
 ob (cD a b.2.1 b.2.2 (wr (7 - (wr (1+b.1))))) fun c=>
 ob (yW a c.2.1 c.2.2) fun d=>
 ob (loop (fun (s:(Int × Int × List Int × Int))=>aCQ a b c s.1 s.2.1 s.2.2.1 s.2.2.2) (d.2.1,d.2.2,([]:List Int),0)) fun r=>qI a b c d r.1 r.2.1 r.2.2
def zD (a:(bF × Int × Int)) (b:List Edge) (c d:Int):Option (bF × Int × Int):=
 ob (rL a.1.N a.1.I a.1.L b) fun e=>
 some (e,c,d)
def aDI (c:(List UInt8)) (d:(bF × Int × Int)) (e f:Int) (g:List Edge) (h:Int):Option ((Int × Int × List Edge × Int) ⊕ (List Edge × Int × Int)):=
 if (decide (0 < h)) then (ob (cD c e f d.1.N) fun a=>
 ob (cD c a.2.1 a.2.2 d.1.N) fun b=>
 ob (oV g ([⟨a.1,0,b.1⟩]:List Edge)) fun i=>
 some (.inl (b.2.1,b.2.2,i,wr (h - 1)))) else (some (.inr (g,e,f)))
def zF (c:(List UInt8)) (d:(bF × Int × Int)) (e f:Int) (g:List Edge):Option (bF × Int × Int):=
 ob (cD c e f 3) fun a=>
 ob (loop (fun (s:(Int × Int × List Edge × Int))=>aDI c d s.1 s.2.1 s.2.2.1 s.2.2.2) (a.2.1,a.2.2,g,a.1)) fun r=>zD d r.1 r.2.1 r.2.2
def zH (b:List Edge) (c:Int) (a:Edge) (d e f:Int):Option ((Int × Int × List Edge × Int) ⊕ (Int × Int × List Edge)):=
 ob (oV b ([⟨a.F,f,a.To⟩]:List Edge)) fun g=>
 some (.inl (d,e,g,wr (c+1)))
def aDJ (h:(List UInt8)) (e:(bF × Int × Int)) (f g:Int) (c:List Edge) (b:Int):Option ((Int × Int × List Edge × Int) ⊕ (Int × Int × List Edge)):=
 if (decide (b < (e.1.E.length:Int))) then (ob (ix e.1.E b) fun d=>
 ob (rE h f g 3) fun a=>
 if a.1 then (zH c b d a.2.1 a.2.2 0) else (zH c b d a.2.1 a.2.2 d.B)) else (some (.inr (f,g,c)))
def aCS (b:(List UInt8)) (d e:Int):Option (bF × Int × Int):=
 ob (aCR b d e) fun a=>
 ob (loop (fun (s:(Int × Int × List Edge × Int))=>aDJ b a s.1 s.2.1 s.2.2.1 s.2.2.2) (a.2.1,a.2.2,([]:List Edge),0)) fun r=>zF b a r.1 r.2.1 r.2.2
def aEn (c:(List UInt8)) (d e:Int) (b:(List aF)):Option (aF × Int × Int):=
 ob (cD c d e (b.length:Int)) fun a=>
 ob (ix b a.1) fun f=>
 some (f,a.2.1,a.2.2)
def fE (a b:Int) (c:List aF) (d:List Edge) (e f:Int):Option (bF × Int × Int):=
 some (⟨a,b,c,d⟩,e,f)
def aEU (c:(List UInt8)) (n o:Int) (t:bF):Option (bF × Int × Int):=
 ob (aCF t) fun a=>
 ob (rE c n o 8) fun d=>
 if (!d.1) then (some (a,d.2.1,d.2.2)) else (ob (cD c d.2.1 d.2.2 8) fun b=>
 if (b.1 == 0) then (ob (lO c b.2.1 b.2.2 ([0,(-1),41,40,wr (a.N - 1)]:List Int)) fun g=>
 fE g.1 a.I a.L a.E g.2.1 g.2.2) else (if (b.1 == 1) then (ob (lO c b.2.1 b.2.2 ([(-1),a.N]:List Int)) fun h=>
 fE a.N h.1 a.L a.E h.2.1 h.2.2) else (if (b.1 == 2) then (ob (ix a.L 0) fun x=>
 ob (st a.L 0 (([97]:aF):aF)) fun q=>
 fE a.N a.I q a.E b.2.1 b.2.2) else (if (b.1 == 3) then (ob (aEn c b.2.1 b.2.2 ([([116,97,117]:aF),([97]:aF),([122,122]:aF),([65]:aF),([]:aF)]:List aF)) fun i=>
 ob (oV a.L ([i.1]:List aF)) fun r=>
 fE a.N a.I r a.E i.2.1 i.2.2) else (if (b.1 == 4) then (if (decide (0 < (a.E.length:Int))) then (ob (ix a.E 0) fun s=>
 ob (oV a.E ([s]:List Edge)) fun u=>
 fE a.N a.I a.L u b.2.1 b.2.2) else (fE a.N a.I a.L a.E b.2.1 b.2.2)) else (if (b.1 == 5) then (if (decide (0 < (a.E.length:Int))) then (ob (cD c b.2.1 b.2.2 (a.E.length:Int)) fun e=>
 ob (lO c e.2.1 e.2.2 ([(-1),(a.L.length:Int),0]:List Int)) fun j=>
 ob (ix a.E e.1) fun l=>
 ob (st a.E e.1 (⟨l.F,j.1,l.To⟩:Edge)) fun v=>
 fE a.N a.I a.L v j.2.1 j.2.2) else (fE a.N a.I a.L a.E b.2.1 b.2.2)) else (if (b.1 == 6) then (if (decide (0 < (a.E.length:Int))) then (ob (cD c b.2.1 b.2.2 (a.E.length:Int)) fun f=>
 ob (lO c f.2.1 f.2.2 ([(-1),a.N,0]:List Int)) fun k=>
 ob (ix a.E f.1) fun m=>
 ob (st a.E f.1 (⟨m.F,m.B,k.1⟩:Edge)) fun w=>
 fE a.N a.I a.L w k.2.1 k.2.2) else (fE a.N a.I a.L a.E b.2.1 b.2.2)) else (if (b.1 == 7) then (fE a.N a.I ([]:List aF) a.E b.2.1 b.2.2) else (fE a.N a.I a.L a.E b.2.1 b.2.2)))))))))
def aMz (a:(List UInt8)) (d e:Int):Option (bF × (List UInt8) × Int × Int):=
 ob (aCS a d e) fun b=>
 ob (aEU a b.2.1 b.2.2 b.1) fun c=>
 some (c.1,a,c.2.1,c.2.2)
def uP (b:(bF × Int × Int)) (a:bF) (c:List Edge) (d e:Int):Option (bF × bF × Int × Int):=
 some (b.1,⟨a.N,a.I,a.L,c⟩,d,e)
def aAy (a:(bF × Int × Int)) (b:bF) (c:List Edge) (d e f g h:Int):Option (bF × bF × Int × Int):=
 ob (aEk c ⟨d,e,f⟩) fun i=>
 uP a b i g h
def mP (c:(List UInt8)) (g:(bF × Int × Int)) (a:bF) (i j:Int) (h:List Edge):Option (bF × bF × Int × Int):=
 ob (iY c i j 2) fun b=>
 if b.1 then (ob (bX c b.2.1 b.2.2 a.N) fun d=>
 ob (bX c d.2.1 d.2.2 (a.L.length:Int)) fun e=>
 ob (bX c e.2.1 e.2.2 a.N) fun f=>
 aAy g a h d.1 e.1 f.1 f.2.1 f.2.2) else (uP g a h b.2.1 b.2.2)
def mQ (c:(List UInt8)) (d:(bF × Int × Int)) (a:bF) (e f:Int) (g:Bool):Option (bF × bF × Int × Int):=
 if g then (ob (bX c e f (a.E.length:Int)) fun b=>
 ob (nV a.E 0 b.1) fun h=>
 ob (nV a.E (wr (b.1+1)) (a.E.length:Int)) fun i=>
 ob (oV h i) fun j=>
 mP c d a b.2.1 b.2.2 j) else (mP c d a e f a.E)
def mR (b:(List UInt8)) (c:(bF × Int × Int)) (f g:Int) (h:Bool):Option (bF × bF × Int × Int):=
 if h then (ob (aEm b f g) fun d=>
 some (c.1,d.1,d.2.1,d.2.2)) else (ob (aCF c.1) fun e=>
 ob (iY b f g 2) fun a=>
 if a.1 then (mQ b c e a.2.1 a.2.2 (decide (0 < (e.E.length:Int)))) else (mQ b c e a.2.1 a.2.2 false))
def vY (b:(List UInt8)) (d e:Int):Option (bF × bF × Int × Int):=
 ob (aEm b d e) fun a=>
 ob (aET a.1) fun f=>
 if (!f) then (mR b a a.2.1 a.2.2 true) else (ob (iY b a.2.1 a.2.2 5) fun c=>
 mR b a c.2.1 c.2.2 c.1)
def xI (a:List aF) (b c:Int):Option ((List aF) × Int × Int):=
 some (a,b,c)
def qK (c:(List UInt8)) (e f:Int) (d:List aF):Option ((List aF) × Int × Int):=
 ob (iY c e f 20) fun a=>
 if a.1 then (ob (rQ c a.2.1 a.2.2 ([([100,101,108,116,97]:aF),([116,97,117]:aF),([97]:aF),([65]:aF),([122,122]:aF)]:List aF)) fun b=>
 ob (oV d ([b.1]:List aF)) fun g=>
 xI g b.2.1 b.2.2) else (xI d a.2.1 a.2.2)
def kQ (a b c:Int) (d:List aF):Option ((Int × Int × List aF × Int) ⊕ (Int × Int × List aF)):=
 some (.inl (b,c,d,wr (a+1)))
def nA (f:(List UInt8)) (d e:Int) (c:List aF) (b:Int):Option ((Int × Int × List aF × Int) ⊕ (Int × Int × List aF)):=
 if (decide (b < (([([97]:aF),([98]:aF),([103,101,116]:aF),([112,117,116]:aF)]:List aF).length:Int))) then (ob (iY f d e 2) fun a=>
 if a.1 then (ob (ix ([([97]:aF),([98]:aF),([103,101,116]:aF),([112,117,116]:aF)]:List aF) b) fun g=>
 ob (oV c ([g]:List aF)) fun h=>
 kQ b a.2.1 a.2.2 h) else (kQ b a.2.1 a.2.2 c)) else (some (.inr (d,e,c)))
def rF (b:(List UInt8)) (c d:Int):Option ((List aF) × Int × Int):=
 ob (loop (fun (s:(Int × Int × List aF × Int))=>nA b s.1 s.2.1 s.2.2.1 s.2.2.2) (c,d,([]:List aF),0)) fun r=>qK b r.1 r.2.1 r.2.2
def aCT:Option (bF × bF × (List aF)):=
 some (⟨1,0,([([116,97,117]:aF),([97]:aF)]:List aF),([⟨0,1,0⟩]:List Edge)⟩,⟨1,0,([([116,97,117]:aF),([97]:aF)]:List aF),([⟨0,1,0⟩]:List Edge)⟩,([]:List aF))
def aCU:Option (bF × bF × (List aF)):=
 aCT
def tT (c:Int) (b:(bF × bF × Int × Int)) (a:((List aF) × Int × Int)) (d:Bool):Option ((Int × Int × Int) ⊕ (Unit ⊕ (bF × bF × (List aF)))):=
 if d then (some (.inr (.inr (b.1,b.2.1,a.1)))) else (some (.inl (a.2.1,a.2.2,wr (c+1))))
def tU (d:(List UInt8)) (e f c:Int):Option ((Int × Int × Int) ⊕ (Unit ⊕ (bF × bF × (List aF)))):=
 if (decide (c < 6)) then (ob (vY d e f) fun a=>
 ob (rF d a.2.2.1 a.2.2.2) fun b=>
 ob (sK a.1 b.1) fun g=>
 if g then (ob (sK a.2.1 b.1) fun h=>
 tT c a b h) else (tT c a b false)) else (some (.inr (.inl ())))
def aBe (b:(List UInt8)):Option (bF × bF × (List aF)):=
 ob (aIp b) fun c=>
 ob (loop (fun (s:(Int × Int × Int))=>tU b s.1 s.2.1 s.2.2) (c.1,c.2,0)) fun r=>match r with|.inl r=>aCU|.inr r=>some r
def rR (t:bF) (k:Int):Option Bool:=
 ob (rC k 0 (wr (t.N - 1))) fun c=>
 some c
def aJw (i many:Int):Option Bool:=
 ob (rC i 0 (wr (many - 1))) fun b=>
 some b
def qL (a:Int):Option Bool:=
 some (a != a)
def iI (a y:Int):Option Int:=
 ob (qL a) fun d=>
 ob (qL y) fun c=>
 if d then (if c then (some 0) else (some (-1))) else (if c then (some 1) else (if (decide (a < y)) then (some (-1)) else (if (decide (y < a)) then (some 1) else (some 0))))
def aAz:Option Int:=
 some 0
def jG (b:(List Int)) (a:Int):Option (Int ⊕ (Unit ⊕ Int)):=
 if (decide (a < (b.length:Int))) then (ob (ix b a) fun c=>
 if (c != 0) then (some (.inr (.inr c))) else (some (.inl (wr (a+1))))) else (some (.inr (.inl ())))
def vZ (b:(List Int)):Option Int:=
 ob (loop (fun (s:Int)=>jG b s) 0) fun r=>match r with|.inl r=>aAz|.inr r=>some r
def tV (a b:Edge):Option Int:=
 ob (iI a.F b.F) fun e=>
 ob (iI a.B b.B) fun f=>
 ob (iI a.To b.To) fun g=>
 ob (vZ ([e,f,g]:List Int)) fun h=>
 some h
def aGM:Option Bool:=
 some true
def oN (a:Int) (b:Bool):Option (Int ⊕ (Unit ⊕ Bool)):=
 if b then (some (.inr (.inr false))) else (some (.inl (wr (a+1))))
def wA (t:bF) (a:Int):Option (Int ⊕ (Unit ⊕ Bool)):=
 if (decide (a < (t.E.length:Int))) then (ob (ix t.E a) fun c=>
 ob (rR t c.F) fun d=>
 if (!d) then (oN a true) else (ob (rR t c.To) fun e=>
 if (!e) then (oN a true) else (ob (aJw c.B (t.L.length:Int)) fun f=>
 if (!f) then (oN a true) else (if (decide (0 < a)) then (ob (ix t.E (wr (a - 1))) fun g=>
 ob (tV g c) fun h=>
 oN a (decide (0<=h))) else (oN a false))))) else (some (.inr (.inl ())))
def aAK (t:bF):Option Bool:=
 ob (loop (fun (s:Int)=>wA t s) 0) fun r=>match r with|.inl r=>aGM|.inr r=>some r
def rS (a:Int) (b:Bool):Option (Int ⊕ (Unit ⊕ Bool)):=
 if b then (some (.inr (.inr false))) else (some (.inl (wr (a+1))))
def wB (t:bF) (a:Int):Option (Int ⊕ (Unit ⊕ Bool)):=
 if (decide (a < (t.L.length:Int))) then (ob (ix t.L a) fun b=>
 ob (aCc b) fun e=>
 if (!e) then (rS a true) else (if ((b == ([116,97,117]:aF)) != (a == 0)) then (rS a true) else (if (decide (1 < a)) then (ob (ix t.L (wr (a - 1))) fun d=>
 rS a (vJ b d||b == d)) else (rS a false)))) else (some (.inr (.inl ())))
def oO (t:bF) (c:Bool):Option Bool:=
 if c then (some false) else (ob (loop (fun (s:Int)=>wB t s) 0) fun r=>match r with|.inl r=>aAK t|.inr r=>some r)
def nB (t:bF):Option Bool:=
 ob (rC t.N 1 40) fun b=>
 if (!b) then (oO t true) else (ob (rR t t.I) fun c=>
 if (!c) then (oO t true) else (ob (rC (t.L.length:Int) 1 12) fun d=>
 if (!d) then (oO t true) else (oO t (decide (300 < (t.E.length:Int))))))
def aBs (a:aF):Option Bool:=
 ob (xD a) fun b=>
 some (!b)
def kB:Option Int:=
 some (-1)
def dG (b:(List aF)) (a:Int):Option (Int ⊕ (Unit ⊕ Int)):=
 if (decide (a < (b.length:Int))) then (ob (ix b a) fun c=>
 ob (aBs c) fun d=>
 if d then (some (.inr (.inr a))) else (some (.inl (wr (a+1))))) else (some (.inr (.inl ())))
def fG (b:(List aF)):Option Int:=
 ob (loop (fun (s:Int)=>dG b s) 0) fun r=>match r with|.inl r=>kB|.inr r=>some r
def gR (a:(List aF)):Option Bool:=
 ob (fG a) fun b=>
 some (decide (0<=b))
def aEV (a:(List aF)):Option Bool:=
 ob (gR a) fun b=>
 some (!b)
def qM (a:(List aF)):Option Bool:=
 ob (aEV a) fun b=>
 some b
def qN (a:Int) (b:Bool):Option (Int ⊕ (Unit ⊕ Bool)):=
 if b then (some (.inr (.inr false))) else (some (.inl (wr (a+1))))
def nC (b:(List aF)) (a:Int):Option (Int ⊕ (Unit ⊕ Bool)):=
 if (decide (a < (b.length:Int))) then (ob (ix b a) fun c=>
 if (decide (0 < a)) then (ob (ix b (wr (a - 1))) fun d=>
 qN a (vJ c d||c == d)) else (qN a false)) else (some (.inr (.inl ())))
def rG (b:(List aF)):Option Bool:=
 ob (loop (fun (s:Int)=>nC b s) 0) fun r=>match r with|.inl r=>qM b|.inr r=>some r
def aBf (a:aF):Option aF:=
 ob (tF a) fun b=>
 some b.1
def vO (a:aF):Option Bool:=
 ob (aBf a) fun b=>
 some (b == ([100,101,108,116,97]:aF))
def kC:Option Int:=
 some (-1)
def dH (b:(List aF)) (a:Int):Option (Int ⊕ (Unit ⊕ Int)):=
 if (decide (a < (b.length:Int))) then (ob (ix b a) fun c=>
 ob (vO c) fun d=>
 if d then (some (.inr (.inr a))) else (some (.inl (wr (a+1))))) else (some (.inr (.inl ())))
def fH (b:(List aF)):Option Int:=
 ob (loop (fun (s:Int)=>dH b s) 0) fun r=>match r with|.inl r=>kC|.inr r=>some r
def gS (a:(List aF)):Option Bool:=
 ob (fH a) fun b=>
 some (decide (0<=b))
def lV (a:Bool):Option Bool:=
 some a
def fY (t:bF) (b:(List aF)):Option Bool:=
 ob (nB t) fun c=>
 if c then (ob (rG b) fun d=>
 if d then (ob (cV b ([100,101,108,116,97]:aF)) fun e=>
 if (!e) then (ob (gS t.L) fun f=>
 lV (!f)) else (lV false)) else (lV false)) else (lV false)
def aGN (a:List mN):Option (List mN):=
 some a
def wC (t:bF) (d:List mN) (b:Int):Option ((List mN × Int) ⊕ (List mN)):=
 if (decide (b < (t.E.length:Int))) then (ob (ix t.E b) fun c=>
 ob (ix t.L c.B) fun e=>
 ob (oV d ([⟨c.F,e,c.To⟩]:List mN)) fun f=>
 some (.inl (f,wr (b+1)))) else (some (.inr d))
def xJ (t:bF):Option (List mN):=
 ob (loop (fun (s:(List mN × Int))=>wC t s.1 s.2) ([],0)) fun r=>aGN r
def aLL (a:List Int):Option (List Int):=
 some a
def aGv (n:Int) (b:List Int) (a:Int):Option ((List Int × Int) ⊕ (List Int)):=
 if (decide (a < n)) then (ob (oV b ([a]:List Int)) fun d=>
 some (.inl (d,wr (a+1)))) else (some (.inr b))
def aKb (n:Int):Option (List Int):=
 ob (loop (fun (s:(List Int × Int))=>aGv n s.1 s.2) ([],0)) fun r=>aLL r
def aBS (a:List Edge):Option (List Edge):=
 some a
def uQ (a:Int) (b:List Edge):Option ((List Edge × Int) ⊕ (List Edge)):=
 some (.inl (b,wr (a+1)))
def oC (t:bF) (k:Int) (b:List Edge) (a:Int):Option ((List Edge × Int) ⊕ (List Edge)):=
 if (decide (a < (t.E.length:Int))) then (ob (ix t.E a) fun d=>
 if (d.F == k) then (ob (oV b ([d]:List Edge)) fun f=>
 uQ a f) else (uQ a b)) else (some (.inr b))
def uR (t:bF) (k:Int):Option (List Edge):=
 ob (loop (fun (s:(List Edge × Int))=>oC t k s.1 s.2) ([],0)) fun r=>aBS r
def aBt (a b:aF):Option Int:=
 if (a == b) then (some 0) else (if (a == ([116,97,117]:aF)) then (some (-1)) else (if (b == ([116,97,117]:aF)) then (some 1) else (ob (aLD a b) fun e=>
 some e)))
def lW (a:(List aF)):Option (List aF):=
 some a
def fU (a:Int):Option (Int ⊕ (Unit ⊕ (List aF))):=
 some (.inl (wr (a+1)))
def fV (a:List aF) (b:Int):Option (Int ⊕ (Unit ⊕ (List aF))):=
 ob (nV a b (a.length:Int)) fun c=>
 ob (ovw a b (List.replicate c.length ([]:aF))) fun d=>
 ob (nV d 0 b) fun e=>
 some (.inr (.inr e))
def eD (a:Int) (b:List aF) (c:Int):Option ((List aF × Int × Int) ⊕ (List aF × Int)):=
 some (.inl (b,c,wr (a+1)))
def eE (e:Int) (d b:List aF) (c a:Int):Option ((List aF × Int × Int) ⊕ (List aF × Int)):=
 if (decide (a < (d.length:Int))) then (ob (ix d a) fun i=>
 ob (ix b (e+a)) fun f=>
 ob (ix d (wr (a - 1))) fun j=>
 ob (ix b (e+(wr (a - 1)))) fun g=>
 if (!(f == g)) then (ob (ix b c) fun k=>
 ob (st b c (f:aF)) fun h=>
 eD a h (wr (c+1))) else (eD a b c)) else (some (.inr (b,c)))
def eF (b:(List aF)) (a:Int):Option (Int ⊕ (Unit ⊕ (List aF))):=
 if (decide (a < (b.length:Int))) then (ob (ix b a) fun d=>
 ob (ix b (wr (a - 1))) fun e=>
 if (d == e) then (ob (nV b a (b.length:Int)) fun f=>
 ob (loop (fun (s:(List aF × Int × Int))=>eE a f s.1 s.2.1 s.2.2) (b,a,1)) fun r=>fV r.1 r.2) else (fU a)) else (some (.inr (.inl ())))
def dS (a:(List aF)):Option (List aF):=
 if (decide ((a.length:Int) < 2)) then (some a) else (ob (loop (fun (s:Int)=>eF a s) 1) fun r=>match r with|.inl r=>lW a|.inr r=>some r)
def oD (a:List aF):Option (List aF):=
 ob (uI a) fun b=>
 ob (dS b) fun c=>
 some c
def lI (t:bF) (b:(List Edge)) (c:List aF) (a:Int):Option ((List aF × Int) ⊕ (List aF)):=
 if (decide (a < (b.length:Int))) then (ob (ix b a) fun e=>
 ob (ix t.L e.B) fun f=>
 ob (oV c ([f]:List aF)) fun g=>
 some (.inl (g,wr (a+1)))) else (some (.inr c))
def oE (t:bF) (k:Int):Option (List aF):=
 ob (uR t k) fun c=>
 ob (loop (fun (s:(List aF × Int))=>lI t c s.1 s.2) ([],0)) fun r=>oD r
def aEo (a:(List aF)) (b:aF):Option Bool:=
 ob (aBf b) fun c=>
 ob (cV a c) fun d=>
 some d
def sA (a:aF) (p:(List aF)):Option Bool:=
 ob (aEo p a) fun c=>
 some (!c)
def kD:Option Int:=
 some (-1)
def dI (b c:(List aF)) (a:Int):Option (Int ⊕ (Unit ⊕ Int)):=
 if (decide (a < (b.length:Int))) then (ob (ix b a) fun d=>
 ob (sA d c) fun e=>
 if e then (some (.inr (.inr a))) else (some (.inl (wr (a+1))))) else (some (.inr (.inl ())))
def fI (b c:(List aF)):Option Int:=
 ob (loop (fun (s:Int)=>dI b c s) 0) fun r=>match r with|.inl r=>kD|.inr r=>some r
def eS (a b:(List aF)):Option Bool:=
 ob (fI a b) fun c=>
 some (decide (0<=c))
def nD (k:Int) (p:bF) (c:(List aF)):Option Bool:=
 ob (oE p k) fun d=>
 ob (eS d c) fun e=>
 some e
def kY:Option Int:=
 some (-1)
def dN (b:(List Int)) (c:bF) (d:(List aF)) (a:Int):Option (Int ⊕ (Unit ⊕ Int)):=
 if (decide (a < (b.length:Int))) then (ob (ix b a) fun e=>
 ob (nD e c d) fun f=>
 if f then (some (.inr (.inr a))) else (some (.inl (wr (a+1))))) else (some (.inr (.inl ())))
def eG (b:(List Int)) (c:bF) (d:(List aF)):Option Int:=
 ob (loop (fun (s:Int)=>dN b c d s) 0) fun r=>match r with|.inl r=>kY|.inr r=>some r
def iQ (a:List Int) (b:Int):Option (List Int):=
 ob (nV a b (a.length:Int)) fun c=>
 ob (ovw a b (List.replicate c.length (0:Int))) fun d=>
 ob (nV d 0 b) fun e=>
 some e
def dY (a:Int) (b:List Int) (c:Int):Option ((List Int × Int × Int) ⊕ (List Int × Int)):=
 some (.inl (b,c,wr (a+1)))
def dZ (e:bF) (f:(List aF)) (a:List Int) (b c:Int):Option ((List Int × Int × Int) ⊕ (List Int × Int)):=
 if (decide (c < (a.length:Int))) then (ob (ix a c) fun d=>
 ob (nD d e f) fun g=>
 if (!g) then (ob (ix a b) fun i=>
 ob (st a b (d:Int)) fun h=>
 dY c h (wr (b+1))) else (dY c a b)) else (some (.inr (a,b)))
def gH (a:(List Int)) (c:bF) (d:(List aF)):Option (List Int):=
 ob (eG a c d) fun b=>
 if (b == (-1)) then (some a) else (ob (loop (fun (s:(List Int × Int × Int))=>dZ c d s.1 s.2.1 s.2.2) (a,b,wr (b+1))) fun r=>iQ r.1 r.2)
def rH (t:bF) (b:(List aF)):Option (List Int):=
 ob (aKb t.N) fun c=>
 ob (gH c t b) fun d=>
 some d
def jT (a:(List Edge)):Option (List Edge):=
 some a
def eK (a:Int):Option (Int ⊕ (Unit ⊕ (List Edge))):=
 some (.inl (wr (a+1)))
def gI (a:List Edge) (b:Int):Option (Int ⊕ (Unit ⊕ (List Edge))):=
 ob (nV a b (a.length:Int)) fun c=>
 ob (ovw a b (List.replicate c.length (⟨0,0,0⟩:Edge))) fun d=>
 ob (nV d 0 b) fun e=>
 some (.inr (.inr e))
def eL (a:Int) (b:List Edge) (c:Int):Option ((List Edge × Int × Int) ⊕ (List Edge × Int)):=
 some (.inl (b,c,wr (a+1)))
def jU (f:Int) (e b:List Edge) (c a:Int):Option ((List Edge × Int × Int) ⊕ (List Edge × Int)):=
 if (decide (a < (e.length:Int))) then (ob (ix e a) fun i=>
 ob (ix b (f+a)) fun d=>
 ob (ix e (wr (a - 1))) fun j=>
 ob (ix b (f+(wr (a - 1)))) fun g=>
 if (!decide ((d:Edge)=g)) then (ob (ix b c) fun k=>
 ob (st b c (⟨d.F,d.B,d.To⟩:Edge)) fun h=>
 eL a h (wr (c+1))) else (eL a b c)) else (some (.inr (b,c)))
def dB (b:(List Edge)) (a:Int):Option (Int ⊕ (Unit ⊕ (List Edge))):=
 if (decide (a < (b.length:Int))) then (ob (ix b a) fun d=>
 ob (ix b (wr (a - 1))) fun e=>
 if (decide ((d:Edge)=e)) then (ob (nV b a (b.length:Int)) fun f=>
 ob (loop (fun (s:(List Edge × Int × Int))=>jU a f s.1 s.2.1 s.2.2) (b,a,1)) fun r=>gI r.1 r.2) else (eK a)) else (some (.inr (.inl ())))
def dO (a:(List Edge)):Option (List Edge):=
 if (decide ((a.length:Int) < 2)) then (some a) else (ob (loop (fun (s:Int)=>dB a s) 1) fun r=>match r with|.inl r=>jT a|.inr r=>some r)
def aFO (a b:Int) (c:(List aF)) (d:List Edge):Option bF:=
 ob (xA d) fun e=>
 ob (dO e) fun f=>
 some ⟨a,b,c,f⟩
def aBg (c:(List mN)) (e:(List aF)) (d:List Edge) (a:Int):Option ((List Edge × Int) ⊕ (List Edge)):=
 if (decide (a < (c.length:Int))) then (ob (ix c a) fun b=>
 ob (eH e b.label) fun f=>
 ob (oV d ([⟨b.from_,f,b.to_⟩]:List Edge)) fun g=>
 some (.inl (g,wr (a+1)))) else (some (.inr d))
def aCV (b c:Int) (d:(List aF)) (e:(List mN)):Option bF:=
 ob (oV ([([116,97,117]:aF)]:List aF) d) fun f=>
 ob (uI f) fun g=>
 ob (dS g) fun a=>
 ob (loop (fun (s:(List Edge × Int))=>aBg e a s.1 s.2) ([],0)) fun r=>aFO b c a r
def bQ (a:(List aF)):Option (List aF):=
 ob (oV ([]:List aF) a) fun b=>
 some b
def aBD (a b:Int) (c:List aF) (d:List Edge):Option bF:=
 some ⟨a,b,c,d⟩
def oX (t:bF) (c:List mN):Option bF:=
 ob (bQ t.L) fun d=>
 ob (oV d ([([100,101,108,116,97]:aF)]:List aF)) fun e=>
 ob (aCV t.N t.I e c) fun a=>
 aBD a.N a.I a.L a.E
def lX (b:(List Int)) (c:List mN) (a:Int):Option ((List mN × Int) ⊕ (List mN)):=
 if (decide (a < (b.length:Int))) then (ob (ix b a) fun d=>
 ob (oV c ([⟨d,([100,101,108,116,97]:aF),d⟩]:List mN)) fun e=>
 some (.inl (e,wr (a+1)))) else (some (.inr c))
def gX (t:bF) (b:(List aF)):Option bF:=
 ob (xJ t) fun c=>
 ob (rH t b) fun d=>
 ob (loop (fun (s:(List mN × Int))=>lX d s.1 s.2) (c,0)) fun r=>oX t r
def aIq (t:bF):Option (bF × Int):=
 ob (nB t) fun b=>
 if (!b) then (some (⟨0,0,[],[]⟩,5)) else (some (t,0))
def nP (t:bF) (c:(List aF)):Option (bF × Int):=
 ob (fY t c) fun e=>
 if (!e) then (some (⟨0,0,[],[]⟩,1)) else (ob (gX t c) fun a=>
 ob (aIq ⟨a.N,a.I,a.L,a.E⟩) fun d=>
 some (d.1,d.2))
def oF:Option Int:=
 some (-1)
def iA (b:(List Int)) (c a:Int):Option (Int ⊕ (Unit ⊕ Int)):=
 if (decide (a < (b.length:Int))) then (ob (ix b a) fun d=>
 if (c == d) then (some (.inr (.inr a))) else (some (.inl (wr (a+1))))) else (some (.inr (.inl ())))
def gD (b:(List Int)) (c:Int):Option Int:=
 ob (loop (fun (s:Int)=>iA b c s) 0) fun r=>match r with|.inl r=>oF|.inr r=>some r
def fJ (a:(List Int)) (b:Int):Option Bool:=
 ob (gD a b) fun c=>
 some (decide (0<=c))
def nE (a:(List Int)):Option (List Int):=
 some a
def gJ (a:Int):Option (Int ⊕ (Unit ⊕ (List Int))):=
 some (.inl (wr (a+1)))
def gK (a:List Int) (b:Int):Option (Int ⊕ (Unit ⊕ (List Int))):=
 ob (nV a b (a.length:Int)) fun c=>
 ob (ovw a b (List.replicate c.length (0:Int))) fun d=>
 ob (nV d 0 b) fun e=>
 some (.inr (.inr e))
def eT (a:Int) (b:List Int) (c:Int):Option ((List Int × Int × Int) ⊕ (List Int × Int)):=
 some (.inl (b,c,wr (a+1)))
def eU (e:Int) (d b:List Int) (c a:Int):Option ((List Int × Int × Int) ⊕ (List Int × Int)):=
 if (decide (a < (d.length:Int))) then (ob (ix d a) fun i=>
 ob (ix b (e+a)) fun f=>
 ob (ix d (wr (a - 1))) fun j=>
 ob (ix b (e+(wr (a - 1)))) fun g=>
 if (f != g) then (ob (ix b c) fun k=>
 ob (st b c (f:Int)) fun h=>
 eT a h (wr (c+1))) else (eT a b c)) else (some (.inr (b,c)))
def eV (b:(List Int)) (a:Int):Option (Int ⊕ (Unit ⊕ (List Int))):=
 if (decide (a < (b.length:Int))) then (ob (ix b a) fun d=>
 ob (ix b (wr (a - 1))) fun e=>
 if (d == e) then (ob (nV b a (b.length:Int)) fun f=>
 ob (loop (fun (s:(List Int × Int × Int))=>eU a f s.1 s.2.1 s.2.2) (b,a,1)) fun r=>gK r.1 r.2) else (gJ a)) else (some (.inr (.inl ())))
def dL (a:(List Int)):Option (List Int):=
 if (decide ((a.length:Int) < 2)) then (some a) else (ob (loop (fun (s:Int)=>eV a s) 1) fun r=>match r with|.inl r=>nE a|.inr r=>some r)
def nR (a:List Int):Option (List Int):=
 ob (xS a) fun b=>
 ob (dL b) fun c=>
 some c
def lR (a:Int) (b:List Int):Option ((List Int × Int) ⊕ (List Int)):=
 some (.inl (b,wr (a+1)))
def nS (a:List Int) (b:Int) (c:Edge) (d:Bool):Option ((List Int × Int) ⊕ (List Int)):=
 if d then (ob (oV a ([c.To]:List Int)) fun e=>
 lR b e) else (lR b a)
def gT (t:bF) (e:(List Int)) (f:aF) (d:List Int) (a:Int):Option ((List Int × Int) ⊕ (List Int)):=
 if (decide (a < (t.E.length:Int))) then (ob (ix t.E a) fun b=>
 ob (ix t.L b.B) fun g=>
 if (g == f) then (ob (fJ e b.F) fun h=>
 nS d a b h) else (nS d a b false)) else (some (.inr d))
def iB (t:bF) (b:(List Int)) (c:aF):Option (List Int):=
 ob (loop (fun (s:(List Int × Int))=>gT t b c s.1 s.2) ([],0)) fun r=>nR r
def iU (a:(List Int)):Option (List Int):=
 ob (oV ([]:List Int) a) fun b=>
 some b
def sT (a:List Int):Option (List Int):=
 ob (xS a) fun b=>
 some b
def sU (a:Int) (b:List Int):Option ((List Int × Int) ⊕ (List Int)):=
 some (.inl (b,wr (a+1)))
def zJ (a:Int) (b:List Int):Option ((List Int × Int) ⊕ (List Int)):=
 sU a b
def oG (a:Int) (b:List Int):Option ((List Int × Int) ⊕ (List Int)):=
 some (.inl (b,wr (a+1)))
def lP (c:(List Int)) (a:List Int) (b:Int):Option ((List Int × Int) ⊕ (List Int)):=
 if (decide (b < (c.length:Int))) then (ob (ix c b) fun d=>
 ob (fJ a d) fun e=>
 if (!e) then (ob (oV a ([d]:List Int)) fun f=>
 oG b f) else (oG b a)) else (some (.inr a))
def oH (t:bF) (a:List Int) (b:Int):Option ((List Int × Int) ⊕ (List Int)):=
 if (decide (b < (a.length:Int))) then (ob (ix a b) fun d=>
 ob (iB t ([d]:List Int) ([116,97,117]:aF)) fun e=>
 ob (loop (fun (s:(List Int × Int))=>lP e s.1 s.2) (a,0)) fun r=>zJ b r) else (some (.inr a))
def jV (t:bF) (b:(List Int)):Option (List Int):=
 ob (iU b) fun c=>
 ob (loop (fun (s:(List Int × Int))=>oH t s.1 s.2) (c,0)) fun r=>sT r
def aGO (a:List aF):Option (List aF):=
 some a
def aAL (b:(List mN)) (c:List aF) (a:Int):Option ((List aF × Int) ⊕ (List aF)):=
 if (decide (a < (b.length:Int))) then (ob (ix b a) fun d=>
 ob (oV c ([d.label]:List aF)) fun e=>
 some (.inl (e,wr (a+1)))) else (some (.inr c))
def aCW (a:(List mN)):Option (List aF):=
 ob (loop (fun (s:(List aF × Int))=>aAL a s.1 s.2) ([],0)) fun r=>aGO r
def oI (a:(List Int)):Option aF:=
 ob (aEh a ([44]:aF)) fun b=>
 some b
def jP (t:bF) (b:(List Int)) (c:aF):Option (List Int):=
 ob (iB t b c) fun d=>
 ob (jV t d) fun e=>
 some e
def kR (a:Int) (b:List (List Int)) (c:(List (aF × Int))):Option (Int × (List (List Int)) × (List (aF × Int))):=
 some (a,b,c)
def eM (a:(List (List Int))) (b:(List (aF × Int))) (g:(List mN)) (d:(List Int)):Option (Int × (List (List Int)) × (List (aF × Int))):=
 ob (oI d) fun c=>
 if (!((oL b c).isSome)) then (ob (some (yG b c (a.length:Int))) fun e=>
 ob (oV a ([d]:List (List Int))) fun f=>
 kR (a.length:Int) f e) else (kR ((oL b c).getD 0) a b)
def nL (a:List (List Int)) (b:(List (aF × Int))) (c:List mN):Option ((List (List Int)) × (List (aF × Int)) × (List mN)):=
 some (a,b,c)
def jW (c:aF) (d:(List Int)) (e:(List (List Int))) (f:(List (aF × Int))) (b:(List mN)) (p:Int):Option ((List (List Int)) × (List (aF × Int)) × (List mN)):=
 ob (eM e f b d) fun a=>
 ob (oV b ([⟨p,c,a.1⟩]:List mN)) fun h=>
 nL a.2.1 a.2.2 h
def pN (a:List (List Int)) (b:(List (aF × Int))) (c:List mN):Option (Bool × (List (List Int)) × (List (aF × Int)) × (List mN)):=
 some (true,a,b,c)
def iE (a:Int) (b:List (List Int)) (c:(List (aF × Int))) (d:List mN):Option ((List (List Int) × (List (aF × Int)) × List mN × Int) ⊕ (List (List Int) × (List (aF × Int)) × List mN)):=
 some (.inl (b,c,d,wr (a+1)))
def iF (i:(List Int)) (j:Int) (p:bF) (f:List aF) (b:List (List Int)) (c:(List (aF × Int))) (d:List mN) (a:Int):Option ((List (List Int) × (List (aF × Int)) × List mN × Int) ⊕ (List (List Int) × (List (aF × Int)) × List mN)):=
 if (decide (a < (f.length:Int))) then (ob (ix f a) fun g=>
 ob (jP p i g) fun h=>
 if (decide (0 < (h.length:Int))) then (ob (jW g h b c d j) fun e=>
 iE a e.1 e.2.1 e.2.2) else (iE a b c d)) else (some (.inr (b,c,d)))
def lJ (c:(List Int)) (d:(List (List Int))) (e:(List (aF × Int))) (f:(List mN)) (g:Int) (p:bF):Option (Bool × (List (List Int)) × (List (aF × Int)) × (List mN)):=
 ob (nV p.L 1 (p.L.length:Int)) fun h=>
 ob (loop (fun (s:(List (List Int) × (List (aF × Int)) × List mN × Int))=>iF c g p h s.1 s.2.1 s.2.2.1 s.2.2.2) (d,e,f,0)) fun r=>pN r.1 r.2.1 r.2.2
def mD (e:List (List Int)) (a b:Int) (c:List aF) (d:List Edge):Option (bF × (List (List Int)) × Bool):=
 ob (nB ⟨a,b,c,d⟩) fun f=>
 some (⟨a,b,c,d⟩,e,f)
def jX (b:List (List Int)) (e:(List (aF × Int))) (c:List mN):Option (bF × (List (List Int)) × Bool):=
 ob (aCW c) fun d=>
 ob (aCV (b.length:Int) 0 d c) fun a=>
 mD b a.N a.I a.L a.E
def jY (b:Int) (a:(Bool × (List (List Int)) × (List (aF × Int)) × (List mN))) (c:Bool):Option ((List (List Int) × (List (aF × Int)) × List mN × Int) ⊕ ((List (List Int) × (List (aF × Int)) × List mN) ⊕ (bF × (List (List Int)) × Bool))):=
 if c then (some (.inr (.inr (⟨0,0,[],[]⟩,[],false)))) else (some (.inl (a.2.1,a.2.2.1,a.2.2.2,wr (b+1))))
def dC (f:bF) (b:List (List Int)) (d:(List (aF × Int))) (e:List mN) (a:Int):Option ((List (List Int) × (List (aF × Int)) × List mN × Int) ⊕ ((List (List Int) × (List (aF × Int)) × List mN) ⊕ (bF × (List (List Int)) × Bool))):=
 if (decide (a < (b.length:Int))) then (ob (ix b a) fun g=>
 ob (lJ g b d e a f) fun c=>
 if (!c.1) then (jY a c true) else (jY a c (decide (40 < (c.2.1.length:Int))))) else (some (.inr (.inl (b,d,e))))
def lY (c:(List Int)) (d:bF):Option (bF × (List (List Int)) × Bool):=
 ob (eM [] ([]:(List (aF × Int))) [] c) fun b=>
 ob (loop (fun (s:(List (List Int) × (List (aF × Int)) × List mN × Int))=>dC d s.1 s.2.1 s.2.2.1 s.2.2.2) (b.2.1,b.2.2,[],0)) fun r=>match r with|.inl r=>jX r.1 r.2.1 r.2.2|.inr r=>some r
def lQ (t:bF):Option (bF × (List (List Int)) × Bool):=
 ob (jV t ([t.I]:List Int)) fun c=>
 ob (lY c t) fun b=>
 if (!b.2.2) then (some (⟨0,0,[],[]⟩,[],false)) else (ob (xJ b.1) fun d=>
 ob (aCV b.1.N 0 t.L d) fun e=>
 some (e,b.2.1,true))
def aAA (t:bF):Option (bF × (List (List Int)) × Int):=
 ob (nB t) fun c=>
 if (!c) then (some (⟨0,0,[],[]⟩,[],1)) else (ob (lQ t) fun a=>
 if (!a.2.2) then (some (⟨0,0,[],[]⟩,[],5)) else (some (a.1,a.2.1,0)))
def gZ (t:bF) (d:(List aF)):Option (bF × (List (List Int)) × Int):=
 ob (nP t d) fun a=>
 if (a.2 != 0) then (some (⟨0,0,[],[]⟩,[],a.2)) else (ob (aAA a.1) fun b=>
 some (b.1,b.2.1,b.2.2))
def tW (t:bF) (k:Int) (d:aF):Option Int:=
 if (decide (k < 0)) then (some (-1)) else (ob (iB t ([k]:List Int) d) fun b=>
 if (decide (0 < (b.length:Int))) then (ob (ix b 0) fun e=>
 some e) else (some (-1)))
def zN (a:aF) (p:(List aF)):Option Bool:=
 ob (cV p a) fun c=>
 some c
def kE:Option Int:=
 some (-1)
def dJ (b c:(List aF)) (a:Int):Option (Int ⊕ (Unit ⊕ Int)):=
 if (decide (a < (b.length:Int))) then (ob (ix b a) fun d=>
 ob (zN d c) fun e=>
 if e then (some (.inr (.inr a))) else (some (.inl (wr (a+1))))) else (some (.inr (.inl ())))
def dU (b c:(List aF)):Option Int:=
 ob (loop (fun (s:Int)=>dJ b c s) 0) fun r=>match r with|.inl r=>kE|.inr r=>some r
def iD (a:List aF) (b:Int):Option (List aF):=
 ob (nV a b (a.length:Int)) fun c=>
 ob (ovw a b (List.replicate c.length ([]:aF))) fun d=>
 ob (nV d 0 b) fun e=>
 some e
def dP (a:Int) (b:List aF) (c:Int):Option ((List aF × Int × Int) ⊕ (List aF × Int)):=
 some (.inl (b,c,wr (a+1)))
def dQ (e:(List aF)) (a:List aF) (b c:Int):Option ((List aF × Int × Int) ⊕ (List aF × Int)):=
 if (decide (c < (a.length:Int))) then (ob (ix a c) fun d=>
 ob (zN d e) fun f=>
 if (!f) then (ob (ix a b) fun h=>
 ob (st a b (d:aF)) fun g=>
 dP c g (wr (b+1))) else (dP c a b)) else (some (.inr (a,b)))
def fW (a c:(List aF)):Option (List aF):=
 ob (dU a c) fun b=>
 if (b == (-1)) then (some a) else (ob (loop (fun (s:(List aF × Int × Int))=>dQ c s.1 s.2.1 s.2.2) (a,b,wr (b+1))) fun r=>iD r.1 r.2)
def aGw (a b:(List aF)):Option (List aF):=
 ob (bQ a) fun c=>
 ob (fW c b) fun d=>
 some d
def oY (a:Bool):Option Bool:=
 some a
def kT (a:aF) (p:(List aF)) (c:bF) (d:(List Int)):Option Bool:=
 ob (aEo p a) fun e=>
 if e then (oY true) else (ob (iB c d a) fun f=>
 oY ((f.length:Int) == 0))
def kF:Option Int:=
 some (-1)
def dK (b c:(List aF)) (d:bF) (e:(List Int)) (a:Int):Option (Int ⊕ (Unit ⊕ Int)):=
 if (decide (a < (b.length:Int))) then (ob (ix b a) fun f=>
 ob (kT f c d e) fun g=>
 if g then (some (.inr (.inr a))) else (some (.inl (wr (a+1))))) else (some (.inr (.inl ())))
def dV (b c:(List aF)) (d:bF) (e:(List Int)):Option Int:=
 ob (loop (fun (s:Int)=>dK b c d e s) 0) fun r=>match r with|.inl r=>kF|.inr r=>some r
def gL (a:List aF) (b:Int):Option (List aF):=
 ob (nV a b (a.length:Int)) fun c=>
 ob (ovw a b (List.replicate c.length ([]:aF))) fun d=>
 ob (nV d 0 b) fun e=>
 some e
def dD (a:Int) (b:List aF) (c:Int):Option ((List aF × Int × Int) ⊕ (List aF × Int)):=
 some (.inl (b,c,wr (a+1)))
def dE (e:(List aF)) (f:bF) (g:(List Int)) (a:List aF) (b c:Int):Option ((List aF × Int × Int) ⊕ (List aF × Int)):=
 if (decide (c < (a.length:Int))) then (ob (ix a c) fun d=>
 ob (kT d e f g) fun h=>
 if (!h) then (ob (ix a b) fun j=>
 ob (st a b (d:aF)) fun i=>
 dD c i (wr (b+1))) else (dD c a b)) else (some (.inr (a,b)))
def fB (a c:(List aF)) (d:bF) (e:(List Int)):Option (List aF):=
 ob (dV a c d e) fun b=>
 if (b == (-1)) then (some a) else (ob (loop (fun (s:(List aF × Int × Int))=>dE c d e s.1 s.2.1 s.2.2) (a,b,wr (b+1))) fun r=>gL r.1 r.2)
def rT (t:bF) (b:(List aF)) (c:(List Int)):Option (List aF):=
 ob (nV t.L 1 (t.L.length:Int)) fun d=>
 ob (bQ d) fun e=>
 ob (fB e b t c) fun f=>
 some f
def mE (b c:bF) (a:(List aF)) (d e:(List Int)):Option (List aF):=
 ob (rT c a e) fun f=>
 ob (rT b a d) fun g=>
 ob (aGw f g) fun h=>
 some h
def aFP (a:List Int):Option (List Int):=
 some a
def nF (t:bF) (b:(List aF)) (c:List Int) (a:Int):Option ((List Int × Int) ⊕ (List Int)):=
 if (decide (a < (b.length:Int))) then (ob (ix b a) fun e=>
 ob (jP t c e) fun f=>
 some (.inl (f,wr (a+1)))) else (some (.inr c))
def jH (t:bF) (b:(List aF)):Option (List Int):=
 ob (jV t ([t.I]:List Int)) fun c=>
 ob (loop (fun (s:(List Int × Int))=>nF t b s.1 s.2) (c,0)) fun r=>aFP r
def mJ (a:List aF):Option (List aF):=
 some a
def bT (b:(List (List aF))) (c:List aF) (a:Int):Option ((List aF × Int) ⊕ (List aF)):=
 if (decide (a < (b.length:Int))) then (ob (ix b a) fun d=>
 ob (oV c d) fun e=>
 some (.inl (e,wr (a+1)))) else (some (.inr c))
def gC (a:(List (List aF))) (b:Int):Option (List aF):=
 ob (aGt [] b) fun c=>
 ob (loop (fun (s:(List aF × Int))=>bT a s.1 s.2) (c,0)) fun r=>mJ r
def eQ (a b:Int):Option ((Int × Int) ⊕ Int):=
 some (.inl (b,wr (a+1)))
def bO (c:(List (List aF))) (a b:Int):Option ((Int × Int) ⊕ Int):=
 if (decide (b < (c.length:Int))) then (ob (ix c b) fun d=>
 if (decide (wr (a+(d.length:Int)) < 0)) then (none) else (eQ b (wr (a+(d.length:Int))))) else (some (.inr a))
def cG (a:(List (List aF))):Option (List aF):=
 ob (loop (fun (s:(Int × Int))=>bO a s.1 s.2) (0,0)) fun r=>gC a r
def pO (a:Bool):Option Bool:=
 some a
def oP (p q:Int) (c d:bF) (e:(List aF)) (f g:(List (List Int))):Option Bool:=
 if (decide (0<=p)) then (if (decide (0<=q)) then (ob (ix f p) fun h=>
 ob (ix g q) fun i=>
 ob (mE c d e h i) fun j=>
 pO (decide (0 < (j.length:Int)))) else (pO false)) else (pO false)
def aFn:Option ((List aF) × Bool):=
 some ([],false)
def wP (a:(List ((Int × Int) × Bool))) (b:List aS):Option (((List ((Int × Int) × Bool)) × List aS) ⊕ (Unit ⊕ ((List aF) × Bool))):=
 some (.inl (a,b))
def aBu (a:(List ((Int × Int) × Bool))) (b:List aS):Option (((List ((Int × Int) × Bool)) × List aS) ⊕ (Unit ⊕ ((List aF) × Bool))):=
 wP a b
def wQ (a:Int) (b:List aS):Option ((List aS × Int) ⊕ (List aS)):=
 some (.inl (b,wr (a+1)))
def iZ (a b:bF) (f:List aF) (c:aS) (g:List aS) (d:Int):Option ((List aS × Int) ⊕ (List aS)):=
 if (decide (d < (f.length:Int))) then (ob (ix f d) fun e=>
 ob (tW a c.a e) fun j=>
 ob (tW b c.b e) fun k=>
 ob (bQ c.trace) fun l=>
 ob (oV l ([e]:List aF)) fun m=>
 ob (oV g ([⟨j,k,m⟩]:List aS)) fun n=>
 wQ d n) else (some (.inr g))
def kG (a b h i:bF) (j:(List aF)) (k l:(List (List Int))) (m:List aF) (d:(List ((Int × Int) × Bool))) (c:aS) (e:List aS) (n:Bool):Option (((List ((Int × Int) × Bool)) × List aS) ⊕ (Unit ⊕ ((List aF) × Bool))):=
 if n then (wP d e) else (ob (some (yG d ⟨c.a,c.b⟩ true)) fun o=>
 ob (oP c.a c.b h i j k l) fun p=>
 if p then (some (.inr (.inr (c.trace,true)))) else (ob (loop (fun (s:(List aS × Int))=>iZ a b m c s.1 s.2) (e,0)) fun r=>aBu o r))
def gU (a b h i:bF) (j:(List aF)) (k l:(List (List Int))) (m:List aF) (d:(List ((Int × Int) × Bool))) (e:List aS):Option (((List ((Int × Int) × Bool)) × List aS) ⊕ (Unit ⊕ ((List aF) × Bool))):=
 if (decide (0 < (e.length:Int))) then (ob (ix e 0) fun c=>
 ob (nV e 1 (e.length:Int)) fun n=>
 if (decide (c.a < 0)) then (if (decide (c.b < 0)) then (kG a b h i j k l m d c n true) else (kG a b h i j k l m d c n ((oL d ⟨c.a,c.b⟩).getD false))) else (kG a b h i j k l m d c n ((oL d ⟨c.a,c.b⟩).getD false))) else (some (.inr (.inl ())))
def uS (a b g h:bF) (i:(List aF)) (j k:(List (List Int))):Option ((List aF) × Bool):=
 ob (cG ([a.L,b.L]:List (List aF))) fun l=>
 ob (aCV 1 0 l []) fun f=>
 ob (nV f.L 1 (f.L.length:Int)) fun m=>
 ob (loop (fun (s:((List ((Int × Int) × Bool)) × List aS))=>gU a b g h i j k m s.1 s.2) (([]:(List ((Int × Int) × Bool))),([⟨a.I,b.I,[]⟩]:List aS))) fun r=>match r with|.inl r=>aFn|.inr r=>some r
def aAM (l:(List aF)) (a b:(bF × (List (List Int)) × Int)) (d e:Int) (f:List aF) (g:List Edge) (h i:Int) (j:List aF) (k:List Edge):Option (Bool × (List aF) × aF × Int):=
 ob (uS ⟨a.1.N,a.1.I,a.1.L,a.1.E⟩ ⟨b.1.N,b.1.I,b.1.L,b.1.E⟩ ⟨d,e,f,g⟩ ⟨h,i,j,k⟩ l a.2.1 b.2.1) fun c=>
 if (!c.2) then (some (true,[],([]:aF),0)) else (ob (jH ⟨d,e,f,g⟩ c.1) fun m=>
 ob (jH ⟨h,i,j,k⟩ c.1) fun n=>
 ob (mE ⟨d,e,f,g⟩ ⟨h,i,j,k⟩ l m n) fun o=>
 ob (ix o 0) fun p=>
 some (false,c.1,p,0))
def wD (d e:bF) (c:(List aF)) (f g:(bF × (List (List Int)) × Int)) (h:Bool):Option (Bool × (List aF) × aF × Int):=
 if h then (some (false,[],([]:aF),5)) else (ob (gX d c) fun a=>
 ob (gX e c) fun b=>
 aAM c f g a.N a.I a.L a.E b.N b.I b.L b.E)
def rU (b c:bF) (a:(List aF)) (f:Bool):Option (Bool × (List aF) × aF × Int):=
 if f then (some (false,[],([]:aF),1)) else (ob (gZ b a) fun d=>
 ob (gZ c a) fun e=>
 if (d.2.2 != 0) then (wD b c a d e true) else (wD b c a d e (e.2.2 != 0)))
def kU (b c:bF) (a:(List aF)):Option (Bool × (List aF) × aF × Int):=
 ob (fY b a) fun d=>
 if (!d) then (rU b c a true) else (ob (fY c a) fun e=>
 rU b c a (!e))
def zO (a:Bool):Option Bool:=
 some a
def xZ (a:aF) (b:(List aF)):Option Bool:=
 if (!(a == ([116,97,117]:aF))) then (ob (tI a) fun c=>
 ob (xW b c) fun d=>
 zO (decide (d < 0))) else (zO false)
def aGP:Option Bool:=
 some true
def wE (a:Int) (b:Bool):Option (Int ⊕ (Unit ⊕ Bool)):=
 if b then (some (.inr (.inr false))) else (some (.inl (wr (a+1))))
def wF (t:bF) (d:(List aF)) (e a:Int):Option (Int ⊕ (Unit ⊕ Bool)):=
 if (decide (a < (t.E.length:Int))) then (ob (ix t.E a) fun c=>
 if (c.F == e) then (if (c.B == 0) then (wE a true) else (ob (ix t.L c.B) fun f=>
 ob (xZ f d) fun g=>
 wE a g)) else (wE a false)) else (some (.inr (.inl ())))
def aCX (t:bF) (c:(List aF)) (d:Int):Option Bool:=
 ob (loop (fun (s:Int)=>wF t c d s) 0) fun r=>match r with|.inl r=>aGP|.inr r=>some r
def wR (a b:Int) (c:List aF) (d:List Edge):Option (bF × Bool):=
 ob (aET ⟨a,b,c,d⟩) fun e=>
 some (⟨a,b,c,d⟩,e)
def wS (t:bF) (c:List aF) (d:List Edge):Option (bF × Bool):=
 ob (rL t.N t.I c d) fun a=>
 wR a.N a.I a.L a.E
def rI (a:Int) (b:List Edge):Option ((List Edge × Int) ⊕ (List Edge)):=
 some (.inl (b,wr (a+1)))
def nT (t:bF) (d:(List aF)) (e:List aF) (b:List Edge) (a:Int):Option ((List Edge × Int) ⊕ (List Edge)):=
 if (decide (a < t.N)) then (ob (aCX t d a) fun f=>
 if f then (ob (oV b ([⟨a,wr ((e.length:Int) - 1),a⟩]:List Edge)) fun g=>
 rI a g) else (rI a b)) else (some (.inr b))
def uT (t:bF) (c:(List aF)):Option (bF × Bool):=
 ob (oV ([]:List aF) t.L) fun d=>
 ob (oV d ([([100,101,108,116,97]:aF)]:List aF)) fun b=>
 ob (oV ([]:List Edge) t.E) fun e=>
 ob (loop (fun (s:(List Edge × Int))=>nT t c b s.1 s.2) (e,0)) fun r=>wS t b r
def aGQ (a:List Bool):Option (List Bool):=
 some a
def aAN (c:(List Int)) (a:List Bool) (b:Int):Option ((List Bool × Int) ⊕ (List Bool)):=
 if (decide (b < (c.length:Int))) then (ob (ix c b) fun d=>
 ob (ix a d) fun f=>
 ob (st a d (true:Bool)) fun e=>
 some (.inl (e,wr (b+1)))) else (some (.inr a))
def aCY (t:bF) (b:(List Int)):Option (List Bool):=
 ob (mkz t.N (false:Bool)) fun c=>
 ob (loop (fun (s:(List Bool × Int))=>aAN b s.1 s.2) (c,0)) fun r=>aGQ r
def aGR (a:List Bool):Option (List Bool):=
 some a
def aAO (a:List Bool) (b:Bool):Option ((List Bool × Bool) ⊕ (List Bool)):=
 some (.inl (a,b))
def aDY (a:List Bool) (b:Bool):Option ((List Bool × Bool) ⊕ (List Bool)):=
 aAO a b
def wG (a:Int) (b:List Bool) (c:Bool):Option ((List Bool × Bool × Int) ⊕ (List Bool × Bool)):=
 some (.inl (b,c,wr (a+1)))
def rV (a:List Bool) (d:Bool) (b:Int) (c:Edge) (e:Bool):Option ((List Bool × Bool × Int) ⊕ (List Bool × Bool)):=
 if e then (ob (ix a c.To) fun g=>
 ob (st a c.To (true:Bool)) fun f=>
 wG b f true) else (wG b a d)
def wH (t:bF) (a:List Bool) (d:Bool) (c:Int):Option ((List Bool × Bool × Int) ⊕ (List Bool × Bool)):=
 if (decide (c < (t.E.length:Int))) then (ob (ix t.E c) fun b=>
 if (b.B == 0) then (ob (ix a b.F) fun f=>
 if f then (ob (ix a b.To) fun g=>
 rV a d c b (!g)) else (rV a d c b false)) else (rV a d c b false)) else (some (.inr (a,d)))
def rW (t:bF) (a:List Bool) (d:Bool):Option ((List Bool × Bool) ⊕ (List Bool)):=
 if d then (ob (loop (fun (s:(List Bool × Bool × Int))=>wH t s.1 s.2.1 s.2.2) (a,false,0)) fun r=>aDY r.1 r.2) else (some (.inr a))
def xK (t:bF) (b:(List Bool)):Option (List Bool):=
 ob (loop (fun (s:(List Bool × Bool))=>rW t s.1 s.2) (b,true)) fun r=>aGR r
def aHN (a:List Int):Option (List Int):=
 some a
def zQ (a:Int) (b:List Int):Option ((List Int × Int) ⊕ (List Int)):=
 some (.inl (b,wr (a+1)))
def zU (c:(List Bool)) (b:List Int) (a:Int):Option ((List Int × Int) ⊕ (List Int)):=
 if (decide (a < (c.length:Int))) then (ob (ix c a) fun d=>
 if d then (ob (oV b ([a]:List Int)) fun e=>
 zQ a e) else (zQ a b)) else (some (.inr b))
def aAB (a:(List Bool)):Option (List Int):=
 ob (loop (fun (s:(List Int × Int))=>zU a s.1 s.2) (([]:List Int),0)) fun r=>aHN r
def tX (t:bF):Option (List Int):=
 ob (aCY t ([t.I]:List Int)) fun b=>
 ob (xK t b) fun c=>
 ob (aAB c) fun d=>
 some d
def aIR:Option Bool:=
 some false
def aDK (b:(List Int)) (n a:Int):Option (Int ⊕ (Unit ⊕ Bool)):=
 if (decide (a < (b.length:Int))) then (ob (ix b a) fun d=>
 if (d == n) then (some (.inr (.inr true))) else (some (.inl (wr (a+1))))) else (some (.inr (.inl ())))
def aEp (b:(List Int)) (n:Int):Option Bool:=
 ob (loop (fun (s:Int)=>aDK b n s) 0) fun r=>match r with|.inl r=>aIR|.inr r=>some r
def aBT (t:bF) (b:List Bool):Option (List Int):=
 ob (xK t b) fun c=>
 ob (aAB c) fun d=>
 some d
def zV (a:Int) (b:List Bool):Option ((List Bool × Int) ⊕ (List Bool)):=
 some (.inl (b,wr (a+1)))
def zW (t:bF) (a:List Bool) (b:Int) (e:Bool):Option ((List Bool × Int) ⊕ (List Bool)):=
 if e then (ob (ix t.E b) fun c=>
 ob (ix a c.To) fun g=>
 ob (st a c.To (true:Bool)) fun f=>
 zV b f) else (zV b a)
def uU (t:bF) (e:(List Int)) (f:Int) (c:List Bool) (b:Int):Option ((List Bool × Int) ⊕ (List Bool)):=
 if (decide (b < (t.E.length:Int))) then (ob (ix t.E b) fun d=>
 if (d.B == f) then (ob (aEp e d.F) fun g=>
 zW t c b g) else (zW t c b false)) else (some (.inr c))
def yA (t:bF) (b:(List Int)) (c:Int):Option (List Int):=
 ob (mkz t.N (false:Bool)) fun d=>
 ob (loop (fun (s:(List Bool × Int))=>uU t b c s.1 s.2) (d,0)) fun r=>aBT t r
def aHO:Option Bool:=
 some true
def aBU (a b:(List Int)) (c:Int):Option (Int ⊕ (Unit ⊕ Bool)):=
 if (decide (c < (a.length:Int))) then (ob (ix a c) fun f=>
 ob (ix b c) fun g=>
 if (f != g) then (some (.inr (.inr false))) else (some (.inl (wr (c+1))))) else (some (.inr (.inl ())))
def aEq (a b:(List Int)):Option Bool:=
 if ((a.length:Int) != (b.length:Int)) then (some false) else (ob (loop (fun (s:Int)=>aBU a b s) 0) fun r=>match r with|.inl r=>aHO|.inr r=>some r)
def zX (t:bF) (a:List (List Int)) (c:List Edge):Option (bF × (List (List Int)) × Bool):=
 ob (oV ([]:List aF) t.L) fun d=>
 some (⟨(a.length:Int),0,d,c⟩,a,true)
def aBV (a:Int) (b:List (List Int)) (c:List Edge):Option ((List (List Int) × List Edge × Int) ⊕ ((List (List Int) × List Edge) ⊕ (bF × (List (List Int)) × Bool))):=
 some (.inl (b,c,wr (a+1)))
def aBW (a:Int) (b:List (List Int)) (c:List Edge):Option ((List (List Int) × List Edge × Int) ⊕ ((List (List Int) × List Edge) ⊕ (bF × (List (List Int)) × Bool))):=
 aBV a b c
def uV (a:Int) (b:List (List Int)) (c:List Edge):Option ((List (List Int) × List Edge × Int) ⊕ ((List (List Int) × List Edge) ⊕ (bF × (List (List Int)) × Bool))):=
 some (.inl (b,c,wr (a+1)))
def zY (c:Int) (a:List Edge) (b:Int) (d:List (List Int)) (e:Int):Option ((List (List Int) × List Edge × Int) ⊕ ((List (List Int) × List Edge) ⊕ (bF × (List (List Int)) × Bool))):=
 if ((a.length:Int) == 300) then (some (.inr (.inr (⟨0,0,[],[]⟩,[],false)))) else (ob (oV a ([⟨c,b,e⟩]:List Edge)) fun f=>
 uV b d f)
def qO (b:Int) (a:List (List Int)) (c:List Edge) (d:Int) (f:(List Int)) (e:Int):Option ((List (List Int) × List Edge × Int) ⊕ ((List (List Int) × List Edge) ⊕ (bF × (List (List Int)) × Bool))):=
 if (decide (e < 0)) then (if ((a.length:Int) == 40) then (some (.inr (.inr (⟨0,0,[],[]⟩,[],false)))) else (ob (oV a ([f]:List (List Int))) fun g=>
 zY b c d g (a.length:Int))) else (zY b c d a e)
def zZ (a b:Int):Option ((Int × Int) ⊕ Int):=
 some (.inl (b,wr (a+1)))
def qP (b:List (List Int)) (d:(List Int)) (c a:Int):Option ((Int × Int) ⊕ Int):=
 if (decide (a < (b.length:Int))) then (ob (ix b a) fun e=>
 ob (aEq e d) fun f=>
 if f then (zZ a a) else (zZ a c)) else (some (.inr c))
def qQ (t:bF) (f:Int) (a:List (List Int)) (c:List Edge) (b:Int):Option ((List (List Int) × List Edge × Int) ⊕ ((List (List Int) × List Edge) ⊕ (bF × (List (List Int)) × Bool))):=
 if (decide (b < (t.L.length:Int))) then (ob (ix a f) fun g=>
 ob (yA t g b) fun d=>
 if ((d.length:Int) == 0) then (uV b a c) else (ob (loop (fun (s:(Int × Int))=>qP a d s.1 s.2) ((-1),0)) fun r=>qO f a c b d r)) else (some (.inr (.inl (a,c))))
def iX (t:bF) (b:List (List Int)) (d:List Edge) (c:Int):Option ((List (List Int) × List Edge × Int) ⊕ ((List (List Int) × List Edge) ⊕ (bF × (List (List Int)) × Bool))):=
 if (decide (c < (b.length:Int))) then (ob (loop (fun (s:(List (List Int) × List Edge × Int))=>qQ t c s.1 s.2.1 s.2.2) (b,d,1)) fun r=>match r with|.inl r=>aBW c r.1 r.2|.inr r=>some (.inr (.inr r))) else (some (.inr (.inl (b,d))))
def aEr (t:bF):Option (bF × (List (List Int)) × Bool):=
 ob (tX t) fun c=>
 ob (loop (fun (s:(List (List Int) × List Edge × Int))=>iX t s.1 s.2.1 s.2.2) (([c]:List (List Int)),([]:List Edge),0)) fun r=>match r with|.inl r=>zX t r.1 r.2|.inr r=>some r
def aCh (t:bF) (d:(List aF)):Option (bF × (List (List Int)) × Bool):=
 ob (uT t d) fun b=>
 if (!b.2) then (some (⟨0,0,[],[]⟩,[],false)) else (ob (aEr b.1) fun a=>
 some (a.1,a.2.1,a.2.2))
def aGS:Option aF:=
 some ([]:aF)
def aLl (b d:(List aF)) (a:Int):Option (Int ⊕ (Unit ⊕ aF)):=
 if (decide (a < (b.length:Int))) then (ob (ix b a) fun c=>
 ob (xW d c) fun e=>
 if (decide (e < 0)) then (some (.inr (.inr c))) else (some (.inl (wr (a+1))))) else (some (.inr (.inl ())))
def aKc (b c:(List aF)):Option aF:=
 ob (loop (fun (s:Int)=>aLl b c s) 0) fun r=>match r with|.inl r=>aGS|.inr r=>some r
def aFo (a:List aF):Option (List aF):=
 some a
def wT (a:Int) (b:List aF):Option ((List aF × Int) ⊕ (List aF)):=
 some (.inl (b,wr (a+1)))
def aFp (a:Int) (b:List aF):Option ((List aF × Int) ⊕ (List aF)):=
 wT a b
def wU (a:List aF) (b:aF) (c:Int) (d:Bool):Option (Int ⊕ (List aF)):=
 if d then (ob (oV a ([b]:List aF)) fun e=>
 some (.inr e)) else (some (.inl (wr (c+1))))
def aFq (t:bF) (f:(List Int)) (b:List aF) (g:Int) (d:aF) (a:Int):Option (Int ⊕ (List aF)):=
 if (decide (a < (t.E.length:Int))) then (ob (ix t.E a) fun e=>
 if (e.B == g) then (ob (aEp f e.F) fun h=>
 wU b d a h) else (wU b d a false)) else (some (.inr b))
def aFr (t:bF) (e:(List aF)) (f:(List Int)) (c:List aF) (a:Int):Option ((List aF × Int) ⊕ (List aF)):=
 if (decide (a < (t.L.length:Int))) then (ob (ix t.L a) fun d=>
 ob (xZ d e) fun g=>
 if (!g) then (wT a c) else (ob (loop (fun (s:Int)=>aFq t f c a d s) 0) fun r=>aFp a r)) else (some (.inr c))
def aEW (t:bF) (b:(List aF)) (c:(List Int)):Option (List aF):=
 ob (loop (fun (s:(List aF × Int))=>aFr t b c s.1 s.2) (([]:List aF),1)) fun r=>aFo r
def aIS (d:bF) (b:(List aF)) (c:Int):Option (List aF):=
 ob (aEW d b ([c]:List Int)) fun e=>
 some e
def aKd:Option Int:=
 some (-1)
def aHg (d:bF) (a:Int) (c:Bool):Option (Int ⊕ (Unit ⊕ Int)):=
 if c then (ob (ix d.E a) fun e=>
 some (.inr (.inr e.To))) else (some (.inl (wr (a+1))))
def aEX (d:bF) (e:Int) (f:aF) (b:Int) (g:Bool):Option (Int ⊕ (Unit ⊕ Int)):=
 if g then (ob (ix d.E b) fun c=>
 if (c.F == e) then (ob (ix d.L c.B) fun h=>
 aHg d b (h == f)) else (aHg d b false)) else (some (.inr (.inl ())))
def aKe (d:bF) (b:Int) (e:aF) (c:Int):Option (Int ⊕ (Unit ⊕ Int)):=
 if (decide (c < (d.E.length:Int))) then (aEX d b e c (decide (0<=b))) else (aEX d b e c false)
def s_l12Go (d:bF) (c:Int) (e:aF):Option Int:=
 ob (loop (fun (s:Int)=>aKe d c e s) 0) fun r=>match r with|.inl r=>aKd|.inr r=>some r
def aIT (a y:bF) (c:(List aF)):Option ((List aF) × aF):=
 none
def aAP (b:(List aF)) (c d:(bF × (List (List Int)) × Bool)) (e:Bool):Option (Bool × (List aF) × aF × Int):=
 if e then (some (false,[],([]:aF),5)) else (ob (aIT c.1 d.1 b) fun a=>
 some (a.2 == ([]:aF),a.1,a.2,0))
def wI (d e:bF) (a:(List aF)) (f:Bool):Option (Bool × (List aF) × aF × Int):=
 if f then (some (false,[],([]:aF),1)) else (ob (aCh d a) fun b=>
 ob (aCh e a) fun c=>
 if (!b.2.2) then (aAP a b c true) else (aAP a b c (!c.2.2)))
def aCZ (b c:bF) (a:(List aF)):Option (Bool × (List aF) × aF × Int):=
 ob (sK b a) fun d=>
 if (!d) then (wI b c a true) else (ob (sK c a) fun e=>
 wI b c a (!e))
def aEY (a:(List aF)):Option (Int × Int × Int):=
 some (0,(a.length:Int),0)
def lC (l b:(List aF)) (c d:Int) (e:List aF) (f:List Edge) (g h:Int) (i:List aF) (j:List Edge) (a:Int):Option (Int ⊕ (Unit ⊕ (Int × Int × Int))):=
 if (decide (a<=(b.length:Int))) then (ob (nV b 0 a) fun m=>
 ob (jH ⟨g,h,i,j⟩ m) fun k=>
 if ((k.length:Int) == 0) then (some (.inr (.inr (1,a,0)))) else (ob (nV b 0 a) fun n=>
 ob (jH ⟨c,d,e,f⟩ n) fun o=>
 ob (mE ⟨c,d,e,f⟩ ⟨g,h,i,j⟩ l o k) fun p=>
 if (decide (0 < (p.length:Int))) then (some (.inr (.inr (2,a,0)))) else (some (.inl (wr (a+1)))))) else (some (.inr (.inl ())))
def aAa (g b:(List aF)) (c d:Int) (e:List aF) (f:List Edge) (h i:Int) (j:List aF) (k:List Edge) (l:Bool):Option (Int × Int × Int):=
 if l then (some (0,0,5)) else (ob (jH ⟨c,d,e,f⟩ b) fun m=>
 if ((m.length:Int) == 0) then (some (0,0,3)) else (ob (loop (fun (s:Int)=>lC g b c d e f h i j k s) 0) fun r=>match r with|.inl r=>aEY b|.inr r=>some r))
def aBX (i j:(List aF)) (a b:Int) (c:List aF) (d:List Edge) (e f:Int) (g:List aF) (h:List Edge):Option (Int × Int × Int):=
 ob (nB ⟨a,b,c,d⟩) fun k=>
 if (!k) then (aAa i j a b c d e f g h true) else (ob (nB ⟨e,f,g,h⟩) fun l=>
 aAa i j a b c d e f g h (!l))
def aAb (e f:bF) (c d:(List aF)) (g:Bool):Option (Int × Int × Int):=
 if g then (some (0,0,1)) else (ob (uL d) fun h=>
 if (!h) then (some (0,0,2)) else (ob (gX e c) fun a=>
 ob (gX f c) fun b=>
 aBX c d a.N a.I a.L a.E b.N b.I b.L b.E))
def yB (b c:bF) (a d:(List aF)):Option (Int × Int × Int):=
 ob (fY b a) fun e=>
 if (!e) then (aAb b c a d true) else (ob (fY c a) fun f=>
 aAb b c a d (!f))
def aDL (t:bF) (n:Int):Option (bF × Int):=
 ob (nB t) fun d=>
 if (!d) then (some (⟨0,0,[],[]⟩,1)) else (ob (rC n 0 12) fun e=>
 if (!e) then (some (⟨0,0,[],[]⟩,2)) else (ob (lQ t) fun b=>
 if (!b.2.2) then (some (⟨0,0,[],[]⟩,5)) else (some (b.1,0))))
def aDZ (a:List (List aF)):Option ((List (List aF)) × Int):=
 some (a,0)
def mK (b:List aS) (c:List (List aF)) (a:Int):Option ((List (List aF) × Int) ⊕ (List (List aF))):=
 if (decide (a < (b.length:Int))) then (ob (ix b a) fun d=>
 ob (oV c ([d.trace]:List (List aF))) fun e=>
 some (.inl (e,wr (a+1)))) else (some (.inr c))
def aAQ (a:List aS):Option ((List (List aF)) × Int):=
 if (decide (200 < (a.length:Int))) then (some ([],5)) else (ob (loop (fun (s:(List (List aF) × Int))=>mK a s.1 s.2) ([],0)) fun r=>aDZ r)
def rX (a:Int) (b:List aS):Option ((List aS × Int) ⊕ (List aS)):=
 some (.inl (b,wr (a+1)))
def aEa (a:Int) (b:List aS):Option ((List aS × Int) ⊕ (List aS)):=
 rX a b
def aAR (a:Int) (b:List aS):Option ((List aS × Int) ⊕ (List aS)):=
 some (.inl (b,wr (a+1)))
def mL (e:(bF × Int)) (f:aS) (b:(List Edge)) (c:List aS) (a:Int):Option ((List aS × Int) ⊕ (List aS)):=
 if (decide (a < (b.length:Int))) then (ob (ix b a) fun d=>
 ob (ix e.1.L d.B) fun g=>
 ob (bQ f.trace) fun h=>
 ob (oV h ([g]:List aF)) fun i=>
 ob (oV c ([⟨d.To,0,i⟩]:List aS)) fun j=>
 aAR a j) else (some (.inr c))
def oQ (n:Int) (e:(bF × Int)) (b:List aS) (c:Int) (g:Bool):Option ((List aS × Int) ⊕ (List aS)):=
 if g then (ob (ix b c) fun d=>
 if ((d.trace.length:Int) == n) then (rX c b) else (ob (uR e.1 d.a) fun h=>
 ob (loop (fun (s:(List aS × Int))=>mL e d h s.1 s.2) (b,0)) fun r=>aEa c r)) else (some (.inr b))
def jQ (n:Int) (d:(bF × Int)) (a:List aS) (b:Int):Option ((List aS × Int) ⊕ (List aS)):=
 if (decide (b < (a.length:Int))) then (oQ n d a b (decide ((a.length:Int)<=200))) else (oQ n d a b false)
def aAC (t:bF) (n:Int):Option ((List (List aF)) × Int):=
 ob (aDL t n) fun a=>
 if (a.2 != 0) then (some ([],a.2)) else (ob (loop (fun (s:(List aS × Int))=>jQ n a s.1 s.2) (([⟨0,0,[]⟩]:List aS),0)) fun r=>aAQ r)
def aCi (b:bF) (c:(List aF)) (n:Int):Option ((List (List aF)) × Int):=
 ob (fY b c) fun f=>
 if (!f) then (some ([],1)) else (ob (rC n 0 8) fun g=>
 if (!g) then (some ([],2)) else (ob (nP b c) fun a=>
 if (a.2 != 0) then (some ([],a.2)) else (ob (aAC a.1 n) fun e=>
 some (e.1,e.2))))
def nG:Option Bool:=
 some true
def gM (b c:(List aF)) (a:Int):Option (Int ⊕ (Unit ⊕ Bool)):=
 if (decide (a < (b.length:Int))) then (ob (ix b a) fun d=>
 ob (ix c a) fun e=>
 if (!(d == e)) then (some (.inr (.inr false))) else (some (.inl (wr (a+1))))) else (some (.inr (.inl ())))
def eI (b c:(List aF)):Option Bool:=
 if ((b.length:Int) != (c.length:Int)) then (some false) else (ob (loop (fun (s:Int)=>gM b c s) 0) fun r=>match r with|.inl r=>nG|.inr r=>some r)
def aFQ (a:Bool):Option Bool:=
 some a
def aFR (b a:(List aF)):Option Bool:=
 if (decide ((a.length:Int) < (b.length:Int))) then (ob (nV b 0 (a.length:Int)) fun c=>
 ob (eI c a) fun d=>
 aFQ d) else (aFQ false)
def uW (t p:(List aF)):Option Bool:=
 ob (eI t p) fun c=>
 some c
def jZ:Option Int:=
 some (-1)
def gN (b:(List (List aF))) (c:(List aF)) (a:Int):Option (Int ⊕ (Unit ⊕ Int)):=
 if (decide (a < (b.length:Int))) then (ob (ix b a) fun d=>
 ob (uW d c) fun e=>
 if e then (some (.inr (.inr a))) else (some (.inl (wr (a+1))))) else (some (.inr (.inl ())))
def fC (b:(List (List aF))) (c:(List aF)):Option Int:=
 ob (loop (fun (s:Int)=>gN b c s) 0) fun r=>match r with|.inl r=>jZ|.inr r=>some r
def eN (a:(List (List aF))) (b:(List aF)):Option Bool:=
 ob (fC a b) fun c=>
 some (decide (0<=c))
def uX (t p:(List aF)):Option Bool:=
 ob (aFR t p) fun c=>
 some c
def jD:Option Int:=
 some (-1)
def fO (b:(List (List aF))) (c:(List aF)) (a:Int):Option (Int ⊕ (Unit ⊕ Int)):=
 if (decide (a < (b.length:Int))) then (ob (ix b a) fun d=>
 ob (uX d c) fun e=>
 if e then (some (.inr (.inr a))) else (some (.inl (wr (a+1))))) else (some (.inr (.inl ())))
def eO (b:(List (List aF))) (c:(List aF)):Option Int:=
 ob (loop (fun (s:Int)=>fO b c s) 0) fun r=>match r with|.inl r=>jD|.inr r=>some r
def dW (a:(List (List aF))) (b:(List aF)):Option Bool:=
 ob (eO a b) fun c=>
 some (decide (0<=c))
def aEs (a:List (List aF)):Option (List (List aF)):=
 some a
def pP (a:Int) (b:List (List aF)):Option ((List (List aF) × Int) ⊕ (List (List aF))):=
 some (.inl (b,wr (a+1)))
def mS (a:List (List aF)) (b:Int) (c:(List aF)) (d:Bool):Option ((List (List aF) × Int) ⊕ (List (List aF))):=
 if d then (ob (bQ c) fun e=>
 ob (oV a ([e]:List (List aF))) fun f=>
 pP b f) else (pP b a)
def mT (b:(List (List aF))) (d:List (List aF)) (a:Int):Option ((List (List aF) × Int) ⊕ (List (List aF))):=
 if (decide (a < (b.length:Int))) then (ob (ix b a) fun c=>
 ob (nV b 0 a) fun e=>
 ob (eN e c) fun f=>
 if (!f) then (ob (dW b c) fun g=>
 mS d a c (!g)) else (mS d a c false)) else (some (.inr d))
def wJ (a:(List (List aF))):Option (List (List aF)):=
 ob (loop (fun (s:(List (List aF) × Int))=>mT a s.1 s.2) ([],0)) fun r=>aEs r
def qR (p c:Int) (b:Edge):Option Bool:=
 some (p == b.F)
def aDa:Option ((List aF) × Bool):=
 some ([],false)
def qS (a:(List ((Int × Int) × Bool))) (b:List aS):Option (((List ((Int × Int) × Bool)) × List aS) ⊕ (Unit ⊕ ((List aF) × Bool))):=
 some (.inl (a,b))
def xL (a:(List ((Int × Int) × Bool))) (b:List aS):Option (((List ((Int × Int) × Bool)) × List aS) ⊕ (Unit ⊕ ((List aF) × Bool))):=
 qS a b
def xM (a:Int) (b:List aS):Option ((List aS × Int) ⊕ (List aS)):=
 some (.inl (b,wr (a+1)))
def xN (a b:bF) (f:List aF) (c:aS) (g:List aS) (d:Int):Option ((List aS × Int) ⊕ (List aS)):=
 if (decide (d < (f.length:Int))) then (ob (ix f d) fun e=>
 ob (tW a c.a e) fun j=>
 ob (tW b c.b e) fun k=>
 ob (bQ c.trace) fun l=>
 ob (oV l ([e]:List aF)) fun m=>
 ob (oV g ([⟨j,k,m⟩]:List aS)) fun n=>
 xM d n) else (some (.inr g))
def iJ (a b:bF) (h:Edge) (i:List aF) (d:(List ((Int × Int) × Bool))) (c:aS) (e:List aS) (j:Bool):Option (((List ((Int × Int) × Bool)) × List aS) ⊕ (Unit ⊕ ((List aF) × Bool))):=
 if j then (qS d e) else (ob (some (yG d ⟨c.a,c.b⟩ true)) fun k=>
 ob (qR c.a c.b h) fun l=>
 if l then (some (.inr (.inr (c.trace,true)))) else (ob (loop (fun (s:(List aS × Int))=>xN a b i c s.1 s.2) (e,0)) fun r=>xL k r))
def eW (a b:bF) (h:Edge) (i:List aF) (d:(List ((Int × Int) × Bool))) (e:List aS):Option (((List ((Int × Int) × Bool)) × List aS) ⊕ (Unit ⊕ ((List aF) × Bool))):=
 if (decide (0 < (e.length:Int))) then (ob (ix e 0) fun c=>
 ob (nV e 1 (e.length:Int)) fun j=>
 if (decide (c.a < 0)) then (if (decide (c.b < 0)) then (iJ a b h i d c j true) else (iJ a b h i d c j ((oL d ⟨c.a,c.b⟩).getD false))) else (iJ a b h i d c j ((oL d ⟨c.a,c.b⟩).getD false))) else (some (.inr (.inl ())))
def nU (a b:bF) (g:Edge):Option ((List aF) × Bool):=
 ob (cG ([a.L,b.L]:List (List aF))) fun h=>
 ob (aCV 1 0 h []) fun f=>
 ob (nV f.L 1 (f.L.length:Int)) fun i=>
 ob (loop (fun (s:((List ((Int × Int) × Bool)) × List aS))=>eW a b g i s.1 s.2) (([]:(List ((Int × Int) × Bool))),([⟨a.I,b.I,[]⟩]:List aS))) fun r=>match r with|.inl r=>aDa|.inr r=>some r
def qT (a:List (List aF)):Option ((List (List aF)) × Int):=
 ob (wJ a) fun b=>
 some (b,0)
def qU (a:Int) (b:List (List aF)):Option ((List (List aF) × Int) ⊕ (List (List aF))):=
 some (.inl (b,wr (a+1)))
def kV (a:(bF × (List (List Int)) × Int)) (c:List (List aF)) (b:Int):Option ((List (List aF) × Int) ⊕ (List (List aF))):=
 if (decide (b < (a.1.E.length:Int))) then (ob (ix a.1.E b) fun d=>
 ob (nU a.1 a.1 d) fun e=>
 ob (ix a.1.L d.B) fun f=>
 ob (bQ e.1) fun g=>
 ob (oV g ([f]:List aF)) fun h=>
 ob (oV c ([h]:List (List aF))) fun i=>
 qU b i) else (some (.inr c))
def rJ (b:bF) (c:(List aF)):Option ((List (List aF)) × Int):=
 ob (gZ b c) fun a=>
 if (a.2.2 != 0) then (some ([],a.2.2)) else (ob (loop (fun (s:(List (List aF) × Int))=>kV a s.1 s.2) ([],0)) fun r=>qT r)
def uY (a:Bool):Option Bool:=
 some a
def aAc (a:Bool):Option Bool:=
 some a
def aAd (a b:((List (List aF)) × Int)):Option Bool:=
 if (b.2 == 0) then (aAc (decide (0 < (a.1.length:Int)))) else (aAc false)
def uZ (a:Int) (b:Bool):Option (Int ⊕ (Unit ⊕ Bool)):=
 if b then (some (.inr (.inr false))) else (some (.inl (wr (a+1))))
def aAe (b:(bF × bF × (List aF))) (d:((List (List aF)) × Int)) (a:Int):Option (Int ⊕ (Unit ⊕ Bool)):=
 if (decide (a < (d.1.length:Int))) then (ob (ix d.1 a) fun e=>
 ob (yB b.1 b.1 b.2.2 e) fun c=>
 if (c.2.2 != 0) then (uZ a true) else (if (c.1 != 0) then (uZ a true) else (uZ a (c.2.1 != (e.length:Int))))) else (some (.inr (.inl ())))
def aAf (b:(bF × bF × (List aF))) (d:((List (List aF)) × Int)):Option Bool:=
 ob (rJ b.1 b.2.2) fun c=>
 ob (loop (fun (s:Int)=>aAe b c s) 0) fun r=>match r with|.inl r=>aAd d c|.inr r=>some r
def aAg (a:Int) (b:Bool):Option (Int ⊕ (Unit ⊕ Bool)):=
 if b then (some (.inr (.inr false))) else (some (.inl (wr (a+1))))
def aAh (b:(bF × bF × (List aF))) (c:((List (List aF)) × Int)) (a:Int):Option (Int ⊕ (Unit ⊕ Bool)):=
 if (decide (a < (c.1.length:Int))) then (ob (ix c.1 a) fun e=>
 ob (yB b.1 b.2.1 b.2.2 e) fun d=>
 if (d.2.2 != 0) then (aAg a true) else (aAg a (d.1 == 2))) else (some (.inr (.inl ())))
def mF (a:(bF × bF × (List aF))) (b f:(Bool × (List aF) × aF × Int)) (g:Bool):Option Bool:=
 if g then (ob (aCZ a.1 a.2.1 a.2.2) fun h=>
 some (b.2.2.2 == h.2.2.2)) else (if (!f.1) then (some false) else (if (!b.1) then (ob (yB a.1 a.2.1 a.2.2 b.2.1) fun e=>
 if (e.2.2 == 0) then (if (e.1 == 2) then (if (e.2.1 == (b.2.1.length:Int)) then (uY (!(b.2.2.1 == ([]:aF)))) else (uY false)) else (uY false)) else (uY false)) else (ob (aCi a.1 a.2.2 2) fun c=>
 if (c.2 != 0) then (some (c.2 == 5)) else (ob (loop (fun (s:Int)=>aAh a c s) 0) fun r=>match r with|.inl r=>aAf a c|.inr r=>some r))))
def aGx (d:(List UInt8)):Option Bool:=
 ob (aIo d) fun e=>
 if e then (some true) else (ob (aBe d) fun a=>
 ob (kU a.1 a.2.1 a.2.2) fun b=>
 ob (kU a.1 a.1 a.2.2) fun c=>
 if (b.2.2.2 != 0) then (mF a b c true) else (mF a b c (c.2.2.2 != 0)))
end
end Gv
