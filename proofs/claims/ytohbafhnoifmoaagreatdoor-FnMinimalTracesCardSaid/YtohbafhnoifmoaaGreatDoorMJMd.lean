/- Models of the functions, printed by program off their code. Plain Lean. -/
import Derived.Test.YtohbafhnoifmoaaGreatDoorMJLM
set_option linter.all false
namespace Gv
noncomputable section
def mI (a:List Int):Option ((List Int) × Bool):=
 some (a,true)
def rE (b:(List bD)) (c:List Int) (a:Int):Option ((List Int × Int) ⊕ (List Int ⊕ ((List Int) × Bool))):=
 if (decide (a < (b.length:Int))) then (ob (ix b a) fun e=>
 ob (aAg e) fun d=>
 if (!d.2) then (some (.inr (.inr ([],false)))) else (ob (kC c ([d.1]:List Int)) fun f=>
 some (.inl (f,wr (a+1))))) else (some (.inr (.inl c)))
def aAi (b:(List bD)):Option ((List Int) × Bool):=
 ob (loop (fun (s:(List Int × Int))=>rE b s.1 s.2) ([],0)) fun r=>match r with|.inl r=>mI r|.inr r=>some r
def yU (a:bD) (b:List bD):Option bD:=
 ob (aOb b a) fun c=>
 some c
def aCn (c:(List Int)) (b:List bD) (a:Int):Option ((List bD × Int) ⊕ (List bD)):=
 if (decide (a < (c.length:Int))) then (ob (ix c a) fun d=>
 ob (aCV d) fun e=>
 ob (ix b a) fun g=>
 ob (st b a (e:bD)) fun f=>
 some (.inl (f,wr (a+1)))) else (some (.inr b))
def aEm (a:(List Int)) (b:bD):Option bD:=
 ob (mkz (a.length:Int) ([]:bD)) fun c=>
 ob (loop (fun (s:(List bD × Int))=>aCn a s.1 s.2) (c,0)) fun r=>yU b r
def uX (a:Bool):Option Bool:=
 some a
def aEB (c:UInt8):Option Bool:=
 if (decide (48<=(c.toNat:Int))) then (uX (decide ((c.toNat:Int)<=57))) else (uX false)
def yV (a:Bool):Option Bool:=
 some a
def aJL (a:bD):Option Bool:=
 if (decide (1<=(a.length:Int))) then (yV (decide ((a.length:Int)<=10))) else (yV false)
def tW (a:Int) (b:Bool):Option (Int ⊕ (Unit ⊕ Bool)):=
 if b then (some (.inr (.inr false))) else (some (.inl (wr (a+1))))
def yX (b:bD) (a:Int) (c:Bool):Option (Int ⊕ (Unit ⊕ Bool)):=
 if (!c) then (if (a == 0) then (tW a true) else (ob (ix b a) fun d=>
 ob (aEB d) fun e=>
 tW a (!e))) else (tW a false)
def aCo (a:bD) (b:Int):Option (Int ⊕ (Unit ⊕ Bool)):=
 if (decide (b < (a.length:Int))) then (ob (ix a b) fun c=>
 if (decide (97<=(c.toNat:Int))) then (yX a b (decide ((c.toNat:Int)<=122))) else (yX a b false)) else (some (.inr (.inl ())))
def aFT (b:bD):Option Bool:=
 ob (loop (fun (s:Int)=>aCo b s) 0) fun r=>match r with|.inl r=>aJL b|.inr r=>some r
def sA (a:Bool):Option Bool:=
 some a
def aDB (a:bD):Option Bool:=
 ob (aFT a) fun b=>
 if b then (sA (!(a == ([116,97,117]:bD)))) else (sA false)
def yY (a:Bool):Option Bool:=
 some a
def tX (n low b:Int):Option Bool:=
 if (decide (low<=n)) then (yY (decide (n<=b))) else (yY false)
def aEC (n:Int):Option Bool:=
 ob (tX n 0 63) fun b=>
 some b
def wX (n:Int):Option Bool:=
 ob (aEC n) fun b=>
 some (!b)
def dZ:Option Int:=
 some (-1)
def fM (b:(List Int)) (a:Int):Option (Int ⊕ (Unit ⊕ Int)):=
 if (decide (a < (b.length:Int))) then (ob (ix b a) fun c=>
 ob (wX c) fun d=>
 if d then (some (.inr (.inr a))) else (some (.inl (wr (a+1))))) else (some (.inr (.inl ())))
def gD (b:(List Int)):Option Int:=
 ob (loop (fun (s:Int)=>fM b s) 0) fun r=>match r with|.inl r=>dZ|.inr r=>some r
def fN (a:(List Int)):Option Bool:=
 ob (gD a) fun b=>
 some (decide (0<=b))
def aCp (a:(List Int)):Option Bool:=
 ob (fN a) fun b=>
 some (!b)
def oX (a:bD) (b:(List Int)) (c:Bool):Option (bD × Bool):=
 if c then (some (([]:bD),false)) else (if ((b.length:Int) == 0) then (some (a,true)) else (ob (cat a ([40]:bD)) fun d=>
 ob (aEm b ([44]:bD)) fun e=>
 ob (cat d e) fun f=>
 ob (cat f ([41]:bD)) fun g=>
 some (g,true)))
def aED (b:bD) (a:(List Int)):Option (bD × Bool):=
 if (b == ([116,97,117]:bD)) then (some (([116,97,117]:bD),(a.length:Int) == 0)) else (ob (aDB b) fun c=>
 if (!c) then (oX b a true) else (if (decide (2 < (a.length:Int))) then (oX b a true) else (ob (aCp a) fun d=>
 oX b a (!d))))
def eD (a:Bool):Option Bool:=
 some a
def gG (a b:bD):Option Bool:=
 if (decide ((b.length:Int)<=(a.length:Int))) then (ob (slc a (wr ((a.length:Int) - (b.length:Int))) (a.length:Int)) fun c=>
 eD (c == b)) else (eD false)
def gE (a b:bD):Option bD:=
 ob (gG a b) fun c=>
 if c then (ob (slc a 0 (wr ((a.length:Int) - (b.length:Int)))) fun d=>
 some d) else (some a)
def lH (a b:bD):Option bD:=
 ob (gE a b) fun c=>
 some c
def oY (a:(bD × bD × Bool)) (b:List Int) (c:Bool):Option (bD × (List Int) × Bool):=
 if c then (some (([]:bD),[],false)) else (some (a.1,b,true))
def oZ (d:bD) (a:(bD × bD × Bool)) (b:List Int):Option (bD × (List Int) × Bool):=
 ob (aED a.1 b) fun c=>
 if (!c.2) then (oY a b true) else (oY a b (!(c.1 == d)))
def aCq (b:bD):Option (bD × (List Int) × Bool):=
 ob (l_Cut b ([40]:bD)) fun a=>
 if a.2.2 then (ob (lH a.2.1 ([41]:bD)) fun d=>
 ob (aHb d ([44]:bD)) fun e=>
 ob (aAi e) fun c=>
 if (!c.2) then (some (([]:bD),[],false)) else (oZ b a c.1)) else (oZ b a [])
def aEE (a:bD):Option Bool:=
 ob (aCq a) fun b=>
 some b.2.2
def nJ (t:cO) (k:Int):Option Bool:=
 ob (tX k 0 (wr (t.N - 1))) fun c=>
 some c
def aHf (i many:Int):Option Bool:=
 ob (tX i 0 (wr (many - 1))) fun b=>
 some b
def iP (a:Int):Option Bool:=
 some (a != a)
def fD (a y:Int):Option Int:=
 ob (iP a) fun d=>
 ob (iP y) fun c=>
 if d then (if c then (some 0) else (some (-1))) else (if c then (some 1) else (if (decide (a < y)) then (some (-1)) else (if (decide (y < a)) then (some 1) else (some 0))))
def jU:Option Int:=
 some 0
def eS (b:(List Int)) (a:Int):Option (Int ⊕ (Unit ⊕ Int)):=
 if (decide (a < (b.length:Int))) then (ob (ix b a) fun c=>
 if (c != 0) then (some (.inr (.inr c))) else (some (.inl (wr (a+1))))) else (some (.inr (.inl ())))
def nK (b:(List Int)):Option Int:=
 ob (loop (fun (s:Int)=>eS b s) 0) fun r=>match r with|.inl r=>jU|.inr r=>some r
def lI (a b:Edge):Option Int:=
 ob (fD a.F b.F) fun e=>
 ob (fD a.B b.B) fun f=>
 ob (fD a.To b.To) fun g=>
 ob (nK ([e,f,g]:List Int)) fun h=>
 some h
def sB:Option Bool:=
 some true
def jN (a:Int) (b:Bool):Option (Int ⊕ (Unit ⊕ Bool)):=
 if b then (some (.inr (.inr false))) else (some (.inl (wr (a+1))))
def aAj (t:cO) (a:Int):Option (Int ⊕ (Unit ⊕ Bool)):=
 if (decide (a < (t.E.length:Int))) then (ob (ix t.E a) fun c=>
 ob (nJ t c.F) fun d=>
 if (!d) then (jN a true) else (ob (nJ t c.To) fun e=>
 if (!e) then (jN a true) else (ob (aHf c.B (t.L.length:Int)) fun f=>
 if (!f) then (jN a true) else (if (decide (0 < a)) then (ob (ix t.E (wr (a - 1))) fun g=>
 ob (lI g c) fun h=>
 jN a (decide (0<=h))) else (jN a false))))) else (some (.inr (.inl ())))
def sC (t:cO):Option Bool:=
 ob (loop (fun (s:Int)=>aAj t s) 0) fun r=>match r with|.inl r=>sB|.inr r=>some r
def aIv (a:Int) (b:Bool):Option (Int ⊕ (Unit ⊕ Bool)):=
 if b then (some (.inr (.inr false))) else (some (.inl (wr (a+1))))
def aAk (t:cO) (a:Int):Option (Int ⊕ (Unit ⊕ Bool)):=
 if (decide (a < (t.L.length:Int))) then (ob (ix t.L a) fun b=>
 ob (aEE b) fun e=>
 if (!e) then (aIv a true) else (if ((b == ([116,97,117]:bD)) != (a == 0)) then (aIv a true) else (if (decide (1 < a)) then (ob (ix t.L (wr (a - 1))) fun d=>
 aIv a (ltB b d||b == d)) else (aIv a false)))) else (some (.inr (.inl ())))
def kR (t:cO) (c:Bool):Option Bool:=
 if c then (some false) else (ob (loop (fun (s:Int)=>aAk t s) 0) fun r=>match r with|.inl r=>sC t|.inr r=>some r)
def lJ (t:cO):Option Bool:=
 ob (tX t.N 1 40) fun b=>
 if (!b) then (kR t true) else (ob (nJ t t.I) fun c=>
 if (!c) then (kR t true) else (ob (tX (t.L.length:Int) 1 12) fun d=>
 if (!d) then (kR t true) else (kR t (decide (300 < (t.E.length:Int))))))
def eW:Option Int:=
 some (-1)
def gH (b:(List Int)) (c a:Int):Option (Int ⊕ (Unit ⊕ Int)):=
 if (decide (a < (b.length:Int))) then (ob (ix b a) fun d=>
 if (c == d) then (some (.inr (.inr a))) else (some (.inl (wr (a+1))))) else (some (.inr (.inl ())))
def hQ (b:(List Int)) (c:Int):Option Int:=
 ob (loop (fun (s:Int)=>gH b c s) 0) fun r=>match r with|.inl r=>eW|.inr r=>some r
def eX (a:(List Int)) (b:Int):Option Bool:=
 ob (hQ a b) fun c=>
 some (decide (0<=c))
def eG (a:(List Int)):Option (List Int):=
 some a
def fY (a:Int):Option (Int ⊕ (Unit ⊕ (List Int))):=
 some (.inl (wr (a+1)))
def eH (a:List Int) (b:Int):Option (Int ⊕ (Unit ⊕ (List Int))):=
 ob (slc a b (a.length:Int)) fun c=>
 ob (ovw a b (List.replicate c.length (0:Int))) fun d=>
 ob (slc d 0 b) fun e=>
 some (.inr (.inr e))
def eI (a:Int) (b:List Int) (c:Int):Option ((List Int × Int × Int) ⊕ (List Int × Int)):=
 some (.inl (b,c,wr (a+1)))
def fZ (e:Int) (d b:List Int) (c a:Int):Option ((List Int × Int × Int) ⊕ (List Int × Int)):=
 if (decide (a < (d.length:Int))) then (ob (ix d a) fun i=>
 ob (ix b (e+a)) fun f=>
 ob (ix d (wr (a - 1))) fun j=>
 ob (ix b (e+(wr (a - 1)))) fun g=>
 if (f != g) then (ob (ix b c) fun k=>
 ob (st b c (f:Int)) fun h=>
 eI a h (wr (c+1))) else (eI a b c)) else (some (.inr (b,c)))
def gA (b:(List Int)) (a:Int):Option (Int ⊕ (Unit ⊕ (List Int))):=
 if (decide (a < (b.length:Int))) then (ob (ix b a) fun d=>
 ob (ix b (wr (a - 1))) fun e=>
 if (d == e) then (ob (slc b a (b.length:Int)) fun f=>
 ob (loop (fun (s:(List Int × Int × Int))=>fZ a f s.1 s.2.1 s.2.2) (b,a,1)) fun r=>eH r.1 r.2) else (fY a)) else (some (.inr (.inl ())))
def gO (a:(List Int)):Option (List Int):=
 if (decide ((a.length:Int) < 2)) then (some a) else (ob (loop (fun (s:Int)=>gA a s) 1) fun r=>match r with|.inl r=>eG a|.inr r=>some r)
def nO (a:List Int):Option (List Int):=
 ob (aCW a) fun b=>
 ob (gO b) fun c=>
 some c
def nP (a:Int) (b:List Int):Option ((List Int × Int) ⊕ (List Int)):=
 some (.inl (b,wr (a+1)))
def nR (a:List Int) (b:Int) (c:Edge) (d:Bool):Option ((List Int × Int) ⊕ (List Int)):=
 if d then (ob (kC a ([c.To]:List Int)) fun e=>
 nP b e) else (nP b a)
def uC (t:cO) (e:(List Int)) (f:bD) (d:List Int) (a:Int):Option ((List Int × Int) ⊕ (List Int)):=
 if (decide (a < (t.E.length:Int))) then (ob (ix t.E a) fun b=>
 ob (ix t.L b.B) fun g=>
 if (g == f) then (ob (eX e b.F) fun h=>
 nR d a b h) else (nR d a b false)) else (some (.inr d))
def pA (t:cO) (b:(List Int)) (c:bD):Option (List Int):=
 ob (loop (fun (s:(List Int × Int))=>uC t b c s.1 s.2) ([],0)) fun r=>nO r
def aHA (a:(List Int)):Option (List Int):=
 ob (kC ([]:List Int) a) fun b=>
 some b
def kW (a:List Int):Option (List Int):=
 ob (aCW a) fun b=>
 some b
def pB (a:Int) (b:List Int):Option ((List Int × Int) ⊕ (List Int)):=
 some (.inl (b,wr (a+1)))
def kX (a:Int) (b:List Int):Option ((List Int × Int) ⊕ (List Int)):=
 pB a b
def kY (a:Int) (b:List Int):Option ((List Int × Int) ⊕ (List Int)):=
 some (.inl (b,wr (a+1)))
def pC (c:(List Int)) (a:List Int) (b:Int):Option ((List Int × Int) ⊕ (List Int)):=
 if (decide (b < (c.length:Int))) then (ob (ix c b) fun d=>
 ob (eX a d) fun e=>
 if (!e) then (ob (kC a ([d]:List Int)) fun f=>
 kY b f) else (kY b a)) else (some (.inr a))
def pD (t:cO) (a:List Int) (b:Int):Option ((List Int × Int) ⊕ (List Int)):=
 if (decide (b < (a.length:Int))) then (ob (ix a b) fun d=>
 ob (pA t ([d]:List Int) ([116,97,117]:bD)) fun e=>
 ob (loop (fun (s:(List Int × Int))=>pC e s.1 s.2) (a,0)) fun r=>kX b r) else (some (.inr a))
def pE (t:cO) (b:(List Int)):Option (List Int):=
 ob (aHA b) fun c=>
 ob (loop (fun (s:(List Int × Int))=>pD t s.1 s.2) (c,0)) fun r=>kW r
def nS (a b:bD):Option Int:=
 if (a == b) then (some 0) else (if (a == ([116,97,117]:bD)) then (some (-1)) else (if (b == ([116,97,117]:bD)) then (some 1) else (ob (aGL a b) fun e=>
 some e)))
def dP (a:(List Edge)):Option (List Edge):=
 some a
def eJ (a:Int):Option (Int ⊕ (Unit ⊕ (List Edge))):=
 some (.inl (wr (a+1)))
def dQ (a:List Edge) (b:Int):Option (Int ⊕ (Unit ⊕ (List Edge))):=
 ob (slc a b (a.length:Int)) fun c=>
 ob (ovw a b (List.replicate c.length (⟨0,0,0⟩:Edge))) fun d=>
 ob (slc d 0 b) fun e=>
 some (.inr (.inr e))
def dR (a:Int) (b:List Edge) (c:Int):Option ((List Edge × Int × Int) ⊕ (List Edge × Int)):=
 some (.inl (b,c,wr (a+1)))
def eK (f:Int) (e b:List Edge) (c a:Int):Option ((List Edge × Int × Int) ⊕ (List Edge × Int)):=
 if (decide (a < (e.length:Int))) then (ob (ix e a) fun i=>
 ob (ix b (f+a)) fun d=>
 ob (ix e (wr (a - 1))) fun j=>
 ob (ix b (f+(wr (a - 1)))) fun g=>
 if (!decide ((d:Edge)=g)) then (ob (ix b c) fun k=>
 ob (st b c (⟨d.F,d.B,d.To⟩:Edge)) fun h=>
 dR a h (wr (c+1))) else (dR a b c)) else (some (.inr (b,c)))
def eL (b:(List Edge)) (a:Int):Option (Int ⊕ (Unit ⊕ (List Edge))):=
 if (decide (a < (b.length:Int))) then (ob (ix b a) fun d=>
 ob (ix b (wr (a - 1))) fun e=>
 if (decide ((d:Edge)=e)) then (ob (slc b a (b.length:Int)) fun f=>
 ob (loop (fun (s:(List Edge × Int × Int))=>eK a f s.1 s.2.1 s.2.2) (b,a,1)) fun r=>dQ r.1 r.2) else (eJ a)) else (some (.inr (.inl ())))
def eZ (a:(List Edge)):Option (List Edge):=
 if (decide ((a.length:Int) < 2)) then (some a) else (ob (loop (fun (s:Int)=>eL a s) 1) fun r=>match r with|.inl r=>dP a|.inr r=>some r)
def eA (a:(List bD)):Option (List bD):=
 some a
def fO (a:Int):Option (Int ⊕ (Unit ⊕ (List bD))):=
 some (.inl (wr (a+1)))
def eB (a:List bD) (b:Int):Option (Int ⊕ (Unit ⊕ (List bD))):=
 ob (slc a b (a.length:Int)) fun c=>
 ob (ovw a b (List.replicate c.length ([]:bD))) fun d=>
 ob (slc d 0 b) fun e=>
 some (.inr (.inr e))
def eC (a:Int) (b:List bD) (c:Int):Option ((List bD × Int × Int) ⊕ (List bD × Int)):=
 some (.inl (b,c,wr (a+1)))
def fP (e:Int) (d b:List bD) (c a:Int):Option ((List bD × Int × Int) ⊕ (List bD × Int)):=
 if (decide (a < (d.length:Int))) then (ob (ix d a) fun i=>
 ob (ix b (e+a)) fun f=>
 ob (ix d (wr (a - 1))) fun j=>
 ob (ix b (e+(wr (a - 1)))) fun g=>
 if (!(f == g)) then (ob (ix b c) fun k=>
 ob (st b c (f:bD)) fun h=>
 eC a h (wr (c+1))) else (eC a b c)) else (some (.inr (b,c)))
def fQ (b:(List bD)) (a:Int):Option (Int ⊕ (Unit ⊕ (List bD))):=
 if (decide (a < (b.length:Int))) then (ob (ix b a) fun d=>
 ob (ix b (wr (a - 1))) fun e=>
 if (d == e) then (ob (slc b a (b.length:Int)) fun f=>
 ob (loop (fun (s:(List bD × Int × Int))=>fP a f s.1 s.2.1 s.2.2) (b,a,1)) fun r=>eB r.1 r.2) else (fO a)) else (some (.inr (.inl ())))
def gF (a:(List bD)):Option (List bD):=
 if (decide ((a.length:Int) < 2)) then (some a) else (ob (loop (fun (s:Int)=>fQ a s) 1) fun r=>match r with|.inl r=>eA a|.inr r=>some r)
def eM:Option Int:=
 some (-1)
def gB (b:(List bD)) (c:bD) (a:Int):Option (Int ⊕ (Unit ⊕ Int)):=
 if (decide (a < (b.length:Int))) then (ob (ix b a) fun d=>
 if (c == d) then (some (.inr (.inr a))) else (some (.inl (wr (a+1))))) else (some (.inr (.inl ())))
def gP (b:(List bD)) (c:bD):Option Int:=
 ob (loop (fun (s:Int)=>gB b c s) 0) fun r=>match r with|.inl r=>eM|.inr r=>some r
def aEn (a b:Int) (c:(List bD)) (d:List Edge):Option cO:=
 ob (aDA d) fun e=>
 ob (eZ e) fun f=>
 some ⟨a,b,c,f⟩
def aFU (c:(List gV)) (e:(List bD)) (d:List Edge) (a:Int):Option ((List Edge × Int) ⊕ (List Edge)):=
 if (decide (a < (c.length:Int))) then (ob (ix c a) fun b=>
 ob (gP e b.label) fun f=>
 ob (kC d ([⟨b.from_,f,b.to_⟩]:List Edge)) fun g=>
 some (.inl (g,wr (a+1)))) else (some (.inr d))
def aGN (b c:Int) (d:(List bD)) (e:(List gV)):Option cO:=
 ob (kC ([([116,97,117]:bD)]:List bD) d) fun f=>
 ob (aEy f) fun g=>
 ob (gF g) fun a=>
 ob (loop (fun (s:(List Edge × Int))=>aFU e a s.1 s.2) ([],0)) fun r=>aEn b c a r
def sD (a:List bD):Option (List bD):=
 some a
def aAl (b:(List gV)) (c:List bD) (a:Int):Option ((List bD × Int) ⊕ (List bD)):=
 if (decide (a < (b.length:Int))) then (ob (ix b a) fun d=>
 ob (kC c ([d.label]:List bD)) fun e=>
 some (.inl (e,wr (a+1)))) else (some (.inr c))
def aBm (a:(List gV)):Option (List bD):=
 ob (loop (fun (s:(List bD × Int))=>aAl a s.1 s.2) ([],0)) fun r=>sD r
def lK (a:(List Int)):Option bD:=
 ob (aEm a ([44]:bD)) fun b=>
 some b
def aAm (t:cO) (b:(List Int)) (c:bD):Option (List Int):=
 ob (pA t b c) fun d=>
 ob (pE t d) fun e=>
 some e
def sE (a:List gV):Option (List gV):=
 some a
def aAn (t:cO) (d:List gV) (b:Int):Option ((List gV × Int) ⊕ (List gV)):=
 if (decide (b < (t.E.length:Int))) then (ob (ix t.E b) fun c=>
 ob (ix t.L c.B) fun e=>
 ob (kC d ([⟨c.F,e,c.To⟩]:List gV)) fun f=>
 some (.inl (f,wr (b+1)))) else (some (.inr d))
def aDC (t:cO):Option (List gV):=
 ob (loop (fun (s:(List gV × Int))=>aAn t s.1 s.2) ([],0)) fun r=>sE r
def fH (a:Int) (b:List (List Int)) (c:(List (bD × Int))):Option (Int × (List (List Int)) × (List (bD × Int))):=
 some (a,b,c)
def gC (a:(List (List Int))) (b:(List (bD × Int))) (g:(List gV)) (d:(List Int)):Option (Int × (List (List Int)) × (List (bD × Int))):=
 ob (lK d) fun c=>
 if (!((iV b c).isSome)) then (ob (some (yG b c (a.length:Int))) fun e=>
 ob (kC a ([d]:List (List Int))) fun f=>
 fH (a.length:Int) f e) else (fH ((iV b c).getD 0) a b)
def iW (a:List (List Int)) (b:(List (bD × Int))) (c:List gV):Option ((List (List Int)) × (List (bD × Int)) × (List gV)):=
 some (a,b,c)
def kF (c:bD) (d:(List Int)) (e:(List (List Int))) (f:(List (bD × Int))) (b:(List gV)) (p:Int):Option ((List (List Int)) × (List (bD × Int)) × (List gV)):=
 ob (gC e f b d) fun a=>
 ob (kC b ([⟨p,c,a.1⟩]:List gV)) fun h=>
 iW a.2.1 a.2.2 h
def iB (a:List (List Int)) (b:(List (bD × Int))) (c:List gV):Option (Bool × (List (List Int)) × (List (bD × Int)) × (List gV)):=
 some (true,a,b,c)
def iC (a:Int) (b:List (List Int)) (c:(List (bD × Int))) (d:List gV):Option ((List (List Int) × (List (bD × Int)) × List gV × Int) ⊕ (List (List Int) × (List (bD × Int)) × List gV)):=
 some (.inl (b,c,d,wr (a+1)))
def jV (i:(List Int)) (j:Int) (p:cO) (f:List bD) (b:List (List Int)) (c:(List (bD × Int))) (d:List gV) (a:Int):Option ((List (List Int) × (List (bD × Int)) × List gV × Int) ⊕ (List (List Int) × (List (bD × Int)) × List gV)):=
 if (decide (a < (f.length:Int))) then (ob (ix f a) fun g=>
 ob (aAm p i g) fun h=>
 if (decide (0 < (h.length:Int))) then (ob (kF g h b c d j) fun e=>
 iC a e.1 e.2.1 e.2.2) else (iC a b c d)) else (some (.inr (b,c,d)))
def lL (c:(List Int)) (d:(List (List Int))) (e:(List (bD × Int))) (f:(List gV)) (g:Int) (p:cO):Option (Bool × (List (List Int)) × (List (bD × Int)) × (List gV)):=
 ob (slc p.L 1 (p.L.length:Int)) fun h=>
 ob (loop (fun (s:(List (List Int) × (List (bD × Int)) × List gV × Int))=>jV c g p h s.1 s.2.1 s.2.2.1 s.2.2.2) (d,e,f,0)) fun r=>iB r.1 r.2.1 r.2.2
def kG (e:List (List Int)) (a b:Int) (c:List bD) (d:List Edge):Option (cO × (List (List Int)) × Bool):=
 ob (lJ ⟨a,b,c,d⟩) fun f=>
 some (⟨a,b,c,d⟩,e,f)
def iL (b:List (List Int)) (e:(List (bD × Int))) (c:List gV):Option (cO × (List (List Int)) × Bool):=
 ob (aBm c) fun d=>
 ob (aGN (b.length:Int) 0 d c) fun a=>
 kG b a.N a.I a.L a.E
def iM (b:Int) (a:(Bool × (List (List Int)) × (List (bD × Int)) × (List gV))) (c:Bool):Option ((List (List Int) × (List (bD × Int)) × List gV × Int) ⊕ ((List (List Int) × (List (bD × Int)) × List gV) ⊕ (cO × (List (List Int)) × Bool))):=
 if c then (some (.inr (.inr (⟨0,0,[],[]⟩,[],false)))) else (some (.inl (a.2.1,a.2.2.1,a.2.2.2,wr (b+1))))
def kH (f:cO) (b:List (List Int)) (d:(List (bD × Int))) (e:List gV) (a:Int):Option ((List (List Int) × (List (bD × Int)) × List gV × Int) ⊕ ((List (List Int) × (List (bD × Int)) × List gV) ⊕ (cO × (List (List Int)) × Bool))):=
 if (decide (a < (b.length:Int))) then (ob (ix b a) fun g=>
 ob (lL g b d e a f) fun c=>
 if (!c.1) then (iM a c true) else (iM a c (decide (40 < (c.2.1.length:Int))))) else (some (.inr (.inl (b,d,e))))
def nE (c:(List Int)) (d:cO):Option (cO × (List (List Int)) × Bool):=
 ob (gC [] ([]:(List (bD × Int))) [] c) fun b=>
 ob (loop (fun (s:(List (List Int) × (List (bD × Int)) × List gV × Int))=>kH d s.1 s.2.1 s.2.2.1 s.2.2.2) (b.2.1,b.2.2,[],0)) fun r=>match r with|.inl r=>iL r.1 r.2.1 r.2.2|.inr r=>some r
def iD (t:cO):Option (cO × (List (List Int)) × Bool):=
 ob (pE t ([t.I]:List Int)) fun c=>
 ob (nE c t) fun b=>
 if (!b.2.2) then (some (⟨0,0,[],[]⟩,[],false)) else (ob (aDC b.1) fun d=>
 ob (aGN b.1.N 0 t.L d) fun e=>
 some (e,b.2.1,true))
def wY (t:cO) (k:Int) (d:bD):Option Int:=
 if (decide (k < 0)) then (some (-1)) else (ob (pA t ([k]:List Int) d) fun b=>
 if (decide (0 < (b.length:Int))) then (ob (ix b 0) fun e=>
 some e) else (some (-1)))
def eE (a:List bD):Option (List bD):=
 some a
def fT (b:(List (List bD))) (c:List bD) (a:Int):Option ((List bD × Int) ⊕ (List bD)):=
 if (decide (a < (b.length:Int))) then (ob (ix b a) fun d=>
 ob (kC c d) fun e=>
 some (.inl (e,wr (a+1)))) else (some (.inr c))
def eF (a:(List (List bD))) (b:Int):Option (List bD):=
 ob (aEz [] b) fun c=>
 ob (loop (fun (s:(List bD × Int))=>fT a s.1 s.2) (c,0)) fun r=>eE r
def fU (a b:Int):Option ((Int × Int) ⊕ Int):=
 some (.inl (b,wr (a+1)))
def fV (c:(List (List bD))) (a b:Int):Option ((Int × Int) ⊕ Int):=
 if (decide (b < (c.length:Int))) then (ob (ix c b) fun d=>
 if (decide (wr (a+(d.length:Int)) < 0)) then (none) else (fU b (wr (a+(d.length:Int))))) else (some (.inr a))
def gI (a:(List (List bD))):Option (List bD):=
 ob (loop (fun (s:(Int × Int))=>fV a s.1 s.2) (0,0)) fun r=>eF a r
def fB (a:(List bD)):Option (List bD):=
 ob (kC ([]:List bD) a) fun b=>
 some b
def aKt (a:Int) (b:List bT):Option ((List bT × Int) ⊕ (List bT)):=
 some (.inl (b,wr (a+1)))
def aIq (a b:cO) (f:List bD) (c:bT) (g:List bT) (d:Int):Option ((List bT × Int) ⊕ (List bT)):=
 if (decide (d < (f.length:Int))) then (ob (ix f d) fun e=>
 ob (wY a c.a e) fun j=>
 ob (wY b c.b e) fun k=>
 ob (fB c.trace) fun l=>
 ob (kC l ([e]:List bD)) fun m=>
 ob (kC g ([⟨j,k,m⟩]:List bT)) fun n=>
 aKt d n) else (some (.inr g))
def aCY (a:(List UInt8)):Option Bool:=
 some (decide (1048576 < (a.length:Int)))
def aEF (a:(List UInt8)):Option (Int × Int):=
 some (0,0)
def uY:Option Int:=
 some (-1)
def aBn (b:(List bD)) (c:bD) (a:Int):Option (Int ⊕ (Unit ⊕ Int)):=
 if (decide (a < (b.length:Int))) then (ob (ix b a) fun d=>
 if (d == c) then (some (.inr (.inr a))) else (some (.inl (wr (a+1))))) else (some (.inr (.inl ())))
def aCZ (b:(List bD)) (c:bD):Option Int:=
 ob (loop (fun (s:Int)=>aBn b c s) 0) fun r=>match r with|.inl r=>uY|.inr r=>some r
def uZ (a:List bD):Option (List bD):=
 some a
def vA (a:Int) (b:List bD):Option ((List bD × Int) ⊕ (List bD)):=
 some (.inl (b,wr (a+1)))
def vB (c:Int) (d:bD) (a:Int) (b:List bD):Option ((List bD × Int) ⊕ (List bD)):=
 ob (ix b a) fun f=>
 ob (st b a (d:bD)) fun e=>
 vA c e
def aBo (c:Int) (b:List bD) (a:Int):Option ((List bD × Int) ⊕ (List bD)):=
 if (decide (c < a)) then (ob (ix b (wr (a - 1))) fun d=>
 ob (ix b a) fun f=>
 ob (st b a (d:bD)) fun e=>
 some (.inl (e,wr (a - 1)))) else (some (.inr b))
def vC (c:List bD) (d:Int) (e:bD) (a:Int):Option ((List bD × Int) ⊕ (List bD)):=
 ob (kC c ([([]:bD)]:List bD)) fun b=>
 ob (loop (fun (s:(List bD × Int))=>aBo a s.1 s.2) (b,wr ((b.length:Int) - 1))) fun r=>vB d e a r
def vD (a:Int) (b:Bool):Option (Int ⊕ Int):=
 if b then (some (.inl (wr (a+1)))) else (some (.inr a))
def aBp (b:List bD) (c:bD) (a:Int):Option (Int ⊕ Int):=
 if (decide (a < (b.length:Int))) then (ob (ix b a) fun d=>
 vD a (ltB d c)) else (vD a false)
def aBq (d:(List bD)) (a:List bD) (b:Int):Option ((List bD × Int) ⊕ (List bD)):=
 if (decide (b < (d.length:Int))) then (ob (ix d b) fun c=>
 ob (aCZ a c) fun e=>
 if (decide (0<=e)) then (vA b a) else (ob (loop (fun (s:Int)=>aBp a c s) 1) fun r=>vC a b c r)) else (some (.inr a))
def aDa (a:(List bD)):Option (List bD):=
 ob (loop (fun (s:(List bD × Int))=>aBq a s.1 s.2) (([([116,97,117]:bD)]:List bD),0)) fun r=>uZ r
def aDb (a b:Edge):Option Bool:=
 if (a.F != b.F) then (some (decide (a.F < b.F))) else (if (a.B != b.B) then (some (decide (a.B < b.B))) else (some (decide (a.To < b.To))))
def yZ (e:Edge) (b:Int) (c:List Edge):Option (List Edge):=
 ob (ix c b) fun f=>
 ob (st c b (⟨e.F,e.B,e.To⟩:Edge)) fun d=>
 some d
def aCr (d:Int) (b:List Edge) (a:Int):Option ((List Edge × Int) ⊕ (List Edge)):=
 if (decide (d < a)) then (ob (ix b (wr (a - 1))) fun c=>
 ob (ix b a) fun f=>
 ob (st b a (⟨c.F,c.B,c.To⟩:Edge)) fun e=>
 some (.inl (e,wr (a - 1)))) else (some (.inr b))
def zD (a:(List Edge)) (e:Edge) (b:Int) (f:Bool):Option (List Edge):=
 if f then (some a) else (ob (kC a ([⟨0,0,0⟩]:List Edge)) fun c=>
 ob (loop (fun (s:(List Edge × Int))=>aCr b s.1 s.2) (c,wr ((c.length:Int) - 1))) fun r=>yZ e b r)
def aJv (b:(List Edge)) (e:Edge) (a:Int):Option (List Edge):=
 if (decide (0 < a)) then (ob (ix b (wr (a - 1))) fun d=>
 zD b e a (decide ((d:Edge)=e))) else (zD b e a false)
def aJi (a:Int) (b:Bool):Option (Int ⊕ Int):=
 if b then (some (.inl (wr (a - 1)))) else (some (.inr a))
def aCs (b:(List Edge)) (e:Edge) (a:Int):Option (Int ⊕ Int):=
 if (decide (0 < a)) then (ob (ix b (wr (a - 1))) fun d=>
 ob (aDb e d) fun f=>
 aJi a f) else (aJi a false)
def aFV (a:(List Edge)) (e:Edge):Option (List Edge):=
 ob (loop (fun (s:Int)=>aCs a e s) (a.length:Int)) fun r=>aJv a e r
def vE (a b:Int) (c:(List bD)) (d:List Edge):Option cO:=
 some ⟨a,b,c,d⟩
def aBr (e:(List bD)) (c:(List Edge)) (f:(List bD)) (d:List Edge) (a:Int):Option ((List Edge × Int) ⊕ (List Edge)):=
 if (decide (a < (c.length:Int))) then (ob (ix c a) fun b=>
 ob (ix e b.B) fun g=>
 ob (aCZ f g) fun h=>
 ob (aFV d ⟨b.F,h,b.To⟩) fun i=>
 some (.inl (i,wr (a+1)))) else (some (.inr d))
def wM (c d:Int) (a:(List bD)) (e:(List Edge)):Option cO:=
 ob (aDa a) fun b=>
 ob (loop (fun (s:(List Edge × Int))=>aBr a e b s.1 s.2) (([]:List Edge),0)) fun r=>vE c d b r
def sF:Option Int:=
 some (-1)
def aAo (b:(List Int)) (n a:Int):Option (Int ⊕ (Unit ⊕ Int)):=
 if (decide (a < (b.length:Int))) then (ob (ix b a) fun d=>
 if (d == n) then (some (.inr (.inr a))) else (some (.inl (wr (a+1))))) else (some (.inr (.inl ())))
def wZ (b:(List Int)) (n:Int):Option Int:=
 ob (loop (fun (s:Int)=>aAo b n s) 0) fun r=>match r with|.inl r=>sF|.inr r=>some r
def vF (a:(List Int)) (b:Int) (c:List bD) (d:List Edge):Option cO:=
 some ⟨(a.length:Int),b,c,d⟩
def vG (a:Int) (b:List Edge):Option ((List Edge × Int) ⊕ (List Edge)):=
 some (.inl (b,wr (a+1)))
def vH (a:List Edge) (b:Int) (c:Edge) (d e:Int) (f:Bool):Option ((List Edge × Int) ⊕ (List Edge)):=
 if f then (ob (kC a ([⟨d,c.B,e⟩]:List Edge)) fun g=>
 vG b g) else (vG b a)
def aBs (t:cO) (g:(List Int)) (c:List Edge) (a:Int):Option ((List Edge × Int) ⊕ (List Edge)):=
 if (decide (a < (t.E.length:Int))) then (ob (ix t.E a) fun b=>
 ob (wZ g b.F) fun d=>
 ob (wZ g b.To) fun e=>
 if (decide (0<=d)) then (vH c a b d e (decide (0<=e))) else (vH c a b d e false)) else (some (.inr c))
def aAZ (t:cO) (b:(List Int)):Option cO:=
 ob (wZ b t.I) fun c=>
 ob (kC ([]:List bD) t.L) fun d=>
 ob (loop (fun (s:(List Edge × Int))=>aBs t b s.1 s.2) (([]:List Edge),0)) fun r=>vF b c d r
def sG (a:List Int):Option (List Int):=
 some a
def sH (a:Int) (b:List Int):Option ((List Int × Int) ⊕ (List Int)):=
 some (.inl (b,wr (a+1)))
def aAp (t:cO) (d:List Bool) (b:List Int) (a:Int):Option ((List Int × Int) ⊕ (List Int)):=
 if (decide (a < t.N)) then (ob (ix d a) fun e=>
 if e then (ob (kC b ([a]:List Int)) fun f=>
 sH a f) else (sH a b)) else (some (.inr b))
def sI (t:cO) (b:List Bool):Option (List Int):=
 ob (loop (fun (s:(List Int × Int))=>aAp t b s.1 s.2) (([]:List Int),0)) fun r=>sG r
def aAq (a:List Bool) (b:Bool):Option ((List Bool × Bool) ⊕ (List Bool)):=
 some (.inl (a,b))
def sJ (a:List Bool) (b:Bool):Option ((List Bool × Bool) ⊕ (List Bool)):=
 aAq a b
def sK (a:Int) (b:List Bool) (c:Bool):Option ((List Bool × Bool × Int) ⊕ (List Bool × Bool)):=
 some (.inl (b,c,wr (a+1)))
def sL (t:cO) (a:List Bool) (e:Bool) (b:Int) (f:Bool):Option ((List Bool × Bool × Int) ⊕ (List Bool × Bool)):=
 if f then (ob (ix t.E b) fun c=>
 ob (ix a c.To) fun h=>
 ob (st a c.To (true:Bool)) fun g=>
 sK b g true) else (sK b a e)
def aAr (t:cO) (a:List Bool) (d:Bool) (c:Int):Option ((List Bool × Bool × Int) ⊕ (List Bool × Bool)):=
 if (decide (c < (t.E.length:Int))) then (ob (ix t.E c) fun e=>
 ob (ix a e.F) fun f=>
 if f then (ob (ix a e.To) fun g=>
 sL t a d c (!g)) else (sL t a d c false)) else (some (.inr (a,d)))
def xA (t:cO) (a:List Bool) (d:Bool):Option ((List Bool × Bool) ⊕ (List Bool)):=
 if d then (ob (loop (fun (s:(List Bool × Bool × Int))=>aAr t s.1 s.2.1 s.2.2) (a,false,0)) fun r=>sJ r.1 r.2) else (some (.inr a))
def xB (t:cO):Option (List Int):=
 ob (mkz t.N (false:Bool)) fun b=>
 ob (ix b t.I) fun e=>
 ob (st b t.I (true:Bool)) fun c=>
 ob (loop (fun (s:(List Bool × Bool))=>xA t s.1 s.2) (c,true)) fun r=>sI t r
def aFW (a b:Int):Option Int:=
 if (decide (b < a)) then (some a) else (some b)
def pF (a:Int):Option Int:=
 some a
def xC (p:(List Int)) (c a:Int):Option ((Int × Int) ⊕ Int):=
 if (decide (a < (p.length:Int))) then (ob (ix p a) fun d=>
 ob (aFW c (wr (d+1))) fun e=>
 some (.inl (e,wr (a+1)))) else (some (.inr c))
def zJ (p:(List Int)):Option Int:=
 ob (loop (fun (s:(Int × Int))=>xC p s.1 s.2) (0,0)) fun r=>pF r
def mJ (t:cO) (p:(List Int)) (c:List Edge):Option cO:=
 ob (ix p t.I) fun d=>
 ob (zJ p) fun e=>
 ob (wM e d t.L c) fun f=>
 some f
def rF (t:cO) (p:(List Int)) (e:List Edge) (a:Int):Option ((List Edge × Int) ⊕ (List Edge)):=
 if (decide (a < (t.E.length:Int))) then (ob (ix t.E a) fun b=>
 ob (ix p b.F) fun f=>
 ob (ix p b.To) fun g=>
 ob (kC e ([⟨f,b.B,g⟩]:List Edge)) fun h=>
 some (.inl (h,wr (a+1)))) else (some (.inr e))
def aAs (t:cO) (p:(List Int)):Option cO:=
 ob (loop (fun (s:(List Edge × Int))=>rF t p s.1 s.2) (([]:List Edge),0)) fun r=>mJ t p r
def vI:Option Bool:=
 some true
def aBt (a b:(List Int)) (c:Int):Option (Int ⊕ (Unit ⊕ Bool)):=
 if (decide (c < (a.length:Int))) then (ob (ix a c) fun f=>
 ob (ix b c) fun g=>
 if (f != g) then (some (.inr (.inr false))) else (some (.inl (wr (c+1))))) else (some (.inr (.inl ())))
def rG (a b:(List Int)):Option Bool:=
 if ((a.length:Int) != (b.length:Int)) then (some false) else (ob (loop (fun (s:Int)=>aBt a b s) 0) fun r=>match r with|.inl r=>vI|.inr r=>some r)
def zN (a:List Int):Option (List Int):=
 some a
def aJN (n:Int) (a:List Int) (c:Bool):Option (List Int):=
 if (!c) then (ob (kC a ([n]:List Int)) fun d=>
 zN d) else (zN a)
def tY (b:(List Int)) (a:Int) (c:List Int) (d:Bool):Option ((List Int × Bool × Int) ⊕ (List Int × Bool)):=
 ob (ix b a) fun e=>
 ob (kC c ([e]:List Int)) fun f=>
 some (.inl (f,d,wr (a+1)))
def zQ (a:(List Int)) (n:Int) (c:List Int) (e:Bool) (b:Int) (f:Bool):Option ((List Int × Bool × Int) ⊕ (List Int × Bool)):=
 if f then (ob (ix a b) fun g=>
 if (decide (n < g)) then (ob (kC c ([n]:List Int)) fun h=>
 tY a b h true) else (tY a b c true)) else (tY a b c e)
def aCt (a:(List Int)) (n:Int) (e:List Int) (b:Bool) (c:Int):Option ((List Int × Bool × Int) ⊕ (List Int × Bool)):=
 if (decide (c < (a.length:Int))) then (if (!b) then (ob (ix a c) fun f=>
 zQ a n e b c (decide (n<=f))) else (zQ a n e b c false)) else (some (.inr (e,b)))
def aEo (c:(List Int)) (n:Int):Option (List Int):=
 ob (loop (fun (s:(List Int × Bool × Int))=>aCt c n s.1 s.2.1 s.2.2) (([]:List Int),false,0)) fun r=>aJN n r.1 r.2
def vJ (a:List Int):Option (List Int):=
 some a
def vK (a:Int) (b:List Int):Option ((List Int × Int) ⊕ (List Int)):=
 some (.inl (b,wr (a+1)))
def aBu (t:cO) (p:(List Int)) (k:Int) (b:List Int) (a:Int):Option ((List Int × Int) ⊕ (List Int)):=
 if (decide (a < (t.E.length:Int))) then (ob (ix t.E a) fun c=>
 if (c.F == k) then (ob (ix p c.To) fun g=>
 ob (aEo b (wr ((wr (c.B * (p.length:Int)))+g))) fun h=>
 vK a h) else (vK a b)) else (some (.inr b))
def aEG (t:cO) (p:(List Int)) (k:Int):Option (List Int):=
 ob (loop (fun (s:(List Int × Int))=>aBu t p k s.1 s.2) (([]:List Int),0)) fun r=>vJ r
def pG (a:List Int):Option (List Int):=
 some a
def xD (a:Int) (b:List Int) (c:Int):Option ((List Int × Int × Int) ⊕ (List Int)):=
 some (.inl (b,c,wr (a+1)))
def pH (a:List Int) (b c d:Int):Option ((List Int × Int × Int) ⊕ (List Int)):=
 ob (kC a ([d]:List Int)) fun e=>
 xD b e c
def pI (b:List Int) (a c d:Int):Option ((List Int × Int × Int) ⊕ (List Int)):=
 if (decide (d < 0)) then (pH b c (wr (a+1)) a) else (pH b c a d)
def pJ (a b:Int):Option ((Int × Int) ⊕ Int):=
 some (.inl (b,wr (a+1)))
def pK (b:List Int) (c a:Int) (d:Bool):Option ((Int × Int) ⊕ Int):=
 if d then (ob (ix b a) fun e=>
 pJ a e) else (pJ a c)
def pL (p:(List Int)) (d:List (List Int)) (e:List Int) (f b a:Int) (g:Bool):Option ((Int × Int) ⊕ Int):=
 if g then (ob (ix p a) fun h=>
 ob (ix p f) fun i=>
 if (h == i) then (ob (ix d a) fun j=>
 ob (ix d f) fun k=>
 ob (rG j k) fun l=>
 pK e b a l) else (pK e b a false)) else (some (.inr b))
def xE (p:(List Int)) (e:List (List Int)) (f:List Int) (a b c:Int):Option ((Int × Int) ⊕ Int):=
 if (decide (c < a)) then (pL p e f a b c (decide (b < 0))) else (pL p e f a b c false)
def xF (p:(List Int)) (d:List (List Int)) (a:List Int) (e b:Int):Option ((List Int × Int × Int) ⊕ (List Int)):=
 if (decide (b < (p.length:Int))) then (ob (loop (fun (s:(Int × Int))=>xE p d a b s.1 s.2) ((-1),0)) fun r=>pI a e b r) else (some (.inr a))
def nT (p:(List Int)) (b:List (List Int)):Option (List Int):=
 ob (loop (fun (s:(List Int × Int × Int))=>xF p b s.1 s.2.1 s.2.2) (([]:List Int),0,0)) fun r=>pG r
def uD (t:cO) (p:(List Int)) (c:List (List Int)) (a:Int):Option ((List (List Int) × Int) ⊕ (List (List Int))):=
 if (decide (a < t.N)) then (ob (aEG t p a) fun e=>
 ob (kC c ([e]:List (List Int))) fun f=>
 some (.inl (f,wr (a+1)))) else (some (.inr c))
def aCu (t:cO) (p:(List Int)):Option (List Int):=
 ob (loop (fun (s:(List (List Int) × Int))=>uD t p s.1 s.2) (([]:List (List Int)),0)) fun r=>nT p r
def xG (t:cO) (a:List Int) (b:Int):Option ((List Int × Int) ⊕ ((List Int) × Int)):=
 ob (aCu t a) fun c=>
 ob (rG c a) fun e=>
 if e then (some (.inr (a,b))) else (some (.inl (c,wr (b+1))))
def aCv (t:cO):Option ((List Int) × Int):=
 ob (mkz t.N (0:Int)) fun b=>
 ob (loop (fun (s:(List Int × Int))=>xG t s.1 s.2) (b,0)) fun r=>some r
def aDc (t:cO):Option (List Int):=
 ob (aCv t) fun b=>
 some b.1
def aDD (t:cO):Option cO:=
 ob (xB t) fun c=>
 ob (aAZ t c) fun b=>
 ob (aDc b) fun d=>
 ob (aAs b d) fun e=>
 some e
def sM (a:Bool):Option Bool:=
 some a
def rH (e:Edge) (p:(List Int)):Option Bool:=
 if (e.B == 0) then (ob (ix p e.F) fun c=>
 ob (ix p e.To) fun d=>
 sM (c == d)) else (sM false)
def vL (a:List Int):Option (List Int):=
 some a
def vM (a:Int) (b:List Int):Option ((List Int × Int) ⊕ (List Int)):=
 some (.inl (b,wr (a+1)))
def aBv (c:(List Bool)) (b:List Int) (a:Int):Option ((List Int × Int) ⊕ (List Int)):=
 if (decide (a < (c.length:Int))) then (ob (ix c a) fun d=>
 if d then (ob (kC b ([a]:List Int)) fun e=>
 vM a e) else (vM a b)) else (some (.inr b))
def aEH (a:(List Bool)):Option (List Int):=
 ob (loop (fun (s:(List Int × Int))=>aBv a s.1 s.2) (([]:List Int),0)) fun r=>vL r
def nU (a:List Bool):Option (List Bool):=
 some a
def uE (a:List Bool) (b:Bool):Option ((List Bool × Bool) ⊕ (List Bool)):=
 some (.inl (a,b))
def nV (a:List Bool) (b:Bool):Option ((List Bool × Bool) ⊕ (List Bool)):=
 uE a b
def kN (a:Int) (b:List Bool) (c:Bool):Option ((List Bool × Bool × Int) ⊕ (List Bool × Bool)):=
 some (.inl (b,c,wr (a+1)))
def nW (b:List Bool) (c:Bool) (a:Int) (d:Bool):Option ((List Bool × Bool × Int) ⊕ (List Bool × Bool)):=
 if (!d) then (ob (st b a (false:Bool)) fun e=>
 kN a e true) else (kN a b c)
def iY (a:Int) (b:Bool):Option ((Bool × Int) ⊕ Bool):=
 some (.inl (b,wr (a+1)))
def uF (t:cO) (p:(List Int)) (f:List Bool) (g:Int) (d:Bool) (a:Int):Option ((Bool × Int) ⊕ Bool):=
 if (decide (a < (t.E.length:Int))) then (ob (ix t.E a) fun b=>
 if d then (iY a true) else (if (b.F == g) then (ob (rH b p) fun h=>
 if h then (ob (ix f b.To) fun i=>
 iY a i) else (iY a false)) else (iY a false))) else (some (.inr d))
def uG (t:cO) (p:(List Int)) (a:List Bool) (c:Bool) (b:Int):Option ((List Bool × Bool × Int) ⊕ (List Bool × Bool)):=
 if (decide (b < t.N)) then (ob (ix a b) fun f=>
 if (!f) then (kN b a c) else (ob (loop (fun (s:(Bool × Int))=>uF t p a b s.1 s.2) (false,0)) fun r=>nW a c b r)) else (some (.inr (a,c)))
def uH (t:cO) (p:(List Int)) (a:List Bool) (e:Bool):Option ((List Bool × Bool) ⊕ (List Bool)):=
 if e then (ob (loop (fun (s:(List Bool × Bool × Int))=>uG t p s.1 s.2.1 s.2.2) (a,false,0)) fun r=>nV r.1 r.2) else (some (.inr a))
def mK (t:cO) (p:(List Int)) (c:List Bool):Option (List Bool):=
 ob (loop (fun (s:(List Bool × Bool))=>uH t p s.1 s.2) (c,true)) fun r=>nU r
def rI (t:cO) (b:List Bool) (a:Int):Option ((List Bool × Int) ⊕ (List Bool)):=
 if (decide (a < t.N)) then (ob (ix b a) fun e=>
 ob (st b a (true:Bool)) fun d=>
 some (.inl (d,wr (a+1)))) else (some (.inr b))
def vN (t:cO) (p:(List Int)):Option (List Bool):=
 ob (mkz t.N (false:Bool)) fun c=>
 ob (loop (fun (s:(List Bool × Int))=>rI t s.1 s.2) (c,0)) fun r=>mK t p r
def mL (t:cO) (p:(List Int)) (c:List Edge):Option cO:=
 ob (ix p t.I) fun d=>
 ob (zJ p) fun e=>
 ob (wM e d t.L c) fun f=>
 some f
def mM (t:cO) (p:(List Int)) (c:List Edge):Option cO:=
 mL t p c
def rJ (p b:(List Int)) (c:List Edge) (a:Int):Option ((List Edge × Int) ⊕ (List Edge)):=
 if (decide (a < (b.length:Int))) then (ob (ix b a) fun f=>
 ob (ix p f) fun d=>
 ob (kC c ([⟨d,0,d⟩]:List Edge)) fun g=>
 some (.inl (g,wr (a+1)))) else (some (.inr c))
def mN (t:cO) (p:(List Int)) (d:Bool) (c:List Edge):Option cO:=
 if d then (ob (vN t p) fun e=>
 ob (aEH e) fun f=>
 ob (loop (fun (s:(List Edge × Int))=>rJ p f s.1 s.2) (c,0)) fun r=>mM t p r) else (mL t p c)
def mO (a:Int) (b:List Edge):Option ((List Edge × Int) ⊕ (List Edge)):=
 some (.inl (b,wr (a+1)))
def rK (t:cO) (p:(List Int)) (d:List Edge) (a:Int):Option ((List Edge × Int) ⊕ (List Edge)):=
 if (decide (a < (t.E.length:Int))) then (ob (ix t.E a) fun b=>
 ob (rH b p) fun f=>
 if (!f) then (ob (ix p b.F) fun g=>
 ob (ix p b.To) fun h=>
 ob (kC d ([⟨g,b.B,h⟩]:List Edge)) fun i=>
 mO a i) else (mO a d)) else (some (.inr d))
def sO (t:cO) (p:(List Int)) (c:Bool):Option cO:=
 ob (loop (fun (s:(List Edge × Int))=>rK t p s.1 s.2) (([]:List Edge),0)) fun r=>mN t p c r
def sP (a:List Bool):Option (List Bool):=
 some a
def aAt (a:List Bool) (b:Bool):Option ((List Bool × Bool) ⊕ (List Bool)):=
 some (.inl (a,b))
def sQ (a:List Bool) (b:Bool):Option ((List Bool × Bool) ⊕ (List Bool)):=
 aAt a b
def sS (a:Int) (b:List Bool) (c:Bool):Option ((List Bool × Bool × Int) ⊕ (List Bool × Bool)):=
 some (.inl (b,c,wr (a+1)))
def nL (a:List Bool) (d:Bool) (b:Int) (c:Edge) (e:Bool):Option ((List Bool × Bool × Int) ⊕ (List Bool × Bool)):=
 if e then (ob (ix a c.To) fun g=>
 ob (st a c.To (true:Bool)) fun f=>
 sS b f true) else (sS b a d)
def aAu (t:cO) (p:(List Int)) (a:List Bool) (d:Bool) (c:Int):Option ((List Bool × Bool × Int) ⊕ (List Bool × Bool)):=
 if (decide (c < (t.E.length:Int))) then (ob (ix t.E c) fun b=>
 ob (ix a b.F) fun g=>
 if g then (ob (ix a b.To) fun h=>
 if (!h) then (ob (rH b p) fun i=>
 nL a d c b i) else (nL a d c b false)) else (nL a d c b false)) else (some (.inr (a,d)))
def aAv (t:cO) (p:(List Int)) (a:List Bool) (e:Bool):Option ((List Bool × Bool) ⊕ (List Bool)):=
 if e then (ob (loop (fun (s:(List Bool × Bool × Int))=>aAu t p s.1 s.2.1 s.2.2) (a,false,0)) fun r=>sQ r.1 r.2) else (some (.inr a))
def aDE (t:cO) (p:(List Int)) (k:Int):Option (List Bool):=
 ob (mkz t.N (false:Bool)) fun c=>
 ob (ix c k) fun g=>
 ob (st c k (true:Bool)) fun e=>
 ob (loop (fun (s:(List Bool × Bool))=>aAv t p s.1 s.2) (e,true)) fun r=>sP r
def pM (a:List Int):Option (List Int):=
 some a
def pN (a:Int) (b:List Int):Option ((List Int × Int) ⊕ (List Int)):=
 some (.inl (b,wr (a+1)))
def pO (p:(List Int)) (b:List Int) (c:Int) (d:Edge) (e:Bool):Option ((List Int × Int) ⊕ (List Int)):=
 if e then (ob (ix p d.To) fun f=>
 ob (aEo b (wr ((wr (d.B * (p.length:Int)))+f))) fun g=>
 pN c g) else (pN c b)
def xH (t:cO) (p:(List Int)) (f:(List Bool)) (d:List Int) (a:Int):Option ((List Int × Int) ⊕ (List Int)):=
 if (decide (a < (t.E.length:Int))) then (ob (ix t.E a) fun b=>
 ob (ix f b.F) fun g=>
 if g then (ob (rH b p) fun h=>
 pO p d a b (!h)) else (pO p d a b false)) else (some (.inr d))
def aCw (t:cO) (p:(List Int)) (k:Int):Option (List Int):=
 ob (aDE t p k) fun d=>
 ob (loop (fun (s:(List Int × Int))=>xH t p d s.1 s.2) (([]:List Int),0)) fun r=>pM r
def pP (a:List Int):Option (List Int):=
 some a
def xI (a:Int) (b:List Int) (c:Int):Option ((List Int × Int × Int) ⊕ (List Int)):=
 some (.inl (b,c,wr (a+1)))
def pQ (a:List Int) (b c d:Int):Option ((List Int × Int × Int) ⊕ (List Int)):=
 ob (kC a ([d]:List Int)) fun e=>
 xI b e c
def pR (b:List Int) (a c d:Int):Option ((List Int × Int × Int) ⊕ (List Int)):=
 if (decide (d < 0)) then (pQ b c (wr (a+1)) a) else (pQ b c a d)
def pS (a b:Int):Option ((Int × Int) ⊕ Int):=
 some (.inl (b,wr (a+1)))
def pT (b:List Int) (c a:Int) (d:Bool):Option ((Int × Int) ⊕ Int):=
 if d then (ob (ix b a) fun e=>
 pS a e) else (pS a c)
def pU (p:(List Int)) (d:List (List Int)) (e:List Int) (f b a:Int) (g:Bool):Option ((Int × Int) ⊕ Int):=
 if g then (ob (ix p a) fun h=>
 ob (ix p f) fun i=>
 if (h == i) then (ob (ix d a) fun j=>
 ob (ix d f) fun k=>
 ob (rG j k) fun l=>
 pT e b a l) else (pT e b a false)) else (some (.inr b))
def xJ (p:(List Int)) (e:List (List Int)) (f:List Int) (a b c:Int):Option ((Int × Int) ⊕ Int):=
 if (decide (c < a)) then (pU p e f a b c (decide (b < 0))) else (pU p e f a b c false)
def xK (p:(List Int)) (d:List (List Int)) (a:List Int) (e b:Int):Option ((List Int × Int × Int) ⊕ (List Int)):=
 if (decide (b < (p.length:Int))) then (ob (loop (fun (s:(Int × Int))=>xJ p d a b s.1 s.2) ((-1),0)) fun r=>pR a e b r) else (some (.inr a))
def nX (p:(List Int)) (b:List (List Int)):Option (List Int):=
 ob (loop (fun (s:(List Int × Int × Int))=>xK p b s.1 s.2.1 s.2.2) (([]:List Int),0,0)) fun r=>pP r
def nY (a:List (List Int)) (b:Int) (c:List Int):Option ((List (List Int) × Int) ⊕ (List (List Int))):=
 ob (kC a ([c]:List (List Int))) fun d=>
 some (.inl (d,wr (b+1)))
def nZ (a:List (List Int)) (b:Int) (c:(List Int)) (d:Bool):Option ((List (List Int) × Int) ⊕ (List (List Int))):=
 if d then (ob (kC c ([(-1)]:List Int)) fun e=>
 nY a b e) else (nY a b c)
def uI (t:cO) (p:(List Int)) (f:Bool) (g:(List Bool)) (b:List (List Int)) (a:Int):Option ((List (List Int) × Int) ⊕ (List (List Int))):=
 if (decide (a < t.N)) then (ob (aCw t p a) fun d=>
 if f then (ob (ix g a) fun h=>
 nZ b a d h) else (nZ b a d false)) else (some (.inr b))
def aCx (t:cO) (p:(List Int)) (c:Bool):Option (List Int):=
 ob (vN t p) fun d=>
 ob (loop (fun (s:(List (List Int) × Int))=>uI t p c d s.1 s.2) (([]:List (List Int)),0)) fun r=>nX p r
def aBw (t:cO) (d:Bool) (a:List Int):Option ((List Int) ⊕ (List Int)):=
 ob (aCx t a d) fun b=>
 ob (rG b a) fun e=>
 if e then (some (.inr a)) else (some (.inl b))
def aEI (t:cO) (b:Bool):Option (List Int):=
 ob (mkz t.N (0:Int)) fun c=>
 ob (loop (fun (s:List Int)=>aBw t b s) c) fun r=>some r
def aBx (t:cO) (b:Bool):Option cO:=
 ob (xB t) fun d=>
 ob (aAZ t d) fun c=>
 ob (aEI c b) fun e=>
 ob (sO c e b) fun f=>
 some f
def sT (a:List Bool):Option (List Bool):=
 some a
def aAw (a:Int) (b:List Bool):Option ((List Bool × Int) ⊕ (List Bool)):=
 some (.inl (b,wr (a+1)))
def sU (a:Int) (b:List Bool):Option ((List Bool × Int) ⊕ (List Bool)):=
 aAw a b
def sV (a:Int) (b:List Bool):Option ((List Bool × Int) ⊕ (List Bool)):=
 some (.inl (b,wr (a+1)))
def sW (a:Int) (b:List Bool):Option ((List Bool × Int) ⊕ (List Bool)):=
 sV a b
def sX (a:Int) (b:List Bool):Option ((List Bool × Int) ⊕ (List Bool)):=
 some (.inl (b,wr (a+1)))
def aAx (n e d:Int) (b:List Bool) (a:Int):Option ((List Bool × Int) ⊕ (List Bool)):=
 if (decide (a < n)) then (ob (ix b (wr ((wr (e * n))+a))) fun f=>
 if f then (ob (ix b (wr ((wr (d * n))+a))) fun h=>
 ob (st b (wr ((wr (d * n))+a)) (true:Bool)) fun g=>
 sX a g) else (sX a b)) else (some (.inr b))
def aAy (n d:Int) (b:List Bool) (a:Int):Option ((List Bool × Int) ⊕ (List Bool)):=
 if (decide (a < n)) then (ob (ix b (wr ((wr (a * n))+d))) fun e=>
 if (!e) then (sV a b) else (ob (loop (fun (s:(List Bool × Int))=>aAx n d a s.1 s.2) (b,0)) fun r=>sW a r)) else (some (.inr b))
def aAz (n:Int) (c:List Bool) (a:Int):Option ((List Bool × Int) ⊕ (List Bool)):=
 if (decide (a < n)) then (ob (loop (fun (s:(List Bool × Int))=>aAy n a s.1 s.2) (c,0)) fun r=>sU a r) else (some (.inr c))
def pV (n:Int) (b:List Bool):Option (List Bool):=
 ob (loop (fun (s:(List Bool × Int))=>aAz n s.1 s.2) (b,0)) fun r=>sT r
def xL (n:Int) (c:List Bool) (a:Int):Option ((List Bool × Int) ⊕ (List Bool)):=
 if (decide (a < n)) then (ob (ix c (wr ((wr (a * n))+a))) fun e=>
 ob (st c (wr ((wr (a * n))+a)) (true:Bool)) fun d=>
 some (.inl (d,wr (a+1)))) else (some (.inr c))
def aDF (n:Int) (m:(List Bool)):Option (List Bool):=
 ob (loop (fun (s:(List Bool × Int))=>xL n s.1 s.2) (m,0)) fun r=>pV n r
def sY (t:cO) (b:List Bool):Option (List Bool):=
 ob (aDF t.N b) fun c=>
 some c
def sZ (a:Int) (b:List Bool):Option ((List Bool × Int) ⊕ (List Bool)):=
 some (.inl (b,wr (a+1)))
def aAA (t:cO) (c:List Bool) (d:Int):Option ((List Bool × Int) ⊕ (List Bool)):=
 if (decide (d < (t.E.length:Int))) then (ob (ix t.E d) fun a=>
 if (a.B == 0) then (ob (ix c (wr ((wr (a.F * t.N))+a.To))) fun f=>
 ob (st c (wr ((wr (a.F * t.N))+a.To)) (true:Bool)) fun e=>
 sZ d e) else (sZ d c)) else (some (.inr c))
def aDG (t:cO):Option (List Bool):=
 ob (mkz (wr (t.N * t.N)) (false:Bool)) fun b=>
 ob (loop (fun (s:(List Bool × Int))=>aAA t s.1 s.2) (b,0)) fun r=>sY t r
def vO (a:List Bool):Option (List Bool):=
 some a
def aBy (t:cO) (d:(List Bool)) (e:Int) (b:List Bool) (a:Int):Option ((List Bool × Int) ⊕ (List Bool)):=
 if (decide (a < t.N)) then (ob (ix d (wr ((wr (e * t.N))+a))) fun f=>
 ob (ix b a) fun h=>
 ob (st b a (f:Bool)) fun g=>
 some (.inl (g,wr (a+1)))) else (some (.inr b))
def vP (a:List Bool):Option (List Bool):=
 some a
def vQ (a:Int) (b:List Bool):Option ((List Bool × Int) ⊕ (List Bool)):=
 some (.inl (b,wr (a+1)))
def vR (a:Int) (b:List Bool):Option ((List Bool × Int) ⊕ (List Bool)):=
 vQ a b
def vS (a:Int) (b:List Bool):Option ((List Bool × Int) ⊕ (List Bool)):=
 some (.inl (b,wr (a+1)))
def aBz (t:cO) (d:(List Bool)) (e:Edge) (b:List Bool) (a:Int):Option ((List Bool × Int) ⊕ (List Bool)):=
 if (decide (a < t.N)) then (ob (ix d (wr ((wr (e.To * t.N))+a))) fun f=>
 if f then (ob (ix b a) fun h=>
 ob (st b a (true:Bool)) fun g=>
 vS a g) else (vS a b)) else (some (.inr b))
def vT (t:cO) (d:(List Bool)) (a:List Bool) (b:Int) (e:Edge) (f:Bool):Option ((List Bool × Int) ⊕ (List Bool)):=
 if f then (vQ b a) else (ob (loop (fun (s:(List Bool × Int))=>aBz t d e s.1 s.2) (a,0)) fun r=>vR b r)
def aBA (t:cO) (d:(List Bool)) (f g:Int) (e:List Bool) (b:Int):Option ((List Bool × Int) ⊕ (List Bool)):=
 if (decide (b < (t.E.length:Int))) then (ob (ix t.E b) fun c=>
 if (c.B != g) then (vT t d e b c true) else (ob (ix d (wr ((wr (f * t.N))+c.F))) fun h=>
 vT t d e b c (!h))) else (some (.inr e))
def aEJ (t:cO) (c:(List Bool)) (d e:Int):Option (List Bool):=
 ob (mkz t.N (false:Bool)) fun f=>
 if (e == 0) then (ob (loop (fun (s:(List Bool × Int))=>aBy t c d s.1 s.2) (f,0)) fun r=>vO r) else (ob (loop (fun (s:(List Bool × Int))=>aBA t c d e s.1 s.2) (f,0)) fun r=>vP r)
def mP (t:cO) (b:List bD) (c:List Edge):Option cO:=
 some ⟨t.N,t.I,b,c⟩
def rL (a:Int) (b:List Edge):Option ((List Edge × Int) ⊕ (List Edge)):=
 some (.inl (b,wr (a+1)))
def mQ (a:Int) (b:List Edge):Option ((List Edge × Int) ⊕ (List Edge)):=
 rL a b
def rM (a:Int) (b:List Edge):Option ((List Edge × Int) ⊕ (List Edge)):=
 some (.inl (b,wr (a+1)))
def mR (a:Int) (b:List Edge):Option ((List Edge × Int) ⊕ (List Edge)):=
 rM a b
def mS (a:Int) (b:List Edge):Option ((List Edge × Int) ⊕ (List Edge)):=
 some (.inl (b,wr (a+1)))
def rN (t:cO) (d e:Int) (f:(List Bool)) (b:List Edge) (a:Int):Option ((List Edge × Int) ⊕ (List Edge)):=
 if (decide (a < t.N)) then (ob (ix f a) fun g=>
 if g then (ob (kC b ([⟨d,e,a⟩]:List Edge)) fun h=>
 mS a h) else (mS a b)) else (some (.inr b))
def rO (t:cO) (e:(List Bool)) (c:Int) (d:List Edge) (a:Int):Option ((List Edge × Int) ⊕ (List Edge)):=
 if (decide (a < (t.L.length:Int))) then (ob (aEJ t e c a) fun f=>
 ob (loop (fun (s:(List Edge × Int))=>rN t c a f s.1 s.2) (d,0)) fun r=>mR a r) else (some (.inr d))
def rP (t:cO) (d:(List Bool)) (c:List Edge) (a:Int):Option ((List Edge × Int) ⊕ (List Edge)):=
 if (decide (a < t.N)) then (ob (loop (fun (s:(List Edge × Int))=>rO t d a s.1 s.2) (c,0)) fun r=>mQ a r) else (some (.inr c))
def pW (t:cO) (b:List bD):Option cO:=
 ob (aDG t) fun c=>
 ob (loop (fun (s:(List Edge × Int))=>rP t c s.1 s.2) (([]:List Edge),0)) fun r=>mP t b r
def aAB (t:cO):Option cO:=
 ob (kC ([]:List bD) t.L) fun b=>
 pW t b
def aEK (t:cO):Option (List Int):=
 ob (aAB t) fun b=>
 ob (aDc b) fun c=>
 some c
def aDH (t:cO):Option cO:=
 ob (xB t) fun c=>
 ob (aAZ t c) fun b=>
 ob (aEK b) fun d=>
 ob (sO b d false) fun e=>
 some e
def tA (a:List Bool):Option (List Bool):=
 some a
def aAC (c:(List Int)) (a:List Bool) (b:Int):Option ((List Bool × Int) ⊕ (List Bool)):=
 if (decide (b < (c.length:Int))) then (ob (ix c b) fun d=>
 ob (ix a d) fun f=>
 ob (st a d (true:Bool)) fun e=>
 some (.inl (e,wr (b+1)))) else (some (.inr a))
def aDI (t:cO) (b:(List Int)):Option (List Bool):=
 ob (mkz t.N (false:Bool)) fun c=>
 ob (loop (fun (s:(List Bool × Int))=>aAC b s.1 s.2) (c,0)) fun r=>tA r
def tB (a:List Bool):Option (List Bool):=
 some a
def aAD (a:List Bool) (b:Bool):Option ((List Bool × Bool) ⊕ (List Bool)):=
 some (.inl (a,b))
def tC (a:List Bool) (b:Bool):Option ((List Bool × Bool) ⊕ (List Bool)):=
 aAD a b
def tD (a:Int) (b:List Bool) (c:Bool):Option ((List Bool × Bool × Int) ⊕ (List Bool × Bool)):=
 some (.inl (b,c,wr (a+1)))
def nM (a:List Bool) (d:Bool) (b:Int) (c:Edge) (e:Bool):Option ((List Bool × Bool × Int) ⊕ (List Bool × Bool)):=
 if e then (ob (ix a c.To) fun g=>
 ob (st a c.To (true:Bool)) fun f=>
 tD b f true) else (tD b a d)
def aAE (t:cO) (a:List Bool) (d:Bool) (c:Int):Option ((List Bool × Bool × Int) ⊕ (List Bool × Bool)):=
 if (decide (c < (t.E.length:Int))) then (ob (ix t.E c) fun b=>
 if (b.B == 0) then (ob (ix a b.F) fun f=>
 if f then (ob (ix a b.To) fun g=>
 nM a d c b (!g)) else (nM a d c b false)) else (nM a d c b false)) else (some (.inr (a,d)))
def aAF (t:cO) (a:List Bool) (d:Bool):Option ((List Bool × Bool) ⊕ (List Bool)):=
 if d then (ob (loop (fun (s:(List Bool × Bool × Int))=>aAE t s.1 s.2.1 s.2.2) (a,false,0)) fun r=>tC r.1 r.2) else (some (.inr a))
def aBB (t:cO) (b:(List Bool)):Option (List Bool):=
 ob (loop (fun (s:(List Bool × Bool))=>aAF t s.1 s.2) (b,true)) fun r=>tB r
def vU (a:List Int):Option (List Int):=
 some a
def vV (a:Int) (b:List Int):Option ((List Int × Int) ⊕ (List Int)):=
 some (.inl (b,wr (a+1)))
def aBC (c:(List Bool)) (b:List Int) (a:Int):Option ((List Int × Int) ⊕ (List Int)):=
 if (decide (a < (c.length:Int))) then (ob (ix c a) fun d=>
 if d then (ob (kC b ([a]:List Int)) fun e=>
 vV a e) else (vV a b)) else (some (.inr b))
def aDd (a:(List Bool)):Option (List Int):=
 ob (loop (fun (s:(List Int × Int))=>aBC a s.1 s.2) (([]:List Int),0)) fun r=>vU r
def aDJ (t:cO):Option (List Int):=
 ob (aDI t ([t.I]:List Int)) fun b=>
 ob (aBB t b) fun c=>
 ob (aDd c) fun d=>
 some d
def zU:Option Bool:=
 some false
def aCy (b:(List Int)) (n a:Int):Option (Int ⊕ (Unit ⊕ Bool)):=
 if (decide (a < (b.length:Int))) then (ob (ix b a) fun d=>
 if (d == n) then (some (.inr (.inr true))) else (some (.inl (wr (a+1))))) else (some (.inr (.inl ())))
def aFX (b:(List Int)) (n:Int):Option Bool:=
 ob (loop (fun (s:Int)=>aCy b n s) 0) fun r=>match r with|.inl r=>zU|.inr r=>some r
def vW (t:cO) (b:List Bool):Option (List Int):=
 ob (aBB t b) fun c=>
 ob (aDd c) fun d=>
 some d
def vX (a:Int) (b:List Bool):Option ((List Bool × Int) ⊕ (List Bool)):=
 some (.inl (b,wr (a+1)))
def vY (t:cO) (a:List Bool) (b:Int) (e:Bool):Option ((List Bool × Int) ⊕ (List Bool)):=
 if e then (ob (ix t.E b) fun c=>
 ob (ix a c.To) fun g=>
 ob (st a c.To (true:Bool)) fun f=>
 vX b f) else (vX b a)
def aBD (t:cO) (e:(List Int)) (f:Int) (c:List Bool) (b:Int):Option ((List Bool × Int) ⊕ (List Bool)):=
 if (decide (b < (t.E.length:Int))) then (ob (ix t.E b) fun d=>
 if (d.B == f) then (ob (aFX e d.F) fun g=>
 vY t c b g) else (vY t c b false)) else (some (.inr c))
def aEL (t:cO) (b:(List Int)) (c:Int):Option (List Int):=
 ob (mkz t.N (false:Bool)) fun d=>
 ob (loop (fun (s:(List Bool × Int))=>aBD t b c s.1 s.2) (d,0)) fun r=>vW t r
def vZ (t:cO) (a:List (List Int)) (c:List Edge):Option (cO × (List (List Int)) × Bool):=
 ob (kC ([]:List bD) t.L) fun d=>
 some (⟨(a.length:Int),0,d,c⟩,a,true)
def aBE (a:Int) (b:List (List Int)) (c:List Edge):Option ((List (List Int) × List Edge × Int) ⊕ ((List (List Int) × List Edge) ⊕ (cO × (List (List Int)) × Bool))):=
 some (.inl (b,c,wr (a+1)))
def wA (a:Int) (b:List (List Int)) (c:List Edge):Option ((List (List Int) × List Edge × Int) ⊕ ((List (List Int) × List Edge) ⊕ (cO × (List (List Int)) × Bool))):=
 aBE a b c
def wB (a:Int) (b:List (List Int)) (c:List Edge):Option ((List (List Int) × List Edge × Int) ⊕ ((List (List Int) × List Edge) ⊕ (cO × (List (List Int)) × Bool))):=
 some (.inl (b,c,wr (a+1)))
def wC (c:Int) (a:List Edge) (b:Int) (d:List (List Int)) (e:Int):Option ((List (List Int) × List Edge × Int) ⊕ ((List (List Int) × List Edge) ⊕ (cO × (List (List Int)) × Bool))):=
 if ((a.length:Int) == 300) then (some (.inr (.inr (⟨0,0,[],[]⟩,[],false)))) else (ob (kC a ([⟨c,b,e⟩]:List Edge)) fun f=>
 wB b d f)
def wD (b:Int) (a:List (List Int)) (c:List Edge) (d:Int) (f:(List Int)) (e:Int):Option ((List (List Int) × List Edge × Int) ⊕ ((List (List Int) × List Edge) ⊕ (cO × (List (List Int)) × Bool))):=
 if (decide (e < 0)) then (if ((a.length:Int) == 40) then (some (.inr (.inr (⟨0,0,[],[]⟩,[],false)))) else (ob (kC a ([f]:List (List Int))) fun g=>
 wC b c d g (a.length:Int))) else (wC b c d a e)
def wE (a b:Int):Option ((Int × Int) ⊕ Int):=
 some (.inl (b,wr (a+1)))
def aBF (b:List (List Int)) (d:(List Int)) (c a:Int):Option ((Int × Int) ⊕ Int):=
 if (decide (a < (b.length:Int))) then (ob (ix b a) fun e=>
 ob (rG e d) fun f=>
 if f then (wE a a) else (wE a c)) else (some (.inr c))
def aBG (t:cO) (f:Int) (a:List (List Int)) (c:List Edge) (b:Int):Option ((List (List Int) × List Edge × Int) ⊕ ((List (List Int) × List Edge) ⊕ (cO × (List (List Int)) × Bool))):=
 if (decide (b < (t.L.length:Int))) then (ob (ix a f) fun g=>
 ob (aEL t g b) fun d=>
 if ((d.length:Int) == 0) then (wB b a c) else (ob (loop (fun (s:(Int × Int))=>aBF a d s.1 s.2) ((-1),0)) fun r=>wD f a c b d r)) else (some (.inr (.inl (a,c))))
def aAG (t:cO) (b:List (List Int)) (d:List Edge) (c:Int):Option ((List (List Int) × List Edge × Int) ⊕ ((List (List Int) × List Edge) ⊕ (cO × (List (List Int)) × Bool))):=
 if (decide (c < (b.length:Int))) then (ob (loop (fun (s:(List (List Int) × List Edge × Int))=>aBG t c s.1 s.2.1 s.2.2) (b,d,1)) fun r=>match r with|.inl r=>wA c r.1 r.2|.inr r=>some (.inr (.inr r))) else (some (.inr (.inl (b,d))))
def aBa (t:cO):Option (cO × (List (List Int)) × Bool):=
 ob (aDJ t) fun c=>
 ob (loop (fun (s:(List (List Int) × List Edge × Int))=>aAG t s.1 s.2.1 s.2.2) (([c]:List (List Int)),([]:List Edge),0)) fun r=>match r with|.inl r=>vZ t r.1 r.2|.inr r=>some r
def aFY (t:cO):Option cO:=
 ob (kC ([]:List bD) t.L) fun b=>
 ob (kC ([]:List Edge) t.E) fun c=>
 some ⟨t.N,t.I,b,c⟩
def mT (d:(List UInt8)) (b c a:Int):Option (Int × Int × Int):=
 if (decide (wr (b+1)<=(d.length:Int))) then (some (a,wr (b+1),lE ((lE ((lE (c * 6364136223846793005))+(lE a)))+1442695040888963407))) else (ob (shU (lE ((lE ((lE (c * 6364136223846793005))+(lE a)))+1442695040888963407)) 40) fun e=>
 some (wr (anU e 255),wr (b+1),lE ((lE ((lE (c * 6364136223846793005))+(lE a)))+1442695040888963407)))
def tE (a:(List UInt8)) (b c:Int):Option (Int × Int × Int):=
 if (decide (b < (a.length:Int))) then (ob (ix a b) fun d=>
 mT a b c (wr (d.toNat:Int))) else (mT a b c 0)
def mU (n b c d:Int):Option (Int × Int × Int):=
 ob (rm b n) fun e=>
 some (e,c,d)
def dJ (d:(List UInt8)) (e f n:Int):Option (Int × Int × Int):=
 if (decide (n<=1)) then (some (0,e,f)) else (ob (tE d e f) fun a=>
 if (decide (200 < n)) then (ob (tE d a.2.1 a.2.2) fun c=>
 mU n (wr ((wr (a.1 * 256))+c.1)) c.2.1 c.2.2) else (mU n a.1 a.2.1 a.2.2))
def pX (b:(List UInt8)) (c d n:Int):Option (Bool × Int × Int):=
 ob (dJ b c d n) fun a=>
 some (a.1 == 0,a.2.1,a.2.2)
def kZ (a b:Int) (c:List bD):Option ((List bD) × Int × Int):=
 some (c,a,b)
def lA (a:List bD) (b c:Int):Option ((List bD) × Int × Int):=
 if ((a.length:Int) == 1) then (ob (kC a ([([97]:bD)]:List bD)) fun d=>
 kZ b c d) else (kZ b c a)
def lB (a b c:Int) (d:List bD):Option ((Int × Int × List bD × Int) ⊕ (List bD × Int × Int)):=
 some (.inl (b,c,d,wr (a+1)))
def lC (b:List bD) (a c d:Int) (e:Bool):Option ((Int × Int × List bD × Int) ⊕ (List bD × Int × Int)):=
 if e then (ob (ix ([([97]:bD),([98]:bD),([99]:bD),([103,101,116,40,48,41]:bD),([103,101,116,40,49,41]:bD)]:List bD) a) fun f=>
 ob (kC b ([f]:List bD)) fun g=>
 lB a c d g) else (lB a c d b)
def pY (f:(List UInt8)) (d e:Int) (b:List bD) (c:Int):Option ((Int × Int × List bD × Int) ⊕ (List bD × Int × Int)):=
 if (decide (c < (([([97]:bD),([98]:bD),([99]:bD),([103,101,116,40,48,41]:bD),([103,101,116,40,49,41]:bD)]:List bD).length:Int))) then (ob (pX f d e 2) fun a=>
 if a.1 then (lC b c a.2.1 a.2.2 (decide ((b.length:Int) < 4))) else (lC b c a.2.1 a.2.2 false)) else (some (.inr (b,d,e)))
def xM (b:(List UInt8)) (c d:Int):Option ((List bD) × Int × Int):=
 ob (loop (fun (s:(Int × Int × List bD × Int))=>pY b s.1 s.2.1 s.2.2.1 s.2.2.2) (c,d,([([116,97,117]:bD)]:List bD),0)) fun r=>lA r.1 r.2.1 r.2.2
def xN (c:(List UInt8)) (d e:Int) (b:(List Int)):Option (Int × Int × Int):=
 ob (dJ c d e (b.length:Int)) fun a=>
 ob (ix b a.1) fun f=>
 some (f,a.2.1,a.2.2)
def pZ (d:(List UInt8)) (b c:(Int × Int × Int)) (e:((List bD) × Int × Int)) (f g:Int) (h:List Edge):Option (cO × Int × Int):=
 ob (dJ d f g (wr ((wr (1+b.1))+c.1))) fun a=>
 ob (wM (wr ((wr (1+b.1))+c.1)) a.1 e.1 h) fun i=>
 some (i,a.2.1,a.2.2)
def qA (a:(List UInt8)) (c d:(Int × Int × Int)) (e:((List bD) × Int × Int)) (j k:Int) (i:List Edge):Option (cO × Int × Int):=
 ob (pX a j k 3) fun b=>
 if b.1 then (ob (dJ a b.2.1 b.2.2 (wr ((wr (1+c.1))+d.1))) fun f=>
 ob (dJ a f.2.1 f.2.2 (e.1.length:Int)) fun g=>
 ob (dJ a g.2.1 g.2.2 (wr ((wr (1+c.1))+d.1))) fun h=>
 ob (kC i ([⟨f.1,g.1,h.1⟩]:List Edge)) fun l=>
 pZ a c d e h.2.1 h.2.2 l) else (pZ a c d e b.2.1 b.2.2 i)
def xO (a b c:Int) (d:List Edge):Option ((Int × Int × List Edge × Int) ⊕ (Int × Int × List Edge)):=
 some (.inl (b,c,d,wr (a - 1)))
def qB (a b c:Int) (d:List Edge):Option ((Int × Int × List Edge × Int) ⊕ (Int × Int × List Edge)):=
 xO a b c d
def qC (a b c:Int) (d:List Edge):Option ((Int × Int × List Edge × Int) ⊕ (Int × Int × List Edge)):=
 some (.inl (b,c,d,wr (a+1)))
def qD (c:(List UInt8)) (d:(Int × Int × Int)) (e f:Int) (g:List Edge) (b:Int) (h:List Int):Option ((Int × Int × List Edge × Int) ⊕ (Int × Int × List Edge)):=
 ob (xN c e f h) fun a=>
 ob (kC g ([⟨b,d.1,a.1⟩]:List Edge)) fun i=>
 qC b a.2.1 a.2.2 i
def qE (a:Int) (b:List Int):Option ((List Int × Int) ⊕ (List Int)):=
 some (.inl (b,wr (a+1)))
def xP (c d:(Int × Int × Int)) (e:List Int) (f:(Int × Int × Int)) (b:List Int) (a:Int):Option ((List Int × Int) ⊕ (List Int)):=
 if (decide (a < wr ((wr (1+c.1))+d.1))) then (ob (ix e a) fun g=>
 if (g == f.1) then (ob (kC b ([a]:List Int)) fun h=>
 qE a h) else (qE a b)) else (some (.inr b))
def xQ (h:(List UInt8)) (e f:(Int × Int × Int)) (g:List Int) (i j k:(Int × Int × Int)) (b c:Int) (d:List Edge) (a:Int):Option ((Int × Int × List Edge × Int) ⊕ (Int × Int × List Edge)):=
 if (decide (a < wr ((wr (1+e.1))+f.1))) then (ob (ix g a) fun l=>
 if (l != i.1) then (qC a b c d) else (ob (loop (fun (s:(List Int × Int))=>xP e f g k s.1 s.2) (([]:List Int),0)) fun r=>qD h j b c d a r)) else (some (.inr (b,c,d)))
def uJ (a:(List UInt8)) (b k:(Int × Int × Int)) (l:((List bD) × Int × Int)) (m:List Int) (g h:Int) (i:List Edge) (j:Int):Option ((Int × Int × List Edge × Int) ⊕ (Int × Int × List Edge)):=
 if (decide (0 < j)) then (ob (dJ a g h (wr (1+b.1))) fun c=>
 ob (dJ a c.2.1 c.2.2 (l.1.length:Int)) fun d=>
 ob (dJ a d.2.1 d.2.2 (wr (1+b.1))) fun e=>
 ob (loop (fun (s:(Int × Int × List Edge × Int))=>xQ a b k m c d e s.1 s.2.1 s.2.2.1 s.2.2.2) (e.2.1,e.2.2,i,0)) fun r=>qB j r.1 r.2.1 r.2.2) else (some (.inr (g,h,i)))
def oA (a:(List UInt8)) (b e:(Int × Int × Int)) (f:((List bD) × Int × Int)) (g h:Int) (i:List Int):Option (cO × Int × Int):=
 ob (dJ a g h (wr (2+(wr (2 * (wr (1+b.1))))))) fun c=>
 ob (loop (fun (s:(Int × Int × List Edge × Int))=>uJ a b e f i s.1 s.2.1 s.2.2.1 s.2.2.2) (c.2.1,c.2.2,([]:List Edge),c.1)) fun r=>qA a b e f r.1 r.2.1 r.2.2
def oB (a b c:Int) (d:List Int):Option ((Int × Int × List Int × Int) ⊕ (Int × Int × List Int)):=
 some (.inl (b,c,d,wr (a+1)))
def uK (g:(List UInt8)) (b h:(Int × Int × Int)) (c d:Int) (e:List Int) (a:Int):Option ((Int × Int × List Int × Int) ⊕ (Int × Int × List Int)):=
 if (decide (a < wr ((wr (1+b.1))+h.1))) then (if (decide (a < wr (1+b.1))) then (ob (kC e ([a]:List Int)) fun i=>
 oB a c d i) else (ob (dJ g c d (wr (1+b.1))) fun f=>
 ob (kC e ([f.1]:List Int)) fun j=>
 oB a f.2.1 f.2.2 j)) else (some (.inr (c,d,e)))
def aCz (a:(List UInt8)) (f g:Int):Option (cO × Int × Int):=
 ob (dJ a f g 4) fun b=>
 ob (dJ a b.2.1 b.2.2 (wr (7 - (wr (1+b.1))))) fun c=>
 ob (xM a c.2.1 c.2.2) fun d=>
 ob (loop (fun (s:(Int × Int × List Int × Int))=>uK a b c s.1 s.2.1 s.2.2.1 s.2.2.2) (d.2.1,d.2.2,([]:List Int),0)) fun r=>oA a b c d r.1 r.2.1 r.2.2
def qF (a:(cO × Int × Int)) (b:List Edge) (c d:Int):Option (cO × Int × Int):=
 ob (wM a.1.N a.1.I a.1.L b) fun e=>
 some (e,c,d)
def xR (c:(List UInt8)) (d:(cO × Int × Int)) (e f:Int) (g:List Edge) (h:Int):Option ((Int × Int × List Edge × Int) ⊕ (List Edge × Int × Int)):=
 if (decide (0 < h)) then (ob (dJ c e f d.1.N) fun a=>
 ob (dJ c a.2.1 a.2.2 d.1.N) fun b=>
 ob (kC g ([⟨a.1,0,b.1⟩]:List Edge)) fun i=>
 some (.inl (b.2.1,b.2.2,i,wr (h - 1)))) else (some (.inr (g,e,f)))
def qG (c:(List UInt8)) (d:(cO × Int × Int)) (e f:Int) (g:List Edge):Option (cO × Int × Int):=
 ob (dJ c e f 3) fun a=>
 ob (loop (fun (s:(Int × Int × List Edge × Int))=>xR c d s.1 s.2.1 s.2.2.1 s.2.2.2) (a.2.1,a.2.2,g,a.1)) fun r=>qF d r.1 r.2.1 r.2.2
def qH (b:List Edge) (c:Int) (a:Edge) (d e f:Int):Option ((Int × Int × List Edge × Int) ⊕ (Int × Int × List Edge)):=
 ob (kC b ([⟨a.F,f,a.To⟩]:List Edge)) fun g=>
 some (.inl (d,e,g,wr (c+1)))
def xS (h:(List UInt8)) (e:(cO × Int × Int)) (f g:Int) (c:List Edge) (b:Int):Option ((Int × Int × List Edge × Int) ⊕ (Int × Int × List Edge)):=
 if (decide (b < (e.1.E.length:Int))) then (ob (ix e.1.E b) fun d=>
 ob (pX h f g 3) fun a=>
 if a.1 then (qH c b d a.2.1 a.2.2 0) else (qH c b d a.2.1 a.2.2 d.B)) else (some (.inr (f,g,c)))
def aIb (b:(List UInt8)) (d e:Int):Option (cO × Int × Int):=
 ob (aCz b d e) fun a=>
 ob (loop (fun (s:(Int × Int × List Edge × Int))=>xS b a s.1 s.2.1 s.2.2.1 s.2.2.2) (a.2.1,a.2.2,([]:List Edge),0)) fun r=>qG b a r.1 r.2.1 r.2.2
def gJ (a:(cO × Int × Int)) (b c:Int) (d:List bD) (e:List Edge):Option (cO × cO):=
 some (a.1,⟨b,c,d,e⟩)
def aEM (e:(List UInt8)):Option (cO × cO):=
 ob (aEF e) fun k=>
 ob (aIb e k.1 k.2) fun a=>
 ob (aIb e a.2.1 a.2.2) fun c=>
 ob (dJ e c.2.1 c.2.2 7) fun d=>
 if (d.1 == 0) then (ob (aDD a.1) fun g=>
 gJ a g.N g.I g.L g.E) else (if (d.1 == 1) then (ob (aBx a.1 true) fun h=>
 gJ a h.N h.I h.L h.E) else (if (d.1 == 2) then (ob (aBx a.1 false) fun i=>
 gJ a i.N i.I i.L i.E) else (if (d.1 == 3) then (ob (aDH a.1) fun j=>
 gJ a j.N j.I j.L j.E) else (if (d.1 == 4) then (ob (aBa a.1) fun f=>
 if f.2.2 then (gJ a f.1.N f.1.I f.1.L f.1.E) else (gJ a c.1.N c.1.I c.1.L c.1.E)) else (if (d.1 == 5) then (ob (aFY a.1) fun b=>
 if (decide (0 < (b.E.length:Int))) then (ob (dJ e d.2.1 d.2.2 (b.E.length:Int)) fun l=>
 ob (slc b.E 0 l.1) fun m=>
 ob (slc b.E (wr (l.1+1)) (b.E.length:Int)) fun n=>
 ob (kC m n) fun o=>
 gJ a b.N b.I b.L o) else (gJ a b.N b.I b.L b.E)) else (gJ a c.1.N c.1.I c.1.L c.1.E))))))
def jQ (a:Bool):Option Bool:=
 some a
def rQ (p q:Int):Option Bool:=
 if (decide (p < 0)) then (jQ true) else (jQ (decide (q < 0)))
def kI:Option ((List bD) × Bool):=
 some ([],false)
def kJ (a:(List ((Int × Int) × Bool))) (b:List bT):Option (((List ((Int × Int) × Bool)) × List bT) ⊕ (Unit ⊕ ((List bD) × Bool))):=
 some (.inl (a,b))
def kK (a:(List ((Int × Int) × Bool))) (b:List bT):Option (((List ((Int × Int) × Bool)) × List bT) ⊕ (Unit ⊕ ((List bD) × Bool))):=
 kJ a b
def oJ (a:Int) (b:List bT):Option ((List bT × Int) ⊕ (List bT)):=
 some (.inl (b,wr (a+1)))
def oK (a b:cO) (f:List bD) (c:bT) (g:List bT) (d:Int):Option ((List bT × Int) ⊕ (List bT)):=
 if (decide (d < (f.length:Int))) then (ob (ix f d) fun e=>
 ob (wY a c.a e) fun j=>
 ob (wY b c.b e) fun k=>
 ob (fB c.trace) fun l=>
 ob (kC l ([e]:List bD)) fun m=>
 ob (kC g ([⟨j,k,m⟩]:List bT)) fun n=>
 oJ d n) else (some (.inr g))
def iQ (a b:cO) (h:List bD) (d:(List ((Int × Int) × Bool))) (c:bT) (e:List bT) (i:Bool):Option (((List ((Int × Int) × Bool)) × List bT) ⊕ (Unit ⊕ ((List bD) × Bool))):=
 if i then (kJ d e) else (ob (some (yG d ⟨c.a,c.b⟩ true)) fun j=>
 ob (rQ c.a c.b) fun k=>
 if k then (some (.inr (.inr (c.trace,true)))) else (ob (loop (fun (s:(List bT × Int))=>oK a b h c s.1 s.2) (e,0)) fun r=>kK j r))
def oL (a b:cO) (h:List bD) (d:(List ((Int × Int) × Bool))) (e:List bT):Option (((List ((Int × Int) × Bool)) × List bT) ⊕ (Unit ⊕ ((List bD) × Bool))):=
 if (decide (0 < (e.length:Int))) then (ob (ix e 0) fun c=>
 ob (slc e 1 (e.length:Int)) fun i=>
 if (decide (c.a < 0)) then (if (decide (c.b < 0)) then (iQ a b h d c i true) else (iQ a b h d c i ((iV d ⟨c.a,c.b⟩).getD false))) else (iQ a b h d c i ((iV d ⟨c.a,c.b⟩).getD false))) else (some (.inr (.inl ())))
def uL (a b:cO):Option ((List bD) × Bool):=
 ob (gI ([a.L,b.L]:List (List bD))) fun g=>
 ob (aGN 1 0 g []) fun f=>
 ob (slc f.L 1 (f.L.length:Int)) fun h=>
 ob (loop (fun (s:((List ((Int × Int) × Bool)) × List bT))=>oL a b h s.1 s.2) (([]:(List ((Int × Int) × Bool))),([⟨a.I,b.I,[]⟩]:List bT))) fun r=>match r with|.inl r=>kI|.inr r=>some r
def iS (a b:(cO × (List (List Int)) × Bool)) (d:Bool):Option (Bool × (List bD) × Int):=
 if d then (some (false,[],5)) else (ob (uL ⟨a.1.N,a.1.I,a.1.L,a.1.E⟩ ⟨b.1.N,b.1.I,b.1.L,b.1.E⟩) fun c=>
 some (!c.2,c.1,0))
def iT (a b:cO) (g:Bool):Option (Bool × (List bD) × Int):=
 if g then (some (false,[],1)) else (ob (iD a) fun c=>
 ob (iD b) fun d=>
 if (!c.2.2) then (iS c d true) else (iS c d (!d.2.2)))
def oM (a b:cO):Option (Bool × (List bD) × Int):=
 ob (lJ a) fun e=>
 if (!e) then (iT a b true) else (ob (lJ b) fun f=>
 iT a b (!f))
def tF (a b:cO):Option (Bool × (List bD) × Int):=
 ob (oM a b) fun c=>
 some (c.1,c.2.1,c.2.2)
def aBH (a:Bool):Option Bool:=
 some a
def zW (n low b:Int):Option Bool:=
 if (decide (low<=n)) then (aBH (decide (n<=b))) else (aBH false)
def wF (a:bD):Option Int:=
 some (a.length:Int)
def aBI (b:bD) (a:Int):Option (Int ⊕ (Unit ⊕ Int)):=
 if (decide (a < (b.length:Int))) then (ob (ix b a) fun c=>
 if ((c.toNat:Int) == 40) then (some (.inr (.inr a))) else (some (.inl (wr (a+1))))) else (some (.inr (.inl ())))
def aEN (b:bD):Option Int:=
 ob (loop (fun (s:Int)=>aBI b s) 0) fun r=>match r with|.inl r=>wF b|.inr r=>some r
def tG (a:Bool):Option Bool:=
 some a
def aBJ (c:UInt8):Option Bool:=
 if (decide (97<=(c.toNat:Int))) then (tG (decide ((c.toNat:Int)<=122))) else (tG false)
def tH (a:Bool):Option Bool:=
 some a
def aBK (c:UInt8):Option Bool:=
 if (decide (48<=(c.toNat:Int))) then (tH (decide ((c.toNat:Int)<=57))) else (tH false)
def wG:Option Bool:=
 some true
def wH (a:Int) (b:Bool):Option (Int ⊕ (Unit ⊕ Bool)):=
 if b then (some (.inr (.inr false))) else (some (.inl (wr (a+1))))
def aBL (b:bD) (a:Int):Option (Int ⊕ (Unit ⊕ Bool)):=
 if (decide (a < (b.length:Int))) then (ob (ix b a) fun c=>
 ob (aBJ c) fun d=>
 if (!d) then (ob (aBK c) fun e=>
 wH a (!e)) else (wH a false)) else (some (.inr (.inl ())))
def qI (b:bD) (c:Bool):Option Bool:=
 if c then (some false) else (ob (loop (fun (s:Int)=>aBL b s) 0) fun r=>match r with|.inl r=>wG|.inr r=>some r)
def aDe (a:bD):Option Bool:=
 if (a == ([]:bD)) then (qI a true) else (if (decide (10 < (a.length:Int))) then (qI a true) else (ob (ix a 0) fun b=>
 ob (aBJ b) fun c=>
 qI a (!c)))
def qJ (a:Bool):Option Bool:=
 some a
def aCA (a:bD):Option Bool:=
 ob (aDe a) fun b=>
 if b then (qJ (!(a == ([116,97,117]:bD)))) else (qJ false)
def tI (a:bD) (b:List bD) (c:Int):Option (List bD):=
 ob (slc a c (a.length:Int)) fun d=>
 ob (kC b ([d]:List bD)) fun e=>
 some e
def tJ (a:Int) (b:List bD) (c:Int):Option ((List bD × Int × Int) ⊕ (List bD × Int)):=
 some (.inl (b,c,wr (a+1)))
def aAH (b:bD) (e:UInt8) (c:List bD) (d a:Int):Option ((List bD × Int × Int) ⊕ (List bD × Int)):=
 if (decide (a < (b.length:Int))) then (ob (ix b a) fun f=>
 if ((f.toNat:Int) == (e.toNat:Int)) then (ob (slc b d a) fun g=>
 ob (kC c ([g]:List bD)) fun h=>
 tJ a h (wr (a+1))) else (tJ a c d)) else (some (.inr (c,d)))
def aDK (a:bD) (c:UInt8):Option (List bD):=
 ob (loop (fun (s:(List bD × Int × Int))=>aAH a c s.1 s.2.1 s.2.2) (([]:List bD),0,0)) fun r=>tI a r.1 r.2
def qK (a:Int):Option (Int × Bool):=
 some (a,true)
def qL (b a:Int):Option (Int × Bool):=
 if (b == 1) then (qK (wr (0 - a))) else (qK a)
def xT (b:bD) (c a:Int):Option ((Int × Int) ⊕ (Int ⊕ (Int × Bool))):=
 if (decide (a < (b.length:Int))) then (ob (ix b a) fun d=>
 ob (aBK d) fun e=>
 if (!e) then (some (.inr (.inr (0,false)))) else (some (.inl (wr ((wr (10 * c))+(wr ((d - (48:UInt8)).toNat:Int))),wr (a+1))))) else (some (.inr (.inl c)))
def jW (c:bD) (b:Int) (d:Bool):Option (Int × Bool):=
 if d then (some (0,false)) else (ob (loop (fun (s:(Int × Int))=>xT c s.1 s.2) (0,b)) fun r=>match r with|.inl r=>qL b r|.inr r=>some r)
def qM (a:bD) (b:Int):Option (Int × Bool):=
 if ((a.length:Int) == b) then (jW a b true) else (if (decide (18 < wr ((a.length:Int) - b))) then (jW a b true) else (ob (ix a b) fun c=>
 if ((c.toNat:Int) == 48) then (jW a b (decide (1 < (a.length:Int)))) else (jW a b false)))
def qN (a:bD) (b:Bool):Option (Int × Bool):=
 if b then (qM a 1) else (qM a 0)
def aCB (a:bD):Option (Int × Bool):=
 if (decide (0 < (a.length:Int))) then (ob (ix a 0) fun b=>
 qN a ((b.toNat:Int) == 45)) else (qN a false)
def qO (a:List Int):Option ((List Int) × Bool):=
 some (a,decide ((a.length:Int)<=2))
def qP (a:List Int) (b:Int) (c:(Int × Bool)) (d:Bool):Option ((List Int × Int) ⊕ (List Int ⊕ ((List Int) × Bool))):=
 if d then (some (.inr (.inr ([],false)))) else (ob (kC a ([c.1]:List Int)) fun e=>
 some (.inl (e,wr (b+1))))
def xU (d:(List bD)) (c:List Int) (a:Int):Option ((List Int × Int) ⊕ (List Int ⊕ ((List Int) × Bool))):=
 if (decide (a < (d.length:Int))) then (ob (ix d a) fun e=>
 ob (aCB e) fun b=>
 if (!b.2) then (qP c a b true) else (ob (zW b.1 0 63) fun f=>
 qP c a b (!f))) else (some (.inr (.inl c)))
def qQ (b:bD) (c:Int) (d:Bool):Option ((List Int) × Bool):=
 if d then (some ([],false)) else (ob (slc b (wr (c+1)) (wr ((b.length:Int) - 1))) fun e=>
 ob (aDK e (44:UInt8)) fun f=>
 ob (loop (fun (s:(List Int × Int))=>xU f s.1 s.2) (([]:List Int),0)) fun r=>match r with|.inl r=>qO r|.inr r=>some r)
def aCC (a:bD):Option ((List Int) × Bool):=
 ob (aEN a) fun b=>
 if (b == (a.length:Int)) then (ob (aDe a) fun c=>
 some (([]:List Int),c)) else (ob (slc a 0 b) fun d=>
 ob (aCA d) fun e=>
 if (!e) then (qQ a b true) else (ob (ix a (wr ((a.length:Int) - 1))) fun f=>
 qQ a b ((f.toNat:Int) != 41)))
def aDL (a:bD):Option Bool:=
 ob (aCC a) fun b=>
 some b.2
def tK:Option Bool:=
 some true
def aIw (a:Int) (b:Bool):Option (Int ⊕ (Unit ⊕ Bool)):=
 if b then (some (.inr (.inr false))) else (some (.inl (wr (a+1))))
def aAI (b:(List bD)) (a:Int):Option (Int ⊕ (Unit ⊕ Bool)):=
 if (decide (a < (b.length:Int))) then (ob (ix b a) fun c=>
 ob (aDL c) fun d=>
 if (!d) then (aIw a true) else (if (c == ([116,97,117]:bD)) then (aIw a true) else (if (decide (1 < a)) then (ob (ix b (wr (a - 1))) fun e=>
 aIw a (!ltB e c)) else (aIw a false)))) else (some (.inr (.inl ())))
def nN (b:(List bD)) (c:Bool):Option Bool:=
 if c then (some false) else (ob (loop (fun (s:Int)=>aAI b s) 1) fun r=>match r with|.inl r=>tK|.inr r=>some r)
def aDM (a:(List bD)):Option Bool:=
 if ((a.length:Int) == 0) then (nN a true) else (if (decide (12 < (a.length:Int))) then (nN a true) else (ob (ix a 0) fun b=>
 nN a (!(b == ([116,97,117]:bD)))))
def aBM:Option Bool:=
 some true
def aBN (a:Int) (b:Bool):Option (Int ⊕ (Unit ⊕ Bool)):=
 if b then (some (.inr (.inr false))) else (some (.inl (wr (a+1))))
def xV (t:cO) (a:Int) (c:Edge) (d:Bool):Option (Int ⊕ (Unit ⊕ Bool)):=
 if d then (some (.inr (.inr false))) else (if (decide (0 < a)) then (ob (ix t.E (wr (a - 1))) fun e=>
 ob (aDb e c) fun f=>
 aBN a (!f)) else (aBN a false))
def aDN (t:cO) (c:Int):Option (Int ⊕ (Unit ⊕ Bool)):=
 if (decide (c < (t.E.length:Int))) then (ob (ix t.E c) fun b=>
 ob (zW b.F 0 (wr (t.N - 1))) fun d=>
 if (!d) then (xV t c b true) else (ob (zW b.To 0 (wr (t.N - 1))) fun e=>
 if (!e) then (xV t c b true) else (ob (zW b.B 0 (wr ((t.L.length:Int) - 1))) fun f=>
 xV t c b (!f)))) else (some (.inr (.inl ())))
def rR (t:cO) (c:Bool):Option Bool:=
 if c then (some false) else (ob (loop (fun (s:Int)=>aDN t s) 0) fun r=>match r with|.inl r=>aBM|.inr r=>some r)
def aEp (t:cO):Option Bool:=
 ob (zW t.N 1 40) fun b=>
 if (!b) then (rR t true) else (ob (zW t.I 0 (wr (t.N - 1))) fun c=>
 if (!c) then (rR t true) else (ob (aDM t.L) fun d=>
 if (!d) then (rR t true) else (rR t (decide (300 < (t.E.length:Int))))))
def zX (a b:(cO × (List (List Int)) × Bool)) (c:Bool):Option (cO × cO × Bool):=
 some (a.1,b.1,c)
def aFZ (a b:cO):Option (cO × cO × Bool):=
 ob (aBa a) fun c=>
 ob (aBa b) fun d=>
 if c.2.2 then (zX c d d.2.2) else (zX c d false)
def aBO:Option Int:=
 some (-1)
def aBP (d:cO) (a:Int) (c:Bool):Option (Int ⊕ (Unit ⊕ Int)):=
 if c then (ob (ix d.E a) fun e=>
 some (.inr (.inr e.To))) else (some (.inl (wr (a+1))))
def aBQ (d:cO) (e:Int) (f:bD) (b:Int) (g:Bool):Option (Int ⊕ (Unit ⊕ Int)):=
 if g then (ob (ix d.E b) fun c=>
 if (c.F == e) then (ob (ix d.L c.B) fun h=>
 aBP d b (h == f)) else (aBP d b false)) else (some (.inr (.inl ())))
def aDO (d:cO) (b:Int) (e:bD) (c:Int):Option (Int ⊕ (Unit ⊕ Int)):=
 if (decide (c < (d.E.length:Int))) then (aBQ d b e c (decide (0<=b))) else (aBQ d b e c false)
def aFC (d:cO) (c:Int) (e:bD):Option Int:=
 ob (loop (fun (s:Int)=>aDO d c e s) 0) fun r=>match r with|.inl r=>aBO|.inr r=>some r
def qR:Option ((List bD) × Bool):=
 some ([],false)
def xW (a:Int) (b c d:List Int) (e:List bD):Option ((List Int × List Int × List Int × List bD × Int) ⊕ (Unit ⊕ ((List bD) × Bool))):=
 some (.inl (b,c,d,e,wr (a+1)))
def qS (a:Int) (b c d:List Int) (e:List bD):Option ((List Int × List Int × List Int × List bD × Int) ⊕ (Unit ⊕ ((List bD) × Bool))):=
 xW a b c d e
def lM (a:Int) (b c d:List Int) (e:List bD):Option ((List Int × List Int × List Int × List bD × Int) ⊕ ((List Int × List Int × List Int × List bD) ⊕ ((List bD) × Bool))):=
 some (.inl (b,c,d,e,wr (a+1)))
def qT (a:List bD):Option ((List Int × List Int × List Int × List bD × Int) ⊕ ((List Int × List Int × List Int × List bD) ⊕ ((List bD) × Bool))):=
 some (.inr (.inr (a,true)))
def xX (c:List Int) (d b:List bD) (a:Int):Option ((List bD × Int) ⊕ (List bD)):=
 if (decide (0 < a)) then (ob (ix d a) fun e=>
 ob (kC ([e]:List bD) b) fun f=>
 ob (ix c a) fun g=>
 some (.inl (f,g))) else (some (.inr b))
def qU (f:Int) (a b c:List Int) (d:List bD) (e:Int) (g:bD) (h i:Int) (j:Bool):Option ((List Int × List Int × List Int × List bD × Int) ⊕ ((List Int × List Int × List Int × List bD) ⊕ ((List bD) × Bool))):=
 if (!j) then (ob (kC a ([h]:List Int)) fun k=>
 ob (kC b ([i]:List Int)) fun l=>
 ob (kC c ([f]:List Int)) fun m=>
 ob (kC d ([g]:List bD)) fun n=>
 lM e k l m n) else (lM e a b c d)
def lN (a:Int) (b:Bool):Option ((Bool × Int) ⊕ Bool):=
 some (.inl (b,wr (a+1)))
def xY (b d:List Int) (e f:Int) (c:Bool) (a:Int):Option ((Bool × Int) ⊕ Bool):=
 if (decide (a < (b.length:Int))) then (if c then (lN a true) else (ob (ix b a) fun g=>
 if (g == e) then (ob (ix d a) fun h=>
 lN a (h == f)) else (lN a false))) else (some (.inr c))
def oC (b:Int) (c d e:List Int) (f:List bD) (j:Int) (g:bD) (h i:Int) (k:Bool):Option ((List Int × List Int × List Int × List bD × Int) ⊕ ((List Int × List Int × List Int × List bD) ⊕ ((List bD) × Bool))):=
 if k then (ob (loop (fun (s:(List bD × Int))=>xX e f s.1 s.2) (([g]:List bD),b)) fun r=>qT r) else (ob (loop (fun (s:(Bool × Int))=>xY c d h i s.1 s.2) (false,0)) fun r=>qU b c d e f j g h i r)
def iZ (h:Int) (a b c:List Int) (d:List bD) (e:Int) (i:bD) (f g:Int) (j:Bool):Option ((List Int × List Int × List Int × List bD × Int) ⊕ ((List Int × List Int × List Int × List bD) ⊕ ((List bD) × Bool))):=
 if j then (lM e a b c d) else (if (decide (f < 0)) then (oC h a b c d e i f g true) else (oC h a b c d e i f g (decide (g < 0))))
def uM (a b:cO) (o:Bool) (l:(List bD)) (c:Int) (d e i:List Int) (j:List bD) (f:Int):Option ((List Int × List Int × List Int × List bD × Int) ⊕ ((List Int × List Int × List Int × List bD) ⊕ ((List bD) × Bool))):=
 if (decide (f < (l.length:Int))) then (ob (ix d c) fun p=>
 ob (ix l f) fun g=>
 ob (aFC a p g) fun k=>
 ob (ix e c) fun q=>
 ob (aFC b q g) fun h=>
 if (decide (k < 0)) then (if (decide (h < 0)) then (iZ c d e i j f g k h true) else (iZ c d e i j f g k h false)) else (if (decide (h < 0)) then (iZ c d e i j f g k h (!o)) else (iZ c d e i j f g k h false))) else (some (.inr (.inl (d,e,i,j))))
def uN (a b:cO) (h:Bool) (i:(List bD)) (e j k:List Int) (l:List bD) (d:Int):Option ((List Int × List Int × List Int × List bD × Int) ⊕ (Unit ⊕ ((List bD) × Bool))):=
 if (decide (d < (e.length:Int))) then (ob (loop (fun (s:(List Int × List Int × List Int × List bD × Int))=>uM a b h i d s.1 s.2.1 s.2.2.1 s.2.2.2.1 s.2.2.2.2) (e,j,k,l,1)) fun r=>match r with|.inl r=>qS d r.1 r.2.1 r.2.2.1 r.2.2.2|.inr r=>some (.inr (.inr r))) else (some (.inr (.inl ())))
def aCD (a b:cO) (f:Bool):Option ((List bD) × Bool):=
 ob (kC ([]:List bD) a.L) fun g=>
 ob (kC g b.L) fun h=>
 ob (aDa h) fun i=>
 ob (loop (fun (s:(List Int × List Int × List Int × List bD × Int))=>uN a b f i s.1 s.2.1 s.2.2.1 s.2.2.2.1 s.2.2.2.2) (([0]:List Int),([0]:List Int),([(-1)]:List Int),([([]:bD)]:List bD),0)) fun r=>match r with|.inl r=>qR|.inr r=>some r
def mV (a b:cO) (g:Bool):Option (Bool × (List bD) × Int):=
 if g then (some (false,[],1)) else (ob (aFZ a b) fun c=>
 if (!c.2.2) then (some (false,[],5)) else (ob (aCD c.1 c.2.1 true) fun d=>
 some (!d.2,d.1,0)))
def aAJ (a b:cO):Option (Bool × (List bD) × Int):=
 ob (aEp a) fun e=>
 if (!e) then (mV a b true) else (ob (aEp b) fun f=>
 mV a b (!f))
def zY (t:cO) (n:Int):Option (cO × Int):=
 ob (lJ t) fun d=>
 if (!d) then (some (⟨0,0,[],[]⟩,1)) else (ob (tX n 0 12) fun e=>
 if (!e) then (some (⟨0,0,[],[]⟩,2)) else (ob (iD t) fun b=>
 if (!b.2.2) then (some (⟨0,0,[],[]⟩,5)) else (some (b.1,0))))
def wI (a:List Edge):Option (List Edge):=
 some a
def wJ (a:Int) (b:List Edge):Option ((List Edge × Int) ⊕ (List Edge)):=
 some (.inl (b,wr (a+1)))
def aBR (t:cO) (k:Int) (b:List Edge) (a:Int):Option ((List Edge × Int) ⊕ (List Edge)):=
 if (decide (a < (t.E.length:Int))) then (ob (ix t.E a) fun d=>
 if (d.F == k) then (ob (kC b ([d]:List Edge)) fun f=>
 wJ a f) else (wJ a b)) else (some (.inr b))
def aDf (t:cO) (k:Int):Option (List Edge):=
 ob (loop (fun (s:(List Edge × Int))=>aBR t k s.1 s.2) ([],0)) fun r=>wI r
def tL (a:List (List bD)):Option ((List (List bD)) × Int):=
 some (a,0)
def aAK (b:List bT) (c:List (List bD)) (a:Int):Option ((List (List bD) × Int) ⊕ (List (List bD))):=
 if (decide (a < (b.length:Int))) then (ob (ix b a) fun d=>
 ob (kC c ([d.trace]:List (List bD))) fun e=>
 some (.inl (e,wr (a+1)))) else (some (.inr c))
def tM (a:List bT):Option ((List (List bD)) × Int):=
 if (decide (200 < (a.length:Int))) then (some ([],5)) else (ob (loop (fun (s:(List (List bD) × Int))=>aAK a s.1 s.2) ([],0)) fun r=>tL r)
def tN (a:Int) (b:List bT):Option ((List bT × Int) ⊕ (List bT)):=
 some (.inl (b,wr (a+1)))
def tO (a:Int) (b:List bT):Option ((List bT × Int) ⊕ (List bT)):=
 tN a b
def aAL (a:Int) (b:List bT):Option ((List bT × Int) ⊕ (List bT)):=
 some (.inl (b,wr (a+1)))
def aAM (e:(cO × Int)) (f:bT) (b:(List Edge)) (c:List bT) (a:Int):Option ((List bT × Int) ⊕ (List bT)):=
 if (decide (a < (b.length:Int))) then (ob (ix b a) fun d=>
 ob (ix e.1.L d.B) fun g=>
 ob (fB f.trace) fun h=>
 ob (kC h ([g]:List bD)) fun i=>
 ob (kC c ([⟨d.To,0,i⟩]:List bT)) fun j=>
 aAL a j) else (some (.inr c))
def tP (n:Int) (e:(cO × Int)) (b:List bT) (c:Int) (g:Bool):Option ((List bT × Int) ⊕ (List bT)):=
 if g then (ob (ix b c) fun d=>
 if ((d.trace.length:Int) == n) then (tN c b) else (ob (aDf e.1 d.a) fun h=>
 ob (loop (fun (s:(List bT × Int))=>aAM e d h s.1 s.2) (b,0)) fun r=>tO c r)) else (some (.inr b))
def aAN (n:Int) (d:(cO × Int)) (a:List bT) (b:Int):Option ((List bT × Int) ⊕ (List bT)):=
 if (decide (b < (a.length:Int))) then (tP n d a b (decide ((a.length:Int)<=200))) else (tP n d a b false)
def aDP (t:cO) (n:Int):Option ((List (List bD)) × Int):=
 ob (zY t n) fun a=>
 if (a.2 != 0) then (some ([],a.2)) else (ob (loop (fun (s:(List bT × Int))=>aAN n a s.1 s.2) (([⟨0,0,[]⟩]:List bT),0)) fun r=>tM r)
def zZ (a:List Int):Option (List Int):=
 some a
def aAa (b:List Int) (a:Int) (c:(List (Int × Int))) (d:Int):Option (((List (Int × Int)) × List Int × Int) ⊕ (List Int)):=
 ob (ix b a) fun f=>
 ob (st b a (d:Int)) fun e=>
 some (.inl (c,e,wr (a+1)))
def aCE (e:(List Int)) (a:(List (Int × Int))) (c:List Int) (b:Int):Option (((List (Int × Int)) × List Int × Int) ⊕ (List Int)):=
 if (decide (b < (e.length:Int))) then (ob (ix e b) fun d=>
 if (!((iV a d).isSome)) then (ob (some (yG a d (a.length:Int))) fun f=>
 aAa c b f (a.length:Int)) else (aAa c b a ((iV a d).getD 0))) else (some (.inr c))
def aEq (a:(List Int)):Option (List Int):=
 ob (mkz (a.length:Int) (0:Int)) fun b=>
 ob (loop (fun (s:((List (Int × Int)) × List Int × Int))=>aCE a s.1 s.2.1 s.2.2) (([]:(List (Int × Int))),b,0)) fun r=>zZ r
def eY:Option Bool:=
 some true
def gK (b c:(List Int)) (a:Int):Option (Int ⊕ (Unit ⊕ Bool)):=
 if (decide (a < (b.length:Int))) then (ob (ix b a) fun d=>
 ob (ix c a) fun e=>
 if (d != e) then (some (.inr (.inr false))) else (some (.inl (wr (a+1))))) else (some (.inr (.inl ())))
def fR (b c:(List Int)):Option Bool:=
 if ((b.length:Int) != (c.length:Int)) then (some false) else (ob (loop (fun (s:Int)=>gK b c s) 0) fun r=>match r with|.inl r=>eY|.inr r=>some r)
def uO (k p:(List Int)):Option Bool:=
 ob (fR k p) fun c=>
 some c
def dS:Option Int:=
 some (-1)
def eV (b:(List (List Int))) (c:(List Int)) (a:Int):Option (Int ⊕ (Unit ⊕ Int)):=
 if (decide (a < (b.length:Int))) then (ob (ix b a) fun d=>
 ob (uO d c) fun e=>
 if e then (some (.inr (.inr a))) else (some (.inl (wr (a+1))))) else (some (.inr (.inl ())))
def fI (b:(List (List Int))) (c:(List Int)):Option Int:=
 ob (loop (fun (s:Int)=>eV b c s) 0) fun r=>match r with|.inl r=>dS|.inr r=>some r
def oD (a:List Int):Option (List Int):=
 ob (aEq a) fun b=>
 some b
def oE (a:List Int) (b c:Int):Option ((List Int × Int) ⊕ (List Int)):=
 ob (kC a ([c]:List Int)) fun d=>
 some (.inl (d,wr (b+1)))
def uP (b:(List (List Int))) (c:List Int) (a:Int):Option ((List Int × Int) ⊕ (List Int)):=
 if (decide (a < (b.length:Int))) then (ob (ix b a) fun e=>
 ob (slc b 0 a) fun f=>
 ob (fI f e) fun d=>
 if (decide (d < 0)) then (oE c a a) else (oE c a d)) else (some (.inr c))
def aBS (a:(List (List Int))):Option (List Int):=
 ob (loop (fun (s:(List Int × Int))=>uP a s.1 s.2) ([],0)) fun r=>oD r
def lO (k:Int) (p:(List Int)):Option bD:=
 ob (ix p k) fun c=>
 ob (aCV c) fun d=>
 some d
def fW (a:Int) (b:List Int) (c:(List (bD × Int))):Option (Int × (List Int) × (List (bD × Int))):=
 some (a,b,c)
def gQ (a:(List Int)) (b:(List (bD × Int))) (h:(List gV)) (e:(List Int)) (d:Int):Option (Int × (List Int) × (List (bD × Int))):=
 ob (lO d e) fun c=>
 if (!((iV b c).isSome)) then (ob (some (yG b c (a.length:Int))) fun f=>
 ob (kC a ([d]:List Int)) fun g=>
 fW (a.length:Int) g f) else (fW ((iV b c).getD 0) a b)
def jX (a:List Int) (b:(List (bD × Int))) (c:List gV):Option ((List Int) × (List (bD × Int)) × (List gV)):=
 some (a,b,c)
def lP (c:bD) (d:Int) (e:(List Int)) (f:(List (bD × Int))) (b:(List gV)) (g:(List Int)) (p:Int):Option ((List Int) × (List (bD × Int)) × (List gV)):=
 ob (gQ e f b g d) fun a=>
 ob (kC b ([⟨p,c,a.1⟩]:List gV)) fun i=>
 jX a.2.1 a.2.2 i
def iE (a:List Int) (b:(List (bD × Int))) (c:List gV):Option (Bool × (List Int) × (List (bD × Int)) × (List gV)):=
 some (true,a,b,c)
def jY (h:(List Int)) (i:Int) (p:cO) (c:(List Edge)) (d:List Int) (e:(List (bD × Int))) (f:List gV) (a:Int):Option ((List Int × (List (bD × Int)) × List gV × Int) ⊕ (List Int × (List (bD × Int)) × List gV)):=
 if (decide (a < (c.length:Int))) then (ob (ix c a) fun g=>
 ob (ix p.L g.B) fun k=>
 ob (lP k g.To d e f h i) fun b=>
 some (.inl (b.1,b.2.1,b.2.2,wr (a+1)))) else (some (.inr (d,e,f)))
def lQ (k:Int) (d:(List Int)) (e:(List (bD × Int))) (f:(List gV)) (g:(List Int)) (h:Int) (p:cO):Option (Bool × (List Int) × (List (bD × Int)) × (List gV)):=
 ob (aDf p k) fun i=>
 ob (loop (fun (s:(List Int × (List (bD × Int)) × List gV × Int))=>jY g h p i s.1 s.2.1 s.2.2.1 s.2.2.2) (d,e,f,0)) fun r=>iE r.1 r.2.1 r.2.2
def lR (e:List Int) (a b:Int) (c:List bD) (d:List Edge):Option (cO × (List Int) × Bool):=
 ob (lJ ⟨a,b,c,d⟩) fun f=>
 some (⟨a,b,c,d⟩,e,f)
def jC (b:List Int) (e:(List (bD × Int))) (c:List gV):Option (cO × (List Int) × Bool):=
 ob (aBm c) fun d=>
 ob (aGN (b.length:Int) 0 d c) fun a=>
 lR b a.N a.I a.L a.E
def jD (b:Int) (a:(Bool × (List Int) × (List (bD × Int)) × (List gV))) (c:Bool):Option ((List Int × (List (bD × Int)) × List gV × Int) ⊕ ((List Int × (List (bD × Int)) × List gV) ⊕ (cO × (List Int) × Bool))):=
 if c then (some (.inr (.inr (⟨0,0,[],[]⟩,[],false)))) else (some (.inl (a.2.1,a.2.2.1,a.2.2.2,wr (b+1))))
def lS (f:(List Int)) (g:cO) (b:List Int) (d:(List (bD × Int))) (e:List gV) (a:Int):Option ((List Int × (List (bD × Int)) × List gV × Int) ⊕ ((List Int × (List (bD × Int)) × List gV) ⊕ (cO × (List Int) × Bool))):=
 if (decide (a < (b.length:Int))) then (ob (ix b a) fun h=>
 ob (lQ h b d e f a g) fun c=>
 if (!c.1) then (jD a c true) else (jD a c (decide (40 < (c.2.1.length:Int))))) else (some (.inr (.inl (b,d,e))))
def qV (d:Int) (b:(List Int)) (e:cO):Option (cO × (List Int) × Bool):=
 ob (gQ [] ([]:(List (bD × Int))) [] b d) fun c=>
 ob (loop (fun (s:(List Int × (List (bD × Int)) × List gV × Int))=>lS b e s.1 s.2.1 s.2.2.1 s.2.2.2) (c.2.1,c.2.2,[],0)) fun r=>match r with|.inl r=>jC r.1 r.2.1 r.2.2|.inr r=>some r
def jE (t:cO) (c:List Int):Option (cO × (List Int)):=
 ob (qV t.I c t) fun b=>
 some (b.1,b.2.1)
def lT (a:List Int):Option ((List Int) ⊕ (List Int)):=
 some (.inl a)
def jF (a:List Int) (c:List (List Int)):Option ((List Int) ⊕ (List Int)):=
 ob (aBS c) fun b=>
 ob (fR b a) fun d=>
 if d then (some (.inr a)) else (lT b)
def lU (a:Int) (b:List (List Int)):Option ((List (List Int) × Int) ⊕ (List (List Int))):=
 some (.inl (b,wr (a+1)))
def jG (a:List (List Int)) (b:Int) (c:List Int):Option ((List (List Int) × Int) ⊕ (List (List Int))):=
 ob (kC a ([c]:List (List Int))) fun d=>
 lU b d
def jH (a:List Int) (b c:Int):Option ((List Int × Int) ⊕ (List Int)):=
 ob (kC a ([c]:List Int)) fun d=>
 some (.inl (d,wr (b+1)))
def lV (t:cO) (f:List Int) (g:Int) (c:List bD) (b:List Int) (a:Int):Option ((List Int × Int) ⊕ (List Int)):=
 if (decide (a < (c.length:Int))) then (ob (ix c a) fun h=>
 ob (wY t g h) fun d=>
 if (decide (0<=d)) then (ob (ix f d) fun i=>
 jH b a i) else (jH b a (-1))) else (some (.inr b))
def lW (t:cO) (c:List Int) (d:List (List Int)) (b:Int):Option ((List (List Int) × Int) ⊕ (List (List Int))):=
 if (decide (b < t.N)) then (ob (ix c b) fun e=>
 ob (slc t.L 1 (t.L.length:Int)) fun f=>
 ob (loop (fun (s:(List Int × Int))=>lV t c b f s.1 s.2) (([e]:List Int),0)) fun r=>jG d b r) else (some (.inr d))
def lX (t:cO) (a:List Int):Option ((List Int) ⊕ (List Int)):=
 ob (loop (fun (s:(List (List Int) × Int))=>lW t a s.1 s.2) ([],0)) fun r=>jF a r
def qW (t:cO) (b:(List Int)):Option (cO × (List Int)):=
 ob (aEq b) fun c=>
 ob (loop (fun (s:List Int)=>lX t s) c) fun r=>jE t r
def rS (a b:Int) (c:List bD) (d:List Edge):Option cO:=
 some ⟨a,b,c,d⟩
def aAO (t:cO):Option cO:=
 ob (mkz t.N (0:Int)) fun c=>
 ob (qW t c) fun a=>
 rS a.1.N a.1.I a.1.L a.1.E
def oF (t:cO):Option (cO × Int):=
 ob (lJ t) fun c=>
 if (!c) then (some (⟨0,0,[],[]⟩,1)) else (ob (iD t) fun b=>
 if (!b.2.2) then (some (⟨0,0,[],[]⟩,5)) else (ob (aAO b.1) fun d=>
 some (d,0)))
def tQ:Option Bool:=
 some true
def aAP (a b:(List bD)) (c:Int):Option (Int ⊕ (Unit ⊕ Bool)):=
 if (decide (c < (a.length:Int))) then (ob (ix a c) fun f=>
 ob (ix b c) fun g=>
 if (!(f == g)) then (some (.inr (.inr false))) else (some (.inl (wr (c+1))))) else (some (.inr (.inl ())))
def aDQ (a b:(List bD)):Option Bool:=
 if ((a.length:Int) != (b.length:Int)) then (some false) else (ob (loop (fun (s:Int)=>aAP a b s) 0) fun r=>match r with|.inl r=>tQ|.inr r=>some r)
def wK:Option Bool:=
 some true
def aBT (a b:cO) (c:Int):Option (Int ⊕ (Unit ⊕ Bool)):=
 if (decide (c < (a.E.length:Int))) then (ob (ix a.E c) fun f=>
 ob (ix b.E c) fun g=>
 if (!decide ((f:Edge)=g)) then (some (.inr (.inr false))) else (some (.inl (wr (c+1))))) else (some (.inr (.inl ())))
def mW (a b:cO) (f:Bool):Option Bool:=
 if f then (some false) else (ob (loop (fun (s:Int)=>aBT a b s) 0) fun r=>match r with|.inl r=>wK|.inr r=>some r)
def aEO (a b:cO):Option Bool:=
 if (a.N != b.N) then (mW a b true) else (if (a.I != b.I) then (mW a b true) else (ob (aDQ a.L b.L) fun e=>
 if (!e) then (mW a b true) else (mW a b ((a.E.length:Int) != (b.E.length:Int)))))
def aEP (a b:cO):Option Bool:=
 ob (aEO a b) fun e=>
 some e
def qX:Option Bool:=
 some true
def jZ (a:Int) (b:Bool):Option (Int ⊕ (Unit ⊕ Bool)):=
 if b then (some (.inr (.inr false))) else (some (.inl (wr (a+1))))
def xZ (t:cO) (a:Int):Option (Int ⊕ (Unit ⊕ Bool)):=
 if (decide (a < (t.E.length:Int))) then (ob (ix t.E a) fun c=>
 if (c.B == 0) then (jZ a true) else (if (decide (0 < a)) then (ob (ix t.E (wr (a - 1))) fun d=>
 if (c.F == d.F) then (jZ a (c.B == d.B)) else (jZ a false)) else (jZ a false))) else (some (.inr (.inl ())))
def aCF (t:cO):Option Bool:=
 ob (loop (fun (s:Int)=>xZ t s) 0) fun r=>match r with|.inl r=>qX|.inr r=>some r
def iF (a:Bool):Option Bool:=
 some a
def lY (t:cO):Option Bool:=
 ob (aEp t) fun b=>
 if b then (ob (aCF t) fun c=>
 iF c) else (iF false)
def aHg (c:(List UInt8)) (i n:Int):Option Int:=
 if (decide (n<=1)) then (some 0) else (if (decide (i < (c.length:Int))) then (ob (ix c i) fun d=>
 ob (rm (wr (d.toNat:Int)) n) fun e=>
 some e) else (ob (rm (wr ((wr (i * 37))+11)) n) fun f=>
 some f))
def mX (a:Int):Option (Int × Int):=
 some (a,0)
def rT (b:List Int) (c a:Int):Option ((Int × Int) ⊕ Int):=
 if (decide (a < (b.length:Int))) then (ob (ix b a) fun d=>
 some (.inl (wr (c+d),wr (a+1)))) else (some (.inr c))
def mY (a:List Int):Option (Int × Int):=
 ob (loop (fun (s:(Int × Int))=>rT a s.1 s.2) (0,0)) fun r=>mX r
def rU (a:Int) (b:List Int):Option ((List Int × Int) ⊕ (List Int)):=
 some (.inl (b,wr (a+1)))
def mZ (a:Int) (b:List Int):Option ((List Int × Int) ⊕ (List Int)):=
 rU a b
def rV (d:(cO × Int)) (e a:List Int) (b:Int):Option ((List Int × Int) ⊕ (List Int)):=
 if (decide (b < (d.1.E.length:Int))) then (ob (ix d.1.E b) fun c=>
 ob (ix a c.To) fun f=>
 ob (ix e c.F) fun g=>
 ob (st a c.To (wr (f+g):Int)) fun h=>
 some (.inl (h,wr (b+1)))) else (some (.inr a))
def rW (n:Int) (a:(cO × Int)) (b:List Int) (c:Int):Option ((List Int × Int) ⊕ (List Int)):=
 if (decide (c < n)) then (ob (mkz a.1.N (0:Int)) fun e=>
 ob (loop (fun (s:(List Int × Int))=>rV a b s.1 s.2) (e,0)) fun r=>mZ c r) else (some (.inr b))
def tR (t:cO) (n:Int):Option (Int × Int):=
 ob (zY t n) fun a=>
 if (a.2 != 0) then (some (0,a.2)) else (ob (mkz a.1.N (0:Int)) fun c=>
 ob (ix c 0) fun g=>
 ob (st c 0 (1:Int)) fun e=>
 ob (loop (fun (s:(List Int × Int))=>rW n a s.1 s.2) (e,0)) fun r=>mY r)
def jI (a:(Int × Int)) (b:Int):Option Bool:=
 some (b == a.1)
def jJ (a b:Int):Option ((Int × Int) ⊕ Int):=
 some (.inl (b,wr (a+1)))
def lZ (d:Int) (c:((List (List bD)) × Int)) (b a:Int):Option ((Int × Int) ⊕ Int):=
 if (decide (a < (c.1.length:Int))) then (ob (ix c.1 a) fun e=>
 if ((e.length:Int) == d) then (jJ a (wr (b+1))) else (jJ a b)) else (some (.inr b))
def fE (c:(cO × cO)) (b:Int) (d:(Int × Int)) (e:Bool):Option Bool:=
 if e then (some false) else (ob (aDP c.1 b) fun a=>
 if (a.2 != 0) then (some (a.2 == 5)) else (ob (loop (fun (s:(Int × Int))=>lZ b a s.1 s.2) (0,0)) fun r=>jI d r))
def jK (g:(List UInt8)) (a:(cO × cO)) (d:(cO × Int)) (h:Bool):Option Bool:=
 if h then (some false) else (ob (tF a.1 ⟨d.1.N,d.1.I,d.1.L,d.1.E⟩) fun e=>
 ob (aHg g 0 4) fun b=>
 ob (tR a.1 b) fun c=>
 ob (tR d.1 b) fun f=>
 if (e.2.2 != 0) then (fE a b c true) else (if (c.2 != 0) then (fE a b c true) else (if (f.2 != 0) then (fE a b c true) else (if (!e.1) then (fE a b c true) else (fE a b c (c.1 != f.1))))))
def hY (c:(List UInt8)) (a:(cO × cO)) (b e:(cO × Int)) (d:(Bool × (List bD) × Int)) (f:Bool):Option Bool:=
 if f then (ob (aAJ a.1 a.2) fun g=>
 some (d.2.2 == g.2.2)) else (ob (aEP b.1 e.1) fun h=>
 if (d.1 != h) then (jK c a b true) else (ob (lY b.1) fun i=>
 jK c a b (!i)))
def jL (f e:(List UInt8)) (g:Bool):Option Bool:=
 if g then (some true) else (ob (aEM f) fun a=>
 ob (oF a.1) fun b=>
 ob (oF a.2) fun c=>
 ob (tF ⟨a.1.N,a.1.I,a.1.L,a.1.E⟩ ⟨a.2.N,a.2.I,a.2.L,a.2.E⟩) fun d=>
 if (b.2 != 0) then (hY e a b c d true) else (if (c.2 != 0) then (hY e a b c d true) else (hY e a b c d (d.2.2 != 0))))
def aAb (a b:(List UInt8)):Option Bool:=
 ob (aCY a) fun c=>
 if c then (jL a b true) else (ob (aCY b) fun d=>
 jL a b d)
end
end Gv
