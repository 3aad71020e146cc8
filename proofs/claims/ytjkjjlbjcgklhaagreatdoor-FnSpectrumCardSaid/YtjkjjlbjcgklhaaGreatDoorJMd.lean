/- Models of the functions, printed by program off their code. Plain Lean. -/
import Derived.Test.YtjkjjlbjcgklhaaGreatDoorJLM
set_option linter.all false
namespace Gv
noncomputable section
def aGB (a:List Int):Option ((List Int) × Bool):=
 some (a,true)
def xO (b:(List aL)) (c:List Int) (a:Int):Option ((List Int × Int) ⊕ (List Int ⊕ ((List Int) × Bool))):=
 if (decide (a < (b.length:Int))) then (ob (ix b a) fun e=>
 ob (yZ e) fun d=>
 if (!d.2) then (some (.inr (.inr ([],false)))) else (ob (rZ c ([d.1]:List Int)) fun f=>
 some (.inl (f,wr (a+1))))) else (some (.inr (.inl c)))
def zJ (b:(List aL)):Option ((List Int) × Bool):=
 ob (loop (fun (s:(List Int × Int))=>xO b s.1 s.2) ([],0)) fun r=>match r with|.inl r=>aGB r|.inr r=>some r
def aIm (a:aL) (b:List aL):Option aL:=
 ob (aQk b a) fun c=>
 some c
def aDg (c:(List Int)) (b:List aL) (a:Int):Option ((List aL × Int) ⊕ (List aL)):=
 if (decide (a < (c.length:Int))) then (ob (ix c a) fun d=>
 ob (aGz d) fun e=>
 ob (ix b a) fun g=>
 ob (st b a (e:aL)) fun f=>
 some (.inl (f,wr (a+1)))) else (some (.inr b))
def aGC (a:(List Int)) (b:aL):Option aL:=
 ob (mkz (a.length:Int) ([]:aL)) fun c=>
 ob (loop (fun (s:(List aL × Int))=>aDg a s.1 s.2) (c,0)) fun r=>aIm b r
def aHs (a:Bool):Option Bool:=
 some a
def aJi (c:UInt8):Option Bool:=
 if (decide (48<=(c.toNat:Int))) then (aHs (decide ((c.toNat:Int)<=57))) else (aHs false)
def aIn (a:Bool):Option Bool:=
 some a
def aFD (a:aL):Option Bool:=
 if (decide (1<=(a.length:Int))) then (aIn (decide ((a.length:Int)<=10))) else (aIn false)
def aDh (a:Int) (b:Bool):Option (Int ⊕ (Unit ⊕ Bool)):=
 if b then (some (.inr (.inr false))) else (some (.inl (wr (a+1))))
def tL (b:aL) (a:Int) (c:Bool):Option (Int ⊕ (Unit ⊕ Bool)):=
 if (!c) then (if (a == 0) then (aDh a true) else (ob (ix b a) fun d=>
 ob (aJi d) fun e=>
 aDh a (!e))) else (aDh a false)
def aAY (a:aL) (b:Int):Option (Int ⊕ (Unit ⊕ Bool)):=
 if (decide (b < (a.length:Int))) then (ob (ix a b) fun c45=>
 if (decide (97<=(c45.toNat:Int))) then (tL a b (decide ((c45.toNat:Int)<=122))) else (tL a b false)) else (some (.inr (.inl ())))
def aIo (b:aL):Option Bool:=
 ob (loop (fun (s:Int)=>aAY b s) 0) fun r=>match r with|.inl r=>aFD b|.inr r=>some r
def aCO (a:Bool):Option Bool:=
 some a
def aEK (a:aL):Option Bool:=
 ob (aIo a) fun b=>
 if b then (aCO (!(a == ([116,97,117]:aL)))) else (aCO false)
def aIp (a:Bool):Option Bool:=
 some a
def zN (n low b:Int):Option Bool:=
 if (decide (low<=n)) then (aIp (decide (n<=b))) else (aIp false)
def aLP (n:Int):Option Bool:=
 ob (zN n 0 63) fun b=>
 some b
def aEL (n:Int):Option Bool:=
 ob (aLP n) fun b=>
 some (!b)
def oL:Option Int:=
 some (-1)
def dS (b:(List Int)) (a:Int):Option (Int ⊕ (Unit ⊕ Int)):=
 if (decide (a < (b.length:Int))) then (ob (ix b a) fun c=>
 ob (aEL c) fun d=>
 if d then (some (.inr (.inr a))) else (some (.inl (wr (a+1))))) else (some (.inr (.inl ())))
def gM (b:(List Int)):Option Int:=
 ob (loop (fun (s:Int)=>dS b s) 0) fun r=>match r with|.inl r=>oL|.inr r=>some r
def iY (a:(List Int)):Option Bool:=
 ob (gM a) fun b=>
 some (decide (0<=b))
def aFE (a:(List Int)):Option Bool:=
 ob (iY a) fun b=>
 some (!b)
def aBw (a:aL) (b:(List Int)) (c:Bool):Option (aL × Bool):=
 if c then (some (([]:aL),false)) else (if ((b.length:Int) == 0) then (some (a,true)) else (ob (cat a ([40]:aL)) fun d=>
 ob (aGC b ([44]:aL)) fun e=>
 ob (cat d e) fun f=>
 ob (cat f ([41]:aL)) fun g=>
 some (g,true)))
def aGD (b:aL) (a:(List Int)):Option (aL × Bool):=
 if (b == ([116,97,117]:aL)) then (some (([116,97,117]:aL),(a.length:Int) == 0)) else (ob (aEK b) fun c=>
 if (!c) then (aBw b a true) else (if (decide (2 < (a.length:Int))) then (aBw b a true) else (ob (aFE a) fun d=>
 aBw b a (!d))))
def fP (a:Bool):Option Bool:=
 some a
def gS (a b:aL):Option Bool:=
 if (decide ((b.length:Int)<=(a.length:Int))) then (ob (vT a (wr ((a.length:Int) - (b.length:Int))) (a.length:Int)) fun c=>
 fP (c == b)) else (fP false)
def kO (a b:aL):Option aL:=
 ob (gS a b) fun c=>
 if c then (ob (vT a 0 (wr ((a.length:Int) - (b.length:Int)))) fun d=>
 some d) else (some a)
def qR (a b:aL):Option aL:=
 ob (kO a b) fun c=>
 some c
def wG (a:(aL × aL × Bool)) (b:List Int) (c:Bool):Option (aL × (List Int) × Bool):=
 if c then (some (([]:aL),[],false)) else (some (a.1,b,true))
def sG (d:aL) (a:(aL × aL × Bool)) (b:List Int):Option (aL × (List Int) × Bool):=
 ob (aGD a.1 b) fun c=>
 if (!c.2) then (wG a b true) else (wG a b (!(c.1 == d)))
def aFF (b:aL):Option (aL × (List Int) × Bool):=
 ob (l_Cut b ([40]:aL)) fun a=>
 if a.2.2 then (ob (qR a.2.1 ([41]:aL)) fun d=>
 ob (aKS d ([44]:aL)) fun e=>
 ob (zJ e) fun c=>
 if (!c.2) then (some (([]:aL),[],false)) else (sG b a c.1)) else (sG b a [])
def aJj (a:aL):Option Bool:=
 ob (aFF a) fun b=>
 some b.2.2
def vB (t:aO) (k:Int):Option Bool:=
 ob (zN k 0 (wr (t.N - 1))) fun c=>
 some c
def aNb (i many:Int):Option Bool:=
 ob (zN i 0 (wr (many - 1))) fun b=>
 some b
def pA (a:Int):Option Bool:=
 some (a != a)
def iJ (a y:Int):Option Int:=
 ob (pA a) fun d=>
 ob (pA y) fun c=>
 if d then (if c then (some 0) else (some (-1))) else (if c then (some 1) else (if (decide (a < y)) then (some (-1)) else (if (decide (y < a)) then (some 1) else (some 0))))
def sH:Option Int:=
 some 0
def iS (b:(List Int)) (a:Int):Option (Int ⊕ (Unit ⊕ Int)):=
 if (decide (a < (b.length:Int))) then (ob (ix b a) fun c=>
 if (c != 0) then (some (.inr (.inr c))) else (some (.inl (wr (a+1))))) else (some (.inr (.inl ())))
def zO (b:(List Int)):Option Int:=
 ob (loop (fun (s:Int)=>iS b s) 0) fun r=>match r with|.inl r=>sH|.inr r=>some r
def wH (a b:Edge):Option Int:=
 ob (iJ a.F b.F) fun e=>
 ob (iJ a.B b.B) fun f=>
 ob (iJ a.To b.To) fun g=>
 ob (zO ([e,f,g]:List Int)) fun h=>
 some h
def aJI:Option Bool:=
 some true
def rH (a:Int) (b:Bool):Option (Int ⊕ (Unit ⊕ Bool)):=
 if b then (some (.inr (.inr false))) else (some (.inl (wr (a+1))))
def zQ (t:aO) (a:Int):Option (Int ⊕ (Unit ⊕ Bool)):=
 if (decide (a < (t.E.length:Int))) then (ob (ix t.E a) fun c=>
 ob (vB t c.F) fun d=>
 if (!d) then (rH a true) else (ob (vB t c.To) fun e=>
 if (!e) then (rH a true) else (ob (aNb c.B (t.L.length:Int)) fun f=>
 if (!f) then (rH a true) else (if (decide (0 < a)) then (ob (ix t.E (wr (a - 1))) fun g=>
 ob (wH g c) fun h=>
 rH a (decide (0<=h))) else (rH a false))))) else (some (.inr (.inl ())))
def aCP (t:aO):Option Bool:=
 ob (loop (fun (s:Int)=>zQ t s) 0) fun r=>match r with|.inl r=>aJI|.inr r=>some r
def vC (a:Int) (b:Bool):Option (Int ⊕ (Unit ⊕ Bool)):=
 if b then (some (.inr (.inr false))) else (some (.inl (wr (a+1))))
def zU (t:aO) (a:Int):Option (Int ⊕ (Unit ⊕ Bool)):=
 if (decide (a < (t.L.length:Int))) then (ob (ix t.L a) fun b=>
 ob (aJj b) fun e=>
 if (!e) then (vC a true) else (if ((b == ([116,97,117]:aL)) != (a == 0)) then (vC a true) else (if (decide (1 < a)) then (ob (ix t.L (wr (a - 1))) fun d=>
 vC a (ltB b d||b == d)) else (vC a false)))) else (some (.inr (.inl ())))
def rI (t:aO) (c:Bool):Option Bool:=
 if c then (some false) else (ob (loop (fun (s:Int)=>zU t s) 0) fun r=>match r with|.inl r=>aCP t|.inr r=>some r)
def iK (t:aO):Option Bool:=
 ob (zN t.N 1 40) fun b=>
 if (!b) then (rI t true) else (ob (vB t t.I) fun c=>
 if (!c) then (rI t true) else (ob (zN (t.L.length:Int) 1 12) fun d=>
 if (!d) then (rI t true) else (rI t (decide (300 < (t.E.length:Int))))))
def aNF (a:Int):Option Bool:=
 ob (zN a 0 2) fun b=>
 some b
def sB (a:Int) (b:Bool):Option Int:=
 if b then (some 1) else (ob (aNF a) fun c=>
 if (!c) then (some 2) else (some 0))
def sI (a b:aO) (c:Int):Option Int:=
 ob (iK a) fun f=>
 if (!f) then (sB c true) else (ob (iK b) fun g=>
 sB c (!g))
def aAl (a b:aL):Option Int:=
 if (a == b) then (some 0) else (if (a == ([116,97,117]:aL)) then (some (-1)) else (if (b == ([116,97,117]:aL)) then (some 1) else (ob (aPx a b) fun e=>
 some e)))
def aHt (a:List Edge):Option (List Edge):=
 some a
def aBx (a:Int) (b:List Edge):Option ((List Edge × Int) ⊕ (List Edge)):=
 some (.inl (b,wr (a+1)))
def aBy (t:aO) (k:Int) (b:List Edge) (a:Int):Option ((List Edge × Int) ⊕ (List Edge)):=
 if (decide (a < (t.E.length:Int))) then (ob (ix t.E a) fun d=>
 if (d.F == k) then (ob (rZ b ([d]:List Edge)) fun f=>
 aBx a f) else (aBx a b)) else (some (.inr b))
def vD (t:aO) (k:Int):Option (List Edge):=
 ob (loop (fun (s:(List Edge × Int))=>aBy t k s.1 s.2) ([],0)) fun r=>aHt r
def oM (a:(List aL)):Option (List aL):=
 some a
def fH (a:Int):Option (Int ⊕ (Unit ⊕ (List aL))):=
 some (.inl (wr (a+1)))
def fI (a:List aL) (b:Int):Option (Int ⊕ (Unit ⊕ (List aL))):=
 ob (vT a b (a.length:Int)) fun c=>
 ob (ovw a b (List.replicate c.length ([]:aL))) fun d=>
 ob (vT d 0 b) fun e=>
 some (.inr (.inr e))
def dT (a:Int) (b:List aL) (c:Int):Option ((List aL × Int × Int) ⊕ (List aL × Int)):=
 some (.inl (b,c,wr (a+1)))
def dU (e:Int) (d b:List aL) (c a:Int):Option ((List aL × Int × Int) ⊕ (List aL × Int)):=
 if (decide (a < (d.length:Int))) then (ob (ix d a) fun i=>
 ob (ix b (e+a)) fun f=>
 ob (ix d (wr (a - 1))) fun j=>
 ob (ix b (e+(wr (a - 1)))) fun g=>
 if (!(f == g)) then (ob (ix b c) fun k=>
 ob (st b c (f:aL)) fun h=>
 dT a h (wr (c+1))) else (dT a b c)) else (some (.inr (b,c)))
def dV (b:(List aL)) (a:Int):Option (Int ⊕ (Unit ⊕ (List aL))):=
 if (decide (a < (b.length:Int))) then (ob (ix b a) fun d=>
 ob (ix b (wr (a - 1))) fun e=>
 if (d == e) then (ob (vT b a (b.length:Int)) fun f=>
 ob (loop (fun (s:(List aL × Int × Int))=>dU a f s.1 s.2.1 s.2.2) (b,a,1)) fun r=>fI r.1 r.2) else (fH a)) else (some (.inr (.inl ())))
def dE (a:(List aL)):Option (List aL):=
 if (decide ((a.length:Int) < 2)) then (some a) else (ob (loop (fun (s:Int)=>dV a s) 1) fun r=>match r with|.inl r=>oM a|.inr r=>some r)
def qS (a:List aL):Option (List aL):=
 ob (xN a) fun b=>
 ob (dE b) fun c=>
 some c
def nF (t:aO) (b:(List Edge)) (c:List aL) (a:Int):Option ((List aL × Int) ⊕ (List aL)):=
 if (decide (a < (b.length:Int))) then (ob (ix b a) fun e=>
 ob (ix t.L e.B) fun f=>
 ob (rZ c ([f]:List aL)) fun g=>
 some (.inl (g,wr (a+1)))) else (some (.inr c))
def cT (t:aO) (k:Int):Option (List aL):=
 ob (vD t k) fun c=>
 ob (loop (fun (s:(List aL × Int))=>nF t c s.1 s.2) ([],0)) fun r=>qS r
def qT:Option Int:=
 some (-1)
def gT (b:(List Int)) (c a:Int):Option (Int ⊕ (Unit ⊕ Int)):=
 if (decide (a < (b.length:Int))) then (ob (ix b a) fun d=>
 if (c == d) then (some (.inr (.inr a))) else (some (.inl (wr (a+1))))) else (some (.inr (.inl ())))
def fT (b:(List Int)) (c:Int):Option Int:=
 ob (loop (fun (s:Int)=>gT b c s) 0) fun r=>match r with|.inl r=>qT|.inr r=>some r
def dJ (a:(List Int)) (b:Int):Option Bool:=
 ob (fT a b) fun c=>
 some (decide (0<=c))
def pB (a:(List Int)):Option (List Int):=
 some a
def fU (a:Int):Option (Int ⊕ (Unit ⊕ (List Int))):=
 some (.inl (wr (a+1)))
def fV (a:List Int) (b:Int):Option (Int ⊕ (Unit ⊕ (List Int))):=
 ob (vT a b (a.length:Int)) fun c=>
 ob (ovw a b (List.replicate c.length (0:Int))) fun d=>
 ob (vT d 0 b) fun e=>
 some (.inr (.inr e))
def eN (a:Int) (b:List Int) (c:Int):Option ((List Int × Int × Int) ⊕ (List Int × Int)):=
 some (.inl (b,c,wr (a+1)))
def eO (e:Int) (d b:List Int) (c a:Int):Option ((List Int × Int × Int) ⊕ (List Int × Int)):=
 if (decide (a < (d.length:Int))) then (ob (ix d a) fun i=>
 ob (ix b (e+a)) fun f=>
 ob (ix d (wr (a - 1))) fun j=>
 ob (ix b (e+(wr (a - 1)))) fun g=>
 if (f != g) then (ob (ix b c) fun k=>
 ob (st b c (f:Int)) fun h=>
 eN a h (wr (c+1))) else (eN a b c)) else (some (.inr (b,c)))
def eP (b:(List Int)) (a:Int):Option (Int ⊕ (Unit ⊕ (List Int))):=
 if (decide (a < (b.length:Int))) then (ob (ix b a) fun d=>
 ob (ix b (wr (a - 1))) fun e=>
 if (d == e) then (ob (vT b a (b.length:Int)) fun f=>
 ob (loop (fun (s:(List Int × Int × Int))=>eO a f s.1 s.2.1 s.2.2) (b,a,1)) fun r=>fV r.1 r.2) else (fU a)) else (some (.inr (.inl ())))
def bU (a:(List Int)):Option (List Int):=
 if (decide ((a.length:Int) < 2)) then (some a) else (ob (loop (fun (s:Int)=>eP a s) 1) fun r=>match r with|.inl r=>pB a|.inr r=>some r)
def nY (a:List Int):Option (List Int):=
 ob (vA a) fun b=>
 ob (bU b) fun c=>
 some c
def lI (a:Int) (b:List Int):Option ((List Int × Int) ⊕ (List Int)):=
 some (.inl (b,wr (a+1)))
def nZ (a:List Int) (b:Int) (c:Edge) (d:Bool):Option ((List Int × Int) ⊕ (List Int)):=
 if d then (ob (rZ a ([c.To]:List Int)) fun e=>
 lI b e) else (lI b a)
def eK (t:aO) (e:(List Int)) (f:aL) (d:List Int) (a:Int):Option ((List Int × Int) ⊕ (List Int)):=
 if (decide (a < (t.E.length:Int))) then (ob (ix t.E a) fun b=>
 ob (ix t.L b.B) fun g=>
 if (g == f) then (ob (dJ e b.F) fun h=>
 nZ d a b h) else (nZ d a b false)) else (some (.inr d))
def gU (t:aO) (b:(List Int)) (c:aL):Option (List Int):=
 ob (loop (fun (s:(List Int × Int))=>eK t b c s.1 s.2) ([],0)) fun r=>nY r
def cL (a:(List Int)):Option (List Int):=
 ob (rZ ([]:List Int) a) fun b=>
 some b
def qU (a:List Int):Option (List Int):=
 ob (vA a) fun b=>
 some b
def qV (a:Int) (b:List Int):Option ((List Int × Int) ⊕ (List Int)):=
 some (.inl (b,wr (a+1)))
def vY (a:Int) (b:List Int):Option ((List Int × Int) ⊕ (List Int)):=
 qV a b
def nN (a:Int) (b:List Int):Option ((List Int × Int) ⊕ (List Int)):=
 some (.inl (b,wr (a+1)))
def fQ (c:(List Int)) (a:List Int) (b:Int):Option ((List Int × Int) ⊕ (List Int)):=
 if (decide (b < (c.length:Int))) then (ob (ix c b) fun d=>
 ob (dJ a d) fun e=>
 if (!e) then (ob (rZ a ([d]:List Int)) fun f=>
 nN b f) else (nN b a)) else (some (.inr a))
def jC (t:aO) (a:List Int) (b:Int):Option ((List Int × Int) ⊕ (List Int)):=
 if (decide (b < (a.length:Int))) then (ob (ix a b) fun d=>
 ob (gU t ([d]:List Int) ([116,97,117]:aL)) fun e=>
 ob (loop (fun (s:(List Int × Int))=>fQ e s.1 s.2) (a,0)) fun r=>vY b r) else (some (.inr a))
def eQ (t:aO) (b:(List Int)):Option (List Int):=
 ob (cL b) fun c=>
 ob (loop (fun (s:(List Int × Int))=>jC t s.1 s.2) (c,0)) fun r=>qU r
def gN (t:aO) (b:(List Int)) (c:aL):Option (List Int):=
 ob (gU t b c) fun d=>
 ob (eQ t d) fun e=>
 some e
def mY (t:aO) (k:Int) (b:aL):Option (List Int):=
 ob (eQ t ([k]:List Int)) fun c=>
 if (b == ([116,97,117]:aL)) then (some c) else (ob (gN t c b) fun e=>
 some e)
def pC:Option Bool:=
 some true
def fW (b c:(List aL)) (a:Int):Option (Int ⊕ (Unit ⊕ Bool)):=
 if (decide (a < (b.length:Int))) then (ob (ix b a) fun d=>
 ob (ix c a) fun e=>
 if (!(d == e)) then (some (.inr (.inr false))) else (some (.inl (wr (a+1))))) else (some (.inr (.inl ())))
def dY (b c:(List aL)):Option Bool:=
 if ((b.length:Int) != (c.length:Int)) then (some false) else (ob (loop (fun (s:Int)=>fW b c s) 0) fun r=>match r with|.inl r=>pC|.inr r=>some r)
def qB (a y:Int) (c:(List ((Int × Int) × Bool))):Option Bool:=
 some ((mW c ⟨a,y⟩).getD false)
def aEh (a e f:Int) (g:(List aL)) (h:(List Edge)) (i j:Int) (k:(List aL)) (l:(List Edge)) (b:(List ((Int × Int) × Bool))) (p:Int):Option Bool:=
 ob (qB p a b) fun d=>
 some d
def mQ:Option Int:=
 some (-1)
def cV (b:(List Int)) (c d:Int) (e:(List aL)) (f:(List Edge)) (g h:Int) (i:(List aL)) (j:(List Edge)) (k:(List ((Int × Int) × Bool))) (l a:Int):Option (Int ⊕ (Unit ⊕ Int)):=
 if (decide (a < (b.length:Int))) then (ob (ix b a) fun m=>
 ob (aEh m c d e f g h i j k l) fun n=>
 if n then (some (.inr (.inr a))) else (some (.inl (wr (a+1))))) else (some (.inr (.inl ())))
def fJ (b:(List Int)) (c d:Int) (e:(List aL)) (f:(List Edge)) (g h:Int) (i:(List aL)) (j:(List Edge)) (k:(List ((Int × Int) × Bool))) (l:Int):Option Int:=
 ob (loop (fun (s:Int)=>cV b c d e f g h i j k l s) 0) fun r=>match r with|.inl r=>mQ|.inr r=>some r
def eV (a:(List Int)) (b c:Int) (d:(List aL)) (e:(List Edge)) (f g:Int) (h:(List aL)) (i:(List Edge)) (j:(List ((Int × Int) × Bool))) (k:Int):Option Bool:=
 ob (fJ a b c d e f g h i j k) fun l=>
 some (decide (0<=l))
def xP (b a:aO) (c:(List ((Int × Int) × Bool))) (i y:Int) (e:aL) (f:Int):Option Bool:=
 ob (mY a y e) fun g=>
 ob (eV g b.N b.I b.L b.E a.N a.I a.L a.E c f) fun h=>
 some h
def aBz:Option Bool:=
 some true
def kW (a b:aO) (f:(List ((Int × Int) × Bool))) (g y:Int) (d:(List Edge)) (c:Int):Option (Int ⊕ (Unit ⊕ Bool)):=
 if (decide (c < (d.length:Int))) then (ob (ix d c) fun e=>
 ob (ix a.L e.B) fun i=>
 ob (xP ⟨a.N,a.I,a.L,a.E⟩ ⟨b.N,b.I,b.L,b.E⟩ f g y i e.To) fun j=>
 if (!j) then (some (.inr (.inr false))) else (some (.inl (wr (c+1))))) else (some (.inr (.inl ())))
def lG (b d:aO) (e:(List ((Int × Int) × Bool))) (c y:Int):Option Bool:=
 ob (vD b c) fun g=>
 ob (loop (fun (s:Int)=>kW b d e c y g s) 0) fun r=>match r with|.inl r=>aBz|.inr r=>some r
def aCQ (a e f:Int) (g:(List aL)) (h:(List Edge)) (i j:Int) (k:(List aL)) (l:(List Edge)) (b:(List ((Int × Int) × Bool))) (p:Int):Option Bool:=
 ob (qB p a b) fun d=>
 some d
def mR:Option Int:=
 some (-1)
def cW (b:(List Int)) (c d:Int) (e:(List aL)) (f:(List Edge)) (g h:Int) (i:(List aL)) (j:(List Edge)) (k:(List ((Int × Int) × Bool))) (l a:Int):Option (Int ⊕ (Unit ⊕ Int)):=
 if (decide (a < (b.length:Int))) then (ob (ix b a) fun m=>
 ob (aCQ m c d e f g h i j k l) fun n=>
 if n then (some (.inr (.inr a))) else (some (.inl (wr (a+1))))) else (some (.inr (.inl ())))
def fK (b:(List Int)) (c d:Int) (e:(List aL)) (f:(List Edge)) (g h:Int) (i:(List aL)) (j:(List Edge)) (k:(List ((Int × Int) × Bool))) (l:Int):Option Int:=
 ob (loop (fun (s:Int)=>cW b c d e f g h i j k l s) 0) fun r=>match r with|.inl r=>mR|.inr r=>some r
def eW (a:(List Int)) (b c:Int) (d:(List aL)) (e:(List Edge)) (f g:Int) (h:(List aL)) (i:(List Edge)) (j:(List ((Int × Int) × Bool))) (k:Int):Option Bool:=
 ob (fK a b c d e f g h i j k) fun l=>
 some (decide (0<=l))
def vE (b a:aO) (c:(List ((Int × Int) × Bool))) (i y:Int) (e:aL) (f:Int):Option Bool:=
 ob (gU a ([y]:List Int) e) fun g=>
 ob (eW g b.N b.I b.L b.E a.N a.I a.L a.E c f) fun h=>
 some h
def yL:Option Bool:=
 some true
def iX (a b:aO) (f:(List ((Int × Int) × Bool))) (g y:Int) (d:(List Edge)) (c:Int):Option (Int ⊕ (Unit ⊕ Bool)):=
 if (decide (c < (d.length:Int))) then (ob (ix d c) fun e=>
 ob (ix a.L e.B) fun i=>
 ob (vE ⟨a.N,a.I,a.L,a.E⟩ ⟨b.N,b.I,b.L,b.E⟩ f g y i e.To) fun j=>
 if (!j) then (some (.inr (.inr false))) else (some (.inl (wr (c+1))))) else (some (.inr (.inl ())))
def iT (b d:aO) (e:(List ((Int × Int) × Bool))) (c y:Int):Option Bool:=
 ob (vD b c) fun g=>
 ob (loop (fun (s:Int)=>iX b d e c y g s) 0) fun r=>match r with|.inl r=>yL|.inr r=>some r
def iL (a b:aO) (c:(List ((Int × Int) × Bool))) (f d y:Int) (g:Bool):Option Bool:=
 if g then (some false) else (if (f == 2) then (ob (lG ⟨a.N,a.I,a.L,a.E⟩ ⟨b.N,b.I,b.L,b.E⟩ c d y) fun h=>
 some h) else (ob (iT ⟨a.N,a.I,a.L,a.E⟩ ⟨b.N,b.I,b.L,b.E⟩ c d y) fun i=>
 some i))
def gZ (a b:aO) (f:(List ((Int × Int) × Bool))) (c d y:Int):Option Bool:=
 if (c == 1) then (ob (cT a d) fun g=>
 ob (cT b y) fun h=>
 ob (dY g h) fun i=>
 iL a b f c d y (!i)) else (iL a b f c d y false)
def aAm (a:Int) (b:(List ((Int × Int) × Bool))) (c:Int):Option (((List ((Int × Int) × Bool)) × Int × Int) ⊕ ((List ((Int × Int) × Bool)) × Int)):=
 some (.inl (b,c,wr (a+1)))
def aAn (a:(List ((Int × Int) × Bool))) (d b:Int) (c:(List ((Int × Int) × Bool))):Option (((List ((Int × Int) × Bool)) × Int × Int) ⊕ ((List ((Int × Int) × Bool)) × Int)):=
 if ((c.length:Int) == (a.length:Int)) then (some (.inr (a,b))) else (aAm d c b)
def gI (a b:aO) (f:Int) (g:(List ((Int × Int) × Bool))) (e:(Int × Int)):Option Bool:=
 ob (gZ ⟨a.N,a.I,a.L,a.E⟩ ⟨b.N,b.I,b.L,b.E⟩ g f e.1 e.2) fun h=>
 if h then (some true) else (some false)
def qC (a b:aO) (f:Int) (c:(List ((Int × Int) × Bool))) (g h:Int):Option (((List ((Int × Int) × Bool)) × Int × Int) ⊕ ((List ((Int × Int) × Bool)) × Int)):=
 ob (mfil (gI a b f c) (List.map Prod.fst c)) fun i=>
 ob (some (aDW ([]:(List ((Int × Int) × Bool))) true i)) fun j=>
 aAn c g h j
def qD (a b:aO) (f:Int) (g:(List ((Int × Int) × Bool))) (h c:Int) (i:Bool):Option (((List ((Int × Int) × Bool)) × Int × Int) ⊕ ((List ((Int × Int) × Bool)) × Int)):=
 if i then (qC a b f g c c) else (qC a b f g c h)
def uN (a b:aO) (g:Int) (e:(List ((Int × Int) × Bool))) (f h:Int):Option (((List ((Int × Int) × Bool)) × Int × Int) ⊕ ((List ((Int × Int) × Bool)) × Int)):=
 if (decide (f < 0)) then (qD a b g e f h (!((mW e ⟨a.I,b.I⟩).getD false))) else (qD a b g e f h false)
def aAo (a b:aO) (e:Int) (f:(List ((Int × Int) × Bool))):Option ((List ((Int × Int) × Bool)) × Int):=
 ob (loop (fun (s:((List ((Int × Int) × Bool)) × Int × Int))=>uN a b e s.1 s.2.1 s.2.2) (f,(-1),0)) fun r=>some r
def aAp (a:Int) (b:(List ((Int × Int) × Bool))):Option (((List ((Int × Int) × Bool)) × Int) ⊕ (List ((Int × Int) × Bool))):=
 some (.inl (b,wr (a+1)))
def aDL (a:Int) (b:(List ((Int × Int) × Bool))):Option (((List ((Int × Int) × Bool)) × Int) ⊕ (List ((Int × Int) × Bool))):=
 aAp a b
def sJ (a:Int) (b:(List ((Int × Int) × Bool))):Option (((List ((Int × Int) × Bool)) × Int) ⊕ (List ((Int × Int) × Bool))):=
 some (.inl (b,wr (a+1)))
def oX (c:Int) (b:(List ((Int × Int) × Bool))) (a:Int) (d:Bool):Option (((List ((Int × Int) × Bool)) × Int) ⊕ (List ((Int × Int) × Bool))):=
 if d then (ob (some (vN b ⟨c,a⟩ true)) fun e=>
 sJ a e) else (sJ a b)
def mE (a b:aO) (h d:Int) (e:(List ((Int × Int) × Bool))) (c:Int):Option (((List ((Int × Int) × Bool)) × Int) ⊕ (List ((Int × Int) × Bool))):=
 if (decide (c < b.N)) then (if (h != 1) then (oX d e c true) else (ob (cT a d) fun i=>
 ob (cT b c) fun j=>
 ob (dY i j) fun k=>
 oX d e c k)) else (some (.inr e))
def mG (a b:aO) (g:Int) (e:(List ((Int × Int) × Bool))) (c:Int):Option (((List ((Int × Int) × Bool)) × Int) ⊕ (List ((Int × Int) × Bool))):=
 if (decide (c < a.N)) then (ob (loop (fun (s:((List ((Int × Int) × Bool)) × Int))=>mE a b g c s.1 s.2) (e,0)) fun r=>aDL c r) else (some (.inr e))
def aBA (a b:aO) (e:Int):Option ((List ((Int × Int) × Bool)) × Int):=
 ob (loop (fun (s:((List ((Int × Int) × Bool)) × Int))=>mG a b e s.1 s.2) (([]:(List ((Int × Int) × Bool))),0)) fun r=>aAo a b e r
def aFG (a b:aO) (e:Int):Option Bool:=
 ob (aBA a b e) fun f=>
 some (decide (f.2 < 0))
def wI (a:Bool):Option (Bool × Int):=
 some (a,0)
def aAZ (a b:aO) (e:Int):Option (Bool × Int):=
 ob (sI a b e) fun f=>
 if (f != 0) then (some (false,f)) else (ob (aFG a b e) fun g=>
 if g then (ob (aFG b a e) fun h=>
 wI h) else (wI false))
def aLQ (a:(List UInt8)):Option Bool:=
 some (decide (1048576 < (a.length:Int)))
def aLR (a:(List UInt8)):Option (Int × Int):=
 some (0,0)
def aKV:Option Int:=
 some (-1)
def aEi (b:(List aL)) (c:aL) (a:Int):Option (Int ⊕ (Unit ⊕ Int)):=
 if (decide (a < (b.length:Int))) then (ob (ix b a) fun d=>
 if (d == c) then (some (.inr (.inr a))) else (some (.inl (wr (a+1))))) else (some (.inr (.inl ())))
def aCu (b:(List aL)) (c:aL):Option Int:=
 ob (loop (fun (s:Int)=>aEi b c s) 0) fun r=>match r with|.inl r=>aKV|.inr r=>some r
def aKW (a:List aL):Option (List aL):=
 some a
def qW (a:Int) (b:List aL):Option ((List aL × Int) ⊕ (List aL)):=
 some (.inl (b,wr (a+1)))
def aBB (c:Int) (d:aL) (a:Int) (b:List aL):Option ((List aL × Int) ⊕ (List aL)):=
 ob (ix b a) fun f=>
 ob (st b a (d:aL)) fun e=>
 qW c e
def tU (c:Int) (b:List aL) (a:Int):Option ((List aL × Int) ⊕ (List aL)):=
 if (decide (c < a)) then (ob (ix b (wr (a - 1))) fun d=>
 ob (ix b a) fun f=>
 ob (st b a (d:aL)) fun e=>
 some (.inl (e,wr (a - 1)))) else (some (.inr b))
def aBC (c:List aL) (d:Int) (e:aL) (a:Int):Option ((List aL × Int) ⊕ (List aL)):=
 ob (rZ c ([([]:aL)]:List aL)) fun b=>
 ob (loop (fun (s:(List aL × Int))=>tU a s.1 s.2) (b,wr ((b.length:Int) - 1))) fun r=>aBB d e a r
def xQ (a:Int) (b:Bool):Option (Int ⊕ Int):=
 if b then (some (.inl (wr (a+1)))) else (some (.inr a))
def mZ (b:List aL) (c:aL) (a:Int):Option (Int ⊕ Int):=
 if (decide (a < (b.length:Int))) then (ob (ix b a) fun d=>
 xQ a (ltB d c)) else (xQ a false)
def jN (d:(List aL)) (a:List aL) (b:Int):Option ((List aL × Int) ⊕ (List aL)):=
 if (decide (b < (d.length:Int))) then (ob (ix d b) fun c=>
 ob (aCu a c) fun e=>
 if (decide (0<=e)) then (qW b a) else (ob (loop (fun (s:Int)=>mZ a c s) 1) fun r=>aBC a b c r)) else (some (.inr a))
def aBa (a:(List aL)):Option (List aL):=
 ob (loop (fun (s:(List aL × Int))=>jN a s.1 s.2) (([([116,97,117]:aL)]:List aL),0)) fun r=>aKW r
def aJk (a b:Edge):Option Bool:=
 if (a.F != b.F) then (some (decide (a.F < b.F))) else (if (a.B != b.B) then (some (decide (a.B < b.B))) else (some (decide (a.To < b.To))))
def aFH (e:Edge) (b:Int) (c:List Edge):Option (List Edge):=
 ob (ix c b) fun f=>
 ob (st c b (⟨e.F,e.B,e.To⟩:Edge)) fun d=>
 some d
def aDi (d:Int) (b:List Edge) (a:Int):Option ((List Edge × Int) ⊕ (List Edge)):=
 if (decide (d < a)) then (ob (ix b (wr (a - 1))) fun c=>
 ob (ix b a) fun f=>
 ob (st b a (⟨c.F,c.B,c.To⟩:Edge)) fun e=>
 some (.inl (e,wr (a - 1)))) else (some (.inr b))
def aBb (a:(List Edge)) (e:Edge) (b:Int) (f:Bool):Option (List Edge):=
 if f then (some a) else (ob (rZ a ([⟨0,0,0⟩]:List Edge)) fun c=>
 ob (loop (fun (s:(List Edge × Int))=>aDi b s.1 s.2) (c,wr ((c.length:Int) - 1))) fun r=>aFH e b r)
def aFI (b:(List Edge)) (e:Edge) (a:Int):Option (List Edge):=
 if (decide (0 < a)) then (ob (ix b (wr (a - 1))) fun d=>
 aBb b e a (decide ((d:Edge)=e))) else (aBb b e a false)
def aDj (a:Int) (b:Bool):Option (Int ⊕ Int):=
 if b then (some (.inl (wr (a - 1)))) else (some (.inr a))
def aBc (b:(List Edge)) (e:Edge) (a:Int):Option (Int ⊕ Int):=
 if (decide (0 < a)) then (ob (ix b (wr (a - 1))) fun d=>
 ob (aJk e d) fun f=>
 aDj a f) else (aDj a false)
def aIq (a:(List Edge)) (e:Edge):Option (List Edge):=
 ob (loop (fun (s:Int)=>aBc a e s) (a.length:Int)) fun r=>aFI a e r
def aKX (a b:Int) (c:(List aL)) (d:List Edge):Option aO:=
 some ⟨a,b,c,d⟩
def nA (e:(List aL)) (c:(List Edge)) (f:(List aL)) (d:List Edge) (a:Int):Option ((List Edge × Int) ⊕ (List Edge)):=
 if (decide (a < (c.length:Int))) then (ob (ix c a) fun b=>
 ob (ix e b.B) fun g=>
 ob (aCu f g) fun h=>
 ob (aIq d ⟨b.F,h,b.To⟩) fun i=>
 some (.inl (i,wr (a+1)))) else (some (.inr d))
def sK (c d:Int) (a:(List aL)) (e:(List Edge)):Option aO:=
 ob (aBa a) fun b=>
 ob (loop (fun (s:(List Edge × Int))=>nA a e b s.1 s.2) (([]:List Edge),0)) fun r=>aKX c d b r
def aJJ:Option Int:=
 some (-1)
def aCR (b:(List Int)) (n a:Int):Option (Int ⊕ (Unit ⊕ Int)):=
 if (decide (a < (b.length:Int))) then (ob (ix b a) fun d=>
 if (d == n) then (some (.inr (.inr a))) else (some (.inl (wr (a+1))))) else (some (.inr (.inl ())))
def aAG (b:(List Int)) (n:Int):Option Int:=
 ob (loop (fun (s:Int)=>aCR b n s) 0) fun r=>match r with|.inl r=>aJJ|.inr r=>some r
def aKY (a:(List Int)) (b:Int) (c:List aL) (d:List Edge):Option aO:=
 some ⟨(a.length:Int),b,c,d⟩
def tV (a:Int) (b:List Edge):Option ((List Edge × Int) ⊕ (List Edge)):=
 some (.inl (b,wr (a+1)))
def xR (a:List Edge) (b:Int) (c:Edge) (d e:Int) (f:Bool):Option ((List Edge × Int) ⊕ (List Edge)):=
 if f then (ob (rZ a ([⟨d,c.B,e⟩]:List Edge)) fun g=>
 tV b g) else (tV b a)
def xS (t:aO) (g:(List Int)) (c:List Edge) (a:Int):Option ((List Edge × Int) ⊕ (List Edge)):=
 if (decide (a < (t.E.length:Int))) then (ob (ix t.E a) fun b=>
 ob (aAG g b.F) fun d=>
 ob (aAG g b.To) fun e=>
 if (decide (0<=d)) then (xR c a b d e (decide (0<=e))) else (xR c a b d e false)) else (some (.inr c))
def aBd (t:aO) (b:(List Int)):Option aO:=
 ob (aAG b t.I) fun c=>
 ob (rZ ([]:List aL) t.L) fun d=>
 ob (loop (fun (s:(List Edge × Int))=>xS t b s.1 s.2) (([]:List Edge),0)) fun r=>aKY b c d r
def aJK (a:List Int):Option (List Int):=
 some a
def zV (a:Int) (b:List Int):Option ((List Int × Int) ⊕ (List Int)):=
 some (.inl (b,wr (a+1)))
def zW (t:aO) (d:List Bool) (b:List Int) (a:Int):Option ((List Int × Int) ⊕ (List Int)):=
 if (decide (a < t.N)) then (ob (ix d a) fun e=>
 if e then (ob (rZ b ([a]:List Int)) fun f=>
 zV a f) else (zV a b)) else (some (.inr b))
def aCS (t:aO) (b:List Bool):Option (List Int):=
 ob (loop (fun (s:(List Int × Int))=>zW t b s.1 s.2) (([]:List Int),0)) fun r=>aJK r
def aGf (a:List Bool) (b:Bool):Option ((List Bool × Bool) ⊕ (List Bool)):=
 some (.inl (a,b))
def aJL (a:List Bool) (b:Bool):Option ((List Bool × Bool) ⊕ (List Bool)):=
 aGf a b
def rJ (a:Int) (b:List Bool) (c:Bool):Option ((List Bool × Bool × Int) ⊕ (List Bool × Bool)):=
 some (.inl (b,c,wr (a+1)))
def rK (t:aO) (a:List Bool) (e:Bool) (b:Int) (f:Bool):Option ((List Bool × Bool × Int) ⊕ (List Bool × Bool)):=
 if f then (ob (ix t.E b) fun c=>
 ob (ix a c.To) fun h=>
 ob (st a c.To (true:Bool)) fun g=>
 rJ b g true) else (rJ b a e)
def zX (t:aO) (a:List Bool) (d:Bool) (c:Int):Option ((List Bool × Bool × Int) ⊕ (List Bool × Bool)):=
 if (decide (c < (t.E.length:Int))) then (ob (ix t.E c) fun e=>
 ob (ix a e.F) fun f=>
 if f then (ob (ix a e.To) fun g=>
 rK t a d c (!g)) else (rK t a d c false)) else (some (.inr (a,d)))
def aEM (t:aO) (a:List Bool) (d:Bool):Option ((List Bool × Bool) ⊕ (List Bool)):=
 if d then (ob (loop (fun (s:(List Bool × Bool × Int))=>zX t s.1 s.2.1 s.2.2) (a,false,0)) fun r=>aJL r.1 r.2) else (some (.inr a))
def wJ (t:aO):Option (List Int):=
 ob (mkz t.N (false:Bool)) fun b=>
 ob (ix b t.I) fun e=>
 ob (st b t.I (true:Bool)) fun c=>
 ob (loop (fun (s:(List Bool × Bool))=>aEM t s.1 s.2) (c,true)) fun r=>aCS t r
def aNG (a b:Int):Option Int:=
 if (decide (b < a)) then (some a) else (some b)
def aIr (a:Int):Option Int:=
 some a
def wK (p:(List Int)) (c a:Int):Option ((Int × Int) ⊕ Int):=
 if (decide (a < (p.length:Int))) then (ob (ix p a) fun d=>
 ob (aNG c (wr (d+1))) fun e=>
 some (.inl (e,wr (a+1)))) else (some (.inr c))
def tM (p:(List Int)):Option Int:=
 ob (loop (fun (s:(Int × Int))=>wK p s.1 s.2) (0,0)) fun r=>aIr r
def xT (t:aO) (p:(List Int)) (c:List Edge):Option aO:=
 ob (ix p t.I) fun d=>
 ob (tM p) fun e=>
 ob (sK e d t.L c) fun f=>
 some f
def sL (t:aO) (p:(List Int)) (e:List Edge) (a:Int):Option ((List Edge × Int) ⊕ (List Edge)):=
 if (decide (a < (t.E.length:Int))) then (ob (ix t.E a) fun b=>
 ob (ix p b.F) fun f=>
 ob (ix p b.To) fun g=>
 ob (rZ e ([⟨f,b.B,g⟩]:List Edge)) fun h=>
 some (.inl (h,wr (a+1)))) else (some (.inr e))
def vF (t:aO) (p:(List Int)):Option aO:=
 ob (loop (fun (s:(List Edge × Int))=>sL t p s.1 s.2) (([]:List Edge),0)) fun r=>xT t p r
def aKZ:Option Bool:=
 some true
def tW (a b:(List Int)) (c:Int):Option (Int ⊕ (Unit ⊕ Bool)):=
 if (decide (c < (a.length:Int))) then (ob (ix a c) fun f=>
 ob (ix b c) fun g=>
 if (f != g) then (some (.inr (.inr false))) else (some (.inl (wr (c+1))))) else (some (.inr (.inl ())))
def sM (a b:(List Int)):Option Bool:=
 if ((a.length:Int) != (b.length:Int)) then (some false) else (ob (loop (fun (s:Int)=>tW a b s) 0) fun r=>match r with|.inl r=>aKZ|.inr r=>some r)
def aFJ (a:List Int):Option (List Int):=
 some a
def aFK (n:Int) (a:List Int) (c:Bool):Option (List Int):=
 if (!c) then (ob (rZ a ([n]:List Int)) fun d=>
 aFJ d) else (aFJ a)
def aBe (b:(List Int)) (a:Int) (c:List Int) (d:Bool):Option ((List Int × Bool × Int) ⊕ (List Int × Bool)):=
 ob (ix b a) fun e=>
 ob (rZ c ([e]:List Int)) fun f=>
 some (.inl (f,d,wr (a+1)))
def aBf (a:(List Int)) (n:Int) (c:List Int) (e:Bool) (b:Int) (f:Bool):Option ((List Int × Bool × Int) ⊕ (List Int × Bool)):=
 if f then (ob (ix a b) fun g=>
 if (decide (n < g)) then (ob (rZ c ([n]:List Int)) fun h=>
 aBe a b h true) else (aBe a b c true)) else (aBe a b c e)
def wL (a:(List Int)) (n:Int) (e:List Int) (b:Bool) (c:Int):Option ((List Int × Bool × Int) ⊕ (List Int × Bool)):=
 if (decide (c < (a.length:Int))) then (if (!b) then (ob (ix a c) fun f=>
 aBf a n e b c (decide (n<=f))) else (aBf a n e b c false)) else (some (.inr (e,b)))
def aGE (c:(List Int)) (n:Int):Option (List Int):=
 ob (loop (fun (s:(List Int × Bool × Int))=>wL c n s.1 s.2.1 s.2.2) (([]:List Int),false,0)) fun r=>aFK n r.1 r.2
def aLa (a:List Int):Option (List Int):=
 some a
def aBD (a:Int) (b:List Int):Option ((List Int × Int) ⊕ (List Int)):=
 some (.inl (b,wr (a+1)))
def qX (t:aO) (p:(List Int)) (k:Int) (b:List Int) (a:Int):Option ((List Int × Int) ⊕ (List Int)):=
 if (decide (a < (t.E.length:Int))) then (ob (ix t.E a) fun c=>
 if (c.F == k) then (ob (ix p c.To) fun g=>
 ob (aGE b (wr ((wr (c.B * (p.length:Int)))+g))) fun h=>
 aBD a h) else (aBD a b)) else (some (.inr b))
def aGF (t:aO) (p:(List Int)) (k:Int):Option (List Int):=
 ob (loop (fun (s:(List Int × Int))=>qX t p k s.1 s.2) (([]:List Int),0)) fun r=>aLa r
def aIs (a:List Int):Option (List Int):=
 some a
def aBE (a:Int) (b:List Int) (c:Int):Option ((List Int × Int × Int) ⊕ (List Int)):=
 some (.inl (b,c,wr (a+1)))
def aBF (a:List Int) (b c d:Int):Option ((List Int × Int × Int) ⊕ (List Int)):=
 ob (rZ a ([d]:List Int)) fun e=>
 aBE b e c
def aBG (b:List Int) (a c d:Int):Option ((List Int × Int × Int) ⊕ (List Int)):=
 if (decide (d < 0)) then (aBF b c (wr (a+1)) a) else (aBF b c a d)
def sO (a b:Int):Option ((Int × Int) ⊕ Int):=
 some (.inl (b,wr (a+1)))
def sP (b:List Int) (c a:Int) (d:Bool):Option ((Int × Int) ⊕ Int):=
 if d then (ob (ix b a) fun e=>
 sO a e) else (sO a c)
def pD (p:(List Int)) (d:List (List Int)) (e:List Int) (f b a:Int) (g:Bool):Option ((Int × Int) ⊕ Int):=
 if g then (ob (ix p a) fun h=>
 ob (ix p f) fun i=>
 if (h == i) then (ob (ix d a) fun j=>
 ob (ix d f) fun k=>
 ob (sM j k) fun l=>
 sP e b a l) else (sP e b a false)) else (some (.inr b))
def pE (p:(List Int)) (e:List (List Int)) (f:List Int) (a b c:Int):Option ((Int × Int) ⊕ Int):=
 if (decide (c < a)) then (pD p e f a b c (decide (b < 0))) else (pD p e f a b c false)
def nG (p:(List Int)) (d:List (List Int)) (a:List Int) (e b:Int):Option ((List Int × Int × Int) ⊕ (List Int)):=
 if (decide (b < (p.length:Int))) then (ob (loop (fun (s:(Int × Int))=>pE p d a b s.1 s.2) ((-1),0)) fun r=>aBG a e b r) else (some (.inr a))
def qE (p:(List Int)) (b:List (List Int)):Option (List Int):=
 ob (loop (fun (s:(List Int × Int × Int))=>nG p b s.1 s.2.1 s.2.2) (([]:List Int),0,0)) fun r=>aIs r
def lJ (t:aO) (p:(List Int)) (c:List (List Int)) (a:Int):Option ((List (List Int) × Int) ⊕ (List (List Int))):=
 if (decide (a < t.N)) then (ob (aGF t p a) fun e=>
 ob (rZ c ([e]:List (List Int))) fun f=>
 some (.inl (f,wr (a+1)))) else (some (.inr c))
def aDk (t:aO) (p:(List Int)):Option (List Int):=
 ob (loop (fun (s:(List (List Int) × Int))=>lJ t p s.1 s.2) (([]:List (List Int)),0)) fun r=>qE p r
def pF (t:aO) (a:List Int) (b:Int):Option ((List Int × Int) ⊕ ((List Int) × Int)):=
 ob (aDk t a) fun c=>
 ob (sM c a) fun e=>
 if e then (some (.inr (a,b))) else (some (.inl (c,wr (b+1))))
def aDl (t:aO):Option ((List Int) × Int):=
 ob (mkz t.N (0:Int)) fun b=>
 ob (loop (fun (s:(List Int × Int))=>pF t s.1 s.2) (b,0)) fun r=>some r
def aGG (t:aO):Option (List Int):=
 ob (aDl t) fun b=>
 some b.1
def aCv (t:aO):Option aO:=
 ob (wJ t) fun c=>
 ob (aBd t c) fun b=>
 ob (aGG b) fun d=>
 ob (vF b d) fun e=>
 some e
def aCT (a:Bool):Option Bool:=
 some a
def wM (e:Edge) (p:(List Int)):Option Bool:=
 if (e.B == 0) then (ob (ix p e.F) fun c=>
 ob (ix p e.To) fun d=>
 aCT (c == d)) else (aCT false)
def aLb (a:List Int):Option (List Int):=
 some a
def aBH (a:Int) (b:List Int):Option ((List Int × Int) ⊕ (List Int)):=
 some (.inl (b,wr (a+1)))
def qY (c:(List Bool)) (b:List Int) (a:Int):Option ((List Int × Int) ⊕ (List Int)):=
 if (decide (a < (c.length:Int))) then (ob (ix c a) fun d=>
 if d then (ob (rZ b ([a]:List Int)) fun e=>
 aBH a e) else (aBH a b)) else (some (.inr b))
def aGH (a:(List Bool)):Option (List Int):=
 ob (loop (fun (s:(List Int × Int))=>qY a s.1 s.2) (([]:List Int),0)) fun r=>aLb r
def aDM (a:List Bool):Option (List Bool):=
 some a
def aDN (a:List Bool) (b:Bool):Option ((List Bool × Bool) ⊕ (List Bool)):=
 some (.inl (a,b))
def aHL (a:List Bool) (b:Bool):Option ((List Bool × Bool) ⊕ (List Bool)):=
 aDN a b
def oA (a:Int) (b:List Bool) (c:Bool):Option ((List Bool × Bool × Int) ⊕ (List Bool × Bool)):=
 some (.inl (b,c,wr (a+1)))
def aAq (b:List Bool) (c:Bool) (a:Int) (d:Bool):Option ((List Bool × Bool × Int) ⊕ (List Bool × Bool)):=
 if (!d) then (ob (st b a (false:Bool)) fun e=>
 oA a e true) else (oA a b c)
def lK (a:Int) (b:Bool):Option ((Bool × Int) ⊕ Bool):=
 some (.inl (b,wr (a+1)))
def lL (t:aO) (p:(List Int)) (f:List Bool) (g:Int) (d:Bool) (a:Int):Option ((Bool × Int) ⊕ Bool):=
 if (decide (a < (t.E.length:Int))) then (ob (ix t.E a) fun b=>
 if d then (lK a true) else (if (b.F == g) then (ob (wM b p) fun h=>
 if h then (ob (ix f b.To) fun i=>
 lK a i) else (lK a false)) else (lK a false))) else (some (.inr d))
def oB (t:aO) (p:(List Int)) (a:List Bool) (c:Bool) (b:Int):Option ((List Bool × Bool × Int) ⊕ (List Bool × Bool)):=
 if (decide (b < t.N)) then (ob (ix a b) fun f=>
 if (!f) then (oA b a c) else (ob (loop (fun (s:(Bool × Int))=>lL t p a b s.1 s.2) (false,0)) fun r=>aAq a c b r)) else (some (.inr (a,c)))
def qF (t:aO) (p:(List Int)) (a:List Bool) (e:Bool):Option ((List Bool × Bool) ⊕ (List Bool)):=
 if e then (ob (loop (fun (s:(List Bool × Bool × Int))=>oB t p s.1 s.2.1 s.2.2) (a,false,0)) fun r=>aHL r.1 r.2) else (some (.inr a))
def xU (t:aO) (p:(List Int)) (c:List Bool):Option (List Bool):=
 ob (loop (fun (s:(List Bool × Bool))=>qF t p s.1 s.2) (c,true)) fun r=>aDM r
def kC (t:aO) (b:List Bool) (a:Int):Option ((List Bool × Int) ⊕ (List Bool)):=
 if (decide (a < t.N)) then (ob (ix b a) fun e=>
 ob (st b a (true:Bool)) fun d=>
 some (.inl (d,wr (a+1)))) else (some (.inr b))
def xV (t:aO) (p:(List Int)):Option (List Bool):=
 ob (mkz t.N (false:Bool)) fun c=>
 ob (loop (fun (s:(List Bool × Int))=>kC t s.1 s.2) (c,0)) fun r=>xU t p r
def oY (t:aO) (p:(List Int)) (c:List Edge):Option aO:=
 ob (ix p t.I) fun d=>
 ob (tM p) fun e=>
 ob (sK e d t.L c) fun f=>
 some f
def aCw (t:aO) (p:(List Int)) (c:List Edge):Option aO:=
 oY t p c
def kD (p b:(List Int)) (c:List Edge) (a:Int):Option ((List Edge × Int) ⊕ (List Edge)):=
 if (decide (a < (b.length:Int))) then (ob (ix b a) fun f=>
 ob (ix p f) fun d=>
 ob (rZ c ([⟨d,0,d⟩]:List Edge)) fun g=>
 some (.inl (g,wr (a+1)))) else (some (.inr c))
def xW (t:aO) (p:(List Int)) (d:Bool) (c:List Edge):Option aO:=
 if d then (ob (xV t p) fun e=>
 ob (aGH e) fun f=>
 ob (loop (fun (s:(List Edge × Int))=>kD p f s.1 s.2) (c,0)) fun r=>aCw t p r) else (oY t p c)
def sQ (a:Int) (b:List Edge):Option ((List Edge × Int) ⊕ (List Edge)):=
 some (.inl (b,wr (a+1)))
def kE (t:aO) (p:(List Int)) (d:List Edge) (a:Int):Option ((List Edge × Int) ⊕ (List Edge)):=
 if (decide (a < (t.E.length:Int))) then (ob (ix t.E a) fun b=>
 ob (wM b p) fun f=>
 if (!f) then (ob (ix p b.F) fun g=>
 ob (ix p b.To) fun h=>
 ob (rZ d ([⟨g,b.B,h⟩]:List Edge)) fun i=>
 sQ a i) else (sQ a d)) else (some (.inr d))
def vG (t:aO) (p:(List Int)) (c:Bool):Option aO:=
 ob (loop (fun (s:(List Edge × Int))=>kE t p s.1 s.2) (([]:List Edge),0)) fun r=>xW t p c r
def aJM (a:List Bool):Option (List Bool):=
 some a
def aGg (a:List Bool) (b:Bool):Option ((List Bool × Bool) ⊕ (List Bool)):=
 some (.inl (a,b))
def aJN (a:List Bool) (b:Bool):Option ((List Bool × Bool) ⊕ (List Bool)):=
 aGg a b
def vH (a:Int) (b:List Bool) (c:Bool):Option ((List Bool × Bool × Int) ⊕ (List Bool × Bool)):=
 some (.inl (b,c,wr (a+1)))
def oU (a:List Bool) (d:Bool) (b:Int) (c:Edge) (e:Bool):Option ((List Bool × Bool × Int) ⊕ (List Bool × Bool)):=
 if e then (ob (ix a c.To) fun g=>
 ob (st a c.To (true:Bool)) fun f=>
 vH b f true) else (vH b a d)
def rM (t:aO) (p:(List Int)) (a:List Bool) (d:Bool) (c:Int):Option ((List Bool × Bool × Int) ⊕ (List Bool × Bool)):=
 if (decide (c < (t.E.length:Int))) then (ob (ix t.E c) fun b=>
 ob (ix a b.F) fun g=>
 if g then (ob (ix a b.To) fun h=>
 if (!h) then (ob (wM b p) fun i=>
 oU a d c b i) else (oU a d c b false)) else (oU a d c b false)) else (some (.inr (a,d)))
def vI (t:aO) (p:(List Int)) (a:List Bool) (e:Bool):Option ((List Bool × Bool) ⊕ (List Bool)):=
 if e then (ob (loop (fun (s:(List Bool × Bool × Int))=>rM t p s.1 s.2.1 s.2.2) (a,false,0)) fun r=>aJN r.1 r.2) else (some (.inr a))
def aEN (t:aO) (p:(List Int)) (k:Int):Option (List Bool):=
 ob (mkz t.N (false:Bool)) fun c=>
 ob (ix c k) fun g=>
 ob (st c k (true:Bool)) fun e=>
 ob (loop (fun (s:(List Bool × Bool))=>vI t p s.1 s.2) (e,true)) fun r=>aJM r
def aIt (a:List Int):Option (List Int):=
 some a
def sS (a:Int) (b:List Int):Option ((List Int × Int) ⊕ (List Int)):=
 some (.inl (b,wr (a+1)))
def pG (p:(List Int)) (b:List Int) (c:Int) (d:Edge) (e:Bool):Option ((List Int × Int) ⊕ (List Int)):=
 if e then (ob (ix p d.To) fun f=>
 ob (aGE b (wr ((wr (d.B * (p.length:Int)))+f))) fun g=>
 sS c g) else (sS c b)
def nH (t:aO) (p:(List Int)) (f:(List Bool)) (d:List Int) (a:Int):Option ((List Int × Int) ⊕ (List Int)):=
 if (decide (a < (t.E.length:Int))) then (ob (ix t.E a) fun b=>
 ob (ix f b.F) fun g=>
 if g then (ob (wM b p) fun h=>
 pG p d a b (!h)) else (pG p d a b false)) else (some (.inr d))
def aDm (t:aO) (p:(List Int)) (k:Int):Option (List Int):=
 ob (aEN t p k) fun d=>
 ob (loop (fun (s:(List Int × Int))=>nH t p d s.1 s.2) (([]:List Int),0)) fun r=>aIt r
def aIu (a:List Int):Option (List Int):=
 some a
def aEO (a:Int) (b:List Int) (c:Int):Option ((List Int × Int × Int) ⊕ (List Int)):=
 some (.inl (b,c,wr (a+1)))
def aEP (a:List Int) (b c d:Int):Option ((List Int × Int × Int) ⊕ (List Int)):=
 ob (rZ a ([d]:List Int)) fun e=>
 aEO b e c
def aEQ (b:List Int) (a c d:Int):Option ((List Int × Int × Int) ⊕ (List Int)):=
 if (decide (d < 0)) then (aEP b c (wr (a+1)) a) else (aEP b c a d)
def aBI (a b:Int):Option ((Int × Int) ⊕ Int):=
 some (.inl (b,wr (a+1)))
def aER (b:List Int) (c a:Int) (d:Bool):Option ((Int × Int) ⊕ Int):=
 if d then (ob (ix b a) fun e=>
 aBI a e) else (aBI a c)
def aBJ (p:(List Int)) (d:List (List Int)) (e:List Int) (f b a:Int) (g:Bool):Option ((Int × Int) ⊕ Int):=
 if g then (ob (ix p a) fun h=>
 ob (ix p f) fun i=>
 if (h == i) then (ob (ix d a) fun j=>
 ob (ix d f) fun k=>
 ob (sM j k) fun l=>
 aER e b a l) else (aER e b a false)) else (some (.inr b))
def aIv (p:(List Int)) (e:List (List Int)) (f:List Int) (a b c:Int):Option ((Int × Int) ⊕ Int):=
 if (decide (c < a)) then (aBJ p e f a b c (decide (b < 0))) else (aBJ p e f a b c false)
def aIw (p:(List Int)) (d:List (List Int)) (a:List Int) (e b:Int):Option ((List Int × Int × Int) ⊕ (List Int)):=
 if (decide (b < (p.length:Int))) then (ob (loop (fun (s:(Int × Int))=>aIv p d a b s.1 s.2) ((-1),0)) fun r=>aEQ a e b r) else (some (.inr a))
def aAr (p:(List Int)) (b:List (List Int)):Option (List Int):=
 ob (loop (fun (s:(List Int × Int × Int))=>aIw p b s.1 s.2.1 s.2.2) (([]:List Int),0,0)) fun r=>aIu r
def qG (a:List (List Int)) (b:Int) (c:List Int):Option ((List (List Int) × Int) ⊕ (List (List Int))):=
 ob (rZ a ([c]:List (List Int))) fun d=>
 some (.inl (d,wr (b+1)))
def qH (a:List (List Int)) (b:Int) (c:(List Int)) (d:Bool):Option ((List (List Int) × Int) ⊕ (List (List Int))):=
 if d then (ob (rZ c ([(-1)]:List Int)) fun e=>
 qG a b e) else (qG a b c)
def lM (t:aO) (p:(List Int)) (f:Bool) (g:(List Bool)) (b:List (List Int)) (a:Int):Option ((List (List Int) × Int) ⊕ (List (List Int))):=
 if (decide (a < t.N)) then (ob (aDm t p a) fun d=>
 if f then (ob (ix g a) fun h=>
 qH b a d h) else (qH b a d false)) else (some (.inr b))
def aDn (t:aO) (p:(List Int)) (c:Bool):Option (List Int):=
 ob (xV t p) fun d=>
 ob (loop (fun (s:(List (List Int) × Int))=>lM t p c d s.1 s.2) (([]:List (List Int)),0)) fun r=>aAr p r
def aBK (t:aO) (d:Bool) (a:List Int):Option ((List Int) ⊕ (List Int)):=
 ob (aDn t a d) fun b=>
 ob (sM b a) fun e=>
 if e then (some (.inr a)) else (some (.inl b))
def aGI (t:aO) (b:Bool):Option (List Int):=
 ob (mkz t.N (0:Int)) fun c=>
 ob (loop (fun (s:List Int)=>aBK t b s) c) fun r=>some r
def wN (t:aO) (b:Bool):Option aO:=
 ob (wJ t) fun d=>
 ob (aBd t d) fun c=>
 ob (aGI c b) fun e=>
 ob (vG c e b) fun f=>
 some f
def aJO (a:List Bool):Option (List Bool):=
 some a
def aCU (a:Int) (b:List Bool):Option ((List Bool × Int) ⊕ (List Bool)):=
 some (.inl (b,wr (a+1)))
def aGh (a:Int) (b:List Bool):Option ((List Bool × Int) ⊕ (List Bool)):=
 aCU a b
def zY (a:Int) (b:List Bool):Option ((List Bool × Int) ⊕ (List Bool)):=
 some (.inl (b,wr (a+1)))
def aGi (a:Int) (b:List Bool):Option ((List Bool × Int) ⊕ (List Bool)):=
 zY a b
def zZ (a:Int) (b:List Bool):Option ((List Bool × Int) ⊕ (List Bool)):=
 some (.inl (b,wr (a+1)))
def rO (n e d:Int) (b:List Bool) (a:Int):Option ((List Bool × Int) ⊕ (List Bool)):=
 if (decide (a < n)) then (ob (ix b (wr ((wr (e * n))+a))) fun f=>
 if f then (ob (ix b (wr ((wr (d * n))+a))) fun h=>
 ob (st b (wr ((wr (d * n))+a)) (true:Bool)) fun g=>
 zZ a g) else (zZ a b)) else (some (.inr b))
def rP (n d:Int) (b:List Bool) (a:Int):Option ((List Bool × Int) ⊕ (List Bool)):=
 if (decide (a < n)) then (ob (ix b (wr ((wr (a * n))+d))) fun e=>
 if (!e) then (zY a b) else (ob (loop (fun (s:(List Bool × Int))=>rO n d a s.1 s.2) (b,0)) fun r=>aGi a r)) else (some (.inr b))
def rQ (n:Int) (c:List Bool) (a:Int):Option ((List Bool × Int) ⊕ (List Bool)):=
 if (decide (a < n)) then (ob (loop (fun (s:(List Bool × Int))=>rP n a s.1 s.2) (c,0)) fun r=>aGh a r) else (some (.inr c))
def aBL (n:Int) (b:List Bool):Option (List Bool):=
 ob (loop (fun (s:(List Bool × Int))=>rQ n s.1 s.2) (b,0)) fun r=>aJO r
def pH (n:Int) (c:List Bool) (a:Int):Option ((List Bool × Int) ⊕ (List Bool)):=
 if (decide (a < n)) then (ob (ix c (wr ((wr (a * n))+a))) fun e=>
 ob (st c (wr ((wr (a * n))+a)) (true:Bool)) fun d=>
 some (.inl (d,wr (a+1)))) else (some (.inr c))
def aES (n:Int) (m:(List Bool)):Option (List Bool):=
 ob (loop (fun (s:(List Bool × Int))=>pH n s.1 s.2) (m,0)) fun r=>aBL n r
def aCV (t:aO) (b:List Bool):Option (List Bool):=
 ob (aES t.N b) fun c=>
 some c
def aAa (a:Int) (b:List Bool):Option ((List Bool × Int) ⊕ (List Bool)):=
 some (.inl (b,wr (a+1)))
def rR (t:aO) (c:List Bool) (d:Int):Option ((List Bool × Int) ⊕ (List Bool)):=
 if (decide (d < (t.E.length:Int))) then (ob (ix t.E d) fun a=>
 if (a.B == 0) then (ob (ix c (wr ((wr (a.F * t.N))+a.To))) fun f=>
 ob (st c (wr ((wr (a.F * t.N))+a.To)) (true:Bool)) fun e=>
 aAa d e) else (aAa d c)) else (some (.inr c))
def aET (t:aO):Option (List Bool):=
 ob (mkz (wr (t.N * t.N)) (false:Bool)) fun b=>
 ob (loop (fun (s:(List Bool × Int))=>rR t s.1 s.2) (b,0)) fun r=>aCV t r
def aLc (a:List Bool):Option (List Bool):=
 some a
def tX (t:aO) (d:(List Bool)) (e:Int) (b:List Bool) (a:Int):Option ((List Bool × Int) ⊕ (List Bool)):=
 if (decide (a < t.N)) then (ob (ix d (wr ((wr (e * t.N))+a))) fun f=>
 ob (ix b a) fun h=>
 ob (st b a (f:Bool)) fun g=>
 some (.inl (g,wr (a+1)))) else (some (.inr b))
def aLd (a:List Bool):Option (List Bool):=
 some a
def xX (a:Int) (b:List Bool):Option ((List Bool × Int) ⊕ (List Bool)):=
 some (.inl (b,wr (a+1)))
def aHu (a:Int) (b:List Bool):Option ((List Bool × Int) ⊕ (List Bool)):=
 xX a b
def aBM (a:Int) (b:List Bool):Option ((List Bool × Int) ⊕ (List Bool)):=
 some (.inl (b,wr (a+1)))
def tY (t:aO) (d:(List Bool)) (e:Edge) (b:List Bool) (a:Int):Option ((List Bool × Int) ⊕ (List Bool)):=
 if (decide (a < t.N)) then (ob (ix d (wr ((wr (e.To * t.N))+a))) fun f=>
 if f then (ob (ix b a) fun h=>
 ob (st b a (true:Bool)) fun g=>
 aBM a g) else (aBM a b)) else (some (.inr b))
def xY (t:aO) (d:(List Bool)) (a:List Bool) (b:Int) (e:Edge) (f:Bool):Option ((List Bool × Int) ⊕ (List Bool)):=
 if f then (xX b a) else (ob (loop (fun (s:(List Bool × Int))=>tY t d e s.1 s.2) (a,0)) fun r=>aHu b r)
def tZ (t:aO) (d:(List Bool)) (f g:Int) (e:List Bool) (b:Int):Option ((List Bool × Int) ⊕ (List Bool)):=
 if (decide (b < (t.E.length:Int))) then (ob (ix t.E b) fun c=>
 if (c.B != g) then (xY t d e b c true) else (ob (ix d (wr ((wr (f * t.N))+c.F))) fun h=>
 xY t d e b c (!h))) else (some (.inr e))
def aGJ (t:aO) (c:(List Bool)) (d e:Int):Option (List Bool):=
 ob (mkz t.N (false:Bool)) fun f=>
 if (e == 0) then (ob (loop (fun (s:(List Bool × Int))=>tX t c d s.1 s.2) (f,0)) fun r=>aLc r) else (ob (loop (fun (s:(List Bool × Int))=>tZ t c d e s.1 s.2) (f,0)) fun r=>aLd r)
def aGK (t:aO) (b:List aL) (c:List Edge):Option aO:=
 some ⟨t.N,t.I,b,c⟩
def xZ (a:Int) (b:List Edge):Option ((List Edge × Int) ⊕ (List Edge)):=
 some (.inl (b,wr (a+1)))
def aCx (a:Int) (b:List Edge):Option ((List Edge × Int) ⊕ (List Edge)):=
 xZ a b
def yA (a:Int) (b:List Edge):Option ((List Edge × Int) ⊕ (List Edge)):=
 some (.inl (b,wr (a+1)))
def aCy (a:Int) (b:List Edge):Option ((List Edge × Int) ⊕ (List Edge)):=
 yA a b
def sT (a:Int) (b:List Edge):Option ((List Edge × Int) ⊕ (List Edge)):=
 some (.inl (b,wr (a+1)))
def mH (t:aO) (d e:Int) (f:(List Bool)) (b:List Edge) (a:Int):Option ((List Edge × Int) ⊕ (List Edge)):=
 if (decide (a < t.N)) then (ob (ix f a) fun g=>
 if g then (ob (rZ b ([⟨d,e,a⟩]:List Edge)) fun h=>
 sT a h) else (sT a b)) else (some (.inr b))
def mI (t:aO) (e:(List Bool)) (c:Int) (d:List Edge) (a:Int):Option ((List Edge × Int) ⊕ (List Edge)):=
 if (decide (a < (t.L.length:Int))) then (ob (aGJ t e c a) fun f=>
 ob (loop (fun (s:(List Edge × Int))=>mH t c a f s.1 s.2) (d,0)) fun r=>aCy a r) else (some (.inr d))
def mJ (t:aO) (d:(List Bool)) (c:List Edge) (a:Int):Option ((List Edge × Int) ⊕ (List Edge)):=
 if (decide (a < t.N)) then (ob (loop (fun (s:(List Edge × Int))=>mI t d a s.1 s.2) (c,0)) fun r=>aCx a r) else (some (.inr c))
def vZ (t:aO) (b:List aL):Option aO:=
 ob (aET t) fun c=>
 ob (loop (fun (s:(List Edge × Int))=>mJ t c s.1 s.2) (([]:List Edge),0)) fun r=>aGK t b r
def aAb (t:aO):Option aO:=
 ob (rZ ([]:List aL) t.L) fun b=>
 vZ t b
def aJl (t:aO):Option (List Int):=
 ob (aAb t) fun b=>
 ob (aGG b) fun c=>
 some c
def aCz (t:aO):Option aO:=
 ob (wJ t) fun c=>
 ob (aBd t c) fun b=>
 ob (aJl b) fun d=>
 ob (vG b d false) fun e=>
 some e
def aJP (a:List Bool):Option (List Bool):=
 some a
def aCW (c:(List Int)) (a:List Bool) (b:Int):Option ((List Bool × Int) ⊕ (List Bool)):=
 if (decide (b < (c.length:Int))) then (ob (ix c b) fun d=>
 ob (ix a d) fun f=>
 ob (st a d (true:Bool)) fun e=>
 some (.inl (e,wr (b+1)))) else (some (.inr a))
def aEU (t:aO) (b:(List Int)):Option (List Bool):=
 ob (mkz t.N (false:Bool)) fun c=>
 ob (loop (fun (s:(List Bool × Int))=>aCW b s.1 s.2) (c,0)) fun r=>aJP r
def aJQ (a:List Bool):Option (List Bool):=
 some a
def aCX (a:List Bool) (b:Bool):Option ((List Bool × Bool) ⊕ (List Bool)):=
 some (.inl (a,b))
def aGj (a:List Bool) (b:Bool):Option ((List Bool × Bool) ⊕ (List Bool)):=
 aCX a b
def aAc (a:Int) (b:List Bool) (c:Bool):Option ((List Bool × Bool × Int) ⊕ (List Bool × Bool)):=
 some (.inl (b,c,wr (a+1)))
def vJ (a:List Bool) (d:Bool) (b:Int) (c:Edge) (e:Bool):Option ((List Bool × Bool × Int) ⊕ (List Bool × Bool)):=
 if e then (ob (ix a c.To) fun g=>
 ob (st a c.To (true:Bool)) fun f=>
 aAc b f true) else (aAc b a d)
def aAd (t:aO) (a:List Bool) (d:Bool) (c:Int):Option ((List Bool × Bool × Int) ⊕ (List Bool × Bool)):=
 if (decide (c < (t.E.length:Int))) then (ob (ix t.E c) fun b=>
 if (b.B == 0) then (ob (ix a b.F) fun f=>
 if f then (ob (ix a b.To) fun g=>
 vJ a d c b (!g)) else (vJ a d c b false)) else (vJ a d c b false)) else (some (.inr (a,d)))
def vK (t:aO) (a:List Bool) (d:Bool):Option ((List Bool × Bool) ⊕ (List Bool)):=
 if d then (ob (loop (fun (s:(List Bool × Bool × Int))=>aAd t s.1 s.2.1 s.2.2) (a,false,0)) fun r=>aGj r.1 r.2) else (some (.inr a))
def aAH (t:aO) (b:(List Bool)):Option (List Bool):=
 ob (loop (fun (s:(List Bool × Bool))=>vK t s.1 s.2) (b,true)) fun r=>aJQ r
def aLe (a:List Int):Option (List Int):=
 some a
def aBN (a:Int) (b:List Int):Option ((List Int × Int) ⊕ (List Int)):=
 some (.inl (b,wr (a+1)))
def aBO (c:(List Bool)) (b:List Int) (a:Int):Option ((List Int × Int) ⊕ (List Int)):=
 if (decide (a < (c.length:Int))) then (ob (ix c a) fun d=>
 if d then (ob (rZ b ([a]:List Int)) fun e=>
 aBN a e) else (aBN a b)) else (some (.inr b))
def aCA (a:(List Bool)):Option (List Int):=
 ob (loop (fun (s:(List Int × Int))=>aBO a s.1 s.2) (([]:List Int),0)) fun r=>aLe r
def wO (t:aO):Option (List Int):=
 ob (aEU t ([t.I]:List Int)) fun b=>
 ob (aAH t b) fun c=>
 ob (aCA c) fun d=>
 some d
def aMw:Option Bool:=
 some false
def aFL (b:(List Int)) (n a:Int):Option (Int ⊕ (Unit ⊕ Bool)):=
 if (decide (a < (b.length:Int))) then (ob (ix b a) fun d=>
 if (d == n) then (some (.inr (.inr true))) else (some (.inl (wr (a+1))))) else (some (.inr (.inl ())))
def aIx (b:(List Int)) (n:Int):Option Bool:=
 ob (loop (fun (s:Int)=>aFL b n s) 0) fun r=>match r with|.inl r=>aMw|.inr r=>some r
def aEj (t:aO) (b:List Bool):Option (List Int):=
 ob (aAH t b) fun c=>
 ob (aCA c) fun d=>
 some d
def aBP (a:Int) (b:List Bool):Option ((List Bool × Int) ⊕ (List Bool)):=
 some (.inl (b,wr (a+1)))
def aBQ (t:aO) (a:List Bool) (b:Int) (e:Bool):Option ((List Bool × Int) ⊕ (List Bool)):=
 if e then (ob (ix t.E b) fun c=>
 ob (ix a c.To) fun g=>
 ob (st a c.To (true:Bool)) fun f=>
 aBP b f) else (aBP b a)
def yB (t:aO) (e:(List Int)) (f:Int) (c:List Bool) (b:Int):Option ((List Bool × Int) ⊕ (List Bool)):=
 if (decide (b < (t.E.length:Int))) then (ob (ix t.E b) fun d=>
 if (d.B == f) then (ob (aIx e d.F) fun g=>
 aBQ t c b g) else (aBQ t c b false)) else (some (.inr c))
def aBg (t:aO) (b:(List Int)) (c:Int):Option (List Int):=
 ob (mkz t.N (false:Bool)) fun d=>
 ob (loop (fun (s:(List Bool × Int))=>yB t b c s.1 s.2) (d,0)) fun r=>aEj t r
def aBR (t:aO) (a:List (List Int)) (c:List Edge):Option (aO × (List (List Int)) × Bool):=
 ob (rZ ([]:List aL) t.L) fun d=>
 some (⟨(a.length:Int),0,d,c⟩,a,true)
def aEk (a:Int) (b:List (List Int)) (c:List Edge):Option ((List (List Int) × List Edge × Int) ⊕ ((List (List Int) × List Edge) ⊕ (aO × (List (List Int)) × Bool))):=
 some (.inl (b,c,wr (a+1)))
def aEl (a:Int) (b:List (List Int)) (c:List Edge):Option ((List (List Int) × List Edge × Int) ⊕ ((List (List Int) × List Edge) ⊕ (aO × (List (List Int)) × Bool))):=
 aEk a b c
def yC (a:Int) (b:List (List Int)) (c:List Edge):Option ((List (List Int) × List Edge × Int) ⊕ ((List (List Int) × List Edge) ⊕ (aO × (List (List Int)) × Bool))):=
 some (.inl (b,c,wr (a+1)))
def aBS (c:Int) (a:List Edge) (b:Int) (d:List (List Int)) (e:Int):Option ((List (List Int) × List Edge × Int) ⊕ ((List (List Int) × List Edge) ⊕ (aO × (List (List Int)) × Bool))):=
 if ((a.length:Int) == 300) then (some (.inr (.inr (⟨0,0,[],[]⟩,[],false)))) else (ob (rZ a ([⟨c,b,e⟩]:List Edge)) fun f=>
 yC b d f)
def uA (b:Int) (a:List (List Int)) (c:List Edge) (d:Int) (f:(List Int)) (e:Int):Option ((List (List Int) × List Edge × Int) ⊕ ((List (List Int) × List Edge) ⊕ (aO × (List (List Int)) × Bool))):=
 if (decide (e < 0)) then (if ((a.length:Int) == 40) then (some (.inr (.inr (⟨0,0,[],[]⟩,[],false)))) else (ob (rZ a ([f]:List (List Int))) fun g=>
 aBS b c d g (a.length:Int))) else (aBS b c d a e)
def aBT (a b:Int):Option ((Int × Int) ⊕ Int):=
 some (.inl (b,wr (a+1)))
def uB (b:List (List Int)) (d:(List Int)) (c a:Int):Option ((Int × Int) ⊕ Int):=
 if (decide (a < (b.length:Int))) then (ob (ix b a) fun e=>
 ob (sM e d) fun f=>
 if f then (aBT a a) else (aBT a c)) else (some (.inr c))
def uC (t:aO) (f:Int) (a:List (List Int)) (c:List Edge) (b:Int):Option ((List (List Int) × List Edge × Int) ⊕ ((List (List Int) × List Edge) ⊕ (aO × (List (List Int)) × Bool))):=
 if (decide (b < (t.L.length:Int))) then (ob (ix a f) fun g=>
 ob (aBg t g b) fun d=>
 if ((d.length:Int) == 0) then (yC b a c) else (ob (loop (fun (s:(Int × Int))=>uB a d s.1 s.2) ((-1),0)) fun r=>uA f a c b d r)) else (some (.inr (.inl (a,c))))
def jI (t:aO) (b:List (List Int)) (d:List Edge) (c:Int):Option ((List (List Int) × List Edge × Int) ⊕ ((List (List Int) × List Edge) ⊕ (aO × (List (List Int)) × Bool))):=
 if (decide (c < (b.length:Int))) then (ob (loop (fun (s:(List (List Int) × List Edge × Int))=>uC t c s.1 s.2.1 s.2.2) (b,d,1)) fun r=>match r with|.inl r=>aEl c r.1 r.2|.inr r=>some (.inr (.inr r))) else (some (.inr (.inl (b,d))))
def aEt (t:aO):Option (aO × (List (List Int)) × Bool):=
 ob (wO t) fun c=>
 ob (loop (fun (s:(List (List Int) × List Edge × Int))=>jI t s.1 s.2.1 s.2.2) (([c]:List (List Int)),([]:List Edge),0)) fun r=>match r with|.inl r=>aBR t r.1 r.2|.inr r=>some r
def aGL (t:aO):Option aO:=
 ob (rZ ([]:List aL) t.L) fun b=>
 ob (rZ ([]:List Edge) t.E) fun c=>
 some ⟨t.N,t.I,b,c⟩
def sU (d:(List UInt8)) (b c a:Int):Option (Int × Int × Int):=
 if (decide (wr (b+1)<=(d.length:Int))) then (some (a,wr (b+1),oZ ((oZ ((oZ (c * 6364136223846793005))+(oZ a)))+1442695040888963407))) else (ob (shU (oZ ((oZ ((oZ (c * 6364136223846793005))+(oZ a)))+1442695040888963407)) 40) fun e=>
 some (wr (anU e 255),wr (b+1),oZ ((oZ ((oZ (c * 6364136223846793005))+(oZ a)))+1442695040888963407)))
def vL (a:(List UInt8)) (b c:Int):Option (Int × Int × Int):=
 if (decide (b < (a.length:Int))) then (ob (ix a b) fun d=>
 sU a b c (wr (d.toNat:Int))) else (sU a b c 0)
def sV (n b c d:Int):Option (Int × Int × Int):=
 ob (rm b n) fun e=>
 some (e,c,d)
def bZ (d:(List UInt8)) (e f n:Int):Option (Int × Int × Int):=
 if (decide (n<=1)) then (some (0,e,f)) else (ob (vL d e f) fun a=>
 if (decide (200 < n)) then (ob (vL d a.2.1 a.2.2) fun c=>
 sV n (wr ((wr (a.1 * 256))+c.1)) c.2.1 c.2.2) else (sV n a.1 a.2.1 a.2.2))
def yD (b:(List UInt8)) (c d n:Int):Option (Bool × Int × Int):=
 ob (bZ b c d n) fun a=>
 some (a.1 == 0,a.2.1,a.2.2)
def wA (a b:Int) (c:List aL):Option ((List aL) × Int × Int):=
 some (c,a,b)
def wB (a:List aL) (b c:Int):Option ((List aL) × Int × Int):=
 if ((a.length:Int) == 1) then (ob (rZ a ([([97]:aL)]:List aL)) fun d=>
 wA b c d) else (wA b c a)
def kX (a b c:Int) (d:List aL):Option ((Int × Int × List aL × Int) ⊕ (List aL × Int × Int)):=
 some (.inl (b,c,d,wr (a+1)))
def qZ (b:List aL) (a c d:Int) (e:Bool):Option ((Int × Int × List aL × Int) ⊕ (List aL × Int × Int)):=
 if e then (ob (ix ([([97]:aL),([98]:aL),([99]:aL),([103,101,116,40,48,41]:aL),([103,101,116,40,49,41]:aL)]:List aL) a) fun f=>
 ob (rZ b ([f]:List aL)) fun g=>
 kX a c d g) else (kX a c d b)
def nO (f:(List UInt8)) (d e:Int) (b:List aL) (c:Int):Option ((Int × Int × List aL × Int) ⊕ (List aL × Int × Int)):=
 if (decide (c < (([([97]:aL),([98]:aL),([99]:aL),([103,101,116,40,48,41]:aL),([103,101,116,40,49,41]:aL)]:List aL).length:Int))) then (ob (yD f d e 2) fun a=>
 if a.1 then (qZ b c a.2.1 a.2.2 (decide ((b.length:Int) < 4))) else (qZ b c a.2.1 a.2.2 false)) else (some (.inr (b,d,e)))
def wP (b:(List UInt8)) (c d:Int):Option ((List aL) × Int × Int):=
 ob (loop (fun (s:(Int × Int × List aL × Int))=>nO b s.1 s.2.1 s.2.2.1 s.2.2.2) (c,d,([([116,97,117]:aL)]:List aL),0)) fun r=>wB r.1 r.2.1 r.2.2
def aBU (c:(List UInt8)) (d e:Int) (b:(List Int)):Option (Int × Int × Int):=
 ob (bZ c d e (b.length:Int)) fun a=>
 ob (ix b a.1) fun f=>
 some (f,a.2.1,a.2.2)
def wQ (d:(List UInt8)) (b c:(Int × Int × Int)) (e:((List aL) × Int × Int)) (f g:Int) (h:List Edge):Option (aO × Int × Int):=
 ob (bZ d f g (wr ((wr (1+b.1))+c.1))) fun a=>
 ob (sK (wr ((wr (1+b.1))+c.1)) a.1 e.1 h) fun i=>
 some (i,a.2.1,a.2.2)
def wR (a:(List UInt8)) (c d:(Int × Int × Int)) (e:((List aL) × Int × Int)) (j k:Int) (i:List Edge):Option (aO × Int × Int):=
 ob (yD a j k 3) fun b=>
 if b.1 then (ob (bZ a b.2.1 b.2.2 (wr ((wr (1+c.1))+d.1))) fun f=>
 ob (bZ a f.2.1 f.2.2 (e.1.length:Int)) fun g=>
 ob (bZ a g.2.1 g.2.2 (wr ((wr (1+c.1))+d.1))) fun h=>
 ob (rZ i ([⟨f.1,g.1,h.1⟩]:List Edge)) fun l=>
 wQ a c d e h.2.1 h.2.2 l) else (wQ a c d e b.2.1 b.2.2 i)
def aBV (a b c:Int) (d:List Edge):Option ((Int × Int × List Edge × Int) ⊕ (Int × Int × List Edge)):=
 some (.inl (b,c,d,wr (a - 1)))
def aBW (a b c:Int) (d:List Edge):Option ((Int × Int × List Edge × Int) ⊕ (Int × Int × List Edge)):=
 aBV a b c d
def wS (a b c:Int) (d:List Edge):Option ((Int × Int × List Edge × Int) ⊕ (Int × Int × List Edge)):=
 some (.inl (b,c,d,wr (a+1)))
def wT (c:(List UInt8)) (d:(Int × Int × Int)) (e f:Int) (g:List Edge) (b:Int) (h:List Int):Option ((Int × Int × List Edge × Int) ⊕ (Int × Int × List Edge)):=
 ob (aBU c e f h) fun a=>
 ob (rZ g ([⟨b,d.1,a.1⟩]:List Edge)) fun i=>
 wS b a.2.1 a.2.2 i
def wU (a:Int) (b:List Int):Option ((List Int × Int) ⊕ (List Int)):=
 some (.inl (b,wr (a+1)))
def nI (c d:(Int × Int × Int)) (e:List Int) (f:(Int × Int × Int)) (b:List Int) (a:Int):Option ((List Int × Int) ⊕ (List Int)):=
 if (decide (a < wr ((wr (1+c.1))+d.1))) then (ob (ix e a) fun g=>
 if (g == f.1) then (ob (rZ b ([a]:List Int)) fun h=>
 wU a h) else (wU a b)) else (some (.inr b))
def sW (h:(List UInt8)) (e f:(Int × Int × Int)) (g:List Int) (i j k:(Int × Int × Int)) (b c:Int) (d:List Edge) (a:Int):Option ((Int × Int × List Edge × Int) ⊕ (Int × Int × List Edge)):=
 if (decide (a < wr ((wr (1+e.1))+f.1))) then (ob (ix g a) fun l=>
 if (l != i.1) then (wS a b c d) else (ob (loop (fun (s:(List Int × Int))=>nI e f g k s.1 s.2) (([]:List Int),0)) fun r=>wT h j b c d a r)) else (some (.inr (b,c,d)))
def qI (a:(List UInt8)) (b k:(Int × Int × Int)) (l:((List aL) × Int × Int)) (m:List Int) (g h:Int) (i:List Edge) (j:Int):Option ((Int × Int × List Edge × Int) ⊕ (Int × Int × List Edge)):=
 if (decide (0 < j)) then (ob (bZ a g h (wr (1+b.1))) fun c=>
 ob (bZ a c.2.1 c.2.2 (l.1.length:Int)) fun d=>
 ob (bZ a d.2.1 d.2.2 (wr (1+b.1))) fun e=>
 ob (loop (fun (s:(Int × Int × List Edge × Int))=>sW a b k m c d e s.1 s.2.1 s.2.2.1 s.2.2.2) (e.2.1,e.2.2,i,0)) fun r=>aBW j r.1 r.2.1 r.2.2) else (some (.inr (g,h,i)))
def uO (a:(List UInt8)) (b e:(Int × Int × Int)) (f:((List aL) × Int × Int)) (g h:Int) (i:List Int):Option (aO × Int × Int):=
 ob (bZ a g h (wr (2+(wr (2 * (wr (1+b.1))))))) fun c=>
 ob (loop (fun (s:(Int × Int × List Edge × Int))=>qI a b e f i s.1 s.2.1 s.2.2.1 s.2.2.2) (c.2.1,c.2.2,([]:List Edge),c.1)) fun r=>wR a b e f r.1 r.2.1 r.2.2
def qJ (a b c:Int) (d:List Int):Option ((Int × Int × List Int × Int) ⊕ (Int × Int × List Int)):=
 some (.inl (b,c,d,wr (a+1)))
def qK (g:(List UInt8)) (b h:(Int × Int × Int)) (c d:Int) (e:List Int) (a:Int):Option ((Int × Int × List Int × Int) ⊕ (Int × Int × List Int)):=
 if (decide (a < wr ((wr (1+b.1))+h.1))) then (if (decide (a < wr (1+b.1))) then (ob (rZ e ([a]:List Int)) fun i=>
 qJ a c d i) else (ob (bZ g c d (wr (1+b.1))) fun f=>
 ob (rZ e ([f.1]:List Int)) fun j=>
 qJ a f.2.1 f.2.2 j)) else (some (.inr (c,d,e)))
def aDo (a:(List UInt8)) (f g:Int):Option (aO × Int × Int):=
 ob (bZ a f g 4) fun b=>
 ob (bZ a b.2.1 b.2.2 (wr (7 - (wr (1+b.1))))) fun c=>
 ob (wP a c.2.1 c.2.2) fun d=>
 ob (loop (fun (s:(Int × Int × List Int × Int))=>qK a b c s.1 s.2.1 s.2.2.1 s.2.2.2) (d.2.1,d.2.2,([]:List Int),0)) fun r=>uO a b c d r.1 r.2.1 r.2.2
def yS (d:(List UInt8)) (b c a:Int):Option (Int × Int × Int):=
 if (decide (wr (b+1)<=(d.length:Int))) then (some (a,wr (b+1),oZ ((oZ ((oZ (c * 6364136223846793005))+(oZ a)))+1442695040888963407))) else (ob (shU (oZ ((oZ ((oZ (c * 6364136223846793005))+(oZ a)))+1442695040888963407)) 40) fun e=>
 some (wr (anU e 255),wr (b+1),oZ ((oZ ((oZ (c * 6364136223846793005))+(oZ a)))+1442695040888963407)))
def yE (a:(List UInt8)) (b c:Int):Option (Int × Int × Int):=
 if (decide (b < (a.length:Int))) then (ob (ix a b) fun d=>
 yS a b c (wr (d.toNat:Int))) else (yS a b c 0)
def yT (a:(List UInt8)) (n c d e:Int):Option (Int × (List UInt8) × Int × Int):=
 ob (rm c n) fun f=>
 some (f,a,d,e)
def aGM (b:(List UInt8)) (e f n:Int):Option (Int × (List UInt8) × Int × Int):=
 if (decide (n<=1)) then (some (0,b,e,f)) else (ob (yE b e f) fun a=>
 if (decide (200 < n)) then (ob (yE b a.2.1 a.2.2) fun d=>
 yT b n (wr ((wr (a.1 * 256))+d.1)) d.2.1 d.2.2) else (yT b n a.1 a.2.1 a.2.2))
def aEV (a:(aO × Int × Int)) (b:List Edge) (c d:Int):Option (aO × Int × Int):=
 ob (sK a.1.N a.1.I a.1.L b) fun e=>
 some (e,c,d)
def sX (c:(List UInt8)) (d:(aO × Int × Int)) (e f:Int) (g:List Edge) (h:Int):Option ((Int × Int × List Edge × Int) ⊕ (List Edge × Int × Int)):=
 if (decide (0 < h)) then (ob (bZ c e f d.1.N) fun a=>
 ob (bZ c a.2.1 a.2.2 d.1.N) fun b=>
 ob (rZ g ([⟨a.1,0,b.1⟩]:List Edge)) fun i=>
 some (.inl (b.2.1,b.2.2,i,wr (h - 1)))) else (some (.inr (g,e,f)))
def aBX (c:(List UInt8)) (d:(aO × Int × Int)) (e f:Int) (g:List Edge):Option (aO × Int × Int):=
 ob (bZ c e f 3) fun a=>
 ob (loop (fun (s:(Int × Int × List Edge × Int))=>sX c d s.1 s.2.1 s.2.2.1 s.2.2.2) (a.2.1,a.2.2,g,a.1)) fun r=>aEV d r.1 r.2.1 r.2.2
def wV (b:List Edge) (c:Int) (a:Edge) (d e f:Int):Option ((Int × Int × List Edge × Int) ⊕ (Int × Int × List Edge)):=
 ob (rZ b ([⟨a.F,f,a.To⟩]:List Edge)) fun g=>
 some (.inl (d,e,g,wr (c+1)))
def sY (h:(List UInt8)) (e:(aO × Int × Int)) (f g:Int) (c:List Edge) (b:Int):Option ((Int × Int × List Edge × Int) ⊕ (Int × Int × List Edge)):=
 if (decide (b < (e.1.E.length:Int))) then (ob (ix e.1.E b) fun d=>
 ob (yD h f g 3) fun a=>
 if a.1 then (wV c b d a.2.1 a.2.2 0) else (wV c b d a.2.1 a.2.2 d.B)) else (some (.inr (f,g,c)))
def tN (b:(List UInt8)) (d e:Int):Option (aO × Int × Int):=
 ob (aDo b d e) fun a=>
 ob (loop (fun (s:(Int × Int × List Edge × Int))=>sY b a s.1 s.2.1 s.2.2.1 s.2.2.2) (a.2.1,a.2.2,([]:List Edge),0)) fun r=>aBX b a r.1 r.2.1 r.2.2
def jO (a:(aO × Int × Int)) (b c:Int) (d:List aL) (e:List Edge):Option (aO × aO):=
 some (a.1,⟨b,c,d,e⟩)
def aGN (e:(List UInt8)):Option (aO × aO):=
 ob (aLR e) fun k=>
 ob (tN e k.1 k.2) fun a=>
 ob (tN e a.2.1 a.2.2) fun c=>
 ob (bZ e c.2.1 c.2.2 7) fun d=>
 if (d.1 == 0) then (ob (aCv a.1) fun g=>
 jO a g.N g.I g.L g.E) else (if (d.1 == 1) then (ob (wN a.1 true) fun h=>
 jO a h.N h.I h.L h.E) else (if (d.1 == 2) then (ob (wN a.1 false) fun i=>
 jO a i.N i.I i.L i.E) else (if (d.1 == 3) then (ob (aCz a.1) fun j=>
 jO a j.N j.I j.L j.E) else (if (d.1 == 4) then (ob (aEt a.1) fun f=>
 if f.2.2 then (jO a f.1.N f.1.I f.1.L f.1.E) else (jO a c.1.N c.1.I c.1.L c.1.E)) else (if (d.1 == 5) then (ob (aGL a.1) fun b=>
 if (decide (0 < (b.E.length:Int))) then (ob (bZ e d.2.1 d.2.2 (b.E.length:Int)) fun l=>
 ob (vT b.E 0 l.1) fun m=>
 ob (vT b.E (wr (l.1+1)) (b.E.length:Int)) fun n=>
 ob (rZ m n) fun o=>
 jO a b.N b.I b.L o) else (jO a b.N b.I b.L b.E)) else (jO a c.1.N c.1.I c.1.L c.1.E))))))
def nP (a b:aO) (p:(List Int)):Option Bool:=
 ob (ix p a.I) fun f=>
 ob (ix p (wr (a.N+b.I))) fun g=>
 some (f == g)
def kY (a:(List Edge)):Option (List Edge):=
 some a
def eC (a:Int):Option (Int ⊕ (Unit ⊕ (List Edge))):=
 some (.inl (wr (a+1)))
def fX (a:List Edge) (b:Int):Option (Int ⊕ (Unit ⊕ (List Edge))):=
 ob (vT a b (a.length:Int)) fun c=>
 ob (ovw a b (List.replicate c.length (⟨0,0,0⟩:Edge))) fun d=>
 ob (vT d 0 b) fun e=>
 some (.inr (.inr e))
def eD (a:Int) (b:List Edge) (c:Int):Option ((List Edge × Int × Int) ⊕ (List Edge × Int)):=
 some (.inl (b,c,wr (a+1)))
def kZ (f:Int) (e b:List Edge) (c a:Int):Option ((List Edge × Int × Int) ⊕ (List Edge × Int)):=
 if (decide (a < (e.length:Int))) then (ob (ix e a) fun i=>
 ob (ix b (f+a)) fun d=>
 ob (ix e (wr (a - 1))) fun j=>
 ob (ix b (f+(wr (a - 1)))) fun g=>
 if (!decide ((d:Edge)=g)) then (ob (ix b c) fun k=>
 ob (st b c (⟨d.F,d.B,d.To⟩:Edge)) fun h=>
 eD a h (wr (c+1))) else (eD a b c)) else (some (.inr (b,c)))
def cO (b:(List Edge)) (a:Int):Option (Int ⊕ (Unit ⊕ (List Edge))):=
 if (decide (a < (b.length:Int))) then (ob (ix b a) fun d=>
 ob (ix b (wr (a - 1))) fun e=>
 if (decide ((d:Edge)=e)) then (ob (vT b a (b.length:Int)) fun f=>
 ob (loop (fun (s:(List Edge × Int × Int))=>kZ a f s.1 s.2.1 s.2.2) (b,a,1)) fun r=>fX r.1 r.2) else (eC a)) else (some (.inr (.inl ())))
def cX (a:(List Edge)):Option (List Edge):=
 if (decide ((a.length:Int) < 2)) then (some a) else (ob (loop (fun (s:Int)=>cO a s) 1) fun r=>match r with|.inl r=>kY a|.inr r=>some r)
def pI:Option Int:=
 some (-1)
def fY (b:(List aL)) (c:aL) (a:Int):Option (Int ⊕ (Unit ⊕ Int)):=
 if (decide (a < (b.length:Int))) then (ob (ix b a) fun d=>
 if (c == d) then (some (.inr (.inr a))) else (some (.inl (wr (a+1))))) else (some (.inr (.inl ())))
def dZ (b:(List aL)) (c:aL):Option Int:=
 ob (loop (fun (s:Int)=>fY b c s) 0) fun r=>match r with|.inl r=>pI|.inr r=>some r
def aIy (a b:Int) (c:(List aL)) (d:List Edge):Option aO:=
 ob (aAE d) fun e=>
 ob (cX e) fun f=>
 some ⟨a,b,c,f⟩
def aDp (c:(List nX)) (e:(List aL)) (d:List Edge) (a:Int):Option ((List Edge × Int) ⊕ (List Edge)):=
 if (decide (a < (c.length:Int))) then (ob (ix c a) fun b=>
 ob (dZ e b.label) fun f=>
 ob (rZ d ([⟨b.from_,f,b.to_⟩]:List Edge)) fun g=>
 some (.inl (g,wr (a+1)))) else (some (.inr d))
def aDq (b c:Int) (d:(List aL)) (e:(List nX)):Option aO:=
 ob (rZ ([([116,97,117]:aL)]:List aL) d) fun f=>
 ob (xN f) fun g=>
 ob (dE g) fun a=>
 ob (loop (fun (s:(List Edge × Int))=>aDp e a s.1 s.2) ([],0)) fun r=>aIy b c a r
def aJR (a:List nX):Option (List nX):=
 some a
def aAe (t:aO) (d:List nX) (b:Int):Option ((List nX × Int) ⊕ (List nX)):=
 if (decide (b < (t.E.length:Int))) then (ob (ix t.E b) fun c=>
 ob (ix t.L c.B) fun e=>
 ob (rZ d ([⟨c.F,e,c.To⟩]:List nX)) fun f=>
 some (.inl (f,wr (b+1)))) else (some (.inr d))
def wW (t:aO):Option (List nX):=
 ob (loop (fun (s:(List nX × Int))=>aAe t s.1 s.2) ([],0)) fun r=>aJR r
def oV (a:List aL):Option (List aL):=
 some a
def bF (b:(List (List aL))) (c:List aL) (a:Int):Option ((List aL × Int) ⊕ (List aL)):=
 if (decide (a < (b.length:Int))) then (ob (ix b a) fun d=>
 ob (rZ c d) fun e=>
 some (.inl (e,wr (a+1)))) else (some (.inr c))
def fR (a:(List (List aL))) (b:Int):Option (List aL):=
 ob (aJg [] b) fun c=>
 ob (loop (fun (s:(List aL × Int))=>bF a s.1 s.2) (c,0)) fun r=>oV r
def eH (a b:Int):Option ((Int × Int) ⊕ Int):=
 some (.inl (b,wr (a+1)))
def aZ (c:(List (List aL))) (a b:Int):Option ((Int × Int) ⊕ Int):=
 if (decide (b < (c.length:Int))) then (ob (ix c b) fun d=>
 if (decide (wr (a+(d.length:Int)) < 0)) then (none) else (eH b (wr (a+(d.length:Int))))) else (some (.inr a))
def bB (a:(List (List aL))):Option (List aL):=
 ob (loop (fun (s:(Int × Int))=>aZ a s.1 s.2) (0,0)) fun r=>fR a r
def aHv (a b:aO) (e:List nX):Option aO:=
 ob (bB ([a.L,b.L]:List (List aL))) fun f=>
 ob (aDq (wr (a.N+b.N)) a.I f e) fun g=>
 some g
def aEW (a:aO) (e:(List nX)) (f:List nX) (b:Int):Option ((List nX × Int) ⊕ (List nX)):=
 if (decide (b < (e.length:Int))) then (ob (ix e b) fun c=>
 ob (rZ f ([⟨wr (c.from_+a.N),c.label,wr (c.to_+a.N)⟩]:List nX)) fun g=>
 some (.inl (g,wr (b+1)))) else (some (.inr f))
def aHw (a b:aO):Option aO:=
 ob (wW a) fun e=>
 ob (wW b) fun f=>
 ob (loop (fun (s:(List nX × Int))=>aEW a f s.1 s.2) (e,0)) fun r=>aHv a b r
def oC (a:(List (List Int))):Option (List Int):=
 ob (ix a (wr ((a.length:Int) - 1))) fun b=>
 some b
def aGO (n:Int):Option (List Int):=
 ob (mkz n (0:Int)) fun b=>
 some b
def aMx (a:List Int):Option (List Int):=
 some a
def aDr (b:List Int) (a:Int) (c:(List (Int × Int))) (d:Int):Option (((List (Int × Int)) × List Int × Int) ⊕ (List Int)):=
 ob (ix b a) fun f=>
 ob (st b a (d:Int)) fun e=>
 some (.inl (c,e,wr (a+1)))
def tO (e:(List Int)) (a:(List (Int × Int))) (c:List Int) (b:Int):Option (((List (Int × Int)) × List Int × Int) ⊕ (List Int)):=
 if (decide (b < (e.length:Int))) then (ob (ix e b) fun d=>
 if (!((mW a d).isSome)) then (ob (some (vN a d (a.length:Int))) fun f=>
 aDr c b f (a.length:Int)) else (aDr c b a ((mW a d).getD 0))) else (some (.inr c))
def aIz (a:(List Int)):Option (List Int):=
 ob (mkz (a.length:Int) (0:Int)) fun b=>
 ob (loop (fun (s:((List (Int × Int)) × List Int × Int))=>tO a s.1 s.2.1 s.2.2) (([]:(List (Int × Int))),b,0)) fun r=>aMx r
def rA:Option Bool:=
 some true
def gV (b c:(List Int)) (a:Int):Option (Int ⊕ (Unit ⊕ Bool)):=
 if (decide (a < (b.length:Int))) then (ob (ix b a) fun d=>
 ob (ix c a) fun e=>
 if (d != e) then (some (.inr (.inr false))) else (some (.inl (wr (a+1))))) else (some (.inr (.inl ())))
def cM (b c:(List Int)):Option Bool:=
 if ((b.length:Int) != (c.length:Int)) then (some false) else (ob (loop (fun (s:Int)=>gV b c s) 0) fun r=>match r with|.inl r=>rA|.inr r=>some r)
def aDO (k p:(List Int)):Option Bool:=
 ob (cM k p) fun c=>
 some c
def mB:Option Int:=
 some (-1)
def bQ (b:(List (List Int))) (c:(List Int)) (a:Int):Option (Int ⊕ (Unit ⊕ Int)):=
 if (decide (a < (b.length:Int))) then (ob (ix b a) fun d=>
 ob (aDO d c) fun e=>
 if e then (some (.inr (.inr a))) else (some (.inl (wr (a+1))))) else (some (.inr (.inl ())))
def dK (b:(List (List Int))) (c:(List Int)):Option Int:=
 ob (loop (fun (s:Int)=>bQ b c s) 0) fun r=>match r with|.inl r=>mB|.inr r=>some r
def aDP (a:List Int):Option (List Int):=
 ob (aIz a) fun b=>
 some b
def aAs (a:List Int) (b c:Int):Option ((List Int × Int) ⊕ (List Int)):=
 ob (rZ a ([c]:List Int)) fun d=>
 some (.inl (d,wr (b+1)))
def lN (b:(List (List Int))) (c:List Int) (a:Int):Option ((List Int × Int) ⊕ (List Int)):=
 if (decide (a < (b.length:Int))) then (ob (ix b a) fun e=>
 ob (vT b 0 a) fun f=>
 ob (dK f e) fun d=>
 if (decide (d < 0)) then (aAs c a a) else (aAs c a d)) else (some (.inr c))
def yF (a:(List (List Int))):Option (List Int):=
 ob (loop (fun (s:(List Int × Int))=>lN a s.1 s.2) ([],0)) fun r=>aDP r
def aAt (a:List (List Int)):Option (List Int):=
 ob (yF a) fun b=>
 some b
def aAu (a:Int) (b:Nat) (c:List (List Int)):Option ((List (List Int) × Nat × Int) ⊕ (List (List Int))):=
 some (.inl (c,b,wr (a+1)))
def lO (c b:List (List Int)) (d:Nat) (a:Int):Option ((List (List Int) × Nat × Int) ⊕ (List (List Int))):=
 if (decide (a < (c.length:Int))) then (ob (ix c a) fun e=>
 ob (tkN d a) fun f=>
 ob (vA e) fun g=>
 ob (ix b a) fun h=>
 ob (bU g) fun i=>
 ob (rZ h i) fun j=>
 ob (st b a j) fun k=>
 aAu a f k) else (some (.inr b))
def aAv (a b:List (List Int)):Option (List Int):=
 ob (loop (fun (s:(List (List Int) × Nat × Int))=>lO b s.1 s.2.1 s.2.2) (a,0,0)) fun r=>aAt r
def aAw (a:Int) (b:List (List Int)):Option ((List (List Int) × Int) ⊕ (List (List Int))):=
 some (.inl (b,wr (a+1)))
def lP (t:aO) (p:(List Int)) (c:List (List Int)) (d:Int):Option ((List (List Int) × Int) ⊕ (List (List Int))):=
 if (decide (d < (t.E.length:Int))) then (ob (ix t.E d) fun a=>
 ob (ix c a.F) fun f=>
 ob (ix p a.To) fun g=>
 ob (rZ f ([wr ((wr (a.B * t.N))+g)]:List Int)) fun h=>
 ob (st c a.F h) fun i=>
 aAw d i) else (some (.inr c))
def aAx (t:aO) (p:(List Int)) (c:List (List Int)):Option (List Int):=
 ob (mkz t.N ([]:(List Int))) fun d=>
 ob (loop (fun (s:(List (List Int) × Int))=>lP t p s.1 s.2) (d,0)) fun r=>aAv c r
def lQ (p:(List Int)) (b:List (List Int)) (a:Int):Option ((List (List Int) × Int) ⊕ (List (List Int))):=
 if (decide (a < (p.length:Int))) then (ob (ix p a) fun d=>
 ob (ix b a) fun f=>
 ob (st b a ([d]:List Int)) fun e=>
 some (.inl (e,wr (a+1)))) else (some (.inr b))
def yG (t:aO) (p:(List Int)):Option (List Int):=
 ob (mkz t.N ([]:(List Int))) fun c=>
 ob (loop (fun (s:(List (List Int) × Int))=>lQ p s.1 s.2) (c,0)) fun r=>aAx t p r
def aFM (d:aO) (a:List (List Int)):Option ((List (List Int)) ⊕ (List (List Int))):=
 ob (ix a (wr ((a.length:Int) - 1))) fun b=>
 ob (yG d b) fun c=>
 ob (cM b c) fun e=>
 if e then (some (.inr a)) else (ob (rZ a ([c]:List (List Int))) fun f=>
 some (.inl f))
def aLf (n:Int) (b:aO):Option (List (List Int)):=
 ob (aGO n) fun c=>
 ob (loop (fun (s:List (List Int))=>aFM b s) ([c]:List (List Int))) fun r=>some r
def rB (t:aO):Option (List Int):=
 ob (aLf t.N t) fun b=>
 ob (oC b) fun c=>
 some c
def cE (a:(List aL)):Option (List aL):=
 ob (rZ ([]:List aL) a) fun b=>
 some b
def aEX (t:aO) (b:List aL) (c:List Edge):Option aO:=
 some ⟨t.N,t.I,b,c⟩
def uD (a:Int) (b:List Edge):Option ((List Edge × Int) ⊕ (List Edge)):=
 some (.inl (b,wr (a+1)))
def aAI (a:Int) (b:List Edge):Option ((List Edge × Int) ⊕ (List Edge)):=
 uD a b
def uE (a:Int) (b:List Edge):Option ((List Edge × Int) ⊕ (List Edge)):=
 some (.inl (b,wr (a+1)))
def aAJ (a:Int) (b:List Edge):Option ((List Edge × Int) ⊕ (List Edge)):=
 uE a b
def pJ (d e:Int) (b:(List Int)) (c:List Edge) (a:Int):Option ((List Edge × Int) ⊕ (List Edge)):=
 if (decide (a < (b.length:Int))) then (ob (ix b a) fun f=>
 ob (rZ c ([⟨d,e,f⟩]:List Edge)) fun g=>
 some (.inl (g,wr (a+1)))) else (some (.inr c))
def mK (t:aO) (c:Int) (d:List Edge) (a:Int):Option ((List Edge × Int) ⊕ (List Edge)):=
 if (decide (a < (t.L.length:Int))) then (ob (ix t.L a) fun e=>
 ob (mY t c e) fun f=>
 ob (loop (fun (s:(List Edge × Int))=>pJ c a f s.1 s.2) (d,0)) fun r=>aAJ a r) else (some (.inr d))
def jT (t:aO) (c:List Edge) (a:Int):Option ((List Edge × Int) ⊕ (List Edge)):=
 if (decide (a < t.N)) then (ob (loop (fun (s:(List Edge × Int))=>mK t a s.1 s.2) (c,0)) fun r=>aAI a r) else (some (.inr c))
def uF (t:aO) (b:List aL):Option aO:=
 ob (loop (fun (s:(List Edge × Int))=>jT t s.1 s.2) ([],0)) fun r=>aEX t b r
def uP (t:aO):Option aO:=
 ob (cE t.L) fun b=>
 uF t b
def aCB (t:aO):Option (List Int):=
 ob (uP t) fun a=>
 ob (rB ⟨a.N,a.I,a.L,a.E⟩) fun c=>
 some c
def aQy (a b:aO):Option (List Int):=
 ob (aHw a b) fun c=>
 ob (aCB ⟨c.N,c.I,c.L,c.E⟩) fun f=>
 some f
def aAf (a b:aO) (e:Bool):Option (Bool × Int):=
 if e then (some (false,1)) else (ob (aQy a b) fun f=>
 ob (nP a b f) fun g=>
 some (g,0))
def aHx (a b:aO):Option (Bool × Int):=
 ob (iK a) fun e=>
 if (!e) then (aAf a b true) else (ob (iK b) fun f=>
 aAf a b (!f))
def aBh (a b:aO):Option (Bool × Int):=
 ob (aHx a b) fun c=>
 some (c.1,c.2)
def aJm (a b:aO):Option (List Int):=
 ob (aHw a b) fun c=>
 ob (rB ⟨c.N,c.I,c.L,c.E⟩) fun f=>
 some f
def sZ (a b:aO) (e:Bool):Option (Bool × Int):=
 if e then (some (false,1)) else (ob (aJm a b) fun f=>
 ob (nP a b f) fun g=>
 some (g,0))
def aCY (a b:aO):Option (Bool × Int):=
 ob (iK a) fun e=>
 if (!e) then (sZ a b true) else (ob (iK b) fun f=>
 sZ a b (!f))
def wX (a b:aO):Option (Bool × Int):=
 ob (aCY a b) fun c=>
 some (c.1,c.2)
def vP (a:Bool):Option Bool:=
 some a
def pK (e:Edge) (p:(List Int)):Option Bool:=
 if (e.B == 0) then (ob (ix p e.F) fun c=>
 ob (ix p e.To) fun d=>
 vP (c == d)) else (vP false)
def aJS (t:aO) (b:List Edge):Option aO:=
 some ⟨t.N,t.I,t.L,b⟩
def aAg (a:Int) (b:List Edge):Option ((List Edge × Int) ⊕ (List Edge)):=
 some (.inl (b,wr (a+1)))
def vM (t:aO) (e:(List Int)) (b:List Edge) (a:Int):Option ((List Edge × Int) ⊕ (List Edge)):=
 if (decide (a < (t.E.length:Int))) then (ob (ix t.E a) fun d=>
 ob (pK d e) fun f=>
 if f then (ob (rZ b ([d]:List Edge)) fun g=>
 aAg a g) else (aAg a b)) else (some (.inr b))
def aHy (t:aO) (b:(List Int)):Option aO:=
 ob (loop (fun (s:(List Edge × Int))=>vM t b s.1 s.2) ([],0)) fun r=>aJS t r
def uQ (t:aO) (p:(List Int)):Option aO:=
 ob (aHy t p) fun c=>
 some c
def iE (a:List Bool):Option (List Bool):=
 some a
def iF (a:List Bool) (b:Int):Option ((List Bool × Int) ⊕ (List Bool)):=
 if (decide (b < (a.length:Int))) then (ob (vT a b (a.length:Int)) fun d=>
 ob (vT a 0 b) fun c=>
 ob (ovw a b (List.take (Nat.min c.length d.length) c)) fun e=>
 some (.inl (e,wr (b+((Nat.min c.length d.length):Int))))) else (some (.inr a))
def iG (a:(List Bool)) (c:(Int × Int)):Option (List Bool):=
 ob (mkz (wr c.2) (false:Bool)) fun b=>
 ob (ovw b 0 (List.take (Nat.min a.length b.length) a)) fun d=>
 ob (loop (fun (s:(List Bool × Int))=>iF s.1 s.2) (d,((Nat.min a.length b.length):Int))) fun r=>iE r
def fE (a:(List Bool)) (b:(Int × Int)) (c:Bool):Option (List Bool):=
 if c then (none) else (iG a b)
def iH (b:(List Bool)) (c:Int):Option (List Bool):=
 ob (l_Mul (oZ (b.length:Int)) (oZ c)) fun a=>
 if (decide (0 < a.1)) then (fE b a true) else (fE b a (decide (9223372036854775807 < a.2)))
def eZ (b:(List Bool)) (a:Int):Option (List Bool):=
 if (decide (a < 0)) then (none) else (iH b a)
def vQ (a:Bool):Option Bool:=
 some a
def pL (e:Edge) (p:(List Bool)):Option Bool:=
 if (e.B == 0) then (ob (ix p e.To) fun c=>
 vQ c) else (vQ false)
def kF:Option Int:=
 some (-1)
def cI (b:(List Edge)) (c:(List Bool)) (a:Int):Option (Int ⊕ (Unit ⊕ Int)):=
 if (decide (a < (b.length:Int))) then (ob (ix b a) fun d=>
 ob (pL d c) fun e=>
 if e then (some (.inr (.inr a))) else (some (.inl (wr (a+1))))) else (some (.inr (.inl ())))
def eL (b:(List Edge)) (c:(List Bool)):Option Int:=
 ob (loop (fun (s:Int)=>cI b c s) 0) fun r=>match r with|.inl r=>kF|.inr r=>some r
def dL (a:(List Edge)) (b:(List Bool)):Option Bool:=
 ob (eL a b) fun c=>
 some (decide (0<=c))
def aEY (a:List Bool):Option (List Bool):=
 some a
def aAK (a:List Bool) (b:Bool):Option ((List Bool × Bool) ⊕ (List Bool)):=
 some (.inl (a,b))
def aEZ (a:List Bool) (b:Bool):Option ((List Bool × Bool) ⊕ (List Bool)):=
 aAK a b
def jU (a:Int) (b:List Bool) (c:Bool):Option ((List Bool × Bool × Int) ⊕ (List Bool × Bool)):=
 some (.inl (b,c,wr (a+1)))
def fZ (b:List Bool) (c:Bool) (a:Int) (d:Bool):Option ((List Bool × Bool × Int) ⊕ (List Bool × Bool)):=
 if d then (ob (ix b a) fun f=>
 ob (st b a (false:Bool)) fun e=>
 jU a e true) else (jU a b c)
def gA (t:aO) (e a:List Bool) (c:Bool) (b:Int):Option ((List Bool × Bool × Int) ⊕ (List Bool × Bool)):=
 if (decide (b < (e.length:Int))) then (ob (vD t b) fun f=>
 ob (dL f a) fun g=>
 ob (ix a b) fun h=>
 if h then (fZ a c b (!g)) else (fZ a c b false)) else (some (.inr (a,c)))
def mM (t:aO) (a:List Bool) (d:Bool):Option ((List Bool × Bool) ⊕ (List Bool)):=
 if d then (ob (loop (fun (s:(List Bool × Bool × Int))=>gA t a s.1 s.2.1 s.2.2) (a,false,0)) fun r=>aEZ r.1 r.2) else (some (.inr a))
def oD (t:aO):Option (List Bool):=
 ob (eZ ([true]:List Bool) t.N) fun b=>
 ob (loop (fun (s:(List Bool × Bool))=>mM t s.1 s.2) (b,true)) fun r=>aEY r
def aCo (a:List (List Int)):Option (List (List Int)):=
 some a
def jF (t:aO) (c:List (List Int)) (a:Int):Option ((List (List Int) × Int) ⊕ (List (List Int))):=
 if (decide (a < t.N)) then (ob (eQ t ([a]:List Int)) fun d=>
 ob (rZ c ([d]:List (List Int))) fun e=>
 some (.inl (e,wr (a+1)))) else (some (.inr c))
def pM (t:aO):Option (List (List Int)):=
 ob (loop (fun (s:(List (List Int) × Int))=>jF t s.1 s.2) ([],0)) fun r=>aCo r
def aQz (a:Bool):Option Int:=
 if a then (some 1) else (some 0)
def jJ (a:List (List Int)):Option (List Int):=
 ob (yF a) fun b=>
 some b
def nB (a:Int) (b:List (List Int)):Option ((List (List Int) × Int) ⊕ (List (List Int))):=
 some (.inl (b,wr (a+1)))
def gO (a:List (List Int)) (b:Int) (c:(List Int)) (d:List Int):Option ((List (List Int) × Int) ⊕ (List (List Int))):=
 ob (bU c) fun e=>
 ob (rZ d e) fun f=>
 ob (rZ a ([f]:List (List Int))) fun g=>
 nB b g
def jK (p:(List Int)) (f:Bool) (g:(List Bool)) (b:List (List Int)) (a:Int) (h:List Int):Option ((List (List Int) × Int) ⊕ (List (List Int))):=
 ob (vA h) fun c=>
 ob (ix p a) fun d=>
 if f then (ob (ix g a) fun i=>
 ob (aQz i) fun j=>
 gO b a c ([d,j]:List Int)) else (ob (aQz false) fun k=>
 gO b a c ([d,k]:List Int))
def jL (a:Int) (b:List Int):Option ((List Int × Int) ⊕ (List Int)):=
 some (.inl (b,wr (a+1)))
def fA (t:aO) (p:(List Int)) (a:List Int) (b:Int) (c:Edge) (f:Bool):Option ((List Int × Int) ⊕ (List Int)):=
 if f then (ob (ix p c.To) fun g=>
 ob (rZ a ([wr ((wr (c.B * t.N))+g)]:List Int)) fun h=>
 jL b h) else (jL b a)
def fB (t:aO) (p f:(List Int)) (e:List Int) (d:Int):Option ((List Int × Int) ⊕ (List Int)):=
 if (decide (d < (t.E.length:Int))) then (ob (ix t.E d) fun a=>
 ob (dJ f a.F) fun g=>
 if g then (if (a.B != 0) then (fA t p e d a true) else (ob (ix p a.F) fun h=>
 ob (ix p a.To) fun i=>
 fA t p e d a (h != i))) else (fA t p e d a false)) else (some (.inr e))
def fC (t:aO) (p:(List Int)) (f:Bool) (g:(List Bool)) (c:(List (List Int))) (d:List (List Int)) (a:Int):Option ((List (List Int) × Int) ⊕ (List (List Int))):=
 if (decide (a < (c.length:Int))) then (ob (ix c a) fun h=>
 ob (loop (fun (s:(List Int × Int))=>fB t p h s.1 s.2) ([],0)) fun r=>jK p f g d a r) else (some (.inr d))
def mC (t:aO) (p:(List Int)) (d:Bool):Option (List Int):=
 ob (uQ t p) fun c=>
 ob (oD c) fun e=>
 ob (pM c) fun f=>
 ob (loop (fun (s:(List (List Int) × Int))=>fC t p d e f s.1 s.2) ([],0)) fun r=>jJ r
def uG (p:(List Int)) (b:aO) (c:Bool):Option (List Int):=
 ob (mC b p c) fun d=>
 some d
def aBY (d:aO) (e:Bool) (a:List (List Int)):Option ((List (List Int)) ⊕ (List (List Int))):=
 ob (ix a (wr ((a.length:Int) - 1))) fun b=>
 ob (uG b d e) fun c=>
 ob (cM b c) fun f=>
 if f then (some (.inr a)) else (ob (rZ a ([c]:List (List Int))) fun g=>
 some (.inl g))
def aFN (n:Int) (b:aO) (c:Bool):Option (List (List Int)):=
 ob (aGO n) fun d=>
 ob (loop (fun (s:List (List Int))=>aBY b c s) ([d]:List (List Int))) fun r=>some r
def qL (t:aO) (b:Bool):Option (List Int):=
 ob (aFN t.N t b) fun c=>
 ob (oC c) fun d=>
 some d
def aAL (a:Bool):Option Unit:=
 some ()
def vR (t:aO) (p:Bool):Option (List Int):=
 ob (qL t p) fun c=>
 some c
def aJn (a b:aO) (f:Bool):Option (List Int):=
 ob (aHw a b) fun c=>
 ob (vR ⟨c.N,c.I,c.L,c.E⟩ f) fun g=>
 some g
def tA (a b:aO) (e f:Bool):Option (Bool × Int):=
 if f then (some (false,1)) else (ob (aJn a b e) fun g=>
 ob (nP a b g) fun h=>
 some (h,0))
def aCZ (a b:aO) (e:Bool):Option (Bool × Int):=
 ob (iK a) fun f=>
 if (!f) then (tA a b e true) else (ob (iK b) fun g=>
 tA a b e (!g))
def nJ (a b:aO) (c:Bool):Option (Bool × Int):=
 ob (aAL c) fun g=>
 ob (aCZ a b c) fun d=>
 some (d.1,d.2)
def aJT (a:List aL):Option (List aL):=
 some a
def aDa (b:(List nX)) (c:List aL) (a:Int):Option ((List aL × Int) ⊕ (List aL)):=
 if (decide (a < (b.length:Int))) then (ob (ix b a) fun d=>
 ob (rZ c ([d.label]:List aL)) fun e=>
 some (.inl (e,wr (a+1)))) else (some (.inr c))
def aFa (a:(List nX)):Option (List aL):=
 ob (loop (fun (s:(List aL × Int))=>aDa a s.1 s.2) ([],0)) fun r=>aJT r
def rC (a:(List Int)):Option aL:=
 ob (aGC a ([44]:aL)) fun b=>
 some b
def mO (a:Int) (b:List (List Int)) (c:(List (aL × Int))):Option (Int × (List (List Int)) × (List (aL × Int))):=
 some (a,b,c)
def eE (a:(List (List Int))) (b:(List (aL × Int))) (g:(List nX)) (d:(List Int)):Option (Int × (List (List Int)) × (List (aL × Int))):=
 ob (rC d) fun c=>
 if (!((mW b c).isSome)) then (ob (some (vN b c (a.length:Int))) fun e=>
 ob (rZ a ([d]:List (List Int))) fun f=>
 mO (a.length:Int) f e) else (mO ((mW b c).getD 0) a b)
def pZ (a:List (List Int)) (b:(List (aL × Int))) (c:List nX):Option ((List (List Int)) × (List (aL × Int)) × (List nX)):=
 some (a,b,c)
def lA (c:aL) (d:(List Int)) (e:(List (List Int))) (f:(List (aL × Int))) (b:(List nX)) (p:Int):Option ((List (List Int)) × (List (aL × Int)) × (List nX)):=
 ob (eE e f b d) fun a=>
 ob (rZ b ([⟨p,c,a.1⟩]:List nX)) fun h=>
 pZ a.2.1 a.2.2 h
def tB (a:List (List Int)) (b:(List (aL × Int))) (c:List nX):Option (Bool × (List (List Int)) × (List (aL × Int)) × (List nX)):=
 some (true,a,b,c)
def hQ (a:Int) (b:List (List Int)) (c:(List (aL × Int))) (d:List nX):Option ((List (List Int) × (List (aL × Int)) × List nX × Int) ⊕ (List (List Int) × (List (aL × Int)) × List nX)):=
 some (.inl (b,c,d,wr (a+1)))
def iC (i:(List Int)) (j:Int) (p:aO) (f:List aL) (b:List (List Int)) (c:(List (aL × Int))) (d:List nX) (a:Int):Option ((List (List Int) × (List (aL × Int)) × List nX × Int) ⊕ (List (List Int) × (List (aL × Int)) × List nX)):=
 if (decide (a < (f.length:Int))) then (ob (ix f a) fun g=>
 ob (gN p i g) fun h=>
 if (decide (0 < (h.length:Int))) then (ob (lA g h b c d j) fun e=>
 hQ a e.1 e.2.1 e.2.2) else (hQ a b c d)) else (some (.inr (b,c,d)))
def nK (c:(List Int)) (d:(List (List Int))) (e:(List (aL × Int))) (f:(List nX)) (g:Int) (p:aO):Option (Bool × (List (List Int)) × (List (aL × Int)) × (List nX)):=
 ob (vT p.L 1 (p.L.length:Int)) fun h=>
 ob (loop (fun (s:(List (List Int) × (List (aL × Int)) × List nX × Int))=>iC c g p h s.1 s.2.1 s.2.2.1 s.2.2.2) (d,e,f,0)) fun r=>tB r.1 r.2.1 r.2.2
def oT (e:List (List Int)) (a b:Int) (c:List aL) (d:List Edge):Option (aO × (List (List Int)) × Bool):=
 ob (iK ⟨a,b,c,d⟩) fun f=>
 some (⟨a,b,c,d⟩,e,f)
def lB (b:List (List Int)) (e:(List (aL × Int))) (c:List nX):Option (aO × (List (List Int)) × Bool):=
 ob (aFa c) fun d=>
 ob (aDq (b.length:Int) 0 d c) fun a=>
 oT b a.N a.I a.L a.E
def lC (b:Int) (a:(Bool × (List (List Int)) × (List (aL × Int)) × (List nX))) (c:Bool):Option ((List (List Int) × (List (aL × Int)) × List nX × Int) ⊕ ((List (List Int) × (List (aL × Int)) × List nX) ⊕ (aO × (List (List Int)) × Bool))):=
 if c then (some (.inr (.inr (⟨0,0,[],[]⟩,[],false)))) else (some (.inl (a.2.1,a.2.2.1,a.2.2.2,wr (b+1))))
def cP (f:aO) (b:List (List Int)) (d:(List (aL × Int))) (e:List nX) (a:Int):Option ((List (List Int) × (List (aL × Int)) × List nX × Int) ⊕ ((List (List Int) × (List (aL × Int)) × List nX) ⊕ (aO × (List (List Int)) × Bool))):=
 if (decide (a < (b.length:Int))) then (ob (ix b a) fun g=>
 ob (nK g b d e a f) fun c=>
 if (!c.1) then (lC a c true) else (lC a c (decide (40 < (c.2.1.length:Int))))) else (some (.inr (.inl (b,d,e))))
def oN (c:(List Int)) (d:aO):Option (aO × (List (List Int)) × Bool):=
 ob (eE [] ([]:(List (aL × Int))) [] c) fun b=>
 ob (loop (fun (s:(List (List Int) × (List (aL × Int)) × List nX × Int))=>cP d s.1 s.2.1 s.2.2.1 s.2.2.2) (b.2.1,b.2.2,[],0)) fun r=>match r with|.inl r=>lB r.1 r.2.1 r.2.2|.inr r=>some r
def jD (t:aO):Option (aO × (List (List Int)) × Bool):=
 ob (eQ t ([t.I]:List Int)) fun c=>
 ob (oN c t) fun b=>
 if (!b.2.2) then (some (⟨0,0,[],[]⟩,[],false)) else (ob (wW b.1) fun d=>
 ob (aDq b.1.N 0 t.L d) fun e=>
 some (e,b.2.1,true))
def wY (t:aO) (k:Int) (d:aL):Option Int:=
 if (decide (k < 0)) then (some (-1)) else (ob (gU t ([k]:List Int) d) fun b=>
 if (decide (0 < (b.length:Int))) then (ob (ix b 0) fun e=>
 some e) else (some (-1)))
def sC (a:Bool):Option Bool:=
 some a
def tC (p q:Int):Option Bool:=
 if (decide (p < 0)) then (sC true) else (sC (decide (q < 0)))
def aHM:Option ((List aL) × Bool):=
 some ([],false)
def aAy (a:(List ((Int × Int) × Bool))) (b:List aP):Option (((List ((Int × Int) × Bool)) × List aP) ⊕ (Unit ⊕ ((List aL) × Bool))):=
 some (.inl (a,b))
def aDQ (a:(List ((Int × Int) × Bool))) (b:List aP):Option (((List ((Int × Int) × Bool)) × List aP) ⊕ (Unit ⊕ ((List aL) × Bool))):=
 aAy a b
def aAz (a:Int) (b:List aP):Option ((List aP × Int) ⊕ (List aP)):=
 some (.inl (b,wr (a+1)))
def gJ (a b:aO) (f:List aL) (c:aP) (g:List aP) (d:Int):Option ((List aP × Int) ⊕ (List aP)):=
 if (decide (d < (f.length:Int))) then (ob (ix f d) fun e=>
 ob (wY a c.a e) fun j=>
 ob (wY b c.b e) fun k=>
 ob (cE c.trace) fun l=>
 ob (rZ l ([e]:List aL)) fun m=>
 ob (rZ g ([⟨j,k,m⟩]:List aP)) fun n=>
 aAz d n) else (some (.inr g))
def lR (a b:aO) (h:List aL) (d:(List ((Int × Int) × Bool))) (c:aP) (e:List aP) (i:Bool):Option (((List ((Int × Int) × Bool)) × List aP) ⊕ (Unit ⊕ ((List aL) × Bool))):=
 if i then (aAy d e) else (ob (some (vN d ⟨c.a,c.b⟩ true)) fun j=>
 ob (tC c.a c.b) fun k=>
 if k then (some (.inr (.inr (c.trace,true)))) else (ob (loop (fun (s:(List aP × Int))=>gJ a b h c s.1 s.2) (e,0)) fun r=>aDQ j r))
def gK (a b:aO) (h:List aL) (d:(List ((Int × Int) × Bool))) (e:List aP):Option (((List ((Int × Int) × Bool)) × List aP) ⊕ (Unit ⊕ ((List aL) × Bool))):=
 if (decide (0 < (e.length:Int))) then (ob (ix e 0) fun c=>
 ob (vT e 1 (e.length:Int)) fun i=>
 if (decide (c.a < 0)) then (if (decide (c.b < 0)) then (lR a b h d c i true) else (lR a b h d c i ((mW d ⟨c.a,c.b⟩).getD false))) else (lR a b h d c i ((mW d ⟨c.a,c.b⟩).getD false))) else (some (.inr (.inl ())))
def uH (a b:aO):Option ((List aL) × Bool):=
 ob (bB ([a.L,b.L]:List (List aL))) fun g=>
 ob (aDq 1 0 g []) fun f=>
 ob (vT f.L 1 (f.L.length:Int)) fun h=>
 ob (loop (fun (s:((List ((Int × Int) × Bool)) × List aP))=>gK a b h s.1 s.2) (([]:(List ((Int × Int) × Bool))),([⟨a.I,b.I,[]⟩]:List aP))) fun r=>match r with|.inl r=>aHM|.inr r=>some r
def pN (a b:(aO × (List (List Int)) × Bool)) (d:Bool):Option (Bool × (List aL) × Int):=
 if d then (some (false,[],5)) else (ob (uH ⟨a.1.N,a.1.I,a.1.L,a.1.E⟩ ⟨b.1.N,b.1.I,b.1.L,b.1.E⟩) fun c=>
 some (!c.2,c.1,0))
def pO (a b:aO) (g:Bool):Option (Bool × (List aL) × Int):=
 if g then (some (false,[],1)) else (ob (jD a) fun c=>
 ob (jD b) fun d=>
 if (!c.2.2) then (pN c d true) else (pN c d (!d.2.2)))
def uR (a b:aO):Option (Bool × (List aL) × Int):=
 ob (iK a) fun e=>
 if (!e) then (pO a b true) else (ob (iK b) fun f=>
 pO a b (!f))
def rS (a b:aO):Option (Bool × (List aL) × Int):=
 ob (uR a b) fun c=>
 some (c.1,c.2.1,c.2.2)
def eR (a:(List aL)) (b:aL):Option Bool:=
 ob (dZ a b) fun c=>
 some (decide (0<=c))
def aBZ (t:aO) (k:Int):Option Bool:=
 ob (cT t k) fun c=>
 ob (eR c ([116,97,117]:aL)) fun d=>
 some (!d)
def uS (k:Int) (p:aO):Option Bool:=
 ob (aBZ p k) fun c=>
 some (!c)
def mS:Option Int:=
 some (-1)
def cY (b:(List Int)) (c:aO) (a:Int):Option (Int ⊕ (Unit ⊕ Int)):=
 if (decide (a < (b.length:Int))) then (ob (ix b a) fun d=>
 ob (uS d c) fun e=>
 if e then (some (.inr (.inr a))) else (some (.inl (wr (a+1))))) else (some (.inr (.inl ())))
def dW (b:(List Int)) (c:aO):Option Int:=
 ob (loop (fun (s:Int)=>cY b c s) 0) fun r=>match r with|.inl r=>mS|.inr r=>some r
def iU (a:List Int) (b:Int):Option (List Int):=
 ob (vT a b (a.length:Int)) fun c=>
 ob (ovw a b (List.replicate c.length (0:Int))) fun d=>
 ob (vT d 0 b) fun e=>
 some e
def dM (a:Int) (b:List Int) (c:Int):Option ((List Int × Int × Int) ⊕ (List Int × Int)):=
 some (.inl (b,c,wr (a+1)))
def dN (e:aO) (a:List Int) (b c:Int):Option ((List Int × Int × Int) ⊕ (List Int × Int)):=
 if (decide (c < (a.length:Int))) then (ob (ix a c) fun d=>
 ob (uS d e) fun f=>
 if (!f) then (ob (ix a b) fun h=>
 ob (st a b (d:Int)) fun g=>
 dM c g (wr (b+1))) else (dM c a b)) else (some (.inr (a,b)))
def gB (a:(List Int)) (c:aO):Option (List Int):=
 ob (dW a c) fun b=>
 if (b == (-1)) then (some a) else (ob (loop (fun (s:(List Int × Int × Int))=>dN c s.1 s.2.1 s.2.2) (a,b,wr (b+1))) fun r=>iU r.1 r.2)
def yH (t:aO) (b:(List Int)):Option (List Int):=
 ob (cL b) fun c=>
 ob (gB c t) fun d=>
 some d
def aCa (a:aL) (p:(List aL)):Option Bool:=
 ob (eR p a) fun c=>
 some c
def nL:Option Int:=
 some (-1)
def dF (b c:(List aL)) (a:Int):Option (Int ⊕ (Unit ⊕ Int)):=
 if (decide (a < (b.length:Int))) then (ob (ix b a) fun d=>
 ob (aCa d c) fun e=>
 if e then (some (.inr (.inr a))) else (some (.inl (wr (a+1))))) else (some (.inr (.inl ())))
def eI (b c:(List aL)):Option Int:=
 ob (loop (fun (s:Int)=>dF b c s) 0) fun r=>match r with|.inl r=>nL|.inr r=>some r
def gY (a:List aL) (b:Int):Option (List aL):=
 ob (vT a b (a.length:Int)) fun c=>
 ob (ovw a b (List.replicate c.length ([]:aL))) fun d=>
 ob (vT d 0 b) fun e=>
 some e
def cZ (a:Int) (b:List aL) (c:Int):Option ((List aL × Int × Int) ⊕ (List aL × Int)):=
 some (.inl (b,c,wr (a+1)))
def dA (e:(List aL)) (a:List aL) (b c:Int):Option ((List aL × Int × Int) ⊕ (List aL × Int)):=
 if (decide (c < (a.length:Int))) then (ob (ix a c) fun d=>
 ob (aCa d e) fun f=>
 if (!f) then (ob (ix a b) fun h=>
 ob (st a b (d:aL)) fun g=>
 cZ c g (wr (b+1))) else (cZ c a b)) else (some (.inr (a,b)))
def fL (a c:(List aL)):Option (List aL):=
 ob (eI a c) fun b=>
 if (b == (-1)) then (some a) else (ob (loop (fun (s:(List aL × Int × Int))=>dA c s.1 s.2.1 s.2.2) (a,b,wr (b+1))) fun r=>gY r.1 r.2)
def aBi (a b:(List aL)):Option (List aL):=
 ob (cE a) fun c=>
 ob (fL c b) fun d=>
 some d
def aFO (j:Int) (p:aO) (c:(List aL)):Option Bool:=
 ob (cT p j) fun d=>
 ob (aBi d c) fun e=>
 some ((e.length:Int) == 0)
def mT:Option Int:=
 some (-1)
def dB (b:(List Int)) (c:aO) (d:(List aL)) (a:Int):Option (Int ⊕ (Unit ⊕ Int)):=
 if (decide (a < (b.length:Int))) then (ob (ix b a) fun e=>
 ob (aFO e c d) fun f=>
 if f then (some (.inr (.inr a))) else (some (.inl (wr (a+1))))) else (some (.inr (.inl ())))
def fM (b:(List Int)) (c:aO) (d:(List aL)):Option Int:=
 ob (loop (fun (s:Int)=>dB b c d s) 0) fun r=>match r with|.inl r=>mT|.inr r=>some r
def eX (a:(List Int)) (b:aO) (c:(List aL)):Option Bool:=
 ob (fM a b c) fun d=>
 some (decide (0<=d))
def aMy:Option Int:=
 some (-1)
def aDs (b e:aO) (f c:(List Int)) (a:Int):Option (Int ⊕ (Unit ⊕ Int)):=
 if (decide (a < (c.length:Int))) then (ob (ix c a) fun d=>
 ob (cT e d) fun g=>
 ob (yH b f) fun h=>
 ob (eX h b g) fun i=>
 if (!i) then (some (.inr (.inr d))) else (some (.inl (wr (a+1))))) else (some (.inr (.inl ())))
def aDt (c b:aO) (d e:(List Int)):Option Int:=
 ob (yH b e) fun f=>
 ob (loop (fun (s:Int)=>aDs c b d f s) 0) fun r=>match r with|.inl r=>aMy|.inr r=>some r
def aIA (a:List Int):Option (List Int):=
 some a
def pP (t:aO) (b:(List aL)) (c:List Int) (a:Int):Option ((List Int × Int) ⊕ (List Int)):=
 if (decide (a < (b.length:Int))) then (ob (ix b a) fun e=>
 ob (gN t c e) fun f=>
 some (.inl (f,wr (a+1)))) else (some (.inr c))
def oW (t:aO) (b:(List aL)):Option (List Int):=
 ob (eQ t ([t.I]:List Int)) fun c=>
 ob (loop (fun (s:(List Int × Int))=>pP t b s.1 s.2) (c,0)) fun r=>aIA r
def pQ (a:Bool):Option Bool:=
 some a
def oE (p q:Int) (c d:aO) (e f:(List (List Int))):Option Bool:=
 if (decide (0<=q)) then (if (decide (p < 0)) then (pQ true) else (ob (ix e p) fun g=>
 ob (ix f q) fun h=>
 ob (aDt c d g h) fun i=>
 pQ (decide (0<=i)))) else (pQ false)
def aFb:Option ((List aL) × Bool):=
 some ([],false)
def uI (a:(List ((Int × Int) × Bool))) (b:List aP):Option (((List ((Int × Int) × Bool)) × List aP) ⊕ (Unit ⊕ ((List aL) × Bool))):=
 some (.inl (a,b))
def aAM (a:(List ((Int × Int) × Bool))) (b:List aP):Option (((List ((Int × Int) × Bool)) × List aP) ⊕ (Unit ⊕ ((List aL) × Bool))):=
 uI a b
def aAN (a:Int) (b:List aP):Option ((List aP × Int) ⊕ (List aP)):=
 some (.inl (b,wr (a+1)))
def aAO (a b:aO) (f:List aL) (c:aP) (g:List aP) (d:Int):Option ((List aP × Int) ⊕ (List aP)):=
 if (decide (d < (f.length:Int))) then (ob (ix f d) fun e=>
 ob (wY a c.a e) fun j=>
 ob (wY b c.b e) fun k=>
 ob (cE c.trace) fun l=>
 ob (rZ l ([e]:List aL)) fun m=>
 ob (rZ g ([⟨j,k,m⟩]:List aP)) fun n=>
 aAN d n) else (some (.inr g))
def iM (a b h i:aO) (j k:(List (List Int))) (l:List aL) (d:(List ((Int × Int) × Bool))) (c:aP) (e:List aP) (m:Bool):Option (((List ((Int × Int) × Bool)) × List aP) ⊕ (Unit ⊕ ((List aL) × Bool))):=
 if m then (uI d e) else (ob (some (vN d ⟨c.a,c.b⟩ true)) fun n=>
 ob (oE c.a c.b h i j k) fun o=>
 if o then (some (.inr (.inr (c.trace,true)))) else (ob (loop (fun (s:(List aP × Int))=>aAO a b l c s.1 s.2) (e,0)) fun r=>aAM n r))
def eS (a b h i:aO) (j k:(List (List Int))) (l:List aL) (d:(List ((Int × Int) × Bool))) (e:List aP):Option (((List ((Int × Int) × Bool)) × List aP) ⊕ (Unit ⊕ ((List aL) × Bool))):=
 if (decide (0 < (e.length:Int))) then (ob (ix e 0) fun c=>
 ob (vT e 1 (e.length:Int)) fun m=>
 if (decide (c.a < 0)) then (if (decide (c.b < 0)) then (iM a b h i j k l d c m true) else (iM a b h i j k l d c m ((mW d ⟨c.a,c.b⟩).getD false))) else (iM a b h i j k l d c m ((mW d ⟨c.a,c.b⟩).getD false))) else (some (.inr (.inl ())))
def oF (a b g h:aO) (i j:(List (List Int))):Option ((List aL) × Bool):=
 ob (bB ([a.L,b.L]:List (List aL))) fun k=>
 ob (aDq 1 0 k []) fun f=>
 ob (vT f.L 1 (f.L.length:Int)) fun l=>
 ob (loop (fun (s:((List ((Int × Int) × Bool)) × List aP))=>eS a b g h i j l s.1 s.2) (([]:(List ((Int × Int) × Bool))),([⟨a.I,b.I,[]⟩]:List aP))) fun r=>match r with|.inl r=>aFb|.inr r=>some r
def uT (e a:aO) (b c:(aO × (List (List Int)) × Bool)) (h:Bool):Option (Bool × (List aL) × (List aL) × Bool):=
 if h then (some (false,[],[],false)) else (ob (oF ⟨b.1.N,b.1.I,b.1.L,b.1.E⟩ ⟨c.1.N,c.1.I,c.1.L,c.1.E⟩ e a b.2.1 c.2.1) fun d=>
 if (!d.2) then (some (true,[],[],true)) else (ob (oW e d.1) fun f=>
 if ((f.length:Int) == 0) then (some (false,d.1,[],true)) else (ob (oW a d.1) fun i=>
 ob (aDt e a f i) fun j=>
 ob (bB ([e.L,a.L]:List (List aL))) fun k=>
 ob (aDq 1 0 k []) fun g=>
 ob (vT g.L 1 (g.L.length:Int)) fun l=>
 ob (cT a j) fun m=>
 ob (aBi l m) fun n=>
 some (false,d.1,n,true))))
def lD (a b:aO):Option (Bool × (List aL) × (List aL) × Bool):=
 ob (jD a) fun c=>
 ob (jD b) fun d=>
 if (!c.2.2) then (uT a b c d true) else (uT a b c d (!d.2.2))
def pR (a:Bool):Option (Bool × Int):=
 some (a,0)
def jV (a b:(Bool × (List aL) × (List aL) × Bool)) (c:Bool):Option (Bool × Int):=
 if c then (some (false,5)) else (if a.1 then (pR b.1) else (pR false))
def pS (a b:aO) (g:Bool):Option (Bool × Int):=
 if g then (some (false,1)) else (ob (lD a b) fun c=>
 ob (lD b a) fun d=>
 if (!c.2.2.2) then (jV c d true) else (jV c d (!d.2.2.2)))
def oG (a b:aO):Option (Bool × Int):=
 ob (iK a) fun e=>
 if (!e) then (pS a b true) else (ob (iK b) fun f=>
 pS a b (!f))
def qM (a:Bool):Option Bool:=
 some a
def oH (a:(aO × aO)) (c:(Bool × Int)) (d:Bool):Option Bool:=
 if d then (some false) else (ob (aAZ a.1 a.2 0) fun b=>
 if (b.2 == 0) then (if b.1 then (qM true) else (qM (!c.1))) else (qM false))
def oI (a:(aO × aO)) (b d:(Bool × Int)) (e:Bool):Option Bool:=
 if e then (some false) else (ob (oG a.1 a.2) fun c=>
 if (c.2 == 0) then (if d.1 then (oH a b (!c.1)) else (oH a b false)) else (oH a b false))
def dP (a:(aO × aO)) (b c e:(Bool × Int)) (f:Bool):Option Bool:=
 if f then (some false) else (ob (rS ⟨a.1.N,a.1.I,a.1.L,a.1.E⟩ ⟨a.2.N,a.2.I,a.2.L,a.2.E⟩) fun d=>
 if (d.2.2 == 0) then (if e.1 then (oI a b c (!d.1)) else (oI a b c false)) else (oI a b c false))
def dQ (d:(aO × aO)) (c b e a:(Bool × Int)) (f:Bool):Option Bool:=
 if f then (some false) else (if c.1 then (if (!b.1) then (dP d c b a true) else (if b.1 then (if (!e.1) then (dP d c b a true) else (if e.1 then (dP d c b a (!a.1)) else (dP d c b a false))) else (if e.1 then (dP d c b a (!a.1)) else (dP d c b a false)))) else (if b.1 then (if (!e.1) then (dP d c b a true) else (if e.1 then (dP d c b a (!a.1)) else (dP d c b a false))) else (if e.1 then (dP d c b a (!a.1)) else (dP d c b a false))))
def aEm (f:(List UInt8)):Option Bool:=
 ob (aLQ f) fun h=>
 if h then (some true) else (ob (aGN f) fun a=>
 ob (aBh a.1 a.1) fun g=>
 ob (wX a.1 a.2) fun b=>
 ob (nJ a.1 a.2 true) fun c=>
 ob (nJ a.1 a.2 false) fun d=>
 ob (aBh a.1 a.2) fun e=>
 if (!g.1) then (dQ a b c d e true) else (if (g.2 != 0) then (dQ a b c d e true) else (if (b.2 != 0) then (dQ a b c d e true) else (if (c.2 != 0) then (dQ a b c d e true) else (if (d.2 != 0) then (dQ a b c d e true) else (dQ a b c d e (e.2 != 0)))))))
end
end Gv
