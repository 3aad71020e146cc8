/- Models of the functions, printed by program off their code. Plain Lean. -/
import Derived.Test.YtfneiajlaacfoaaGreatDoorJLM
set_option linter.all false
namespace Gv
noncomputable section
def aDh (a:List Int):Option ((List Int) × Bool):=
 some (a,true)
def tI (b:(List aF)) (c:List Int) (a:Int):Option ((List Int × Int) ⊕ (List Int ⊕ ((List Int) × Bool))):=
 if (decide (a < (b.length:Int))) then (ob (ix b a) fun e=>
 ob (uI e) fun d=>
 if (!d.2) then (some (.inr (.inr ([],false)))) else (ob (tY c ([d.1]:List Int)) fun f=>
 some (.inl (f,wr (a+1))))) else (some (.inr (.inl c)))
def uK (b:(List aF)):Option ((List Int) × Bool):=
 ob (loop (fun (s:(List Int × Int))=>tI b s.1 s.2) ([],0)) fun r=>match r with|.inl r=>aDh r|.inr r=>some r
def aDP (a:Bool):Option Bool:=
 some a
def aFw (c:UInt8):Option Bool:=
 if (decide (48<=(c.toNat:Int))) then (aDP (decide ((c.toNat:Int)<=57))) else (aDP false)
def aEK (a:Bool):Option Bool:=
 some a
def aCl (a:aF):Option Bool:=
 if (decide (1<=(a.length:Int))) then (aEK (decide ((a.length:Int)<=10))) else (aEK false)
def zN (a:Int) (b:Bool):Option (Int ⊕ (Unit ⊕ Bool)):=
 if b then (some (.inr (.inr false))) else (some (.inl (wr (a+1))))
def pV (b:aF) (a:Int) (c:Bool):Option (Int ⊕ (Unit ⊕ Bool)):=
 if (!c) then (if (a == 0) then (zN a true) else (ob (ix b a) fun d=>
 ob (aFw d) fun e=>
 zN a (!e))) else (zN a false)
def vV (a:aF) (b:Int):Option (Int ⊕ (Unit ⊕ Bool)):=
 if (decide (b < (a.length:Int))) then (ob (ix a b) fun c45=>
 if (decide (97<=(c45.toNat:Int))) then (pV a b (decide ((c45.toNat:Int)<=122))) else (pV a b false)) else (some (.inr (.inl ())))
def aEL (b:aF):Option Bool:=
 ob (loop (fun (s:Int)=>vV b s) 0) fun r=>match r with|.inl r=>aCl b|.inr r=>some r
def yR (a:Bool):Option Bool:=
 some a
def yE (a:aF):Option Bool:=
 ob (aEL a) fun b=>
 if b then (yR (!(a == ([116,97,117]:aF)))) else (yR false)
def aEM (a:Bool):Option Bool:=
 some a
def lO (n low b:Int):Option Bool:=
 if (decide (low<=n)) then (aEM (decide (n<=b))) else (aEM false)
def aHu (n:Int):Option Bool:=
 ob (lO n 0 63) fun b=>
 some b
def aBr (n:Int):Option Bool:=
 ob (aHu n) fun b=>
 some (!b)
def lP:Option Int:=
 some (-1)
def dE (b:(List Int)) (a:Int):Option (Int ⊕ (Unit ⊕ Int)):=
 if (decide (a < (b.length:Int))) then (ob (ix b a) fun c=>
 ob (aBr c) fun d=>
 if d then (some (.inr (.inr a))) else (some (.inl (wr (a+1))))) else (some (.inr (.inl ())))
def fG (b:(List Int)):Option Int:=
 ob (loop (fun (s:Int)=>dE b s) 0) fun r=>match r with|.inl r=>lP|.inr r=>some r
def gQ (a:(List Int)):Option Bool:=
 ob (fG a) fun b=>
 some (decide (0<=b))
def aCm (a:(List Int)):Option Bool:=
 ob (gQ a) fun b=>
 some (!b)
def aEN (a:aF) (b:List aF):Option aF:=
 ob (aLq b a) fun c=>
 some c
def zO (c:(List Int)) (b:List aF) (a:Int):Option ((List aF × Int) ⊕ (List aF)):=
 if (decide (a < (c.length:Int))) then (ob (ix c a) fun d=>
 ob (aDd d) fun e=>
 ob (ix b a) fun g=>
 ob (st b a (e:aF)) fun f=>
 some (.inl (f,wr (a+1)))) else (some (.inr b))
def aEO (a:(List Int)) (b:aF):Option aF:=
 ob (mkz (a.length:Int) ([]:aF)) fun c=>
 ob (loop (fun (s:(List aF × Int))=>zO a s.1 s.2) (c,0)) fun r=>aEN b r
def wJ (a:aF) (b:(List Int)) (c:Bool):Option (aF × Bool):=
 if c then (some (([]:aF),false)) else (if ((b.length:Int) == 0) then (some (a,true)) else (ob (cat a ([40]:aF)) fun d=>
 ob (aEO b ([44]:aF)) fun e=>
 ob (cat d e) fun f=>
 ob (cat f ([41]:aF)) fun g=>
 some (g,true)))
def aDi (b:aF) (a:(List Int)):Option (aF × Bool):=
 if (b == ([116,97,117]:aF)) then (some (([116,97,117]:aF),(a.length:Int) == 0)) else (ob (yE b) fun c=>
 if (!c) then (wJ b a true) else (if (decide (2 < (a.length:Int))) then (wJ b a true) else (ob (aCm a) fun d=>
 wJ b a (!d))))
def dK (a:Bool):Option Bool:=
 some a
def cZ (a b:aF):Option Bool:=
 if (decide ((b.length:Int)<=(a.length:Int))) then (ob (slc a (wr ((a.length:Int) - (b.length:Int))) (a.length:Int)) fun c=>
 dK (c == b)) else (dK false)
def iP (a b:aF):Option aF:=
 ob (cZ a b) fun c=>
 if c then (ob (slc a 0 (wr ((a.length:Int) - (b.length:Int)))) fun d=>
 some d) else (some a)
def nR (a b:aF):Option aF:=
 ob (iP a b) fun c=>
 some c
def mO (a:(aF × aF × Bool)) (b:List Int) (c:Bool):Option (aF × (List Int) × Bool):=
 if c then (some (([]:aF),[],false)) else (some (a.1,b,true))
def kO (d:aF) (a:(aF × aF × Bool)) (b:List Int):Option (aF × (List Int) × Bool):=
 ob (aDi a.1 b) fun c=>
 if (!c.2) then (mO a b true) else (mO a b (!(c.1 == d)))
def sF (b:aF):Option (aF × (List Int) × Bool):=
 ob (l_Cut b ([40]:aF)) fun a=>
 if a.2.2 then (ob (nR a.2.1 ([41]:aF)) fun d=>
 ob (aGJ d ([44]:aF)) fun e=>
 ob (uK e) fun c=>
 if (!c.2) then (some (([]:aF),[],false)) else (kO b a c.1)) else (kO b a [])
def aAZ (a:aF):Option Bool:=
 ob (sF a) fun b=>
 some b.2.2
def aHv (a:(List UInt8)):Option Bool:=
 some (decide (1048576 < (a.length:Int)))
def aHw (a:(List UInt8)):Option (Int × Int):=
 some (0,0)
def aGR:Option Int:=
 some (-1)
def aAK (b:(List aF)) (c:aF) (a:Int):Option (Int ⊕ (Unit ⊕ Int)):=
 if (decide (a < (b.length:Int))) then (ob (ix b a) fun d=>
 if (d == c) then (some (.inr (.inr a))) else (some (.inl (wr (a+1))))) else (some (.inr (.inl ())))
def aBa (b:(List aF)) (c:aF):Option Int:=
 ob (loop (fun (s:Int)=>aAK b c s) 0) fun r=>match r with|.inl r=>aGR|.inr r=>some r
def aGS (a:List aF):Option (List aF):=
 some a
def tJ (a:Int) (b:List aF):Option ((List aF × Int) ⊕ (List aF)):=
 some (.inl (b,wr (a+1)))
def aAL (c:Int) (d:aF) (a:Int) (b:List aF):Option ((List aF × Int) ⊕ (List aF)):=
 ob (ix b a) fun f=>
 ob (st b a (d:aF)) fun e=>
 tJ c e
def wK (c:Int) (b:List aF) (a:Int):Option ((List aF × Int) ⊕ (List aF)):=
 if (decide (c < a)) then (ob (ix b (wr (a - 1))) fun d=>
 ob (ix b a) fun f=>
 ob (st b a (d:aF)) fun e=>
 some (.inl (e,wr (a - 1)))) else (some (.inr b))
def aAM (c:List aF) (d:Int) (e:aF) (a:Int):Option ((List aF × Int) ⊕ (List aF)):=
 ob (tY c ([([]:aF)]:List aF)) fun b=>
 ob (loop (fun (s:(List aF × Int))=>wK a s.1 s.2) (b,wr ((b.length:Int) - 1))) fun r=>aAL d e a r
def wL (a:Int) (b:Bool):Option (Int ⊕ Int):=
 if b then (some (.inl (wr (a+1)))) else (some (.inr a))
def tK (b:List aF) (c:aF) (a:Int):Option (Int ⊕ Int):=
 if (decide (a < (b.length:Int))) then (ob (ix b a) fun d=>
 wL a (yD d c)) else (wL a false)
def qB (d:(List aF)) (a:List aF) (b:Int):Option ((List aF × Int) ⊕ (List aF)):=
 if (decide (b < (d.length:Int))) then (ob (ix d b) fun c=>
 ob (aBa a c) fun e=>
 if (decide (0<=e)) then (tJ b a) else (ob (loop (fun (s:Int)=>tK a c s) 1) fun r=>aAM a b c r)) else (some (.inr a))
def aDj (a:(List aF)):Option (List aF):=
 ob (loop (fun (s:(List aF × Int))=>qB a s.1 s.2) (([([116,97,117]:aF)]:List aF),0)) fun r=>aGS r
def aDk (a b:Edge):Option Bool:=
 if (a.F != b.F) then (some (decide (a.F < b.F))) else (if (a.B != b.B) then (some (decide (a.B < b.B))) else (some (decide (a.To < b.To))))
def aCn (e:Edge) (b:Int) (c:List Edge):Option (List Edge):=
 ob (ix c b) fun f=>
 ob (st c b (⟨e.F,e.B,e.To⟩:Edge)) fun d=>
 some d
def zQ (d:Int) (b:List Edge) (a:Int):Option ((List Edge × Int) ⊕ (List Edge)):=
 if (decide (d < a)) then (ob (ix b (wr (a - 1))) fun c=>
 ob (ix b a) fun f=>
 ob (st b a (⟨c.F,c.B,c.To⟩:Edge)) fun e=>
 some (.inl (e,wr (a - 1)))) else (some (.inr b))
def vW (a:(List Edge)) (e:Edge) (b:Int) (f:Bool):Option (List Edge):=
 if f then (some a) else (ob (tY a ([⟨0,0,0⟩]:List Edge)) fun c=>
 ob (loop (fun (s:(List Edge × Int))=>zQ b s.1 s.2) (c,wr ((c.length:Int) - 1))) fun r=>aCn e b r)
def aCo (b:(List Edge)) (e:Edge) (a:Int):Option (List Edge):=
 if (decide (0 < a)) then (ob (ix b (wr (a - 1))) fun d=>
 vW b e a (decide ((d:Edge)=e))) else (vW b e a false)
def zU (a:Int) (b:Bool):Option (Int ⊕ Int):=
 if b then (some (.inl (wr (a - 1)))) else (some (.inr a))
def vX (b:(List Edge)) (e:Edge) (a:Int):Option (Int ⊕ Int):=
 if (decide (0 < a)) then (ob (ix b (wr (a - 1))) fun d=>
 ob (aDk e d) fun f=>
 zU a f) else (zU a false)
def aEP (a:(List Edge)) (e:Edge):Option (List Edge):=
 ob (loop (fun (s:Int)=>vX a e s) (a.length:Int)) fun r=>aCo a e r
def aGT (a b:Int) (c:(List aF)) (d:List Edge):Option cR:=
 some ⟨a,b,c,d⟩
def tL (e:(List aF)) (c:(List Edge)) (f:(List aF)) (d:List Edge) (a:Int):Option ((List Edge × Int) ⊕ (List Edge)):=
 if (decide (a < (c.length:Int))) then (ob (ix c a) fun b=>
 ob (ix e b.B) fun g=>
 ob (aBa f g) fun h=>
 ob (aEP d ⟨b.F,h,b.To⟩) fun i=>
 some (.inl (i,wr (a+1)))) else (some (.inr d))
def aBb (c d:Int) (a:(List aF)) (e:(List Edge)):Option cR:=
 ob (aDj a) fun b=>
 ob (loop (fun (s:(List Edge × Int))=>tL a e b s.1 s.2) (([]:List Edge),0)) fun r=>aGT c d b r
def aEQ (t:cR):Option cR:=
 ob (tY ([]:List aF) t.L) fun b=>
 ob (tY ([]:List Edge) t.E) fun c=>
 some ⟨t.N,t.I,b,c⟩
def aER (a:(List Int)):Option (List Int):=
 ob (tY ([]:List Int) a) fun b=>
 some b
def aGj (a:Bool):Option Bool:=
 some a
def uY (n low b:Int):Option Bool:=
 if (decide (low<=n)) then (aGj (decide (n<=b))) else (aGj false)
def yS (a:Bool):Option Int:=
 if a then (some 2) else (some 1)
def rF (a:Int) (b:Bool):Option Int:=
 if b then (some 0) else (if (a == 2) then (yS (a == 2)) else (yS (a == 3)))
def yF (a:Int):Option Int:=
 if (a == 0) then (rF a (a == 0)) else (if (a == 1) then (rF a (a == 1)) else (rF a (a == 6)))
def aCO (a:Bool):Option Bool:=
 some a
def aBs (c:UInt8):Option Bool:=
 if (decide (97<=(c.toNat:Int))) then (aCO (decide ((c.toNat:Int)<=122))) else (aCO false)
def aCP (a:Bool):Option Bool:=
 some a
def aBt (c:UInt8):Option Bool:=
 if (decide (48<=(c.toNat:Int))) then (aCP (decide ((c.toNat:Int)<=57))) else (aCP false)
def aDQ:Option Bool:=
 some true
def aAN (a:Int) (b:Bool):Option (Int ⊕ (Unit ⊕ Bool)):=
 if b then (some (.inr (.inr false))) else (some (.inl (wr (a+1))))
def wM (b:aF) (a:Int):Option (Int ⊕ (Unit ⊕ Bool)):=
 if (decide (a < (b.length:Int))) then (ob (ix b a) fun c=>
 ob (aBs c) fun d=>
 if (!d) then (ob (aBt c) fun e=>
 aAN a (!e)) else (aAN a false)) else (some (.inr (.inl ())))
def qC (b:aF) (c:Bool):Option Bool:=
 if c then (some false) else (ob (loop (fun (s:Int)=>wM b s) 0) fun r=>match r with|.inl r=>aDQ|.inr r=>some r)
def aBc (a:aF):Option Bool:=
 if (a == ([]:aF)) then (qC a true) else (if (decide (10 < (a.length:Int))) then (qC a true) else (ob (ix a 0) fun b=>
 ob (aBs b) fun c=>
 qC a (!c)))
def wN (a:Bool):Option Bool:=
 some a
def vY (a:aF):Option Bool:=
 ob (aBc a) fun b=>
 if b then (wN (!(a == ([116,97,117]:aF)))) else (wN false)
def aGU (a:aF):Option Int:=
 some (a.length:Int)
def aAO (b:aF) (a:Int):Option (Int ⊕ (Unit ⊕ Int)):=
 if (decide (a < (b.length:Int))) then (ob (ix b a) fun c=>
 if ((c.toNat:Int) == 40) then (some (.inr (.inr a))) else (some (.inl (wr (a+1))))) else (some (.inr (.inl ())))
def aBd (b:aF):Option Int:=
 ob (loop (fun (s:Int)=>aAO b s) 0) fun r=>match r with|.inl r=>aGU b|.inr r=>some r
def aCQ (a:aF) (b:List aF) (c:Int):Option (List aF):=
 ob (slc a c (a.length:Int)) fun d=>
 ob (tY b ([d]:List aF)) fun e=>
 some e
def rG (a:Int) (b:List aF) (c:Int):Option ((List aF × Int × Int) ⊕ (List aF × Int)):=
 some (.inl (b,c,wr (a+1)))
def yT (b:aF) (e:UInt8) (c:List aF) (d a:Int):Option ((List aF × Int × Int) ⊕ (List aF × Int)):=
 if (decide (a < (b.length:Int))) then (ob (ix b a) fun f=>
 if ((f.toNat:Int) == (e.toNat:Int)) then (ob (slc b d a) fun g=>
 ob (tY c ([g]:List aF)) fun h=>
 rG a h (wr (a+1))) else (rG a c d)) else (some (.inr (c,d)))
def aBu (a:aF) (c:UInt8):Option (List aF):=
 ob (loop (fun (s:(List aF × Int × Int))=>yT a c s.1 s.2.1 s.2.2) (([]:List aF),0,0)) fun r=>aCQ a r.1 r.2
def aBv (a:Int):Option (Int × Bool):=
 some (a,true)
def wO (b a:Int):Option (Int × Bool):=
 if (b == 1) then (aBv (wr (0 - a))) else (aBv a)
def pD (b:aF) (c a:Int):Option ((Int × Int) ⊕ (Int ⊕ (Int × Bool))):=
 if (decide (a < (b.length:Int))) then (ob (ix b a) fun c45=>
 ob (aBt c45) fun d=>
 if (!d) then (some (.inr (.inr (0,false)))) else (some (.inl (wr ((wr (10 * c))+(wr ((c45 - (48:UInt8)).toNat:Int))),wr (a+1))))) else (some (.inr (.inl c)))
def kP (c:aF) (b:Int) (d:Bool):Option (Int × Bool):=
 if d then (some (0,false)) else (ob (loop (fun (s:(Int × Int))=>pD c s.1 s.2) (0,b)) fun r=>match r with|.inl r=>wO b r|.inr r=>some r)
def pE (a:aF) (b:Int):Option (Int × Bool):=
 if ((a.length:Int) == b) then (kP a b true) else (if (decide (18 < wr ((a.length:Int) - b))) then (kP a b true) else (ob (ix a b) fun c=>
 if ((c.toNat:Int) == 48) then (kP a b (decide (1 < (a.length:Int)))) else (kP a b false)))
def sG (a:aF) (b:Bool):Option (Int × Bool):=
 if b then (pE a 1) else (pE a 0)
def vZ (a:aF):Option (Int × Bool):=
 if (decide (0 < (a.length:Int))) then (ob (ix a 0) fun b=>
 sG a ((b.toNat:Int) == 45)) else (sG a false)
def aBw (a:List Int):Option ((List Int) × Bool):=
 some (a,decide ((a.length:Int)<=2))
def wP (a:List Int) (b:Int) (c:(Int × Bool)) (d:Bool):Option ((List Int × Int) ⊕ (List Int ⊕ ((List Int) × Bool))):=
 if d then (some (.inr (.inr ([],false)))) else (ob (tY a ([c.1]:List Int)) fun e=>
 some (.inl (e,wr (b+1))))
def sH (d:(List aF)) (c:List Int) (a:Int):Option ((List Int × Int) ⊕ (List Int ⊕ ((List Int) × Bool))):=
 if (decide (a < (d.length:Int))) then (ob (ix d a) fun e=>
 ob (vZ e) fun b=>
 if (!b.2) then (wP c a b true) else (ob (uY b.1 0 63) fun f=>
 wP c a b (!f))) else (some (.inr (.inl c)))
def pF (b:aF) (c:Int) (d:Bool):Option ((List Int) × Bool):=
 if d then (some ([],false)) else (ob (slc b (wr (c+1)) (wr ((b.length:Int) - 1))) fun e=>
 ob (aBu e (44:UInt8)) fun f=>
 ob (loop (fun (s:(List Int × Int))=>sH f s.1 s.2) (([]:List Int),0)) fun r=>match r with|.inl r=>aBw r|.inr r=>some r)
def aCp (a:aF):Option ((List Int) × Bool):=
 ob (aBd a) fun b=>
 if (b == (a.length:Int)) then (ob (aBc a) fun c=>
 some (([]:List Int),c)) else (ob (slc a 0 b) fun d=>
 ob (vY d) fun e=>
 if (!e) then (pF a b true) else (ob (ix a (wr ((a.length:Int) - 1))) fun f=>
 pF a b ((f.toNat:Int) != 41)))
def aBx (a:aF):Option Bool:=
 ob (aCp a) fun b=>
 some b.2
def uZ (a:Bool):Option Bool:=
 some a
def qV (a:aF) (b:Bool):Option Bool:=
 if b then (some true) else (ob (ix a (wr ((a.length:Int) - 1))) fun c=>
 if ((c.toNat:Int) == 42) then (ob (slc a 0 (wr ((a.length:Int) - 1))) fun d=>
 ob (vY d) fun e=>
 uZ e) else (uZ false))
def qD (a:aF):Option Bool:=
 if (a == ([]:aF)) then (qV a true) else (ob (aBx a) fun b=>
 qV a b)
def aCR (a:Int):Option Bool:=
 some (a == 0)
def kH (a b c:Int) (d:Bool):Option ((Int × Int) ⊕ (Int ⊕ Bool)):=
 if d then (some (.inr (.inr false))) else (some (.inl (wr (a+(wr (c - 1))),wr (b+1))))
def iR (a b:Int) (d:aO) (c:Int) (e:Bool):Option ((Int × Int) ⊕ (Int ⊕ Bool)):=
 if e then (ob (qD d.B) fun f=>
 if (!f) then (kH a b c true) else (kH a b c false)) else (if (!(d.B == ([]:aF))) then (kH a b c true) else (kH a b c d.Not))
def rH (e:(List aO)) (c b:Int) (f:Bool):Option ((Int × Int) ⊕ (Int ⊕ Bool)):=
 if f then (some (.inr (.inr false))) else (ob (ix e b) fun a=>
 ob (yF a.Kind) fun d=>
 if (a.Kind == 4) then (iR c b a d true) else (iR c b a d (a.Kind == 5)))
def cY (a:(List aO)) (d b c:Int):Option ((Int × Int) ⊕ (Int ⊕ Bool)):=
 if (decide (c < (a.length:Int))) then (if (b == 0) then (rH a b c true) else (ob (ix a c) fun e=>
 ob (uY e.Kind 0 d) fun f=>
 rH a b c (!f))) else (some (.inr (.inl b)))
def uL (b:(List aO)) (c:Int) (d:Bool):Option Bool:=
 if d then (some false) else (ob (loop (fun (s:(Int × Int))=>cY b c s.1 s.2) (1,0)) fun r=>match r with|.inl r=>aCR r|.inr r=>some r)
def yG (a:(List aO)) (c b:Int):Option Bool:=
 if (decide ((a.length:Int) < 1)) then (uL a b true) else (uL a b (decide (c < (a.length:Int))))
def yU (a:Bool):Option Bool:=
 some a
def vF (n:aO):Option Bool:=
 if (n.Kind == 7) then (yU true) else (yU (n.Kind == 8))
def aES (a:Int):Option Int:=
 some a
def lY (c:(List aO)) (a b:Int):Option ((Int × Int) ⊕ Int):=
 if (decide (0 < b)) then (ob (ix c a) fun d=>
 ob (yF d.Kind) fun e=>
 some (.inl (wr (a+1),wr (b+(wr (e - 1)))))) else (some (.inr a))
def sI (a:(List aO)) (k:Int):Option Int:=
 ob (loop (fun (s:(Int × Int))=>lY a s.1 s.2) (k,1)) fun r=>aES r
def aET:Option Int:=
 some (-1)
def mP (a:Int) (b:Bool):Option (Int ⊕ (Unit ⊕ Int)):=
 if b then (some (.inr (.inr a))) else (some (.inl (wr (a - 1))))
def gX (b:(List aO)) (k a:Int):Option (Int ⊕ (Unit ⊕ Int)):=
 if (decide (0<=a)) then (ob (ix b a) fun d=>
 ob (vF d) fun e=>
 if e then (ob (ix b k) fun f=>
 if (d.Variable == f.Variable) then (ob (sI b a) fun g=>
 mP a (decide (k < g))) else (mP a false)) else (mP a false)) else (some (.inr (.inl ())))
def dS (c:(List aO)) (k:Int):Option Int:=
 ob (loop (fun (s:Int)=>gX c k s) (wr (k - 1))) fun r=>match r with|.inl r=>aET|.inr r=>some r
def aJe:Option Bool:=
 some true
def aBy (a:Int) (b:Bool):Option (Int ⊕ (Unit ⊕ Bool)):=
 if b then (some (.inr (.inr false))) else (some (.inl (wr (a+1))))
def vG (b:(List aO)) (a:Int):Option (Int ⊕ (Unit ⊕ Bool)):=
 ob (ix b a) fun c=>
 if (c.Kind == 6) then (ob (dS b a) fun d=>
 aBy a (decide (d < 0))) else (aBy a false)
def vH (a:(List aO)) (b:Int) (c:Bool):Option (Int ⊕ (Unit ⊕ Bool)):=
 if c then (ob (ix a b) fun d=>
 ob (uY d.Variable 0 2) fun e=>
 if (!e) then (some (.inr (.inr false))) else (vG a b)) else (ob (ix a b) fun f=>
 if (f.Variable != 0) then (some (.inr (.inr false))) else (vG a b))
def qE (a:(List aO)) (b:Int):Option (Int ⊕ (Unit ⊕ Bool)):=
 if (decide (b < (a.length:Int))) then (ob (ix a b) fun c=>
 ob (vF c) fun d=>
 if d then (vH a b true) else (vH a b (c.Kind == 6))) else (some (.inr (.inl ())))
def vA (b:(List aO)):Option Bool:=
 ob (yG b 30 8) fun c=>
 if (!c) then (some false) else (ob (loop (fun (s:Int)=>qE b s) 0) fun r=>match r with|.inl r=>aJe|.inr r=>some r)
def aFS:Option Bool:=
 some true
def rI (a:Int) (b:Bool):Option (Int ⊕ (Unit ⊕ Bool)):=
 if b then (some (.inr (.inr false))) else (some (.inl (wr (a+1))))
def uM (b:(List aF)) (a:Int):Option (Int ⊕ (Unit ⊕ Bool)):=
 if (decide (a < (b.length:Int))) then (ob (ix b a) fun c=>
 ob (aBx c) fun d=>
 if (!d) then (rI a true) else (if (c == ([116,97,117]:aF)) then (rI a true) else (if (decide (1 < a)) then (ob (ix b (wr (a - 1))) fun e=>
 rI a (!yD e c)) else (rI a false)))) else (some (.inr (.inl ())))
def rJ (b:(List aF)) (c:Bool):Option Bool:=
 if c then (some false) else (ob (loop (fun (s:Int)=>uM b s) 1) fun r=>match r with|.inl r=>aFS|.inr r=>some r)
def aBz (a:(List aF)):Option Bool:=
 if ((a.length:Int) == 0) then (rJ a true) else (if (decide (12 < (a.length:Int))) then (rJ a true) else (ob (ix a 0) fun b=>
 rJ a (!(b == ([116,97,117]:aF)))))
def aJf:Option Bool:=
 some true
def aDR (a:Int) (b:Bool):Option (Int ⊕ (Unit ⊕ Bool)):=
 if b then (some (.inr (.inr false))) else (some (.inl (wr (a+1))))
def yH (t:cR) (a:Int) (c:Edge) (d:Bool):Option (Int ⊕ (Unit ⊕ Bool)):=
 if d then (some (.inr (.inr false))) else (if (decide (0 < a)) then (ob (ix t.E (wr (a - 1))) fun e=>
 ob (aDk e c) fun f=>
 aDR a (!f)) else (aDR a false))
def aBA (t:cR) (c:Int):Option (Int ⊕ (Unit ⊕ Bool)):=
 if (decide (c < (t.E.length:Int))) then (ob (ix t.E c) fun b=>
 ob (uY b.F 0 (wr (t.N - 1))) fun d=>
 if (!d) then (yH t c b true) else (ob (uY b.To 0 (wr (t.N - 1))) fun e=>
 if (!e) then (yH t c b true) else (ob (uY b.B 0 (wr ((t.L.length:Int) - 1))) fun f=>
 yH t c b (!f)))) else (some (.inr (.inl ())))
def vI (t:cR) (c:Bool):Option Bool:=
 if c then (some false) else (ob (loop (fun (s:Int)=>aBA t s) 0) fun r=>match r with|.inl r=>aJf|.inr r=>some r)
def aCq (t:cR):Option Bool:=
 ob (uY t.N 1 40) fun b=>
 if (!b) then (vI t true) else (ob (uY t.I 0 (wr (t.N - 1))) fun c=>
 if (!c) then (vI t true) else (ob (aBz t.L) fun d=>
 if (!d) then (vI t true) else (vI t (decide (300 < (t.E.length:Int))))))
def pG (d:(List UInt8)) (b c a:Int):Option (Int × Int × Int):=
 if (decide (wr (b+1)<=(d.length:Int))) then (some (a,wr (b+1),rS ((rS ((rS (c * 6364136223846793005))+(rS a)))+1442695040888963407))) else (ob (shU (rS ((rS ((rS (c * 6364136223846793005))+(rS a)))+1442695040888963407)) 40) fun e=>
 some (wr (anU e 255),wr (b+1),rS ((rS ((rS (c * 6364136223846793005))+(rS a)))+1442695040888963407)))
def rK (a:(List UInt8)) (b c:Int):Option (Int × Int × Int):=
 if (decide (b < (a.length:Int))) then (ob (ix a b) fun d=>
 pG a b c (wr (d.toNat:Int))) else (pG a b c 0)
def pH (n b c d:Int):Option (Int × Int × Int):=
 ob (rm b n) fun e=>
 some (e,c,d)
def bC (d:(List UInt8)) (e f n:Int):Option (Int × Int × Int):=
 if (decide (n<=1)) then (some (0,e,f)) else (ob (rK d e f) fun a=>
 if (decide (200 < n)) then (ob (rK d a.2.1 a.2.2) fun c=>
 pH n (wr ((wr (a.1 * 256))+c.1)) c.2.1 c.2.2) else (pH n a.1 a.2.1 a.2.2))
def iT (b:(List UInt8)) (c d n:Int):Option (Bool × Int × Int):=
 ob (bC b c d n) fun a=>
 some (a.1 == 0,a.2.1,a.2.2)
def sA (a b:Int) (c:List aF):Option ((List aF) × Int × Int):=
 some (c,a,b)
def sB (a:List aF) (b c:Int):Option ((List aF) × Int × Int):=
 if ((a.length:Int) == 1) then (ob (tY a ([([97]:aF)]:List aF)) fun d=>
 sA b c d) else (sA b c a)
def iU (a b c:Int) (d:List aF):Option ((Int × Int × List aF × Int) ⊕ (List aF × Int × Int)):=
 some (.inl (b,c,d,wr (a+1)))
def nS (b:List aF) (a c d:Int) (e:Bool):Option ((Int × Int × List aF × Int) ⊕ (List aF × Int × Int)):=
 if e then (ob (ix ([([97]:aF),([98]:aF),([99]:aF),([103,101,116,40,48,41]:aF),([103,101,116,40,49,41]:aF)]:List aF) a) fun f=>
 ob (tY b ([f]:List aF)) fun g=>
 iU a c d g) else (iU a c d b)
def lA (f:(List UInt8)) (d e:Int) (b:List aF) (c:Int):Option ((Int × Int × List aF × Int) ⊕ (List aF × Int × Int)):=
 if (decide (c < (([([97]:aF),([98]:aF),([99]:aF),([103,101,116,40,48,41]:aF),([103,101,116,40,49,41]:aF)]:List aF).length:Int))) then (ob (iT f d e 2) fun a=>
 if a.1 then (nS b c a.2.1 a.2.2 (decide ((b.length:Int) < 4))) else (nS b c a.2.1 a.2.2 false)) else (some (.inr (b,d,e)))
def sJ (b:(List UInt8)) (c d:Int):Option ((List aF) × Int × Int):=
 ob (loop (fun (s:(Int × Int × List aF × Int))=>lA b s.1 s.2.1 s.2.2.1 s.2.2.2) (c,d,([([116,97,117]:aF)]:List aF),0)) fun r=>sB r.1 r.2.1 r.2.2
def eE (c:(List UInt8)) (d e:Int) (b:(List Int)):Option (Int × Int × Int):=
 ob (bC c d e (b.length:Int)) fun a=>
 ob (ix b a.1) fun f=>
 some (f,a.2.1,a.2.2)
def sK (d:(List UInt8)) (b c:(Int × Int × Int)) (e:((List aF) × Int × Int)) (f g:Int) (h:List Edge):Option (cR × Int × Int):=
 ob (bC d f g (wr ((wr (1+b.1))+c.1))) fun a=>
 ob (aBb (wr ((wr (1+b.1))+c.1)) a.1 e.1 h) fun i=>
 some (i,a.2.1,a.2.2)
def sL (a:(List UInt8)) (c d:(Int × Int × Int)) (e:((List aF) × Int × Int)) (j k:Int) (i:List Edge):Option (cR × Int × Int):=
 ob (iT a j k 3) fun b=>
 if b.1 then (ob (bC a b.2.1 b.2.2 (wr ((wr (1+c.1))+d.1))) fun f=>
 ob (bC a f.2.1 f.2.2 (e.1.length:Int)) fun g=>
 ob (bC a g.2.1 g.2.2 (wr ((wr (1+c.1))+d.1))) fun h=>
 ob (tY i ([⟨f.1,g.1,h.1⟩]:List Edge)) fun l=>
 sK a c d e h.2.1 h.2.2 l) else (sK a c d e b.2.1 b.2.2 i)
def wQ (a b c:Int) (d:List Edge):Option ((Int × Int × List Edge × Int) ⊕ (Int × Int × List Edge)):=
 some (.inl (b,c,d,wr (a - 1)))
def wR (a b c:Int) (d:List Edge):Option ((Int × Int × List Edge × Int) ⊕ (Int × Int × List Edge)):=
 wQ a b c d
def sM (a b c:Int) (d:List Edge):Option ((Int × Int × List Edge × Int) ⊕ (Int × Int × List Edge)):=
 some (.inl (b,c,d,wr (a+1)))
def sO (c:(List UInt8)) (d:(Int × Int × Int)) (e f:Int) (g:List Edge) (b:Int) (h:List Int):Option ((Int × Int × List Edge × Int) ⊕ (Int × Int × List Edge)):=
 ob (eE c e f h) fun a=>
 ob (tY g ([⟨b,d.1,a.1⟩]:List Edge)) fun i=>
 sM b a.2.1 a.2.2 i
def sP (a:Int) (b:List Int):Option ((List Int × Int) ⊕ (List Int)):=
 some (.inl (b,wr (a+1)))
def kQ (c d:(Int × Int × Int)) (e:List Int) (f:(Int × Int × Int)) (b:List Int) (a:Int):Option ((List Int × Int) ⊕ (List Int)):=
 if (decide (a < wr ((wr (1+c.1))+d.1))) then (ob (ix e a) fun g=>
 if (g == f.1) then (ob (tY b ([a]:List Int)) fun h=>
 sP a h) else (sP a b)) else (some (.inr b))
def pI (h:(List UInt8)) (e f:(Int × Int × Int)) (g:List Int) (i j k:(Int × Int × Int)) (b c:Int) (d:List Edge) (a:Int):Option ((Int × Int × List Edge × Int) ⊕ (Int × Int × List Edge)):=
 if (decide (a < wr ((wr (1+e.1))+f.1))) then (ob (ix g a) fun l=>
 if (l != i.1) then (sM a b c d) else (ob (loop (fun (s:(List Int × Int))=>kQ e f g k s.1 s.2) (([]:List Int),0)) fun r=>sO h j b c d a r)) else (some (.inr (b,c,d)))
def nE (a:(List UInt8)) (b k:(Int × Int × Int)) (l:((List aF) × Int × Int)) (m:List Int) (g h:Int) (i:List Edge) (j:Int):Option ((Int × Int × List Edge × Int) ⊕ (Int × Int × List Edge)):=
 if (decide (0 < j)) then (ob (bC a g h (wr (1+b.1))) fun c=>
 ob (bC a c.2.1 c.2.2 (l.1.length:Int)) fun d=>
 ob (bC a d.2.1 d.2.2 (wr (1+b.1))) fun e=>
 ob (loop (fun (s:(Int × Int × List Edge × Int))=>pI a b k m c d e s.1 s.2.1 s.2.2.1 s.2.2.2) (e.2.1,e.2.2,i,0)) fun r=>wR j r.1 r.2.1 r.2.2) else (some (.inr (g,h,i)))
def qW (a:(List UInt8)) (b e:(Int × Int × Int)) (f:((List aF) × Int × Int)) (g h:Int) (i:List Int):Option (cR × Int × Int):=
 ob (bC a g h (wr (2+(wr (2 * (wr (1+b.1))))))) fun c=>
 ob (loop (fun (s:(Int × Int × List Edge × Int))=>nE a b e f i s.1 s.2.1 s.2.2.1 s.2.2.2) (c.2.1,c.2.2,([]:List Edge),c.1)) fun r=>sL a b e f r.1 r.2.1 r.2.2
def nF (a b c:Int) (d:List Int):Option ((Int × Int × List Int × Int) ⊕ (Int × Int × List Int)):=
 some (.inl (b,c,d,wr (a+1)))
def nG (g:(List UInt8)) (b h:(Int × Int × Int)) (c d:Int) (e:List Int) (a:Int):Option ((Int × Int × List Int × Int) ⊕ (Int × Int × List Int)):=
 if (decide (a < wr ((wr (1+b.1))+h.1))) then (if (decide (a < wr (1+b.1))) then (ob (tY e ([a]:List Int)) fun i=>
 nF a c d i) else (ob (bC g c d (wr (1+b.1))) fun f=>
 ob (tY e ([f.1]:List Int)) fun j=>
 nF a f.2.1 f.2.2 j)) else (some (.inr (c,d,e)))
def wA (a:(List UInt8)) (f g:Int):Option (cR × Int × Int):=
 ob (bC a f g 4) fun b=>
 ob (bC a b.2.1 b.2.2 (wr (7 - (wr (1+b.1))))) fun c=>
 ob (sJ a c.2.1 c.2.2) fun d=>
 ob (loop (fun (s:(Int × Int × List Int × Int))=>nG a b c s.1 s.2.1 s.2.2.1 s.2.2.2) (d.2.1,d.2.2,([]:List Int),0)) fun r=>qW a b c d r.1 r.2.1 r.2.2
def oK (c:(List UInt8)) (d e:Int) (b:(List aF)):Option (aF × Int × Int):=
 ob (bC c d e (b.length:Int)) fun a=>
 ob (ix b a.1) fun f=>
 some (f,a.2.1,a.2.2)
def eX (a b:Int) (c:List aF) (d:List Edge) (e f:Int):Option (cR × Int × Int):=
 some (⟨a,b,c,d⟩,e,f)
def aBe (c:(List UInt8)) (n o:Int) (t:cR):Option (cR × Int × Int):=
 ob (aEQ t) fun a=>
 ob (iT c n o 8) fun d=>
 if (!d.1) then (some (a,d.2.1,d.2.2)) else (ob (bC c d.2.1 d.2.2 8) fun b=>
 if (b.1 == 0) then (ob (eE c b.2.1 b.2.2 ([0,(-1),41,40,wr (a.N - 1)]:List Int)) fun g=>
 eX g.1 a.I a.L a.E g.2.1 g.2.2) else (if (b.1 == 1) then (ob (eE c b.2.1 b.2.2 ([(-1),a.N]:List Int)) fun h=>
 eX a.N h.1 a.L a.E h.2.1 h.2.2) else (if (b.1 == 2) then (ob (ix a.L 0) fun x=>
 ob (st a.L 0 (([97]:aF):aF)) fun q=>
 eX a.N a.I q a.E b.2.1 b.2.2) else (if (b.1 == 3) then (ob (oK c b.2.1 b.2.2 ([([116,97,117]:aF),([97]:aF),([122,122]:aF),([65]:aF),([]:aF)]:List aF)) fun i=>
 ob (tY a.L ([i.1]:List aF)) fun r=>
 eX a.N a.I r a.E i.2.1 i.2.2) else (if (b.1 == 4) then (if (decide (0 < (a.E.length:Int))) then (ob (ix a.E 0) fun s=>
 ob (tY a.E ([s]:List Edge)) fun u=>
 eX a.N a.I a.L u b.2.1 b.2.2) else (eX a.N a.I a.L a.E b.2.1 b.2.2)) else (if (b.1 == 5) then (if (decide (0 < (a.E.length:Int))) then (ob (bC c b.2.1 b.2.2 (a.E.length:Int)) fun e=>
 ob (eE c e.2.1 e.2.2 ([(-1),(a.L.length:Int),0]:List Int)) fun j=>
 ob (ix a.E e.1) fun l=>
 ob (st a.E e.1 (⟨l.F,j.1,l.To⟩:Edge)) fun v=>
 eX a.N a.I a.L v j.2.1 j.2.2) else (eX a.N a.I a.L a.E b.2.1 b.2.2)) else (if (b.1 == 6) then (if (decide (0 < (a.E.length:Int))) then (ob (bC c b.2.1 b.2.2 (a.E.length:Int)) fun f=>
 ob (eE c f.2.1 f.2.2 ([(-1),a.N,0]:List Int)) fun k=>
 ob (ix a.E f.1) fun m=>
 ob (st a.E f.1 (⟨m.F,m.B,k.1⟩:Edge)) fun w=>
 eX a.N a.I a.L w k.2.1 k.2.2) else (eX a.N a.I a.L a.E b.2.1 b.2.2)) else (if (b.1 == 7) then (eX a.N a.I ([]:List aF) a.E b.2.1 b.2.2) else (eX a.N a.I a.L a.E b.2.1 b.2.2)))))))))
def aFx (c:(List UInt8)) (d e:Int):Option (cR × Int × Int):=
 ob (wA c d e) fun a=>
 ob (aBe c a.2.1 a.2.2 a.1) fun b=>
 some (b.1,b.2.1,b.2.2)
def pJ (a:(List UInt8)) (e f:Int):Option (aO × Int × Int):=
 ob (bC a e f 2) fun b=>
 ob (oK a b.2.1 b.2.2 ([([]:aF),([]:aF),([97]:aF),([98]:aF),([116,97,117]:aF),([103,101,116,42]:aF),([103,101,116,40,48,41]:aF),([99]:aF)]:List aF)) fun c=>
 ob (iT a c.2.1 c.2.2 6) fun d=>
 some (⟨wr (4+b.1),0,c.1,d.1⟩,d.2.1,d.2.2)
def mG (c:(List UInt8)) (f:(List Int)) (d e:Int) (g:Bool):Option ((List aO) × Int × Int):=
 if g then (ob (eE c d e f) fun a=>
 some (([⟨6,a.1,([]:aF),false⟩]:List aO),a.2.1,a.2.2)) else (ob (bC c d e 2) fun b=>
 some (([⟨b.1,0,([]:aF),false⟩]:List aO),b.2.1,b.2.2))
def yI (a:List aO) (b c:Int):Option ((List aO) × Int × Int):=
 some (a,b,c)
def tM (c:(List UInt8)->Int->Int->(List Int)->Int->Option ((List aO) × Int × Int)) (d:(List UInt8)) (e:Int) (f a:(Int × Int × Int)) (g:List Int):Option ((List aO) × Int × Int):=
 ob (c d a.2.1 a.2.2 g (wr (e - 1))) fun b=>
 ob (tY ([⟨wr (7+f.1),a.1,([]:aF),false⟩]:List aO) b.1) fun h=>
 yI h b.2.1 b.2.2
def tN (e:(List UInt8)->Int->Int->(List Int)->Int->Option ((List aO) × Int × Int)) (d:(List UInt8)) (f:Int) (g a:(Int × Int × Int)) (h:Int) (i:List Int):Option ((List aO) × Int × Int):=
 ob (qu f 2) fun j=>
 ob (e d a.2.1 a.2.2 i j) fun b=>
 ob (tY ([⟨wr (7+g.1),a.1,([]:aF),false⟩,⟨h,0,([]:aF),false⟩]:List aO) b.1) fun k=>
 ob (pJ d b.2.1 b.2.2) fun c=>
 ob (tY k ([c.1]:List aO)) fun l=>
 ob (tY l ([⟨6,a.1,([]:aF),false⟩]:List aO)) fun m=>
 some (m,c.2.1,c.2.2)
def mH (b:(List UInt8)->Int->Int->(List Int)->Int->Option ((List aO) × Int × Int)) (c:(List UInt8)) (d:(List Int)) (e:Int) (f a:(Int × Int × Int)) (g:Int):Option ((List aO) × Int × Int):=
 ob (aER d) fun h=>
 ob (tY h ([a.1]:List Int)) fun i=>
 tN b c e f a g i
def mI (c:(List UInt8)->Int->Int->(List Int)->Int->Option ((List aO) × Int × Int)) (a:(List UInt8)) (d:(List Int)) (e:Int) (b:(Int × Int × Int)) (o:Bool):Option ((List aO) × Int × Int):=
 if o then (ob (bC a b.2.1 b.2.2 2) fun h=>
 ob (qu (wr (e - 1)) 2) fun p=>
 ob (c a h.2.1 h.2.2 d p) fun i=>
 ob (qu (wr (e - 1)) 2) fun q=>
 ob (c a i.2.1 i.2.2 d q) fun j=>
 ob (tY ([⟨wr (2+h.1),0,([]:aF),false⟩]:List aO) i.1) fun r=>
 ob (tY r j.1) fun s=>
 some (s,j.2.1,j.2.2)) else (if (b.1 == 4) then (ob (bC a b.2.1 b.2.2 2) fun k=>
 ob (bC a k.2.1 k.2.2 3) fun m=>
 ob (aER d) fun t=>
 ob (tY t ([m.1]:List Int)) fun u=>
 tM c a e k m u) else (ob (iT a b.2.1 b.2.2 2) fun f=>
 if f.1 then (ob (qu e 2) fun v=>
 ob (c a f.2.1 f.2.2 d v) fun l=>
 some (l.1,l.2.1,l.2.2)) else (ob (bC a f.2.1 f.2.2 2) fun g=>
 ob (bC a g.2.1 g.2.2 2) fun n=>
 if ((wr (7+g.1)) == 8) then (mH c a d e g n 2) else (mH c a d e g n 3))))
def iI (c:(List UInt8)->Int->Int->(List Int)->Int->Option ((List aO) × Int × Int)) (b:(List UInt8)) (d:(List Int)) (e:Int) (a:(Int × Int × Int)) (h:Bool):Option ((List aO) × Int × Int):=
 if h then (ob (pJ b a.2.1 a.2.2) fun f=>
 ob (c b f.2.1 f.2.2 d (wr (e - 1))) fun g=>
 ob (tY ([f.1]:List aO) g.1) fun i=>
 some (i,g.2.1,g.2.2)) else (if (a.1 == 2) then (mI c b d e a (a.1 == 2)) else (mI c b d e a (a.1 == 3)))
def qX (h:(List UInt8)->Int->Int->(List Int)->Int->Option ((List aO) × Int × Int)) (a:(List UInt8)) (d e:Int) (b:(List Int)) (f:Int):Option ((List aO) × Int × Int):=
 if (decide (f<=0)) then (if (decide (0 < (b.length:Int))) then (ob (bC a d e 4) fun g=>
 mG a b g.2.1 g.2.2 (decide (0 < g.1))) else (mG a b d e false)) else (ob (bC a d e 6) fun c=>
 if (c.1 == 0) then (iI h a b f c (c.1 == 0)) else (iI h a b f c (c.1 == 1)))
def jL:Nat->(List UInt8)->Int->Int->(List Int)->Int->Option ((List aO) × Int × Int)
 |0=>fun _ _ _ _ _=>none
 |n+1=>qX (jL n)
def aCS (a:(List UInt8)) (b c:Int) (d:(List Int)) (e:Int):Option ((List aO) × Int × Int):=
 jL 100000 a b c d e
def mQ (c:((List aO) × Int × Int)) (d:Bool) (a b:Int):Option ((List aO) × Int × Int):=
 if d then (some (([⟨7,1,([]:aF),false⟩,⟨4,0,([97]:aF),false⟩,⟨6,1,([]:aF),false⟩]:List aO),a,b)) else (some (c.1,a,b))
def zV (c:(List UInt8)) (e f:Int):Option ((List aO) × Int × Int):=
 ob (bC c e f 8) fun d=>
 ob (aCS c d.2.1 d.2.2 ([]:List Int) (wr (1+d.1))) fun a=>
 if (decide (16 < (a.1.length:Int))) then (ob (iT c a.2.1 a.2.2 4) fun b=>
 if (!b.1) then (mQ a true b.2.1 b.2.2) else (mQ a (decide (30 < (a.1.length:Int))) b.2.1 b.2.2)) else (mQ a (decide (30 < (a.1.length:Int))) a.2.1 a.2.2)
def nT (a:List aO) (b c:Int):Option ((List aO) × Int × Int):=
 some (a,b,c)
def aDS (a:List aO) (b c:Int):Option ((List aO) × Int × Int):=
 nT a b c
def tO (c:(List UInt8)) (d e:Int) (b:List aO):Option ((Int × Int × List aO) ⊕ (List aO × Int × Int)):=
 ob (bC c d e 3) fun a=>
 if (decide ((b.length:Int) < wr (29+a.1))) then (ob (tY ([⟨4,0,([]:aF),false⟩]:List aO) b) fun f=>
 some (.inl (a.2.1,a.2.2,f))) else (some (.inr (b,a.2.1,a.2.2)))
def aDl (d:(List UInt8)) (n o:Int) (p:(List aO)):Option ((List aO) × Int × Int):=
 ob (tY ([]:List aO) p) fun b=>
 ob (iT d n o 8) fun e=>
 if (!e.1) then (some (b,e.2.1,e.2.2)) else (ob (bC d e.2.1 e.2.2 (b.length:Int)) fun c=>
 ob (bC d c.2.1 c.2.2 6) fun a=>
 if (a.1 == 0) then (ob (bC d a.2.1 a.2.2 11) fun g=>
 ob (ix b c.1) fun h=>
 ob (st b c.1 (⟨wr (g.1 - 1),h.Variable,h.B,h.Not⟩:aO)) fun q=>
 nT q g.2.1 g.2.2) else (if (a.1 == 1) then (ob (eE d a.2.1 a.2.2 ([(-1),0,1,2,3]:List Int)) fun i=>
 ob (ix b c.1) fun j=>
 ob (st b c.1 (⟨j.Kind,i.1,j.B,j.Not⟩:aO)) fun t=>
 nT t i.2.1 i.2.2) else (if (a.1 == 2) then (ob (oK d a.2.1 a.2.2 ([([97]:aF),([]:aF),([116,97,117,42]:aF),([97,40,54,52,41]:aF),([103,101,116,42]:aF)]:List aF)) fun k=>
 ob (ix b c.1) fun l=>
 ob (st b c.1 (⟨l.Kind,l.Variable,k.1,l.Not⟩:aO)) fun u=>
 nT u k.2.1 k.2.2) else (if (a.1 == 3) then (ob (ix b c.1) fun f=>
 ob (st b c.1 (⟨f.Kind,f.Variable,f.B,!f.Not⟩:aO)) fun v=>
 nT v a.2.1 a.2.2) else (if (a.1 == 4) then (ob (slc b 0 c.1) fun w=>
 some (w,a.2.1,a.2.2)) else (if (a.1 == 5) then (ob (loop (fun (s:(Int × Int × List aO))=>tO d s.1 s.2.1 s.2.2) (a.2.1,a.2.2,b)) fun r=>aDS r.1 r.2.1 r.2.2) else (nT b a.2.1 a.2.2)))))))
def aFy (c:(List UInt8)) (d e:Int):Option ((List aO) × Int × Int):=
 ob (zV c d e) fun a=>
 ob (aDl c a.2.1 a.2.2 a.1) fun b=>
 some (b.1,b.2.1,b.2.2)
def aCr (a:(Int × Int × Int)) (b:List Edge):Option (cR × Int × Int):=
 some (⟨wr (15+a.1),0,([([116,97,117]:aF),([97]:aF),([98]:aF),([99]:aF),([100]:aF),([101]:aF),([102]:aF),([103]:aF),([104]:aF)]:List aF),b⟩,a.2.1,a.2.2)
def sC (a:Int) (b:List Edge):Option ((List Edge × Int) ⊕ (List Edge)):=
 some (.inl (b,wr (a+1)))
def wS (a:Int) (b:List Edge):Option ((List Edge × Int) ⊕ (List Edge)):=
 sC a b
def nU (d:(Int × Int × Int)) (b:Int) (c:List Edge) (a:Int) (e:Bool):Option ((List Edge × Int) ⊕ (List Edge)):=
 if e then (ob (rm (wr (b+a)) (wr (15+d.1))) fun f=>
 ob (tY c ([⟨b,a,f⟩]:List Edge)) fun g=>
 some (.inl (g,wr (a+1)))) else (some (.inr c))
def lB (c:(Int × Int × Int)) (d:Int) (a:List Edge) (b:Int):Option ((List Edge × Int) ⊕ (List Edge)):=
 if (decide (b < 8)) then (nU c d a b (decide ((a.length:Int) < 300))) else (nU c d a b false)
def lC (b:(Int × Int × Int)) (c:List Edge) (a:Int):Option ((List Edge × Int) ⊕ (List Edge)):=
 if (decide (a < wr (15+b.1))) then (ob (loop (fun (s:(List Edge × Int))=>lB b a s.1 s.2) (c,0)) fun r=>wS a r) else (some (.inr c))
def sQ (b:(List UInt8)) (c d:Int):Option (cR × Int × Int):=
 ob (bC b c d 26) fun a=>
 ob (loop (fun (s:(List Edge × Int))=>lC a s.1 s.2) (([]:List Edge),0)) fun r=>aCr a r
def tP (a:(cR × Int × Int)) (b:List aO) (c d:Int):Option ((List aO) × cR × Int × Int):=
 some (b,a.1,c,d)
def uN (b:(List UInt8)) (g h:Int):Option ((List aO) × cR × Int × Int):=
 ob (aFx b g h) fun c=>
 ob (aFy b c.2.1 c.2.2) fun d=>
 ob (iT b d.2.1 d.2.2 40) fun a=>
 if a.1 then (ob (sQ b a.2.1 a.2.2) fun e=>
 some (d.1,e.1,e.2.1,e.2.2)) else (if (decide (36 < wr ((d.1.length:Int) * c.1.N))) then (ob (bC b a.2.1 a.2.2 4) fun f=>
 ob (ix ([([⟨7,0,([]:aF),false⟩,⟨3,0,([]:aF),false⟩,⟨5,0,([97]:aF),false⟩,⟨1,0,([]:aF),false⟩,⟨4,0,([]:aF),false⟩,⟨6,0,([]:aF),false⟩]:List aO),([⟨8,0,([]:aF),false⟩,⟨2,0,([]:aF),false⟩,⟨4,0,([97]:aF),false⟩,⟨0,0,([]:aF),false⟩,⟨5,0,([]:aF),false⟩,⟨6,0,([]:aF),false⟩]:List aO),([⟨8,0,([]:aF),false⟩,⟨7,1,([]:aF),false⟩,⟨3,0,([]:aF),false⟩,⟨4,0,([97]:aF),false⟩,⟨6,0,([]:aF),false⟩,⟨4,0,([]:aF),false⟩,⟨6,1,([]:aF),false⟩]:List aO),([⟨5,0,([98]:aF),false⟩,⟨4,0,([]:aF),false⟩,⟨0,0,([]:aF),false⟩]:List aO)]:List (List aO)) f.1) fun i=>
 tP c i f.2.1 f.2.2) else (tP c d.1 a.2.1 a.2.2))
def aAP (a:(List UInt8)) (b c:Int):Option ((List aO) × cR):=
 ob (wA a b c) fun d=>
 some (([⟨4,0,([97]:aF),false⟩,⟨0,0,([]:aF),false⟩]:List aO),d.1)
def nV (b:Int) (a:((List aO) × cR × Int × Int)) (c:Bool):Option ((Int × Int × Int) ⊕ ((Int × Int) ⊕ ((List aO) × cR))):=
 if c then (some (.inr (.inr (a.1,a.2.1)))) else (some (.inl (a.2.2.1,a.2.2.2,wr (b+1))))
def tQ (e:(List UInt8)) (c d b:Int):Option ((Int × Int × Int) ⊕ ((Int × Int) ⊕ ((List aO) × cR))):=
 if (decide (b < 6)) then (ob (uN e c d) fun a=>
 ob (vA a.1) fun f=>
 if f then (ob (aCq a.2.1) fun g=>
 if g then (nV b a (decide (a.2.1.N < 8))) else (nV b a false)) else (nV b a false)) else (some (.inr (.inl (c,d))))
def aDm (b:(List UInt8)):Option ((List aO) × cR):=
 ob (aHw b) fun c=>
 ob (loop (fun (s:(Int × Int × Int))=>tQ b s.1 s.2.1 s.2.2) (c.1,c.2,0)) fun r=>match r with|.inl r=>aAP b r.1 r.2|.inr r=>some r
def rL (t:cR) (k:Int):Option Bool:=
 ob (lO k 0 (wr (t.N - 1))) fun c=>
 some c
def aGV (i many:Int):Option Bool:=
 ob (lO i 0 (wr (many - 1))) fun b=>
 some b
def mR (a:Int):Option Bool:=
 some (a != a)
def dL (a y:Int):Option Int:=
 ob (mR a) fun d=>
 ob (mR y) fun c=>
 if d then (if c then (some 0) else (some (-1))) else (if c then (some 1) else (if (decide (a < y)) then (some (-1)) else (if (decide (y < a)) then (some 1) else (some 0))))
def yJ:Option Int:=
 some 0
def iJ (b:(List Int)) (a:Int):Option (Int ⊕ (Unit ⊕ Int)):=
 if (decide (a < (b.length:Int))) then (ob (ix b a) fun c=>
 if (c != 0) then (some (.inr (.inr c))) else (some (.inl (wr (a+1))))) else (some (.inr (.inl ())))
def uO (b:(List Int)):Option Int:=
 ob (loop (fun (s:Int)=>iJ b s) 0) fun r=>match r with|.inl r=>yJ|.inr r=>some r
def sS (a b:Edge):Option Int:=
 ob (dL a.F b.F) fun e=>
 ob (dL a.B b.B) fun f=>
 ob (dL a.To b.To) fun g=>
 ob (uO ([e,f,g]:List Int)) fun h=>
 some h
def aFT:Option Bool:=
 some true
def oL (a:Int) (b:Bool):Option (Int ⊕ (Unit ⊕ Bool)):=
 if b then (some (.inr (.inr false))) else (some (.inl (wr (a+1))))
def uP (t:cR) (a:Int):Option (Int ⊕ (Unit ⊕ Bool)):=
 if (decide (a < (t.E.length:Int))) then (ob (ix t.E a) fun c=>
 ob (rL t c.F) fun d=>
 if (!d) then (oL a true) else (ob (rL t c.To) fun e=>
 if (!e) then (oL a true) else (ob (aGV c.B (t.L.length:Int)) fun f=>
 if (!f) then (oL a true) else (if (decide (0 < a)) then (ob (ix t.E (wr (a - 1))) fun g=>
 ob (sS g c) fun h=>
 oL a (decide (0<=h))) else (oL a false))))) else (some (.inr (.inl ())))
def yV (t:cR):Option Bool:=
 ob (loop (fun (s:Int)=>uP t s) 0) fun r=>match r with|.inl r=>aFT|.inr r=>some r
def rM (a:Int) (b:Bool):Option (Int ⊕ (Unit ⊕ Bool)):=
 if b then (some (.inr (.inr false))) else (some (.inl (wr (a+1))))
def uQ (t:cR) (a:Int):Option (Int ⊕ (Unit ⊕ Bool)):=
 if (decide (a < (t.L.length:Int))) then (ob (ix t.L a) fun b=>
 ob (aAZ b) fun e=>
 if (!e) then (rM a true) else (if ((b == ([116,97,117]:aF)) != (a == 0)) then (rM a true) else (if (decide (1 < a)) then (ob (ix t.L (wr (a - 1))) fun d=>
 rM a (yD b d||b == d)) else (rM a false)))) else (some (.inr (.inl ())))
def oM (t:cR) (c:Bool):Option Bool:=
 if c then (some false) else (ob (loop (fun (s:Int)=>uQ t s) 0) fun r=>match r with|.inl r=>yV t|.inr r=>some r)
def aBB (t:cR):Option Bool:=
 ob (lO t.N 1 40) fun b=>
 if (!b) then (oM t true) else (ob (rL t t.I) fun c=>
 if (!c) then (oM t true) else (ob (lO (t.L.length:Int) 1 12) fun d=>
 if (!d) then (oM t true) else (oM t (decide (300 < (t.E.length:Int))))))
def jW (a:Bool):Option Int:=
 if a then (some 1) else (some 0)
def mS (n:aO) (b:Bool):Option Int:=
 if b then (some 2) else (if (n.Kind == 4) then (jW (n.Kind == 4)) else (if (n.Kind == 5) then (jW (n.Kind == 5)) else (if (n.Kind == 7) then (jW (n.Kind == 7)) else (jW (n.Kind == 8)))))
def lG (n:aO):Option Int:=
 if (n.Kind == 2) then (mS n (n.Kind == 2)) else (mS n (n.Kind == 3))
def aGW (a:Int):Option Bool:=
 some (a == 0)
def qF (c:(List aO)) (a b:Int):Option ((Int × Int) ⊕ (Int ⊕ Bool)):=
 if (decide (b < (c.length:Int))) then (ob (ix c b) fun d=>
 if (a == 0) then (some (.inr (.inr false))) else (ob (lG d) fun e=>
 some (.inl (wr (a+(wr (e - 1))),wr (b+1))))) else (some (.inr (.inl a)))
def aDn (b:(List aO)):Option Bool:=
 ob (loop (fun (s:(Int × Int))=>qF b s.1 s.2) (1,0)) fun r=>match r with|.inl r=>aGW r|.inr r=>some r
def nW (a:Bool):Option Bool:=
 some a
def lD (n:aO):Option Bool:=
 if (n.Kind == 4) then (nW true) else (nW (n.Kind == 5))
def iV (a b:aF):Option (aF × Bool):=
 ob (cZ a b) fun c=>
 if (!c) then (some (a,false)) else (ob (slc a 0 (wr ((a.length:Int) - (b.length:Int)))) fun d=>
 some (d,true))
def gR (b c:aF):Option (aF × Bool):=
 ob (iV b c) fun a=>
 some (a.1,a.2)
def mT (a:Bool):Option Bool:=
 some a
def pW (a:aF):Option Bool:=
 ob (gR a ([42]:aF)) fun b=>
 if (a == ([]:aF)) then (mT true) else (ob (aAZ a) fun c=>
 if c then (mT true) else (if b.2 then (ob (yE b.1) fun d=>
 mT d) else (mT false)))
def qG (a:Bool):Option Bool:=
 some a
def lH (n:aO):Option Bool:=
 ob (lD n) fun b=>
 if b then (ob (pW n.B) fun c=>
 some c) else (if (n.B == ([]:aF)) then (qG (!n.Not)) else (qG false))
def sD (a:Bool):Option Bool:=
 some a
def iW (n:aO):Option Bool:=
 if (n.Kind == 7) then (sD true) else (sD (n.Kind == 8))
def nX (n:aO) (b:Bool):Option Bool:=
 if b then (ob (lO n.Variable 0 2) fun c=>
 some c) else (some (n.Variable == 0))
def pK (n:aO):Option Bool:=
 ob (iW n) fun b=>
 if b then (nX n true) else (nX n (n.Kind == 6))
def aAn (a:Int):Option Int:=
 some a
def lI (c:(List aO)) (a b:Int):Option ((Int × Int) ⊕ Int):=
 if (decide (0 < b)) then (ob (ix c a) fun d=>
 ob (lG d) fun e=>
 some (.inl (wr (a+1),wr (b+(wr (e - 1)))))) else (some (.inr a))
def kI (a:(List aO)) (k:Int):Option Int:=
 ob (loop (fun (s:(Int × Int))=>lI a s.1 s.2) (k,1)) fun r=>aAn r
def aHX:Option Int:=
 some (-1)
def lZ (a:Int) (b:Bool):Option (Int ⊕ (Unit ⊕ Int)):=
 if b then (some (.inr (.inr a))) else (some (.inl (wr (a - 1))))
def eF (b:(List aO)) (k a:Int):Option (Int ⊕ (Unit ⊕ Int)):=
 if (decide (0<=a)) then (ob (ix b a) fun d=>
 ob (iW d) fun e=>
 if e then (ob (ix b k) fun f=>
 if (d.Variable == f.Variable) then (ob (kI b a) fun g=>
 lZ a (decide (k < g))) else (lZ a false)) else (lZ a false)) else (some (.inr (.inl ())))
def pL (c:(List aO)) (k:Int):Option Int:=
 ob (loop (fun (s:Int)=>eF c k s) (wr (k - 1))) fun r=>match r with|.inl r=>aHX|.inr r=>some r
def aCs:Option Bool:=
 some true
def gU (a:Int) (b:Bool):Option (Int ⊕ (Unit ⊕ Bool)):=
 if b then (some (.inr (.inr false))) else (some (.inl (wr (a+1))))
def gV (c:(List aO)) (a:Int):Option (Int ⊕ (Unit ⊕ Bool)):=
 if (decide (a < (c.length:Int))) then (ob (ix c a) fun b=>
 ob (lO b.Kind 0 8) fun d=>
 if (!d) then (gU a true) else (ob (lH b) fun e=>
 if (!e) then (gU a true) else (ob (pK b) fun f=>
 if (!f) then (gU a true) else (if (b.Kind == 6) then (ob (pL c a) fun g=>
 gU a (decide (g < 0))) else (gU a false))))) else (some (.inr (.inl ())))
def nY (b:(List aO)) (c:Bool):Option Bool:=
 if c then (some false) else (ob (loop (fun (s:Int)=>gV b s) 0) fun r=>match r with|.inl r=>aCs|.inr r=>some r)
def mU (a:(List aO)):Option Bool:=
 ob (lO (a.length:Int) 1 30) fun b=>
 if (!b) then (nY a true) else (ob (aDn a) fun c=>
 nY a (!c))
def yK (a:(List aO)):Option Bool:=
 ob (mU a) fun b=>
 some (!b)
def gL:Option Int:=
 some (-1)
def bR (b:(List (List aO))) (a:Int):Option (Int ⊕ (Unit ⊕ Int)):=
 if (decide (a < (b.length:Int))) then (ob (ix b a) fun c=>
 ob (yK c) fun d=>
 if d then (some (.inr (.inr a))) else (some (.inl (wr (a+1))))) else (some (.inr (.inl ())))
def cJ (b:(List (List aO))):Option Int:=
 ob (loop (fun (s:Int)=>bR b s) 0) fun r=>match r with|.inl r=>gL|.inr r=>some r
def eA (a:(List (List aO))):Option Bool:=
 ob (cJ a) fun b=>
 some (decide (0<=b))
def yL (a:Bool):Option Int:=
 if a then (some 1) else (some 0)
def oN (t:cR) (b:(List (List aO))):Option Int:=
 ob (aBB t) fun c=>
 if (!c) then (yL true) else (ob (eA b) fun d=>
 yL d)
def vB (a:Bool):Option Int:=
 if a then (some 1) else (some 0)
def aEm (a:List Int):Option (List Int):=
 some a
def bO (d:(List aO)) (e:Int) (a:List Int) (b c:Int):Option ((List Int × Int × Int) ⊕ (List Int)):=
 if (decide (c < e)) then (ob (tY a ([b]:List Int)) fun f=>
 ob (kI d b) fun g=>
 some (.inl (f,g,wr (c+1)))) else (some (.inr a))
def hX (a:(List aO)) (k:Int):Option (List Int):=
 ob (ix a k) fun c=>
 ob (lG c) fun d=>
 ob (loop (fun (s:(List Int × Int × Int))=>bO a d s.1 s.2.1 s.2.2) ([],wr (k+1),0)) fun r=>aEm r
def aDT (a:List Edge):Option (List Edge):=
 some a
def wT (a:Int) (b:List Edge):Option ((List Edge × Int) ⊕ (List Edge)):=
 some (.inl (b,wr (a+1)))
def wU (t:cR) (k:Int) (b:List Edge) (a:Int):Option ((List Edge × Int) ⊕ (List Edge)):=
 if (decide (a < (t.E.length:Int))) then (ob (ix t.E a) fun d=>
 if (d.F == k) then (ob (tY b ([d]:List Edge)) fun f=>
 wT a f) else (wT a b)) else (some (.inr b))
def aDo (t:cR) (k:Int):Option (List Edge):=
 ob (loop (fun (s:(List Edge × Int))=>wU t k s.1 s.2) ([],0)) fun r=>aDT r
def aCt (a:aF):Option aF:=
 ob (sF a) fun b=>
 some b.1
def iX (n:aO) (b:Bool):Option Bool:=
 some (b != n.Not)
def gY (n:aO) (b:aF):Option Bool:=
 ob (gR n.B ([42]:aF)) fun c=>
 if (n.B == ([]:aF)) then (iX n true) else (if (n.B == b) then (iX n true) else (if c.2 then (ob (aCt b) fun d=>
 iX n (d == c.1)) else (iX n false)))
def aGX (a:Int):Option Int:=
 some a
def tR (a b:Int):Option ((Int × Int) ⊕ Int):=
 some (.inl (b,wr (a+1)))
def qH (a b:Int) (c:Bool):Option ((Int × Int) ⊕ Int):=
 if c then (tR b (wr (a+1))) else (tR b a)
def fL (c:(List aO)) (k b a:Int):Option ((Int × Int) ⊕ Int):=
 if (decide (a < k)) then (ob (ix c a) fun e=>
 ob (iW e) fun f=>
 if f then (ob (kI c a) fun g=>
 qH b a (decide (k < g))) else (qH b a false)) else (some (.inr b))
def wB (a:(List aO)) (k:Int):Option Int:=
 ob (loop (fun (s:(Int × Int))=>fL a k s.1 s.2) (0,0)) fun r=>aGX r
def dT (a:(List Int)):Option (List Int):=
 ob (tY ([]:List Int) a) fun b=>
 some b
def mV (a:(List Int)):Option (List Int):=
 some a
def eY (a:Int):Option (Int ⊕ (Unit ⊕ (List Int))):=
 some (.inl (wr (a+1)))
def eZ (a:List Int) (b:Int):Option (Int ⊕ (Unit ⊕ (List Int))):=
 ob (slc a b (a.length:Int)) fun c=>
 ob (ovw a b (List.replicate c.length (0:Int))) fun d=>
 ob (slc d 0 b) fun e=>
 some (.inr (.inr e))
def dN (a:Int) (b:List Int) (c:Int):Option ((List Int × Int × Int) ⊕ (List Int × Int)):=
 some (.inl (b,c,wr (a+1)))
def dO (e:Int) (d b:List Int) (c a:Int):Option ((List Int × Int × Int) ⊕ (List Int × Int)):=
 if (decide (a < (d.length:Int))) then (ob (ix d a) fun i=>
 ob (ix b (e+a)) fun f=>
 ob (ix d (wr (a - 1))) fun j=>
 ob (ix b (e+(wr (a - 1)))) fun g=>
 if (f != g) then (ob (ix b c) fun k=>
 ob (st b c (f:Int)) fun h=>
 dN a h (wr (c+1))) else (dN a b c)) else (some (.inr (b,c)))
def dP (b:(List Int)) (a:Int):Option (Int ⊕ (Unit ⊕ (List Int))):=
 if (decide (a < (b.length:Int))) then (ob (ix b a) fun d=>
 ob (ix b (wr (a - 1))) fun e=>
 if (d == e) then (ob (slc b a (b.length:Int)) fun f=>
 ob (loop (fun (s:(List Int × Int × Int))=>dO a f s.1 s.2.1 s.2.2) (b,a,1)) fun r=>eZ r.1 r.2) else (eY a)) else (some (.inr (.inl ())))
def eL (a:(List Int)):Option (List Int):=
 if (decide ((a.length:Int) < 2)) then (some a) else (ob (loop (fun (s:Int)=>dP a s) 1) fun r=>match r with|.inl r=>mV a|.inr r=>some r)
def wC (a:(List Int)):Option (List Int):=
 ob (dT a) fun b=>
 ob (aDe b) fun c=>
 ob (eL c) fun d=>
 some d
def mJ (a b f g:Int) (c:(List Int)) (p:cR):Option (List Int):=
 ob (tY c ([wr ((wr (a * p.N))+b)]:List Int)) fun e=>
 some e
def aBC (a:List (List Int)):Option (List (List Int)):=
 some a
def iD (b:Int) (c:aV) (d:List (List Int)) (a:Int):Option ((List (List Int) × Int) ⊕ (List (List Int))):=
 if (decide (a < (c.Next.length:Int))) then (ob (ix c.Next a) fun e=>
 ob (qu e b) fun f=>
 ob (rm e b) fun g=>
 ob (tY d ([([f,g]:List Int)]:List (List Int))) fun h=>
 some (.inl (h,wr (a+1)))) else (some (.inr d))
def qY (g:(List aV)) (a:Int) (p:(List Int)):Option (List (List Int)):=
 ob (ix p 0) fun d=>
 ob (ix p 1) fun e=>
 ob (ix g (wr ((wr (d * a))+e))) fun f=>
 ob (loop (fun (s:(List (List Int) × Int))=>iD a f s.1 s.2) ([],0)) fun r=>aBC r
def fA (a b:(List Int)):Option Int:=
 if (decide ((a.length:Int) < (b.length:Int))) then (some (-1)) else (some 0)
def cB (b c:(List Int)) (a:Int):Option (Int ⊕ (Unit ⊕ Int)):=
 if (decide (a < (b.length:Int))) then (ob (ix b a) fun e=>
 if (decide ((c.length:Int)<=a)) then (some (.inr (.inr 1))) else (ob (ix c a) fun f=>
 ob (dL e f) fun d=>
 if (d != 0) then (some (.inr (.inr d))) else (some (.inl (wr (a+1)))))) else (some (.inr (.inl ())))
def fR (b c:(List Int)):Option Int:=
 ob (loop (fun (s:Int)=>cB b c s) 0) fun r=>match r with|.inl r=>fA b c|.inr r=>some r
def vJ:Option Bool:=
 some false
def fB (b:(List aO)) (a:Int) (c:Bool):Option (Int ⊕ (Unit ⊕ Bool)):=
 if c then (ob (ix b a) fun d=>
 some (.inr (.inr (d.Kind == 8)))) else (some (.inl (wr (a - 1))))
def cO (b:(List aO)) (k a:Int):Option (Int ⊕ (Unit ⊕ Bool)):=
 if (decide (0<=a)) then (ob (ix b a) fun d=>
 ob (iW d) fun e=>
 if e then (ob (kI b a) fun f=>
 fB b a (decide (k < f))) else (fB b a false)) else (some (.inr (.inl ())))
def hY (c:(List aO)) (k:Int):Option Bool:=
 ob (loop (fun (s:Int)=>cO c k s) k) fun r=>match r with|.inl r=>vJ|.inr r=>some r
def nZ:Option Int:=
 some (-1)
def fM (b:(List Int)) (c a:Int):Option (Int ⊕ (Unit ⊕ Int)):=
 if (decide (a < (b.length:Int))) then (ob (ix b a) fun d=>
 if (c == d) then (some (.inr (.inr a))) else (some (.inl (wr (a+1))))) else (some (.inr (.inl ())))
def eU (b:(List Int)) (c:Int):Option Int:=
 ob (loop (fun (s:Int)=>fM b c s) 0) fun r=>match r with|.inl r=>nZ|.inr r=>some r
def aCT (a:List Int):Option (List Int):=
 ob (wC a) fun b=>
 some b
def rN (d b:(List Int)) (c:List Int) (a:Int):Option ((List Int × Int) ⊕ (List Int)):=
 if (decide (a < (b.length:Int))) then (ob (ix b a) fun e=>
 ob (eU d e) fun f=>
 ob (tY c ([f]:List Int)) fun g=>
 some (.inl (g,wr (a+1)))) else (some (.inr c))
def aBD (a b:(List Int)):Option (List Int):=
 ob (loop (fun (s:(List Int × Int))=>rN a b s.1 s.2) ([],0)) fun r=>aCT r
def aAv (a:List Int):Option (List Int):=
 some a
def lQ (b:List Int) (c a:Int):Option ((List Int × Int × Int) ⊕ (List Int)):=
 ob (tY b ([a]:List Int)) fun d=>
 some (.inl (d,a,wr (c+1)))
def oX (a:List Int) (b c:Int) (d:Bool):Option ((List Int × Int × Int) ⊕ (List Int)):=
 if d then (lQ a c (wr (b+1))) else (lQ a c b)
def fI (e:(List aS)) (c:List Int) (d a:Int):Option ((List Int × Int × Int) ⊕ (List Int)):=
 if (decide (a < (e.length:Int))) then (ob (ix e a) fun f=>
 if (decide (0 < a)) then (ob (ix e (wr (a - 1))) fun g=>
 oX c d a (f.Greatest != g.Greatest)) else (oX c d a false)) else (some (.inr c))
def mK (e:(List aS)):Option (List Int):=
 ob (loop (fun (s:(List Int × Int × Int))=>fI e s.1 s.2.1 s.2.2) ([],0,0)) fun r=>aAv r
def aCU (a:(List Int)):Option Int:=
 ob (ix a (wr ((a.length:Int) - 1))) fun b=>
 some b
def zW (e:(List aS)):Option Bool:=
 ob (mK e) fun b=>
 ob (aCU b) fun c=>
 some (decide (c < 9))
def uB (a:List aV):Option (List aV):=
 some a
def oY (a:Int) (b:List aV):Option ((List aV × Int) ⊕ (List aV)):=
 some (.inl (b,wr (a+1)))
def oZ (a:Int) (b:List aV):Option ((List aV × Int) ⊕ (List aV)):=
 oY a b
def pA (a:Int) (b:List aV):Option ((List aV × Int) ⊕ (List aV)):=
 some (.inl (b,wr (a+1)))
def jH (a:List aV) (b c:Int) (d:List Int) (e:Int):Option ((List aV × Int) ⊕ (List aV)):=
 ob (wC d) fun f=>
 ob (tY a ([⟨c,e,f⟩]:List aV)) fun g=>
 pA b g
def gS (f:(List aO)) (g:Int) (a:aO) (b:List aV) (c d:Int) (e:List Int):Option ((List aV × Int) ⊕ (List aV)):=
 ob (iW a) fun h=>
 if h then (ob (wB f g) fun i=>
 ob (vB (a.Kind == 7)) fun j=>
 jH b c d e (wr ((wr (2 * i))+j))) else (jH b c d e 1000)
def uC (a:(List aO)) (b:Int) (c:aO) (d:List aV) (e f:Int) (g:List Int):Option ((List aV × Int) ⊕ (List aV)):=
 gS a b c d e f g
def lR (a:Int) (b:List Int):Option ((List Int × Int) ⊕ (List Int)):=
 some (.inl (b,wr (a+1)))
def gT (t:cR) (f:aO) (g:(List Int)) (h:Int) (d:(List Edge)) (b:List Int) (a:Int):Option ((List Int × Int) ⊕ (List Int)):=
 if (decide (a < (d.length:Int))) then (ob (ix d a) fun e=>
 ob (ix t.L e.B) fun i=>
 ob (gY f i) fun j=>
 if j then (ob (ix g 0) fun k=>
 ob (mJ k e.To h 1000 b t) fun l=>
 lR a l) else (lR a b)) else (some (.inr b))
def sT (a:(List aO)) (b:Int) (c:aO) (d:List aV) (e f:Int) (g:List Int):Option ((List aV × Int) ⊕ (List aV)):=
 gS a b c d e f g
def fW (t:cR) (b:(List Int)) (e f:Int) (c:List Int) (a:Int):Option ((List Int × Int) ⊕ (List Int)):=
 if (decide (a < (b.length:Int))) then (ob (ix b a) fun g=>
 ob (mJ g e f 1000 c t) fun h=>
 some (.inl (h,wr (a+1)))) else (some (.inr c))
def iK (c:(List aO)) (t:cR) (d:Int) (e:aO) (h:(List Int)) (g:List aV) (a b:Int):Option ((List aV × Int) ⊕ (List aV)):=
 if (e.Kind == 6) then (ob (pL c d) fun i=>
 ob (mJ i a b 1000 [] t) fun j=>
 gS c d e g a b j) else (ob (loop (fun (s:(List Int × Int))=>fW t h a b s.1 s.2) ([],0)) fun r=>sT c d e g a b r)
def fX (e:(List aO)) (t:cR) (f:Int) (a:aO) (g:(List Int)) (h:List aV) (c d:Int):Option ((List aV × Int) ⊕ (List aV)):=
 ob (lD a) fun i=>
 if i then (ob (aDo t c) fun j=>
 ob (loop (fun (s:(List Int × Int))=>gT t a g d j s.1 s.2) ([],0)) fun r=>uC e f a h c d r) else (if (a.Kind == 6) then (iK e t f a g h c d) else (iK e t f a g h c d))
def eG (e:(List aO)) (t:cR) (f:Int) (a:aO) (g:(List Int)) (c:List aV) (d:Int):Option ((List aV × Int) ⊕ (List aV)):=
 if (decide (d < t.N)) then (if (a.Kind == 0) then (ob (vB true) fun h=>
 fX e t f a g c d h) else (if (a.Kind == 2) then (ob (vB true) fun i=>
 fX e t f a g c d i) else (ob (vB (a.Kind == 5)) fun j=>
 fX e t f a g c d j))) else (some (.inr c))
def eV (b:(List aO)) (t:cR) (c:List aV) (a:Int):Option ((List aV × Int) ⊕ (List aV)):=
 if (decide (a < (b.length:Int))) then (ob (ix b a) fun e=>
 ob (hX b a) fun f=>
 ob (loop (fun (s:(List aV × Int))=>eG b t a e f s.1 s.2) (c,0)) fun r=>oZ a r) else (some (.inr c))
def mL (a:(List aO)) (t:cR):Option (List aV):=
 ob (loop (fun (s:(List aV × Int))=>eV a t s.1 s.2) ([],0)) fun r=>uB r
def qI (b:(List (List Int))) (a:List aS):Option ((List aS) × (List (List Int)) × Bool):=
 ob (zW a) fun c=>
 some (a,b,c)
def fY (f:(List aO)) (g:(List aV)) (b:(List (List Int))) (c:List Int) (d:List aS) (a:Int):Option ((List aS × Int) ⊕ (List aS)):=
 if (decide (a < (b.length:Int))) then (ob (ix b a) fun h=>
 ob (ix c a) fun i=>
 ob (ix g i) fun e=>
 ob (ix h 0) fun j=>
 ob (hY f j) fun k=>
 ob (aBD c e.Next) fun l=>
 ob (tY d ([⟨k,e.Owner == 1,l⟩]:List aS)) fun m=>
 some (.inl (m,wr (a+1)))) else (some (.inr d))
def qJ (b:(List aO)) (c:(List aV)) (a:(List (List Int))) (d:List Int):Option ((List aS) × (List (List Int)) × Bool):=
 ob (loop (fun (s:(List aS × Int))=>fY b c a d s.1 s.2) ([],0)) fun r=>qI a r
def fZ (t:cR) (b:(List (List Int))) (c:List Int) (a:Int):Option ((List Int × Int) ⊕ (List Int)):=
 if (decide (a < (b.length:Int))) then (ob (ix b a) fun d=>
 ob (ix d 0) fun f=>
 ob (ix d 1) fun g=>
 ob (tY c ([wr ((wr (f * t.N))+g)]:List Int)) fun h=>
 some (.inl (h,wr (a+1)))) else (some (.inr c))
def qK (c:(List aO)) (t:cR) (e:(List aV)) (a:List (List Int)):Option ((List aS) × (List (List Int)) × Bool):=
 if (decide (120 < (a.length:Int))) then (some ([],[],false)) else (ob (zJ a) fun b=>
 ob (loop (fun (s:(List Int × Int))=>fZ t b s.1 s.2) ([],0)) fun r=>qJ c e b r)
def qL (a:Int) (b:List (List Int)) (c:(List (Int × Bool))):Option ((List (List Int) × (List (Int × Bool)) × Int) ⊕ (List (List Int))):=
 some (.inl (b,c,wr (a+1)))
def vK (a:Int) (b:List (List Int)) (c:(List (Int × Bool))):Option ((List (List Int) × (List (Int × Bool)) × Int) ⊕ (List (List Int))):=
 qL a b c
def jX (a:Int) (b:List (List Int)) (c:(List (Int × Bool))):Option ((List (List Int) × (List (Int × Bool)) × Int) ⊕ (List (List Int) × (List (Int × Bool)))):=
 some (.inl (b,c,wr (a+1)))
def fC (t:cR) (f:(List (List Int))) (c:List (List Int)) (a:(List (Int × Bool))) (b:Int):Option ((List (List Int) × (List (Int × Bool)) × Int) ⊕ (List (List Int) × (List (Int × Bool)))):=
 if (decide (b < (f.length:Int))) then (ob (ix f b) fun d=>
 ob (ix d 0) fun g=>
 ob (ix d 1) fun h=>
 if (!((kF a (wr ((wr (g * t.N))+h))).getD false)) then (ob (some (tF a (wr ((wr (g * t.N))+h)) true)) fun i=>
 ob (tY c ([d]:List (List Int))) fun j=>
 jX b j i) else (jX b c a)) else (some (.inr (c,a)))
def jI (t:cR) (e:(List aV)) (a:List (List Int)) (f:(List (Int × Bool))) (c:Int) (g:Bool):Option ((List (List Int) × (List (Int × Bool)) × Int) ⊕ (List (List Int))):=
 if g then (ob (ix a c) fun h=>
 ob (qY e t.N h) fun i=>
 ob (loop (fun (s:(List (List Int) × (List (Int × Bool)) × Int))=>fC t i s.1 s.2.1 s.2.2) (a,f,0)) fun r=>vK c r.1 r.2) else (some (.inr a))
def fJ (t:cR) (d:(List aV)) (a:List (List Int)) (e:(List (Int × Bool))) (b:Int):Option ((List (List Int) × (List (Int × Bool)) × Int) ⊕ (List (List Int))):=
 if (decide (b < (a.length:Int))) then (jI t d a e b (decide ((a.length:Int)<=120))) else (jI t d a e b false)
def nH (b:(List aO)) (t:cR):Option ((List aS) × (List (List Int)) × Bool):=
 ob (mL b t) fun c=>
 ob (some (tF ([]:(List (Int × Bool))) t.I true)) fun d=>
 ob (loop (fun (s:(List (List Int) × (List (Int × Bool)) × Int))=>fJ t c s.1 s.2.1 s.2.2) (([([0,t.I]:List Int)]:List (List Int)),d,0)) fun r=>qK b t c r
def iA (b:(List aO)) (t:cR):Option ((List aS) × (List (List Int)) × Int):=
 ob (oN t ([b]:List (List aO))) fun d=>
 if (d != 0) then (some ([],[],d)) else (ob (nH b t) fun a=>
 if (!a.2.2) then (some ([],[],5)) else (some (a.1,a.2.1,0)))
def wV (a:aF):Option aF:=
 ob (aBd a) fun b=>
 ob (slc a 0 b) fun c=>
 some c
def wW (a:aF) (b:Bool) (c:aF):Option Bool:=
 if ((a.length:Int) == 0) then (some (!b)) else (ob (ix a (wr ((a.length:Int) - 1))) fun d=>
 if ((d.toNat:Int) == 42) then (ob (wV c) fun e=>
 ob (slc a 0 (wr ((a.length:Int) - 1))) fun f=>
 some ((e == f) != b)) else (some ((a == c) != b)))
def aCu (a:List Int):Option (List Int):=
 some a
def aCv (n:Int) (a:List Int) (c:Bool):Option (List Int):=
 if (!c) then (ob (tY a ([n]:List Int)) fun d=>
 aCu d) else (aCu a)
def zX (b:(List Int)) (a:Int) (c:List Int) (d:Bool):Option ((List Int × Bool × Int) ⊕ (List Int × Bool)):=
 ob (ix b a) fun e=>
 ob (tY c ([e]:List Int)) fun f=>
 some (.inl (f,d,wr (a+1)))
def zY (a:(List Int)) (n:Int) (c:List Int) (e:Bool) (b:Int) (f:Bool):Option ((List Int × Bool × Int) ⊕ (List Int × Bool)):=
 if f then (ob (ix a b) fun g=>
 if (decide (n < g)) then (ob (tY c ([n]:List Int)) fun h=>
 zX a b h true) else (zX a b c true)) else (zX a b c e)
def pX (a:(List Int)) (n:Int) (e:List Int) (b:Bool) (c:Int):Option ((List Int × Bool × Int) ⊕ (List Int × Bool)):=
 if (decide (c < (a.length:Int))) then (if (!b) then (ob (ix a c) fun f=>
 zY a n e b c (decide (n<=f))) else (zY a n e b c false)) else (some (.inr (e,b)))
def aEU (c:(List Int)) (n:Int):Option (List Int):=
 ob (loop (fun (s:(List Int × Bool × Int))=>pX c n s.1 s.2.1 s.2.2) (([]:List Int),false,0)) fun r=>aCv n r.1 r.2
def kJ (a:List Int):Option (List Int):=
 some a
def aCV (a:List Int):Option (List Int):=
 kJ a
def rO (a:Int) (b:List Int):Option ((List Int × Int) ⊕ (List Int)):=
 some (.inl (b,wr (a+1)))
def rP (t:cR) (d:Int) (a:List Int) (b:Int) (e:Edge) (f:Bool):Option ((List Int × Int) ⊕ (List Int)):=
 if f then (ob (aEU a (wr ((wr ((wr (d+1)) * t.N))+e.To))) fun g=>
 rO b g) else (rO b a)
def mA (t:cR) (e g:Int) (f:aO) (d:List Int) (b:Int):Option ((List Int × Int) ⊕ (List Int)):=
 if (decide (b < (t.E.length:Int))) then (ob (ix t.E b) fun c=>
 if (c.F == g) then (ob (ix t.L c.B) fun h=>
 ob (wW f.B f.Not h) fun i=>
 rP t e d b c i) else (rP t e d b c false)) else (some (.inr d))
def rQ (t:cR) (b c:Int) (d:Bool):Option (List Int):=
 if d then (ob (tY ([]:List Int) ([wr ((wr ((wr (b+1)) * t.N))+c)]:List Int)) fun e=>
 kJ e) else (kJ ([]:List Int))
def oO (e:(List aO)) (t:cR) (c d:Int) (a:aO) (f:Bool):Option (List Int):=
 if f then (ob (loop (fun (s:(List Int × Int))=>mA t c d a s.1 s.2) (([]:List Int),0)) fun r=>aCV r) else (if (a.Kind == 6) then (ob (dS e c) fun h=>
 ob (tY ([]:List Int) ([wr ((wr (h * t.N))+d)]:List Int)) fun i=>
 kJ i) else (if (a.Kind == 7) then (rQ t c d (a.Kind == 7)) else (rQ t c d (a.Kind == 8))))
def oP (e:(List aO)) (t:cR) (c d:Int) (a:aO) (f:Bool):Option (List Int):=
 if f then (ob (sI e (wr (c+1))) fun g=>
 ob (tY ([]:List Int) ([wr ((wr ((wr (c+1)) * t.N))+d),wr ((wr (g * t.N))+d)]:List Int)) fun h=>
 kJ h) else (if (a.Kind == 4) then (oO e t c d a (a.Kind == 4)) else (oO e t c d a (a.Kind == 5)))
def yM (b:(List aO)) (t:cR) (c e:Int):Option (List Int):=
 ob (ix b c) fun a=>
 if (a.Kind == 2) then (oP b t c e a (a.Kind == 2)) else (oP b t c e a (a.Kind == 3))
def aGY (a:List Int):Option (List Int):=
 some a
def wX (a:Int) (b:List Int):Option ((List Int × Int) ⊕ (List Int)):=
 some (.inl (b,wr (a+1)))
def wY (c:(List Bool)) (b:List Int) (a:Int):Option ((List Int × Int) ⊕ (List Int)):=
 if (decide (a < (c.length:Int))) then (ob (ix c a) fun d=>
 if d then (ob (tY b ([a]:List Int)) fun e=>
 wX a e) else (wX a b)) else (some (.inr b))
def aBf (a:(List Bool)):Option (List Int):=
 ob (loop (fun (s:(List Int × Int))=>wY a s.1 s.2) (([]:List Int),0)) fun r=>aGY r
def aDp (a:Bool):Option Bool:=
 some a
def pM (a:Int) (b:Bool):Option ((Bool × Int) ⊕ Bool):=
 some (.inl (b,wr (a+1)))
def pN (b:(List aO)) (c:Bool) (a:Int) (d:Bool):Option ((Bool × Int) ⊕ Bool):=
 if d then (ob (ix b a) fun e=>
 pM a (e.Kind == 8)) else (pM a c)
def iL (b:(List aO)) (d:Int) (c:Bool) (a:Int):Option ((Bool × Int) ⊕ Bool):=
 if (decide (a<=d)) then (ob (ix b a) fun e=>
 ob (vF e) fun f=>
 if f then (ob (sI b a) fun g=>
 pN b c a (decide (d < g))) else (pN b c a false)) else (some (.inr c))
def uR (a:(List aO)) (b:Int):Option Bool:=
 ob (loop (fun (s:(Bool × Int))=>iL a b s.1 s.2) (false,0)) fun r=>aDp r
def aFU:Option Int:=
 some (-1)
def yW (b:(List Int)) (n a:Int):Option (Int ⊕ (Unit ⊕ Int)):=
 if (decide (a < (b.length:Int))) then (ob (ix b a) fun d=>
 if (d == n) then (some (.inr (.inr a))) else (some (.inl (wr (a+1))))) else (some (.inr (.inl ())))
def aBE (b:(List Int)) (n:Int):Option Int:=
 ob (loop (fun (s:Int)=>yW b n s) 0) fun r=>match r with|.inl r=>aFU|.inr r=>some r
def aFV (a:Int):Option Int:=
 some a
def uS (a b:Int):Option ((Int × Int) ⊕ Int):=
 some (.inl (b,wr (a+1)))
def mB (e:(List aS)) (c a:Int):Option ((Int × Int) ⊕ Int):=
 if (decide (a < (e.length:Int))) then (ob (ix e a) fun d=>
 ob (ix e (wr (a - 1))) fun f=>
 if (d.Greatest != f.Greatest) then (uS a (wr (c+1))) else (uS a c)) else (some (.inr c))
def aBF (e:(List aS)):Option Int:=
 ob (loop (fun (s:(Int × Int))=>mB e s.1 s.2) (1,1)) fun r=>aFV r
def aDU (b:(List Int)) (a:List aS):Option ((List aS) × (List Int) × Bool):=
 ob (aBF a) fun c=>
 some (a,b,decide (c<=9))
def aAQ (a:Int) (b:List aS):Option ((List aS × Int) ⊕ (List aS)):=
 some (.inl (b,wr (a+1)))
def aAR (a:List aS) (b:Int) (c d:Bool) (e:List Int):Option ((List aS × Int) ⊕ (List aS)):=
 ob (tY a ([⟨c,d,e⟩]:List aS)) fun f=>
 aAQ b f
def qM (d b:(List Int)) (c:List Int) (a:Int):Option ((List Int × Int) ⊕ (List Int)):=
 if (decide (a < (b.length:Int))) then (ob (ix b a) fun e=>
 ob (aBE d e) fun f=>
 ob (tY c ([f]:List Int)) fun g=>
 some (.inl (g,wr (a+1)))) else (some (.inr c))
def qN (a:(List Int)) (b:List aS) (c:Int) (d:(List Int)) (e f:Bool):Option ((List aS × Int) ⊕ (List aS)):=
 ob (loop (fun (s:(List Int × Int))=>qM a d s.1 s.2) ([],0)) fun r=>aAR b c e f r
def oA (d:(List aO)) (t:cR) (a:(List Int)) (c:List aS) (b:Int):Option ((List aS × Int) ⊕ (List aS)):=
 if (decide (b < (a.length:Int))) then (ob (ix a b) fun j=>
 ob (qu j t.N) fun f=>
 ob (rm j t.N) fun k=>
 ob (yM d t f k) fun g=>
 ob (uR d f) fun h=>
 ob (ix d f) fun i=>
 if (i.Kind == 0) then (qN a c b g h true) else (if (i.Kind == 2) then (qN a c b g h true) else (qN a c b g h (i.Kind == 5)))) else (some (.inr c))
def aAS (b:(List aO)) (t:cR) (d:List Bool):Option ((List aS) × (List Int) × Bool):=
 ob (aBf d) fun a=>
 if (decide (120 < (a.length:Int))) then (some ([],[],false)) else (ob (loop (fun (s:(List aS × Int))=>oA b t a s.1 s.2) (([]:List aS),0)) fun r=>aDU a r)
def aAT (a:Int) (b:List Bool) (c:List Int):Option ((List Bool × List Int × Int) ⊕ (List Bool)):=
 some (.inl (b,c,wr (a+1)))
def aDV (a:Int) (b:List Bool) (c:List Int):Option ((List Bool × List Int × Int) ⊕ (List Bool)):=
 aAT a b c
def rR (a:Int) (b:List Bool) (c:List Int):Option ((List Bool × List Int × Int) ⊕ (List Bool × List Int)):=
 some (.inl (b,c,wr (a+1)))
def kK (e:(List Int)) (a:List Bool) (c:List Int) (b:Int):Option ((List Bool × List Int × Int) ⊕ (List Bool × List Int)):=
 if (decide (b < (e.length:Int))) then (ob (ix e b) fun d=>
 ob (ix a d) fun f=>
 if (!f) then (ob (st a d (true:Bool)) fun g=>
 ob (tY c ([d]:List Int)) fun h=>
 rR b g h) else (rR b a c)) else (some (.inr (a,c)))
def mC (g:(List aO)) (t:cR) (d:List Bool) (b:List Int) (c:Int):Option ((List Bool × List Int × Int) ⊕ (List Bool)):=
 if (decide (c < (b.length:Int))) then (ob (ix b c) fun e=>
 ob (qu e t.N) fun h=>
 ob (rm e t.N) fun i=>
 ob (yM g t h i) fun j=>
 ob (loop (fun (s:(List Bool × List Int × Int))=>kK j s.1 s.2.1 s.2.2) (d,b,0)) fun r=>aDV c r.1 r.2) else (some (.inr d))
def aDq (b:(List aO)) (t:cR):Option ((List aS) × (List Int) × Bool):=
 ob (mkz (wr ((b.length:Int) * t.N)) (false:Bool)) fun c=>
 ob (ix c t.I) fun f=>
 ob (st c t.I (true:Bool)) fun d=>
 ob (loop (fun (s:(List Bool × List Int × Int))=>mC b t s.1 s.2.1 s.2.2) (d,([t.I]:List Int),0)) fun r=>aAS b t r
def vL (a:((List aS) × (List Int) × Bool)) (b:List (List Int)):Option ((List aS) × (List (List Int)) × Int):=
 some (a.1,b,0)
def aBG (t:cR) (c:((List aS) × (List Int) × Bool)) (d:List (List Int)) (a:Int):Option ((List (List Int) × Int) ⊕ (List (List Int))):=
 if (decide (a < (c.2.1.length:Int))) then (ob (ix c.2.1 a) fun e=>
 ob (qu e t.N) fun f=>
 ob (rm e t.N) fun g=>
 ob (tY d ([([f,g]:List Int)]:List (List Int))) fun h=>
 some (.inl (h,wr (a+1)))) else (some (.inr d))
def jY (c:(List aO)) (t:cR) (d:Bool):Option ((List aS) × (List (List Int)) × Int):=
 if d then (some ([],[],1)) else (ob (aDq c t) fun a=>
 if (!a.2.2) then (some ([],[],5)) else (ob (loop (fun (s:(List (List Int) × Int))=>aBG t a s.1 s.2) (([]:List (List Int)),0)) fun r=>vL a r))
def nI (a:(List aO)) (t:cR):Option ((List aS) × (List (List Int)) × Int):=
 ob (vA a) fun c=>
 if (!c) then (jY a t true) else (ob (aCq t) fun d=>
 jY a t (!d))
def aEn:Option Bool:=
 some true
def nJ (a:Int) (b:Bool):Option (Int ⊕ (Unit ⊕ Bool)):=
 if b then (some (.inr (.inr false))) else (some (.inl (wr (a+1))))
def jM (b:(List Int)) (many a:Int):Option (Int ⊕ (Unit ⊕ Bool)):=
 if (decide (a < (b.length:Int))) then (ob (ix b a) fun c=>
 ob (aGV c many) fun d=>
 if (!d) then (nJ a true) else (if (decide (0 < a)) then (ob (ix b (wr (a - 1))) fun e=>
 nJ a (decide (c<=e))) else (nJ a false))) else (some (.inr (.inl ())))
def qO (b:(List Int)) (many:Int):Option Bool:=
 ob (loop (fun (s:Int)=>jM b many s) 0) fun r=>match r with|.inl r=>aEn|.inr r=>some r
def uD (a:aS) (p:(List aS)):Option Bool:=
 ob (qO a.Terms (p.length:Int)) fun c=>
 some (!c)
def fN:Option Int:=
 some (-1)
def bE (b c:(List aS)) (a:Int):Option (Int ⊕ (Unit ⊕ Int)):=
 if (decide (a < (b.length:Int))) then (ob (ix b a) fun d=>
 ob (uD d c) fun e=>
 if e then (some (.inr (.inr a))) else (some (.inl (wr (a+1))))) else (some (.inr (.inl ())))
def cC (b c:(List aS)):Option Int:=
 ob (loop (fun (s:Int)=>bE b c s) 0) fun r=>match r with|.inl r=>fN|.inr r=>some r
def dJ (a b:(List aS)):Option Bool:=
 ob (cC a b) fun c=>
 some (decide (0<=c))
def lS (e:(List aS)) (b:Bool):Option Bool:=
 if b then (some false) else (ob (dJ e e) fun c=>
 some (!c))
def jZ (e:(List aS)):Option Bool:=
 ob (lO (e.length:Int) 1 120) fun b=>
 if (!b) then (lS e true) else (ob (zW e) fun c=>
 lS e (!c))
def aKD (a:List aV):Option (List aV):=
 some a
def wD (e:(List aS)) (f:(List Int)) (c:List aV) (a:Int):Option ((List aV × Int) ⊕ (List aV)):=
 if (decide (a < (e.length:Int))) then (ob (ix e a) fun d=>
 ob (ix f a) fun g=>
 ob (ix e 0) fun h=>
 ob (vB d.All) fun i=>
 ob (vB (!h.Greatest)) fun j=>
 ob (dT d.Terms) fun k=>
 ob (tY c ([⟨i,wr (g+j),k⟩]:List aV)) fun l=>
 some (.inl (l,wr (a+1)))) else (some (.inr c))
def aGk (e:(List aS)):Option (List aV):=
 ob (mK e) fun b=>
 ob (loop (fun (s:(List aV × Int))=>wD e b s.1 s.2) ([],0)) fun r=>aKD r
def fS (a:List Bool):Option (List Bool):=
 some a
def fT (a:List Bool) (b:Int):Option ((List Bool × Int) ⊕ (List Bool)):=
 if (decide (b < (a.length:Int))) then (ob (slc a b (a.length:Int)) fun d=>
 ob (slc a 0 b) fun c=>
 ob (ovw a b (List.take (Nat.min c.length d.length) c)) fun e=>
 some (.inl (e,wr (b+((Nat.min c.length d.length):Int))))) else (some (.inr a))
def fU (a:(List Bool)) (c:(Int × Int)):Option (List Bool):=
 ob (mkz (wr c.2) (false:Bool)) fun b=>
 ob (ovw b 0 (List.take (Nat.min a.length b.length) a)) fun d=>
 ob (loop (fun (s:(List Bool × Int))=>fT s.1 s.2) (d,((Nat.min a.length b.length):Int))) fun r=>fS r
def eM (a:(List Bool)) (b:(Int × Int)) (c:Bool):Option (List Bool):=
 if c then (none) else (fU a b)
def fV (b:(List Bool)) (c:Int):Option (List Bool):=
 ob (l_Mul (rS (b.length:Int)) (rS c)) fun a=>
 if (decide (0 < a.1)) then (eM b a true) else (eM b a (decide (9223372036854775807 < a.2)))
def fF (b:(List Bool)) (a:Int):Option (List Bool):=
 if (decide (a < 0)) then (none) else (fV b a)
def aFW (a:List Bool) (b:List (List Int)):Option ((List (List Int)) × (List Bool)):=
 some (b,a)
def yX (a:Int) (b:List (List Int)):Option ((List (List Int) × Int) ⊕ (List (List Int))):=
 some (.inl (b,wr (a+1)))
def aCW (a:Int) (b:List (List Int)):Option ((List (List Int) × Int) ⊕ (List (List Int))):=
 yX a b
def yY (a:Int) (b:List (List Int)):Option ((List (List Int) × Int) ⊕ (List (List Int))):=
 some (.inl (b,wr (a+1)))
def mD (e:Int) (c:aV) (a:List (List Int)) (b:Int):Option ((List (List Int) × Int) ⊕ (List (List Int))):=
 if (decide (b < (c.Next.length:Int))) then (ob (ix c.Next b) fun d=>
 ob (ix a d) fun f=>
 ob (tY f ([e]:List Int)) fun g=>
 ob (st a d g) fun h=>
 yY b h) else (some (.inr a))
def mE (g:(List aV)) (c:List (List Int)) (a:Int):Option ((List (List Int) × Int) ⊕ (List (List Int))):=
 if (decide (a < (g.length:Int))) then (ob (ix g a) fun d=>
 ob (loop (fun (s:(List (List Int) × Int))=>mD a d s.1 s.2) (c,0)) fun r=>aCW a r) else (some (.inr c))
def yZ (g:(List aV)) (b:List (List Int)) (c:List Bool):Option ((List (List Int)) × (List Bool)):=
 ob (loop (fun (s:(List (List Int) × Int))=>mE g s.1 s.2) (b,0)) fun r=>aFW c r
def aBH (g:(List aV)):Option ((List (List Int)) × (List Bool)):=
 ob (mkz (g.length:Int) ([]:(List Int))) fun b=>
 ob (fF ([true]:List Bool) (g.length:Int)) fun c=>
 yZ g b c
def aHY (a:List Int):Option (List Int):=
 some a
def zZ (a:Int) (b:List Int):Option ((List Int × Int) ⊕ (List Int)):=
 some (.inl (b,wr (a+1)))
def sU (c:(List Bool)) (b:List Int) (a:Int):Option ((List Int × Int) ⊕ (List Int)):=
 if (decide (a < (c.length:Int))) then (ob (ix c a) fun d=>
 if d then (ob (tY b ([a]:List Int)) fun e=>
 zZ a e) else (zZ a b)) else (some (.inr b))
def aDr (a:(List Bool)):Option (List Int):=
 ob (loop (fun (s:(List Int × Int))=>sU a s.1 s.2) ([],0)) fun r=>aHY r
def aDs (a:Int):Option Int:=
 some a
def pO (a b:Int):Option ((Int × Int) ⊕ Int):=
 some (.inl (b,wr (a+1)))
def iM (d:eS) (c:aV) (b a:Int):Option ((Int × Int) ⊕ Int):=
 if (decide (a < (c.Next.length:Int))) then (ob (ix c.Next a) fun e=>
 ob (ix d.in_ e) fun f=>
 if f then (pO a (wr (b+1))) else (pO a b)) else (some (.inr b))
def uT (a:eS) (k:Int):Option Int:=
 ob (ix a.g k) fun c=>
 ob (loop (fun (s:(Int × Int))=>iM a c s.1 s.2) (0,0)) fun r=>aDs r
def eH (a:(List Bool)):Option (List Bool):=
 ob (tY ([]:List Bool) a) fun b=>
 some b
def vM (a:List Bool):Option (List Bool):=
 some a
def vN (a:List Bool) (b:(List (Int × Int))) (c:List Int):Option ((List Bool × (List (Int × Int)) × List Int) ⊕ (List Bool)):=
 some (.inl (a,b,c))
def aBI (a:List Bool) (b:(List (Int × Int))) (c:List Int):Option ((List Bool × (List (Int × Int)) × List Int) ⊕ (List Bool)):=
 vN a b c
def iE (a:Int) (b:List Bool) (c:(List (Int × Int))) (d:List Int):Option ((List Bool × (List (Int × Int)) × List Int × Int) ⊕ (List Bool × (List (Int × Int)) × List Int)):=
 some (.inl (b,c,d,wr (a+1)))
def kA (b:List Bool) (c:List Int) (d a:Int) (e:(List (Int × Int))):Option ((List Bool × (List (Int × Int)) × List Int × Int) ⊕ (List Bool × (List (Int × Int)) × List Int)):=
 ob (ix b a) fun h=>
 ob (st b a (true:Bool)) fun f=>
 ob (tY c ([a]:List Int)) fun g=>
 iE d f e g
def kB (c:List Bool) (d:List Int) (e a:Int) (f:(List (Int × Int))):Option ((List Bool × (List (Int × Int)) × List Int × Int) ⊕ (List Bool × (List (Int × Int)) × List Int)):=
 ob (some (tF f a (wr (((kF f a).getD 0) - 1)))) fun b=>
 if (decide (0 < ((kF b a).getD 0))) then (iE e c b d) else (kA c d e a b)
def kC (f:eS) (h:Int) (c:List Bool) (b:(List (Int × Int))) (d:List Int) (e a:Int) (i:Bool):Option ((List Bool × (List (Int × Int)) × List Int × Int) ⊕ (List Bool × (List (Int × Int)) × List Int)):=
 if i then (iE e c b d) else (ob (ix f.g a) fun j=>
 if (j.Owner != h) then (if (!((kF b a).isSome)) then (ob (uT f a) fun k=>
 ob (some (tF b a k)) fun l=>
 kB c d e a l) else (kB c d e a b)) else (kA c d e a b))
def gA (d:eS) (g:Int) (h:(List Int)) (a:List Bool) (e:(List (Int × Int))) (f:List Int) (b:Int):Option ((List Bool × (List (Int × Int)) × List Int × Int) ⊕ (List Bool × (List (Int × Int)) × List Int)):=
 if (decide (b < (h.length:Int))) then (ob (ix h b) fun c=>
 ob (ix d.in_ c) fun i=>
 if (!i) then (kC d g a e f b c true) else (ob (ix a c) fun j=>
 kC d g a e f b c j)) else (some (.inr (a,e,f)))
def gB (c:eS) (e:Int) (d:List Bool) (f:(List (Int × Int))) (a:List Int):Option ((List Bool × (List (Int × Int)) × List Int) ⊕ (List Bool)):=
 if (decide (0 < (a.length:Int))) then (ob (ix a 0) fun g=>
 ob (slc a 1 (a.length:Int)) fun h=>
 ob (ix c.back g) fun i=>
 ob (loop (fun (s:(List Bool × (List (Int × Int)) × List Int × Int))=>gA c e i s.1 s.2.1 s.2.2.1 s.2.2.2) (d,f,h,0)) fun r=>aBI r.1 r.2.1 r.2.2) else (some (.inr d))
def jN (b:eS) (c:Int) (a:(List Bool)):Option (List Bool):=
 ob (eH a) fun d=>
 ob (aDr a) fun e=>
 ob (loop (fun (s:(List Bool × (List (Int × Int)) × List Int))=>gB b c s.1 s.2.1 s.2.2) (d,([]:(List (Int × Int))),e)) fun r=>vM r
def aBJ (a:List Bool):Option (List Bool):=
 some a
def mW (a:Int) (b:List Bool):Option ((List Bool × Int) ⊕ (List Bool)):=
 some (.inl (b,wr (a+1)))
def iF (c:(List Bool)) (b:List Bool) (a:Int):Option ((List Bool × Int) ⊕ (List Bool)):=
 if (decide (a < (c.length:Int))) then (ob (ix c a) fun d=>
 ob (ix b a) fun e=>
 if e then (ob (st b a (!d:Bool)) fun f=>
 mW a f) else (ob (st b a (false:Bool)) fun g=>
 mW a g)) else (some (.inr b))
def jO (a:eS) (b:(List Bool)):Option (List Bool):=
 ob (eH a.in_) fun c=>
 ob (loop (fun (s:(List Bool × Int))=>iF b s.1 s.2) (c,0)) fun r=>aBJ r
def aBK (k:Int) (p:eS) (c:Int):Option Bool:=
 ob (ix p.g k) fun d=>
 some (d.Priority == c)
def aCw (a:List Bool):Option (List Bool):=
 some a
def oB (a:Int) (b:List Bool):Option ((List Bool × Int) ⊕ (List Bool)):=
 some (.inl (b,wr (a+1)))
def iY (c d:eS) (e:Int) (b:List Bool) (a:Int):Option ((List Bool × Int) ⊕ (List Bool)):=
 if (decide (a < (c.in_.length:Int))) then (ob (ix c.in_ a) fun f=>
 if f then (ob (aBK a d e) fun g=>
 ob (ix b a) fun j=>
 ob (st b a (g:Bool)) fun h=>
 oB a h) else (ob (ix b a) fun k=>
 ob (st b a (false:Bool)) fun i=>
 oB a i)) else (some (.inr b))
def sV (a b:eS) (c:Int):Option (List Bool):=
 ob (mkz (a.g.length:Int) (false:Bool)) fun d=>
 ob (loop (fun (s:(List Bool × Int))=>iY a b c s.1 s.2) (d,0)) fun r=>aCw r
def aBL (k:Int) (p:(List Bool)) (c:Int):Option Bool:=
 ob (ix p k) fun d=>
 some (d != (c == 1))
def aAa (a:List Bool):Option (List Bool):=
 some a
def kR (a:Int) (b:List Bool):Option ((List Bool × Int) ⊕ (List Bool)):=
 some (.inl (b,wr (a+1)))
def gC (c:eS) (d:(List Bool)) (e:Int) (b:List Bool) (a:Int):Option ((List Bool × Int) ⊕ (List Bool)):=
 if (decide (a < (c.in_.length:Int))) then (ob (ix c.in_ a) fun f=>
 if f then (ob (aBL a d e) fun g=>
 ob (ix b a) fun j=>
 ob (st b a (g:Bool)) fun h=>
 kR a h) else (ob (ix b a) fun k=>
 ob (st b a (false:Bool)) fun i=>
 kR a i)) else (some (.inr b))
def oC (a:eS) (b:(List Bool)) (c:Int):Option (List Bool):=
 ob (mkz (a.g.length:Int) (false:Bool)) fun d=>
 ob (loop (fun (s:(List Bool × Int))=>gC a b c s.1 s.2) (d,0)) fun r=>aAa r
def pP:Option Int:=
 some (-1)
def gI (b:(List Bool)) (c:Bool) (a:Int):Option (Int ⊕ (Unit ⊕ Int)):=
 if (decide (a < (b.length:Int))) then (ob (ix b a) fun d=>
 if (c == d) then (some (.inr (.inr a))) else (some (.inl (wr (a+1))))) else (some (.inr (.inl ())))
def fO (b:(List Bool)) (c:Bool):Option Int:=
 ob (loop (fun (s:Int)=>gI b c s) 0) fun r=>match r with|.inl r=>pP|.inr r=>some r
def gJ (a:(List Bool)) (b:Bool):Option Bool:=
 ob (fO a b) fun c=>
 some (decide (0<=c))
def aBM (p a:Int):Option Bool:=
 some (a == 1)
def aAb (a:List Bool):Option (List Bool):=
 some a
def kS (a:Int) (b:List Bool):Option ((List Bool × Int) ⊕ (List Bool)):=
 some (.inl (b,wr (a+1)))
def gD (c:eS) (d:Int) (b:List Bool) (a:Int):Option ((List Bool × Int) ⊕ (List Bool)):=
 if (decide (a < (c.in_.length:Int))) then (ob (ix c.in_ a) fun e=>
 if e then (ob (aBM a d) fun f=>
 ob (ix b a) fun i=>
 ob (st b a (f:Bool)) fun g=>
 kS a g) else (ob (ix b a) fun j=>
 ob (st b a (false:Bool)) fun h=>
 kS a h)) else (some (.inr b))
def oD (a:eS) (b:Int):Option (List Bool):=
 ob (mkz (a.g.length:Int) (false:Bool)) fun c=>
 ob (loop (fun (s:(List Bool × Int))=>gD a b s.1 s.2) (c,0)) fun r=>aAb r
def oE (a:Bool):Option Bool:=
 some a
def sW (k:Int) (p:(List Bool)) (c:Int) (d:(List Bool)):Option Bool:=
 ob (ix p k) fun e=>
 if e then (if (c == 0) then (oE true) else (oE false)) else (ob (ix d k) fun f=>
 oE f)
def aAc (a:List Bool):Option (List Bool):=
 some a
def kT (a:Int) (b:List Bool):Option ((List Bool × Int) ⊕ (List Bool)):=
 some (.inl (b,wr (a+1)))
def gE (c:eS) (d:(List Bool)) (e:Int) (f:(List Bool)) (b:List Bool) (a:Int):Option ((List Bool × Int) ⊕ (List Bool)):=
 if (decide (a < (c.in_.length:Int))) then (ob (ix c.in_ a) fun g=>
 if g then (ob (sW a d e f) fun h=>
 ob (ix b a) fun k=>
 ob (st b a (h:Bool)) fun i=>
 kT a i) else (ob (ix b a) fun l=>
 ob (st b a (false:Bool)) fun j=>
 kT a j)) else (some (.inr b))
def oF (a:eS) (b:(List Bool)) (c:Int) (d:(List Bool)):Option (List Bool):=
 ob (mkz (a.g.length:Int) (false:Bool)) fun e=>
 ob (loop (fun (s:(List Bool × Int))=>gE a b c d s.1 s.2) (e,0)) fun r=>aAc r
def sX (c:eS->Option (List Bool)) (a:eS) (d:Int):Option (List Bool):=
 ob (rm d 2) fun b=>
 ob (sV a a d) fun i=>
 ob (jN a b i) fun j=>
 ob (jO a j) fun e=>
 ob (c ⟨a.g,a.back,e⟩) fun k=>
 ob (oC ⟨a.g,a.back,e⟩ k b) fun f=>
 ob (gJ f true) fun l=>
 if (!l) then (ob (oD a b) fun m=>
 some m) else (ob (jN a (wr (1 - b)) f) fun h=>
 ob (jO a h) fun n=>
 ob (c ⟨a.g,a.back,n⟩) fun o=>
 ob (oF a h b o) fun p=>
 some p)
def iZ (d:eS) (b:(List Int)) (c a:Int):Option ((Int × Int) ⊕ Int):=
 if (decide (a < (b.length:Int))) then (ob (ix b a) fun e=>
 ob (ix d.g e) fun f=>
 some (.inl (mnI c f.Priority,wr (a+1)))) else (some (.inr c))
def uU (c:eS->Option (List Bool)) (a:eS):Option (List Bool):=
 ob (aDr a.in_) fun b=>
 if ((b.length:Int) == 0) then (ob (mkz (a.g.length:Int) (false:Bool)) fun d=>
 some d) else (ob (ix b 0) fun e=>
 ob (ix a.g e) fun f=>
 ob (loop (fun (s:(Int × Int))=>iZ a b s.1 s.2) (f.Priority,0)) fun r=>sX c a r)
def oQ:Nat->eS->Option (List Bool)
 |0=>fun _=>none
 |n+1=>uU (oQ n)
def aEV (a:eS):Option (List Bool):=
 oQ 100000 a
def qP (a:Bool):Option Bool:=
 some a
def qZ (k:Int) (p:(List aV)) (d:Int):Option Bool:=
 ob (ix p k) fun a=>
 if (a.Owner == d) then (qP ((a.Next.length:Int) == 0)) else (qP false)
def aAd (a:List Bool):Option (List Bool):=
 some a
def kU (a:Int) (b:List Bool):Option ((List Bool × Int) ⊕ (List Bool)):=
 some (.inl (b,wr (a+1)))
def gF (c:eS) (d:(List aV)) (e:Int) (b:List Bool) (a:Int):Option ((List Bool × Int) ⊕ (List Bool)):=
 if (decide (a < (c.in_.length:Int))) then (ob (ix c.in_ a) fun f=>
 if f then (ob (qZ a d e) fun g=>
 ob (ix b a) fun j=>
 ob (st b a (g:Bool)) fun h=>
 kU a h) else (ob (ix b a) fun k=>
 ob (st b a (false:Bool)) fun i=>
 kU a i)) else (some (.inr b))
def jA (a:eS) (b:(List aV)) (c:Int):Option (List Bool):=
 ob (mkz (a.g.length:Int) (false:Bool)) fun d=>
 ob (loop (fun (s:(List Bool × Int))=>gF a b c s.1 s.2) (d,0)) fun r=>aAd r
def wZ (a:Int) (p:eS) (c:(List aV)):Option (List Bool):=
 ob (jA p c a) fun d=>
 some d
def aAU (a:List Int):Option (List Int):=
 some a
def tS (a:Int) (b:List Int):Option ((List Int × Int) ⊕ (List Int)):=
 some (.inl (b,wr (a+1)))
def oG (g:(List aV)) (d e f:(List Bool)) (b:List Int) (a:Int):Option ((List Int × Int) ⊕ (List Int)):=
 if (decide (a < (g.length:Int))) then (ob (ix d a) fun h=>
 if h then (ob (vB true) fun i=>
 ob (ix b a) fun q=>
 ob (st b a (i:Int)) fun j=>
 tS a j) else (ob (ix e a) fun k=>
 if (!k) then (ob (ix f a) fun l=>
 ob (vB l) fun m=>
 ob (ix b a) fun r=>
 ob (st b a (m:Int)) fun n=>
 tS a n) else (ob (vB false) fun o=>
 ob (ix b a) fun s=>
 ob (st b a (o:Int)) fun p=>
 tS a p))) else (some (.inr b))
def wE (g:(List aV)):Option (List Int):=
 ob (aBH g) fun b=>
 ob (wZ 0 ⟨g,b.1,b.2⟩ g) fun e=>
 ob (jN ⟨g,b.1,b.2⟩ 1 e) fun c=>
 ob (wZ 1 ⟨g,b.1,b.2⟩ g) fun f=>
 ob (jN ⟨g,b.1,b.2⟩ 0 f) fun d=>
 ob (jO ⟨g,b.1,b.2⟩ c) fun h=>
 ob (jO ⟨g,b.1,h⟩ d) fun i=>
 ob (aEV ⟨g,b.1,i⟩) fun j=>
 ob (mkz (g.length:Int) (0:Int)) fun k=>
 ob (loop (fun (s:(List Int × Int))=>oG g c d j s.1 s.2) (k,0)) fun r=>aAU r
def aJg (a:List Bool):Option (List Bool):=
 some a
def yN (b:(List Int)) (c:List Bool) (a:Int):Option ((List Bool × Int) ⊕ (List Bool)):=
 if (decide (a < (b.length:Int))) then (ob (ix b a) fun d=>
 ob (tY c ([d == 0]:List Bool)) fun e=>
 some (.inl (e,wr (a+1)))) else (some (.inr c))
def aDW (e:(List aS)):Option (List Bool):=
 ob (aGk e) fun b=>
 ob (wE b) fun c=>
 ob (loop (fun (s:(List Bool × Int))=>yN c s.1 s.2) ([],0)) fun r=>aJg r
def tT (e:(List aS)):Option ((List Bool) × Int):=
 ob (jZ e) fun b=>
 if (!b) then (some ([],1)) else (ob (aDW e) fun c=>
 some (c,0))
def aGZ (e:(List aS)):Option ((List aV) × Int):=
 ob (jZ e) fun b=>
 if (!b) then (some ([],1)) else (ob (aGk e) fun c=>
 some (c,0))
def oH (a:Bool):Option Bool:=
 some a
def xA (a:aV) (p:(List aV)):Option Bool:=
 ob (lO a.Owner 0 1) fun c=>
 if (!c) then (oH true) else (ob (lO a.Priority 0 9) fun d=>
 if (!d) then (oH true) else (ob (qO a.Next (p.length:Int)) fun e=>
 oH (!e)))
def gM:Option Int:=
 some (-1)
def bH (b c:(List aV)) (a:Int):Option (Int ⊕ (Unit ⊕ Int)):=
 if (decide (a < (b.length:Int))) then (ob (ix b a) fun d=>
 ob (xA d c) fun e=>
 if e then (some (.inr (.inr a))) else (some (.inl (wr (a+1))))) else (some (.inr (.inl ())))
def cK (b c:(List aV)):Option Int:=
 ob (loop (fun (s:Int)=>bH b c s) 0) fun r=>match r with|.inl r=>gM|.inr r=>some r
def eB (a b:(List aV)):Option Bool:=
 ob (cK a b) fun c=>
 some (decide (0<=c))
def aAe (g:(List aV)):Option Bool:=
 ob (lO (g.length:Int) 1 120) fun b=>
 if (!b) then (some false) else (ob (eB g g) fun c=>
 some (!c))
def aCx (g:(List aV)):Option ((List Int) × Int):=
 ob (aAe g) fun b=>
 if (!b) then (some ([],1)) else (ob (wE g) fun c=>
 some (c,0))
def xB (k:Int) (p:(List Bool)) (c:aS):Option Bool:=
 ob (ix p k) fun d=>
 some (d != c.All)
def kE:Option Int:=
 some (-1)
def bY (b:(List Int)) (c:(List Bool)) (d:aS) (a:Int):Option (Int ⊕ (Unit ⊕ Int)):=
 if (decide (a < (b.length:Int))) then (ob (ix b a) fun e=>
 ob (xB e c d) fun f=>
 if f then (some (.inr (.inr a))) else (some (.inl (wr (a+1))))) else (some (.inr (.inl ())))
def dF (b:(List Int)) (c:(List Bool)) (d:aS):Option Int:=
 ob (loop (fun (s:Int)=>bY b c d s) 0) fun r=>match r with|.inl r=>kE|.inr r=>some r
def dZ (a:(List Int)) (b:(List Bool)) (c:aS):Option Bool:=
 ob (dF a b c) fun d=>
 some (decide (0<=d))
def aCy:Option Bool:=
 some true
def gW (e:(List aS)) (d:(List Bool)) (a:Int):Option (Int ⊕ (Unit ⊕ Bool)):=
 if (decide (a < (e.length:Int))) then (ob (ix e a) fun b=>
 ob (dZ b.Terms d b) fun f=>
 ob (ix d a) fun g=>
 if (g != (b.All != f)) then (some (.inr (.inr false))) else (some (.inl (wr (a+1))))) else (some (.inr (.inl ())))
def oI (e:(List aS)) (c:(List Bool)) (d:Bool):Option Bool:=
 if d then (some false) else (ob (loop (fun (s:Int)=>gW e c s) 0) fun r=>match r with|.inl r=>aCy|.inr r=>some r)
def sY (e:(List aS)) (b:(List Bool)):Option Bool:=
 ob (jZ e) fun c=>
 if (!c) then (oI e b true) else (oI e b ((b.length:Int) != (e.length:Int)))
def aCz (a:List Bool):Option (List Bool):=
 some a
def jB (t:cR) (k:Int) (e:List Bool) (f:(List Int)) (b:List Bool) (a:Int):Option ((List Bool × Int) ⊕ (List Bool)):=
 if (decide (a < (e.length:Int))) then (ob (ix f (wr ((wr (k * t.N))+a))) fun g=>
 ob (ix b a) fun i=>
 ob (st b a (g == 0:Bool)) fun h=>
 some (.inl (h,wr (a+1)))) else (some (.inr b))
def sZ (c:(List aO)) (t:cR) (k:Int):Option (List Bool):=
 ob (mkz t.N (false:Bool)) fun b=>
 ob (mL c t) fun e=>
 ob (wE e) fun f=>
 ob (loop (fun (s:(List Bool × Int))=>jB t k b f s.1 s.2) (b,0)) fun r=>aCz r
def tA (b:(List aO)) (t:cR):Option (Bool × Int):=
 ob (oN t ([b]:List (List aO))) fun c=>
 if (c != 0) then (some (false,c)) else (ob (sZ b t 0) fun d=>
 ob (ix d t.I) fun e=>
 some (e,0))
def vC (a:Bool):Option Bool:=
 some a
def xC (p:(List Int)) (b:cR):Option Bool:=
 ob (ix p 0) fun c=>
 if (c == 0) then (ob (ix p 1) fun d=>
 vC (d == b.I)) else (vC false)
def jT:Option Int:=
 some (-1)
def cG (b:(List (List Int))) (c:cR) (a:Int):Option (Int ⊕ (Unit ⊕ Int)):=
 if (decide (a < (b.length:Int))) then (ob (ix b a) fun d=>
 ob (xC d c) fun e=>
 if e then (some (.inr (.inr a))) else (some (.inl (wr (a+1))))) else (some (.inr (.inl ())))
def eI (b:(List (List Int))) (c:cR):Option Int:=
 ob (loop (fun (s:Int)=>cG b c s) 0) fun r=>match r with|.inl r=>jT|.inr r=>some r
def aDt (t:cR) (b:(List (List Int))):Option Int:=
 ob (eI b t) fun c=>
 some c
def oJ (c:(List aO)) (t:cR):Option (Bool × Int):=
 ob (iA c t) fun a=>
 if (a.2.2 != 0) then (some (false,a.2.2)) else (ob (aDW a.1) fun d=>
 ob (aDt t a.2.1) fun e=>
 ob (ix d e) fun f=>
 some (f,0))
def aHa:Option Bool:=
 some true
def aAV (a b:(List Int)) (c:Int):Option (Int ⊕ (Unit ⊕ Bool)):=
 if (decide (c < (a.length:Int))) then (ob (ix a c) fun f=>
 ob (ix b c) fun g=>
 if (f != g) then (some (.inr (.inr false))) else (some (.inl (wr (c+1))))) else (some (.inr (.inl ())))
def aDu (a b:(List Int)):Option Bool:=
 if ((a.length:Int) != (b.length:Int)) then (some false) else (ob (loop (fun (s:Int)=>aAV a b s) 0) fun r=>match r with|.inl r=>aHa|.inr r=>some r)
def lJ (a:Bool):Option Bool:=
 some a
def rA (a b:(Bool × Int)) (c:Bool):Option Bool:=
 if (a.2 == 0) then (if (b.2 == 0) then (if c then (lJ (b.1 == a.1)) else (lJ false)) else (lJ false)) else (lJ false)
def rB (a:Int) (b:Bool):Option ((Bool × Int) ⊕ (Bool ⊕ Bool)):=
 some (.inl (b,wr (a+1)))
def jP (e:((List aO) × cR)) (b:((List aS) × (List (List Int)) × Int)) (f:((List Bool) × Int)) (g:((List Int) × Int)) (h:(Bool × Int)) (c:Bool) (a:Int):Option ((Bool × Int) ⊕ (Bool ⊕ Bool)):=
 if (decide (a < (b.2.1.length:Int))) then (ob (ix f.1 a) fun d=>
 ob (ix g.1 a) fun i=>
 if (d != (i == 0)) then (some (.inr (.inr false))) else (ob (ix b.2.1 a) fun j=>
 ob (aDu j ([0,e.2.I]:List Int)) fun k=>
 if k then (rB a (d == h.1)) else (rB a c))) else (some (.inr (.inl c)))
def iB (a:((List aO) × cR)) (c:((List aS) × (List (List Int)) × Int)) (d:((List Bool) × Int)) (f:((List Int) × Int)) (g:Bool):Option Bool:=
 if g then (some false) else (ob (sY c.1 d.1) fun h=>
 if (!h) then (some false) else (ob (tA a.1 a.2) fun e=>
 ob (oJ a.1 a.2) fun i=>
 ob (loop (fun (s:(Bool × Int))=>jP a c d f e s.1 s.2) (false,0)) fun r=>match r with|.inl r=>rA e i r|.inr r=>some r))
def aAW (e:(List UInt8)):Option Bool:=
 ob (aHv e) fun g=>
 if g then (some true) else (ob (aDm e) fun a=>
 ob (iA a.1 ⟨a.2.N,a.2.I,a.2.L,a.2.E⟩) fun b=>
 if (b.2.2 != 0) then (ob (nI a.1 a.2) fun h=>
 some (b.2.2 == h.2.2)) else (ob (tT b.1) fun c=>
 ob (aGZ b.1) fun f=>
 ob (aCx f.1) fun d=>
 if (c.2 != 0) then (iB a b c d true) else (if (f.2 != 0) then (iB a b c d true) else (if (d.2 != 0) then (iB a b c d true) else (if ((c.1.length:Int) != (b.2.1.length:Int)) then (iB a b c d true) else (if ((d.1.length:Int) != (b.2.1.length:Int)) then (iB a b c d true) else (iB a b c d ((b.2.1.length:Int) == 0))))))))
end
end Gv
