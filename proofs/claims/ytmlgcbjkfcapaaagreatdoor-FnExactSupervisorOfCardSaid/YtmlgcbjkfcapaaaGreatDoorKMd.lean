/- Models of the functions, printed by program off their code. Plain Lean. -/
import Derived.Test.YtmlgcbjkfcapaaaGreatDoorKLM
set_option linter.all false
namespace Gv
noncomputable section
def uY (a:List Int):Option ((List Int) × Bool):=
 some (a,true)
def nZ (b:(List aZ)) (c:List Int) (a:Int):Option ((List Int × Int) ⊕ (List Int ⊕ ((List Int) × Bool))):=
 if (decide (a < (b.length:Int))) then (ob (ix b a) fun e=>
 ob (vW e) fun d=>
 if (!d.2) then (some (.inr (.inr ([],false)))) else (ob (apd c ([d.1]:List Int)) fun f=>
 some (.inl (f,wr (a+1))))) else (some (.inr (.inl c)))
def vX (b:(List aZ)):Option ((List Int) × Bool):=
 ob (loop (fun (s:(List Int × Int))=>nZ b s.1 s.2) ([],0)) fun r=>match r with|.inl r=>uY r|.inr r=>some r
def aAK (a:aZ) (b:List aZ):Option aZ:=
 ob (aKN b a) fun c=>
 some c
def xG (c:(List Int)) (b:List aZ) (a:Int):Option ((List aZ × Int) ⊕ (List aZ)):=
 if (decide (a < (c.length:Int))) then (ob (ix c a) fun d=>
 ob (aDb d) fun e=>
 ob (ix b a) fun g=>
 ob (st b a (e:aZ)) fun f=>
 some (.inl (f,wr (a+1)))) else (some (.inr b))
def aEA (a:(List Int)) (b:aZ):Option aZ:=
 ob (mkz (a.length:Int) ([]:aZ)) fun c=>
 ob (loop (fun (s:(List aZ × Int))=>xG a s.1 s.2) (c,0)) fun r=>aAK b r
def aBr (a:Bool):Option Bool:=
 some a
def aFa (c:UInt8):Option Bool:=
 if (decide (48≤(c.toNat:Int))) then (aBr (decide ((c.toNat:Int)≤57))) else (aBr false)
def aCC (a:Bool):Option Bool:=
 some a
def aAL (a:aZ):Option Bool:=
 if (decide (1≤(a.length:Int))) then (aCC (decide ((a.length:Int)≤10))) else (aCC false)
def xH (a:Int) (b:Bool):Option (Int ⊕ (Unit ⊕ Bool)):=
 if b then (some (.inr (.inr false))) else (some (.inl (wr (a+1))))
def rI (b:aZ) (a:Int) (c:Bool):Option (Int ⊕ (Unit ⊕ Bool)):=
 if (!c) then (if (a == 0) then (xH a true) else (ob (ix b a) fun d=>
 ob (aFa d) fun e=>
 xH a (!e))) else (xH a false)
def tV (a:aZ) (b:Int):Option (Int ⊕ (Unit ⊕ Bool)):=
 if (decide (b < (a.length:Int))) then (ob (ix a b) fun c=>
 if (decide (97≤(c.toNat:Int))) then (rI a b (decide ((c.toNat:Int)≤122))) else (rI a b false)) else (some (.inr (.inl ())))
def aEB (b:aZ):Option Bool:=
 ob (loop (fun (s:Int)=>tV b s) 0) fun r=>match r with|.inl r=>aAL b|.inr r=>some r
def vY (a:Bool):Option Bool:=
 some a
def aAh (a:aZ):Option Bool:=
 ob (aEB a) fun b=>
 if b then (vY (!(a == ([116,97,117]:aZ)))) else (vY false)
def aCD (a:Bool):Option Bool:=
 some a
def yF (n low b:Int):Option Bool:=
 if (decide (low≤n)) then (aCD (decide (n≤b))) else (aCD false)
def aFb (n:Int):Option Bool:=
 ob (yF n 0 63) fun b=>
 some b
def yG (n:Int):Option Bool:=
 ob (aFb n) fun b=>
 some (!b)
def fZ:Option Int:=
 some (-1)
def dS (b:(List Int)) (a:Int):Option (Int ⊕ (Unit ⊕ Int)):=
 if (decide (a < (b.length:Int))) then (ob (ix b a) fun c=>
 ob (yG c) fun d=>
 if d then (some (.inr (.inr a))) else (some (.inl (wr (a+1))))) else (some (.inr (.inl ())))
def iC (b:(List Int)):Option Int:=
 ob (loop (fun (s:Int)=>dS b s) 0) fun r=>match r with|.inl r=>fZ|.inr r=>some r
def gA (a:(List Int)):Option Bool:=
 ob (iC a) fun b=>
 some (decide (0≤b))
def aAM (a:(List Int)):Option Bool:=
 ob (gA a) fun b=>
 some (!b)
def uZ (a:aZ) (b:(List Int)) (c:Bool):Option (aZ × Bool):=
 if c then (some (([]:aZ),false)) else (if ((b.length:Int) == 0) then (some (a,true)) else (ob (cat a ([40]:aZ)) fun d=>
 ob (aEA b ([44]:aZ)) fun e=>
 ob (cat d e) fun f=>
 ob (cat f ([41]:aZ)) fun g=>
 some (g,true)))
def aDf (b:aZ) (a:(List Int)):Option (aZ × Bool):=
 if (b == ([116,97,117]:aZ)) then (some (([116,97,117]:aZ),(a.length:Int) == 0)) else (ob (aAh b) fun c=>
 if (!c) then (uZ b a true) else (if (decide (2 < (a.length:Int))) then (uZ b a true) else (ob (aAM a) fun d=>
 uZ b a (!d))))
def fA (a:Bool):Option Bool:=
 some a
def iS (a b:aZ):Option Bool:=
 if (decide ((b.length:Int)≤(a.length:Int))) then (ob (uV a (wr ((a.length:Int) - (b.length:Int))) (a.length:Int)) fun c=>
 fA (c == b)) else (fA false)
def iD (a b:aZ):Option aZ:=
 ob (iS a b) fun c=>
 if c then (ob (uV a 0 (wr ((a.length:Int) - (b.length:Int)))) fun d=>
 some d) else (some a)
def mN (a b:aZ):Option aZ:=
 ob (iD a b) fun c=>
 some c
def mO (a:(aZ × aZ × Bool)) (b:List Int) (c:Bool):Option (aZ × (List Int) × Bool):=
 if c then (some (([]:aZ),[],false)) else (some (a.1,b,true))
def mP (d:aZ) (a:(aZ × aZ × Bool)) (b:List Int):Option (aZ × (List Int) × Bool):=
 ob (aDf a.1 b) fun c=>
 if (!c.2) then (mO a b true) else (mO a b (!(c.1 == d)))
def tW (b:aZ):Option (aZ × (List Int) × Bool):=
 ob (l_Cut b ([40]:aZ)) fun a=>
 if a.2.2 then (ob (mN a.2.1 ([41]:aZ)) fun d=>
 ob (aGd d ([44]:aZ)) fun e=>
 ob (vX e) fun c=>
 if (!c.2) then (some (([]:aZ),[],false)) else (mP b a c.1)) else (mP b a [])
def aBG (a:aZ):Option Bool:=
 ob (tW a) fun b=>
 some b.2.2
def yH (a:Int):Option Int:=
 some a
def tX (a:(List aZ)) (b c:Int):Option ((Int × Int) ⊕ (Int ⊕ Int)):=
 if (decide (c < (a.length:Int))) then (ob (ix a c) fun e=>
 if (decide (wr (b - (e.length:Int)) < 0)) then (some (.inr (.inr (-1)))) else (some (.inl (wr (b - (e.length:Int)),wr (c+1))))) else (some (.inr (.inl b)))
def xI (a:(List aZ)) (d:Int):Option Int:=
 if (decide (wr (d - (a.length:Int)) < 0)) then (some (-1)) else (ob (loop (fun (s:(Int × Int))=>tX a s.1 s.2) (wr (d - (a.length:Int)),0)) fun r=>match r with|.inl r=>yH r|.inr r=>some r)
def aDg (a:(List Edge)) (c:Int):Option Int:=
 if (decide (wr (c - (a.length:Int)) < 0)) then (some (-1)) else (some (wr (c - (a.length:Int))))
def aFc (a:dB) (e:Int):Option Int:=
 ob (xI a.L e) fun c=>
 if (decide (c < 0)) then (some (-1)) else (ob (aDg a.E c) fun d=>
 if (decide (d < 0)) then (some (-1)) else (some d))
def yI (a:List aZ):Option (List aZ):=
 some a
def tY (a:(List aZ)) (c:List aZ) (b:Int):Option ((List aZ × Int) ⊕ (List aZ)):=
 if (decide (b < (a.length:Int))) then (ob (ix a b) fun e=>
 ob (ix c b) fun g=>
 ob (st c b (e:aZ)) fun f=>
 some (.inl (f,wr (b+1)))) else (some (.inr c))
def xJ (a:(List aZ)):Option (List aZ):=
 ob (mkz (a.length:Int) ([]:aZ)) fun c=>
 ob (loop (fun (s:(List aZ × Int))=>tY a s.1 s.2) (c,0)) fun r=>yI r
def aGh (a:Edge):Option Edge:=
 some a
def aBs (a:List Edge):Option (List Edge):=
 some a
def yJ (a:(List Edge)) (c:List Edge) (b:Int):Option ((List Edge × Int) ⊕ (List Edge)):=
 if (decide (b < (a.length:Int))) then (ob (ix a b) fun f=>
 ob (aGh f) fun d=>
 ob (ix c b) fun h=>
 ob (st c b (⟨d.F,d.B,d.To⟩:Edge)) fun g=>
 some (.inl (g,wr (b+1)))) else (some (.inr c))
def aDh (a:(List Edge)):Option (List Edge):=
 ob (mkz (a.length:Int) (⟨0,0,0⟩:Edge)) fun c=>
 ob (loop (fun (s:(List Edge × Int))=>yJ a s.1 s.2) (c,0)) fun r=>aBs r
def aBt (a:dB):Option dB:=
 ob (xJ a.L) fun c=>
 ob (aDh a.E) fun d=>
 some ⟨a.N,a.I,c,d⟩
def yK:Option Bool:=
 some true
def qI (a b:(List aZ)) (c:Int):Option (Int ⊕ (Unit ⊕ Bool)):=
 if (decide (c < (a.length:Int))) then (ob (ix a c) fun f=>
 ob (ix b c) fun g=>
 if (!(f == g)) then (some (.inr (.inr false))) else (some (.inl (wr (c+1))))) else (some (.inr (.inl ())))
def xK (a b:(List aZ)):Option Bool:=
 if ((a.length:Int) != (b.length:Int)) then (some false) else (ob (loop (fun (s:Int)=>qI a b s) 0) fun r=>match r with|.inl r=>yK|.inr r=>some r)
def aEC (a b:Edge):Option Bool:=
 if (a.F != b.F) then (some false) else (if (a.B != b.B) then (some false) else (if (a.To != b.To) then (some false) else (some true)))
def aBu:Option Bool:=
 some true
def vA (a b:(List Edge)) (c:Int):Option (Int ⊕ (Unit ⊕ Bool)):=
 if (decide (c < (a.length:Int))) then (ob (ix a c) fun f=>
 ob (ix b c) fun g=>
 ob (aEC f g) fun h=>
 if (!h) then (some (.inr (.inr false))) else (some (.inl (wr (c+1))))) else (some (.inr (.inl ())))
def aDi (a b:(List Edge)):Option Bool:=
 if ((a.length:Int) != (b.length:Int)) then (some false) else (ob (loop (fun (s:Int)=>vA a b s) 0) fun r=>match r with|.inl r=>aBu|.inr r=>some r)
def aBv (a b:dB):Option Bool:=
 if (a.N != b.N) then (some false) else (if (a.I != b.I) then (some false) else (ob (xK a.L b.L) fun e=>
 if (!e) then (some false) else (ob (aDi a.E b.E) fun f=>
 if (!f) then (some false) else (some true))))
def vZ (a:aZ):Option aZ:=
 ob (cat ([109]:aZ) a) fun b=>
 some b
def wA (a:Int) (b:aZ):Option ((Int × aZ) ⊕ aZ):=
 if (decide (0 < a)) then (ob (rm a 10) fun c=>
 ob (cat ([(UInt8.ofInt (wr (48+c)))]:List UInt8) b) fun d=>
 ob (qu a 10) fun e=>
 some (.inl (e,d))) else (some (.inr b))
def tZ (k:Int):Option aZ:=
 if (decide (k≤0)) then (some ([109,48]:aZ)) else (ob (loop (fun (s:(Int × aZ))=>wA s.1 s.2) (k,([]:aZ))) fun r=>vZ r)
def qJ (a:Int) (b:List aZ):Option (Int × (List aZ)):=
 some (a,b)
def qK (a:List aZ) (c b:Int):Option ((List aZ × Int × Int) ⊕ (Int × List aZ)):=
 if (decide (b < (a.length:Int))) then (ob (tZ c) fun d=>
 ob (ix a b) fun f=>
 ob (st a b (d:aZ)) fun e=>
 some (.inl (e,wr (c+1),wr (b+1)))) else (some (.inr (c,a)))
def sX (a:(List aZ)) (k:Int):Option (Int × (List aZ)):=
 ob (loop (fun (s:(List aZ × Int × Int))=>qK s.1 s.2.1 s.2.2) (a,k,0)) fun r=>qJ r.1 r.2
def uA (a:Int) (b:List Edge):Option (Int × (List Edge)):=
 some (a,b)
def uB (c:List Edge) (b a:Int):Option ((List Edge × Int × Int) ⊕ (Int × List Edge)):=
 if (decide (a < (c.length:Int))) then (ob (ix c a) fun d=>
 ob (st c a (⟨b,d.B,d.To⟩:Edge)) fun e=>
 ob (ix e a) fun f=>
 ob (st e a (⟨f.F,wr (b+1),f.To⟩:Edge)) fun g=>
 ob (ix g a) fun h=>
 ob (st g a (⟨h.F,h.B,wr ((wr (b+1))+1)⟩:Edge)) fun i=>
 some (.inl (i,wr ((wr ((wr (b+1))+1))+1),wr (a+1)))) else (some (.inr (b,c)))
def aAN (a:(List Edge)) (k:Int):Option (Int × (List Edge)):=
 ob (loop (fun (s:(List Edge × Int × Int))=>uB s.1 s.2.1 s.2.2) (a,k,0)) fun r=>uA r.1 r.2
def xL (f g:Int) (c:(List aZ)) (d:(List Edge)) (k:Int):Option (Int × (List aZ) × (List Edge)):=
 ob (sX c k) fun a=>
 ob (aAN d a.1) fun b=>
 some (b.1,a.2,b.2)
def vB (a:Int):Option Int:=
 some a
def oA (a:(List aZ)) (b c:Int):Option ((Int × Int) ⊕ (Int ⊕ Int)):=
 if (decide (c < (a.length:Int))) then (ob (ix a c) fun e=>
 ob (tZ b) fun f=>
 if (!(e == f)) then (some (.inr (.inr (-1)))) else (some (.inl (wr (b+1),wr (c+1))))) else (some (.inr (.inl b)))
def wB (a:(List aZ)) (k:Int):Option Int:=
 ob (loop (fun (s:(Int × Int))=>oA a s.1 s.2) (k,0)) fun r=>match r with|.inl r=>vB r|.inr r=>some r
def yL (a:Int):Option Int:=
 some a
def qL (a:(List Edge)) (b c:Int):Option ((Int × Int) ⊕ (Int ⊕ Int)):=
 if (decide (c < (a.length:Int))) then (ob (ix a c) fun d=>
 if (d.F != b) then (some (.inr (.inr (-1)))) else (if (d.B != (wr (b+1))) then (some (.inr (.inr (-1)))) else (if (d.To != (wr ((wr (b+1))+1))) then (some (.inr (.inr (-1)))) else (some (.inl (wr ((wr ((wr (b+1))+1))+1),wr (c+1))))))) else (some (.inr (.inl b)))
def aAO (a:(List Edge)) (k:Int):Option Int:=
 ob (loop (fun (s:(Int × Int))=>qL a s.1 s.2) (k,0)) fun r=>match r with|.inl r=>yL r|.inr r=>some r
def aBH (a:dB) (k:Int):Option Int:=
 ob (wB a.L k) fun c=>
 if (decide (c < 0)) then (some (-1)) else (ob (aAO a.E c) fun d=>
 if (decide (d < 0)) then (some (-1)) else (some d))
def aBW (a:(List Int)) (c:Int):Option Int:=
 if (decide (wr (c - (a.length:Int)) < 0)) then (some (-1)) else (some (wr (c - (a.length:Int))))
def aDj (a:cA) (f:Int):Option Int:=
 ob (aFc a.S f) fun c=>
 if (decide (c < 0)) then (some (-1)) else (ob (aBW a.M c) fun d=>
 if (decide (d < 0)) then (some (-1)) else (ob (xI a.C d) fun e=>
 if (decide (e < 0)) then (some (-1)) else (some e)))
def aAs:Option Int:=
 some (-1)
def sY (b:(List Int)) (n a:Int):Option (Int ⊕ (Unit ⊕ Int)):=
 if (decide (a < (b.length:Int))) then (ob (ix b a) fun d=>
 if (d == n) then (some (.inr (.inr a))) else (some (.inl (wr (a+1))))) else (some (.inr (.inl ())))
def xA (b:(List Int)) (n:Int):Option Int:=
 ob (loop (fun (s:Int)=>sY b n s) 0) fun r=>match r with|.inl r=>aAs|.inr r=>some r
def aBw (a:(List Int)) (b:Int) (c:List aZ) (d:List Edge):Option dB:=
 some ⟨(a.length:Int),b,c,d⟩
def rN (a:Int) (b:List Edge):Option ((List Edge × Int) ⊕ (List Edge)):=
 some (.inl (b,wr (a+1)))
def rO (a:List Edge) (b:Int) (c:Edge) (d e:Int) (f:Bool):Option ((List Edge × Int) ⊕ (List Edge)):=
 if f then (ob (apd a ([⟨d,c.B,e⟩]:List Edge)) fun g=>
 rN b g) else (rN b a)
def rP (t:dB) (g:(List Int)) (c:List Edge) (a:Int):Option ((List Edge × Int) ⊕ (List Edge)):=
 if (decide (a < (t.E.length:Int))) then (ob (ix t.E a) fun b=>
 ob (xA g b.F) fun d=>
 ob (xA g b.To) fun e=>
 if (decide (0≤d)) then (rO c a b d e (decide (0≤e))) else (rO c a b d e false)) else (some (.inr c))
def aDk (t:dB) (b:(List Int)):Option dB:=
 ob (xA b t.I) fun c=>
 ob (apd ([]:List aZ) t.L) fun d=>
 ob (loop (fun (s:(List Edge × Int))=>rP t b s.1 s.2) (([]:List Edge),0)) fun r=>aBw b c d r
def aAt (a:List Int):Option (List Int):=
 some a
def wC (a:Int) (b:List Int):Option ((List Int × Int) ⊕ (List Int)):=
 some (.inl (b,wr (a+1)))
def sZ (t:dB) (d:List Bool) (b:List Int) (a:Int):Option ((List Int × Int) ⊕ (List Int)):=
 if (decide (a < t.N)) then (ob (ix d a) fun e=>
 if e then (ob (apd b ([a]:List Int)) fun f=>
 wC a f) else (wC a b)) else (some (.inr b))
def wD (t:dB) (b:List Bool):Option (List Int):=
 ob (loop (fun (s:(List Int × Int))=>sZ t b s.1 s.2) (([]:List Int),0)) fun r=>aAt r
def aCM (a:List Bool) (b:Bool):Option ((List Bool × Bool) ⊕ (List Bool)):=
 some (.inl (a,b))
def aAu (a:List Bool) (b:Bool):Option ((List Bool × Bool) ⊕ (List Bool)):=
 aCM a b
def pL (a:Int) (b:List Bool) (c:Bool):Option ((List Bool × Bool × Int) ⊕ (List Bool × Bool)):=
 some (.inl (b,c,wr (a+1)))
def pN (t:dB) (a:List Bool) (e:Bool) (b:Int) (f:Bool):Option ((List Bool × Bool × Int) ⊕ (List Bool × Bool)):=
 if f then (ob (ix t.E b) fun c=>
 ob (ix a c.To) fun h=>
 ob (st a c.To (true:Bool)) fun g=>
 pL b g true) else (pL b a e)
def tA (t:dB) (a:List Bool) (d:Bool) (c:Int):Option ((List Bool × Bool × Int) ⊕ (List Bool × Bool)):=
 if (decide (c < (t.E.length:Int))) then (ob (ix t.E c) fun e=>
 ob (ix a e.F) fun f=>
 if f then (ob (ix a e.To) fun g=>
 pN t a d c (!g)) else (pN t a d c false)) else (some (.inr (a,d)))
def yM (t:dB) (a:List Bool) (d:Bool):Option ((List Bool × Bool) ⊕ (List Bool)):=
 if d then (ob (loop (fun (s:(List Bool × Bool × Int))=>tA t s.1 s.2.1 s.2.2) (a,false,0)) fun r=>aAu r.1 r.2) else (some (.inr a))
def aBX (t:dB):Option (List Int):=
 ob (mkz t.N (false:Bool)) fun b=>
 ob (ix b t.I) fun e=>
 ob (st b t.I (true:Bool)) fun c=>
 ob (loop (fun (s:(List Bool × Bool))=>yM t s.1 s.2) (c,true)) fun r=>wD t r
def aDQ (a:Bool):Option Bool:=
 some a
def yN (n low b:Int):Option Bool:=
 if (decide (low≤n)) then (aDQ (decide (n≤b))) else (aDQ false)
def aBx (a:aZ):Option Int:=
 some (a.length:Int)
def vC (b:aZ) (a:Int):Option (Int ⊕ (Unit ⊕ Int)):=
 if (decide (a < (b.length:Int))) then (ob (ix b a) fun c=>
 if ((c.toNat:Int) == 40) then (some (.inr (.inr a))) else (some (.inl (wr (a+1))))) else (some (.inr (.inl ())))
def aBI (b:aZ):Option Int:=
 ob (loop (fun (s:Int)=>vC b s) 0) fun r=>match r with|.inl r=>aBx b|.inr r=>some r
def aAv (a:Bool):Option Bool:=
 some a
def aBY (c:UInt8):Option Bool:=
 if (decide (97≤(c.toNat:Int))) then (aAv (decide ((c.toNat:Int)≤122))) else (aAv false)
def aAw (a:Bool):Option Bool:=
 some a
def aBZ (c:UInt8):Option Bool:=
 if (decide (48≤(c.toNat:Int))) then (aAw (decide ((c.toNat:Int)≤57))) else (aAw false)
def yO:Option Bool:=
 some true
def yP (a:Int) (b:Bool):Option (Int ⊕ (Unit ⊕ Bool)):=
 if b then (some (.inr (.inr false))) else (some (.inl (wr (a+1))))
def vD (b:aZ) (a:Int):Option (Int ⊕ (Unit ⊕ Bool)):=
 if (decide (a < (b.length:Int))) then (ob (ix b a) fun c=>
 ob (aBY c) fun d=>
 if (!d) then (ob (aBZ c) fun e=>
 yP a (!e)) else (yP a false)) else (some (.inr (.inl ())))
def rQ (b:aZ) (c:Bool):Option Bool:=
 if c then (some false) else (ob (loop (fun (s:Int)=>vD b s) 0) fun r=>match r with|.inl r=>yO|.inr r=>some r)
def aBJ (a:aZ):Option Bool:=
 if (a == ([]:aZ)) then (rQ a true) else (if (decide (10 < (a.length:Int))) then (rQ a true) else (ob (ix a 0) fun b=>
 ob (aBY b) fun c=>
 rQ a (!c)))
def uC (a:Bool):Option Bool:=
 some a
def xM (a:aZ):Option Bool:=
 ob (aBJ a) fun b=>
 if b then (uC (!(a == ([116,97,117]:aZ)))) else (uC false)
def wE (a:aZ) (b:List aZ) (c:Int):Option (List aZ):=
 ob (uV a c (a.length:Int)) fun d=>
 ob (apd b ([d]:List aZ)) fun e=>
 some e
def tB (a:Int) (b:List aZ) (c:Int):Option ((List aZ × Int × Int) ⊕ (List aZ × Int)):=
 some (.inl (b,c,wr (a+1)))
def wF (b:aZ) (e:UInt8) (c:List aZ) (d a:Int):Option ((List aZ × Int × Int) ⊕ (List aZ × Int)):=
 if (decide (a < (b.length:Int))) then (ob (ix b a) fun f=>
 if ((f.toNat:Int) == (e.toNat:Int)) then (ob (uV b d a) fun g=>
 ob (apd c ([g]:List aZ)) fun h=>
 tB a h (wr (a+1))) else (tB a c d)) else (some (.inr (c,d)))
def aCa (a:aZ) (c:UInt8):Option (List aZ):=
 ob (loop (fun (s:(List aZ × Int × Int))=>wF a c s.1 s.2.1 s.2.2) (([]:List aZ),0,0)) fun r=>wE a r.1 r.2
def yQ (a:Int):Option (Int × Bool):=
 some (a,true)
def uD (b a:Int):Option (Int × Bool):=
 if (b == 1) then (yQ (wr (0 - a))) else (yQ a)
def oE (b:aZ) (c a:Int):Option ((Int × Int) ⊕ (Int ⊕ (Int × Bool))):=
 if (decide (a < (b.length:Int))) then (ob (ix b a) fun d=>
 ob (aBZ d) fun e=>
 if (!e) then (some (.inr (.inr (0,false)))) else (some (.inl (wr ((wr (10 * c))+(wr ((d - (48:UInt8)).toNat:Int))),wr (a+1))))) else (some (.inr (.inl c)))
def mQ (c:aZ) (b:Int) (d:Bool):Option (Int × Bool):=
 if d then (some (0,false)) else (ob (loop (fun (s:(Int × Int))=>oE c s.1 s.2) (0,b)) fun r=>match r with|.inl r=>uD b r|.inr r=>some r)
def qM (a:aZ) (b:Int):Option (Int × Bool):=
 if ((a.length:Int) == b) then (mQ a b true) else (if (decide (18 < wr ((a.length:Int) - b))) then (mQ a b true) else (ob (ix a b) fun c=>
 if ((c.toNat:Int) == 48) then (mQ a b (decide (1 < (a.length:Int)))) else (mQ a b false)))
def qN (a:aZ) (b:Bool):Option (Int × Bool):=
 if b then (qM a 1) else (qM a 0)
def xN (a:aZ):Option (Int × Bool):=
 if (decide (0 < (a.length:Int))) then (ob (ix a 0) fun b=>
 qN a ((b.toNat:Int) == 45)) else (qN a false)
def uE (a:List Int):Option ((List Int) × Bool):=
 some (a,decide ((a.length:Int)≤2))
def uF (a:List Int) (b:Int) (c:(Int × Bool)) (d:Bool):Option ((List Int × Int) ⊕ (List Int ⊕ ((List Int) × Bool))):=
 if d then (some (.inr (.inr ([],false)))) else (ob (apd a ([c.1]:List Int)) fun e=>
 some (.inl (e,wr (b+1))))
def qO (d:(List aZ)) (c:List Int) (a:Int):Option ((List Int × Int) ⊕ (List Int ⊕ ((List Int) × Bool))):=
 if (decide (a < (d.length:Int))) then (ob (ix d a) fun e=>
 ob (xN e) fun b=>
 if (!b.2) then (uF c a b true) else (ob (yN b.1 0 63) fun f=>
 uF c a b (!f))) else (some (.inr (.inl c)))
def qP (b:aZ) (c:Int) (d:Bool):Option ((List Int) × Bool):=
 if d then (some ([],false)) else (ob (uV b (wr (c+1)) (wr ((b.length:Int) - 1))) fun e=>
 ob (aCa e (44:UInt8)) fun f=>
 ob (loop (fun (s:(List Int × Int))=>qO f s.1 s.2) (([]:List Int),0)) fun r=>match r with|.inl r=>uE r|.inr r=>some r)
def aCE (a:aZ):Option ((List Int) × Bool):=
 ob (aBI a) fun b=>
 if (b == (a.length:Int)) then (ob (aBJ a) fun c=>
 some (([]:List Int),c)) else (ob (uV a 0 b) fun d=>
 ob (xM d) fun e=>
 if (!e) then (qP a b true) else (ob (ix a (wr ((a.length:Int) - 1))) fun f=>
 qP a b ((f.toNat:Int) != 41)))
def aCb (a:aZ):Option Bool:=
 ob (aCE a) fun b=>
 some b.2
def aAx:Option Bool:=
 some true
def pO (a:Int) (b:Bool):Option (Int ⊕ (Unit ⊕ Bool)):=
 if b then (some (.inr (.inr false))) else (some (.inl (wr (a+1))))
def tC (b:(List aZ)) (a:Int):Option (Int ⊕ (Unit ⊕ Bool)):=
 if (decide (a < (b.length:Int))) then (ob (ix b a) fun c=>
 ob (aCb c) fun d=>
 if (!d) then (pO a true) else (if (c == ([116,97,117]:aZ)) then (pO a true) else (if (decide (1 < a)) then (ob (ix b (wr (a - 1))) fun e=>
 pO a (!wQ e c)) else (pO a false)))) else (some (.inr (.inl ())))
def tD (b:(List aZ)) (c:Bool):Option Bool:=
 if c then (some false) else (ob (loop (fun (s:Int)=>tC b s) 1) fun r=>match r with|.inl r=>aAx|.inr r=>some r)
def aCc (a:(List aZ)):Option Bool:=
 if ((a.length:Int) == 0) then (tD a true) else (if (decide (12 < (a.length:Int))) then (tD a true) else (ob (ix a 0) fun b=>
 tD a (!(b == ([116,97,117]:aZ)))))
def aBK (a b:Edge):Option Bool:=
 if (a.F != b.F) then (some (decide (a.F < b.F))) else (if (a.B != b.B) then (some (decide (a.B < b.B))) else (some (decide (a.To < b.To))))
def aDR:Option Bool:=
 some true
def aCd (a:Int) (b:Bool):Option (Int ⊕ (Unit ⊕ Bool)):=
 if b then (some (.inr (.inr false))) else (some (.inl (wr (a+1))))
def aAi (t:dB) (a:Int) (c:Edge) (d:Bool):Option (Int ⊕ (Unit ⊕ Bool)):=
 if d then (some (.inr (.inr false))) else (if (decide (0 < a)) then (ob (ix t.E (wr (a - 1))) fun e=>
 ob (aBK e c) fun f=>
 aCd a (!f)) else (aCd a false))
def aAj (t:dB) (c:Int):Option (Int ⊕ (Unit ⊕ Bool)):=
 if (decide (c < (t.E.length:Int))) then (ob (ix t.E c) fun b=>
 ob (yN b.F 0 (wr (t.N - 1))) fun d=>
 if (!d) then (aAi t c b true) else (ob (yN b.To 0 (wr (t.N - 1))) fun e=>
 if (!e) then (aAi t c b true) else (ob (yN b.B 0 (wr ((t.L.length:Int) - 1))) fun f=>
 aAi t c b (!f)))) else (some (.inr (.inl ())))
def xB (t:dB) (c:Bool):Option Bool:=
 if c then (some false) else (ob (loop (fun (s:Int)=>aAj t s) 0) fun r=>match r with|.inl r=>aDR|.inr r=>some r)
def aGi (t:dB):Option Bool:=
 ob (yN t.N 1 40) fun b=>
 if (!b) then (xB t true) else (ob (yN t.I 0 (wr (t.N - 1))) fun c=>
 if (!c) then (xB t true) else (ob (aCc t.L) fun d=>
 if (!d) then (xB t true) else (xB t (decide (300 < (t.E.length:Int))))))
def yR:Option Bool:=
 some true
def oF (a:Int) (b:Bool):Option (Int ⊕ (Unit ⊕ Bool)):=
 if b then (some (.inr (.inr false))) else (some (.inl (wr (a+1))))
def qQ (t:dB) (a:Int):Option (Int ⊕ (Unit ⊕ Bool)):=
 if (decide (a < (t.E.length:Int))) then (ob (ix t.E a) fun c=>
 if (c.B == 0) then (oF a true) else (if (decide (0 < a)) then (ob (ix t.E (wr (a - 1))) fun d=>
 if (c.F == d.F) then (oF a (c.B == d.B)) else (oF a false)) else (oF a false))) else (some (.inr (.inl ())))
def aAP (t:dB):Option Bool:=
 ob (loop (fun (s:Int)=>qQ t s) 0) fun r=>match r with|.inl r=>yR|.inr r=>some r
def yS (a:Bool):Option Bool:=
 some a
def aBL (t:dB):Option Bool:=
 ob (aGi t) fun b=>
 if b then (ob (aAP t) fun c=>
 yS c) else (yS false)
def aAy:Option Bool:=
 some true
def tE (a:Int) (b:Bool):Option (Int ⊕ (Unit ⊕ Bool)):=
 if b then (some (.inr (.inr false))) else (some (.inl (wr (a+1))))
def tF (b:(List Int)) (low d a:Int):Option (Int ⊕ (Unit ⊕ Bool)):=
 if (decide (a < (b.length:Int))) then (ob (ix b a) fun c=>
 ob (yN c low d) fun e=>
 if (!e) then (tE a true) else (if (decide (0 < a)) then (ob (ix b (wr (a - 1))) fun f=>
 tE a (decide (c≤f))) else (tE a false))) else (some (.inr (.inl ())))
def aCe (b:(List Int)) (low c:Int):Option Bool:=
 ob (loop (fun (s:Int)=>tF b low c s) 0) fun r=>match r with|.inl r=>aAy|.inr r=>some r
def wS:Option Bool:=
 some true
def oT (b:(List aZ)) (a:Int):Option (Int ⊕ (Unit ⊕ Bool)):=
 if (decide (a < (b.length:Int))) then (ob (ix b a) fun c=>
 ob (xM c) fun d=>
 if (!d) then (some (.inr (.inr false))) else (some (.inl (wr (a+1))))) else (some (.inr (.inl ())))
def yT (b:(List aZ)):Option Bool:=
 ob (loop (fun (s:Int)=>oT b s) 0) fun r=>match r with|.inl r=>wS|.inr r=>some r
def aAz:Option Bool:=
 some true
def pP (b:(List aZ)) (a:Int):Option (Int ⊕ (Unit ⊕ Bool)):=
 if (decide (a < (b.length:Int))) then (ob (ix b (wr (a - 1))) fun c=>
 ob (ix b a) fun d=>
 if (!wQ c d) then (some (.inr (.inr false))) else (some (.inl (wr (a+1))))) else (some (.inr (.inl ())))
def wG (b:(List aZ)) (c:Bool):Option Bool:=
 if c then (some false) else (ob (loop (fun (s:Int)=>pP b s) 1) fun r=>match r with|.inl r=>aAz|.inr r=>some r)
def aCf (a:(List aZ)):Option Bool:=
 if (decide (12 < (a.length:Int))) then (wG a true) else (ob (yT a) fun b=>
 wG a (!b))
def aAk (a:Bool):Option Bool:=
 some a
def aGj (p:cA):Option Bool:=
 ob (aBL p.S) fun b=>
 if b then (ob (aCe p.M 0 (wr (p.S.N - 1))) fun c=>
 if c then (ob (aCf p.C) fun d=>
 aAk d) else (aAk false)) else (aAk false)
def aAQ (a:List Edge):Option (List Edge):=
 some a
def aAR (a:Int) (b:List Edge):Option ((List Edge × Int) ⊕ (List Edge)):=
 some (.inl (b,wr (a+1)))
def xO (t:dB) (k:Int) (b:List Edge) (a:Int):Option ((List Edge × Int) ⊕ (List Edge)):=
 if (decide (a < (t.E.length:Int))) then (ob (ix t.E a) fun d=>
 if (d.F == k) then (ob (apd b ([d]:List Edge)) fun f=>
 aAR a f) else (aAR a b)) else (some (.inr b))
def aDl (t:dB) (k:Int):Option (List Edge):=
 ob (loop (fun (s:(List Edge × Int))=>xO t k s.1 s.2) (([]:List Edge),0)) fun r=>aAQ r
def aBy:Option Int:=
 some (-1)
def vE (b:(List aZ)) (c:aZ) (a:Int):Option (Int ⊕ (Unit ⊕ Int)):=
 if (decide (a < (b.length:Int))) then (ob (ix b a) fun d=>
 if (d == c) then (some (.inr (.inr a))) else (some (.inl (wr (a+1))))) else (some (.inr (.inl ())))
def vF (b:(List aZ)) (c:aZ):Option Int:=
 ob (loop (fun (s:Int)=>vE b c s) 0) fun r=>match r with|.inl r=>aBy|.inr r=>some r
def yU (a:List Int):Option (List Int):=
 some a
def yV (a:Int) (b:List Int):Option ((List Int × Int) ⊕ (List Int)):=
 some (.inl (b,wr (a+1)))
def yW (t:dB) (b:List Int) (a:Int) (d:Bool):Option ((List Int × Int) ⊕ (List Int)):=
 if d then (ob (ix t.E a) fun e=>
 ob (apd b ([e.To]:List Int)) fun f=>
 yV a f) else (yV a b)
def vG (t:dB) (k f:Int) (c:List Int) (b:Int):Option ((List Int × Int) ⊕ (List Int)):=
 if (decide (b < (t.E.length:Int))) then (ob (ix t.E b) fun d=>
 if (d.F == k) then (yW t c b (d.B == f)) else (yW t c b false)) else (some (.inr c))
def aDm (t:dB) (k c:Int):Option (List Int):=
 ob (loop (fun (s:(List Int × Int))=>vG t k c s.1 s.2) (([]:List Int),0)) fun r=>yU r
def aFd (d:dB) (k:Int) (f:aZ):Option (Int × Bool):=
 ob (vF d.L f) fun c=>
 if (decide (c < 0)) then (some (k,true)) else (ob (aDm d k c) fun e=>
 if ((e.length:Int) == 0) then (some (0,false)) else (ob (ix e 0) fun g=>
 some (g,true)))
def aBz:Option Bool:=
 some true
def vH (a b:(List Int)) (c:Int):Option (Int ⊕ (Unit ⊕ Bool)):=
 if (decide (c < (a.length:Int))) then (ob (ix a c) fun f=>
 ob (ix b c) fun g=>
 if (f != g) then (some (.inr (.inr false))) else (some (.inl (wr (c+1))))) else (some (.inr (.inl ())))
def aDn (a b:(List Int)):Option Bool:=
 if ((a.length:Int) != (b.length:Int)) then (some false) else (ob (loop (fun (s:Int)=>vH a b s) 0) fun r=>match r with|.inl r=>aBz|.inr r=>some r)
def aCF:Option Int:=
 some (-1)
def xP (rows:(List (List Int))) (b:(List Int)) (a:Int):Option (Int ⊕ (Unit ⊕ Int)):=
 if (decide (a < (rows.length:Int))) then (ob (ix rows a) fun c=>
 ob (aDn c b) fun d=>
 if d then (some (.inr (.inr a))) else (some (.inl (wr (a+1))))) else (some (.inr (.inl ())))
def yX (rows:(List (List Int))) (b:(List Int)):Option Int:=
 ob (loop (fun (s:Int)=>xP rows b s) 0) fun r=>match r with|.inl r=>aCF|.inr r=>some r
def wH (a:List (List Int)) (b:List Edge) (c:Bool):Option ((List (List Int)) × (List Edge) × Bool):=
 some (a,b,c)
def wI (a:List (List Int)) (b:List Edge):Option ((List (List Int)) × (List Edge) × Bool):=
 if (decide (40 < (a.length:Int))) then (wH a b true) else (wH a b (decide (300 < (b.length:Int))))
def aCN (a:Int) (b:List (List Int)) (c:List Edge):Option ((List (List Int) × List Edge × Int) ⊕ (List (List Int) × List Edge)):=
 some (.inl (b,c,wr (a+1)))
def aAA (a:Int) (b:List (List Int)) (c:List Edge):Option ((List (List Int) × List Edge × Int) ⊕ (List (List Int) × List Edge)):=
 aCN a b c
def pQ (a:Int) (b:List (List Int)) (c:List Edge):Option ((List (List Int) × List Edge × Int) ⊕ (List (List Int) × List Edge)):=
 some (.inl (b,c,wr (a+1)))
def wJ (a:Int) (b:List Edge) (c:Int) (d:Edge) (e:List (List Int)) (f:Int):Option ((List (List Int) × List Edge × Int) ⊕ (List (List Int) × List Edge)):=
 ob (apd b ([⟨a,d.B,f⟩]:List Edge)) fun g=>
 pQ c e g
def pR (p:cA) (d:dB) (f:Int) (h:(List Edge)) (a:List (List Int)) (e:List Edge) (b:Int):Option ((List (List Int) × List Edge × Int) ⊕ (List (List Int) × List Edge)):=
 if (decide (b < (h.length:Int))) then (ob (ix a f) fun l=>
 ob (ix l 1) fun m=>
 ob (ix h b) fun c=>
 ob (ix p.S.L c.B) fun n=>
 ob (aFd d m n) fun g=>
 if (!g.2) then (pQ b a e) else (ob (yX a ([c.To,g.1]:List Int)) fun i=>
 if (decide (i < 0)) then (ob (apd a ([([c.To,g.1]:List Int)]:List (List Int))) fun o=>
 wJ f e b c o (a.length:Int)) else (wJ f e b c a i))) else (some (.inr (a,e)))
def tG (p:cA) (d:dB) (a:List (List Int)) (e:List Edge) (b:Int):Option ((List (List Int) × List Edge × Int) ⊕ (List (List Int) × List Edge)):=
 if (decide (b < (a.length:Int))) then (ob (ix a b) fun h=>
 ob (ix h 0) fun i=>
 ob (aDl p.S i) fun j=>
 ob (loop (fun (s:(List (List Int) × List Edge × Int))=>pR p d b j s.1 s.2.1 s.2.2) (a,e,0)) fun r=>aAA b r.1 r.2) else (some (.inr (a,e)))
def aCg (p:cA) (d:dB):Option ((List (List Int)) × (List Edge) × Bool):=
 ob (loop (fun (s:(List (List Int) × List Edge × Int))=>tG p d s.1 s.2.1 s.2.2) (([([p.S.I,d.I]:List Int)]:List (List Int)),[],0)) fun r=>wI r.1 r.2
def aAB (a:List Bool):Option (List Bool):=
 some a
def pS (n:Int) (b:List Bool) (a:Int):Option ((List Bool × Int) ⊕ (List Bool)):=
 if (decide (a < n)) then (ob (ix b a) fun e=>
 ob (st b a (true:Bool)) fun d=>
 some (.inl (d,wr (a+1)))) else (some (.inr b))
def aCh (n:Int):Option (List Bool):=
 ob (mkz n (false:Bool)) fun b=>
 ob (loop (fun (s:(List Bool × Int))=>pS n s.1 s.2) (b,0)) fun r=>aAB r
def uG (a:aZ):Option aZ:=
 ob (aBI a) fun b=>
 ob (uV a 0 b) fun c=>
 some c
def aCG:Option Bool:=
 some false
def xR (b:(List Int)) (n a:Int):Option (Int ⊕ (Unit ⊕ Bool)):=
 if (decide (a < (b.length:Int))) then (ob (ix b a) fun d=>
 if (d == n) then (some (.inr (.inr true))) else (some (.inl (wr (a+1))))) else (some (.inr (.inl ())))
def aED (b:(List Int)) (n:Int):Option Bool:=
 ob (loop (fun (s:Int)=>xR b n s) 0) fun r=>match r with|.inl r=>aCG|.inr r=>some r
def aAC:Option Bool:=
 some true
def tH (a b:(List Bool)) (c:Int):Option (Int ⊕ (Unit ⊕ Bool)):=
 if (decide (c < (a.length:Int))) then (ob (ix a c) fun f=>
 ob (ix b c) fun g=>
 if (f != g) then (some (.inr (.inr false))) else (some (.inl (wr (c+1))))) else (some (.inr (.inl ())))
def aCi (a b:(List Bool)):Option Bool:=
 ob (loop (fun (s:Int)=>tH a b s) 0) fun r=>match r with|.inl r=>aAC|.inr r=>some r
def aBA (a:List aZ):Option (List aZ):=
 some a
def vI (a:Int) (b:List aZ):Option ((List aZ × Int) ⊕ (List aZ)):=
 some (.inl (b,wr (a+1)))
def yY (c:Int) (d:aZ) (a:Int) (b:List aZ):Option ((List aZ × Int) ⊕ (List aZ)):=
 ob (ix b a) fun f=>
 ob (st b a (d:aZ)) fun e=>
 vI c e
def yZ (c:Int) (b:List aZ) (a:Int):Option ((List aZ × Int) ⊕ (List aZ)):=
 if (decide (c < a)) then (ob (ix b (wr (a - 1))) fun d=>
 ob (ix b a) fun f=>
 ob (st b a (d:aZ)) fun e=>
 some (.inl (e,wr (a - 1)))) else (some (.inr b))
def zD (c:List aZ) (d:Int) (e:aZ) (a:Int):Option ((List aZ × Int) ⊕ (List aZ)):=
 ob (apd c ([([]:aZ)]:List aZ)) fun b=>
 ob (loop (fun (s:(List aZ × Int))=>yZ a s.1 s.2) (b,wr ((b.length:Int) - 1))) fun r=>yY d e a r
def zF (a:Int) (b:Bool):Option (Int ⊕ Int):=
 if b then (some (.inl (wr (a+1)))) else (some (.inr a))
def rR (b:List aZ) (c:aZ) (a:Int):Option (Int ⊕ Int):=
 if (decide (a < (b.length:Int))) then (ob (ix b a) fun d=>
 zF a (wQ d c)) else (zF a false)
def pC (d:(List aZ)) (a:List aZ) (b:Int):Option ((List aZ × Int) ⊕ (List aZ)):=
 if (decide (b < (d.length:Int))) then (ob (ix d b) fun c=>
 ob (vF a c) fun e=>
 if (decide (0≤e)) then (vI b a) else (ob (loop (fun (s:Int)=>rR a c s) 1) fun r=>zD a b c r)) else (some (.inr a))
def aDo (a:(List aZ)):Option (List aZ):=
 ob (loop (fun (s:(List aZ × Int))=>pC a s.1 s.2) (([([116,97,117]:aZ)]:List aZ),0)) fun r=>aBA r
def aAS (e:Edge) (b:Int) (c:List Edge):Option (List Edge):=
 ob (ix c b) fun f=>
 ob (st c b (⟨e.F,e.B,e.To⟩:Edge)) fun d=>
 some d
def xS (d:Int) (b:List Edge) (a:Int):Option ((List Edge × Int) ⊕ (List Edge)):=
 if (decide (d < a)) then (ob (ix b (wr (a - 1))) fun c=>
 ob (ix b a) fun f=>
 ob (st b a (⟨c.F,c.B,c.To⟩:Edge)) fun e=>
 some (.inl (e,wr (a - 1)))) else (some (.inr b))
def xT (a:(List Edge)) (e:Edge) (b:Int) (f:Bool):Option (List Edge):=
 if f then (some a) else (ob (apd a ([⟨0,0,0⟩]:List Edge)) fun c=>
 ob (loop (fun (s:(List Edge × Int))=>xS b s.1 s.2) (c,wr ((c.length:Int) - 1))) fun r=>aAS e b r)
def aAT (b:(List Edge)) (e:Edge) (a:Int):Option (List Edge):=
 if (decide (0 < a)) then (ob (ix b (wr (a - 1))) fun d=>
 xT b e a (decide ((d:Edge)=e))) else (xT b e a false)
def xU (a:Int) (b:Bool):Option (Int ⊕ Int):=
 if b then (some (.inl (wr (a - 1)))) else (some (.inr a))
def uH (b:(List Edge)) (e:Edge) (a:Int):Option (Int ⊕ Int):=
 if (decide (0 < a)) then (ob (ix b (wr (a - 1))) fun d=>
 ob (aBK e d) fun f=>
 xU a f) else (xU a false)
def aEE (a:(List Edge)) (e:Edge):Option (List Edge):=
 ob (loop (fun (s:Int)=>uH a e s) (a.length:Int)) fun r=>aAT a e r
def aBB (a b:Int) (c:(List aZ)) (d:List Edge):Option dB:=
 some ⟨a,b,c,d⟩
def rS (e:(List aZ)) (c:(List Edge)) (f:(List aZ)) (d:List Edge) (a:Int):Option ((List Edge × Int) ⊕ (List Edge)):=
 if (decide (a < (c.length:Int))) then (ob (ix c a) fun b=>
 ob (ix e b.B) fun g=>
 ob (vF f g) fun h=>
 ob (aEE d ⟨b.F,h,b.To⟩) fun i=>
 some (.inl (i,wr (a+1)))) else (some (.inr d))
def aDp (c d:Int) (a:(List aZ)) (e:(List Edge)):Option dB:=
 ob (aDo a) fun b=>
 ob (loop (fun (s:(List Edge × Int))=>rS a e b s.1 s.2) (([]:List Edge),0)) fun r=>aBB c d b r
def sF (a b:(List Int)):Option Int:=
 if (decide ((a.length:Int) < (b.length:Int))) then (some (-1)) else (if (decide ((b.length:Int) < (a.length:Int))) then (some 1) else (some 0))
def oU (a b:(List Int)) (c:Int) (h:Bool):Option (Int ⊕ (Unit ⊕ Int)):=
 if h then (ob (ix a c) fun d=>
 ob (ix b c) fun e=>
 if (decide (d < e)) then (some (.inr (.inr (-1)))) else (if (decide (e < d)) then (some (.inr (.inr 1))) else (some (.inl (wr (c+1)))))) else (some (.inr (.inl ())))
def lH (a b:(List Int)) (c:Int):Option (Int ⊕ (Unit ⊕ Int)):=
 if (decide (c < (a.length:Int))) then (oU a b c (decide (c < (b.length:Int)))) else (oU a b c false)
def zH (a b:(List Int)):Option Int:=
 ob (loop (fun (s:Int)=>lH a b s) 0) fun r=>match r with|.inl r=>sF a b|.inr r=>some r
def uI (a:List (List Int)):Option (List (List Int)):=
 some a
def uJ (b:(List Int)) (a:List (List Int)) (c:Bool):Option (List (List Int)):=
 if (!c) then (ob (apd a ([b]:List (List Int))) fun d=>
 uI d) else (uI a)
def kY (a:Int) (b:(List Int)) (c:List (List Int)) (d:Bool):Option ((List (List Int) × Bool × Int) ⊕ (List (List Int) × Bool)):=
 ob (apd c ([b]:List (List Int))) fun e=>
 some (.inl (e,d,wr (a+1)))
def qR (d:(List Int)) (a:List (List Int)) (e:Bool) (b:Int) (c:(List Int)) (f:Int) (g:Bool):Option ((List (List Int) × Bool × Int) ⊕ (List (List Int) × Bool)):=
 if g then (if (decide (0 < f)) then (ob (apd a ([d]:List (List Int))) fun h=>
 kY b c h true) else (kY b c a true)) else (kY b c a e)
def qS (rows:(List (List Int))) (c:(List Int)) (d:List (List Int)) (a:Bool) (b:Int):Option ((List (List Int) × Bool × Int) ⊕ (List (List Int) × Bool)):=
 if (decide (b < (rows.length:Int))) then (ob (ix rows b) fun e=>
 ob (zH e c) fun f=>
 if (!a) then (qR c d a b e f (decide (0≤f))) else (qR c d a b e f false)) else (some (.inr (d,a)))
def aAU (rows:(List (List Int))) (a:(List Int)):Option (List (List Int)):=
 ob (loop (fun (s:(List (List Int) × Bool × Int))=>qS rows a s.1 s.2.1 s.2.2) (([]:List (List Int)),false,0)) fun r=>uJ a r.1 r.2
def mD (a:List Int):Option (List Int):=
 some a
def iI (a:Int) (b:List Int):Option ((List Int × Int) ⊕ (List Int)):=
 some (.inl (b,wr (a+1)))
def fR (e:cA) (f:dB) (g:(List Int)) (c:(List Edge)) (b:List Int) (a:Int):Option ((List Int × Int) ⊕ (List Int)):=
 if (decide (a < (c.length:Int))) then (ob (ix g 1) fun h=>
 ob (ix c a) fun d=>
 ob (ix e.S.L d.B) fun i=>
 ob (aFd f h i) fun j=>
 if (!j.2) then (ob (apd b ([d.B]:List Int)) fun k=>
 iI a k) else (iI a b)) else (some (.inr b))
def lM (a:cA) (c:dB) (d:(List (List Int))) (i:(List Edge)) (j:Bool) (e:Int):Option (List Int):=
 ob (ix d e) fun b=>
 ob (ix b 0) fun f=>
 ob (aDl a.S f) fun g=>
 ob (loop (fun (s:(List Int × Int))=>fR a c b g s.1 s.2) (([]:List Int),0)) fun r=>mD r
def iJ (a:cA) (f:dB) (g:(List (List Int))) (h:(List Edge)) (i:Bool) (b:Int):Option Bool:=
 ob (ix a.S.L b) fun c=>
 ob (uG c) fun d=>
 ob (vF a.C d) fun e=>
 some (decide (0≤e))
def nP:Option Int:=
 some (-1)
def gP (d:cA) (e:dB) (f:(List (List Int))) (g:(List Edge)) (h:Bool) (b:(List Int)) (a:Int):Option (Int ⊕ (Unit ⊕ Int)):=
 if (decide (a < (b.length:Int))) then (ob (ix b a) fun c=>
 ob (iJ d e f g h c) fun i=>
 if (!i) then (some (.inr (.inr c))) else (some (.inl (wr (a+1))))) else (some (.inr (.inl ())))
def nH (b:cA) (c:dB) (d:(List (List Int))) (e:(List Edge)) (f:Bool) (g:Int):Option Int:=
 ob (lM b c d e f g) fun h=>
 ob (loop (fun (s:Int)=>gP b c d e f h s) 0) fun r=>match r with|.inl r=>nP|.inr r=>some r
def aBd (a:List Bool):Option ((List Bool) ⊕ (List Bool)):=
 some (.inl a)
def sG (a b:List Bool):Option ((List Bool) ⊕ (List Bool)):=
 ob (aCi b a) fun c=>
 if c then (some (.inr a)) else (aBd b)
def nA (a:Int) (b:List Bool):Option ((List Bool × Int) ⊕ (List Bool)):=
 some (.inl (b,wr (a+1)))
def nB (a:List Bool) (b:Int) (c:Edge) (d:Bool):Option ((List Bool × Int) ⊕ (List Bool)):=
 if d then (ob (ix a c.F) fun f=>
 ob (st a c.F (false:Bool)) fun e=>
 nA b e) else (nA b a)
def nC (e:cA) (f:dB) (g:(List (List Int))) (c:(List Edge)) (h:Bool) (i d:List Bool) (a:Int):Option ((List Bool × Int) ⊕ (List Bool)):=
 if (decide (a < (c.length:Int))) then (ob (ix c a) fun b=>
 ob (ix i b.To) fun j=>
 if (!j) then (ob (iJ e f g c h b.B) fun k=>
 nB d a b (!k)) else (nB d a b false)) else (some (.inr d))
def sH (b:cA) (c:dB) (d:(List (List Int))) (e:(List Edge)) (f:Bool) (g a:List Bool):Option ((List Bool) ⊕ (List Bool)):=
 ob (apd ([]:List Bool) a) fun h=>
 ob (loop (fun (s:(List Bool × Int))=>nC b c d e f a s.1 s.2) (h,0)) fun r=>sG g r
def aBe (a:List Bool) (b:Bool):Option ((List Bool × Bool) ⊕ (List Bool)):=
 some (.inl (a,b))
def wT (a:List Bool) (b:Bool):Option ((List Bool × Bool) ⊕ (List Bool)):=
 aBe a b
def sI (a:Int) (b:List Bool) (c:Bool):Option ((List Bool × Bool × Int) ⊕ (List Bool × Bool)):=
 some (.inl (b,c,wr (a+1)))
def lR (a:List Bool) (d:Bool) (b:Int) (c:Edge) (e:Bool):Option ((List Bool × Bool × Int) ⊕ (List Bool × Bool)):=
 if e then (ob (ix a c.F) fun g=>
 ob (st a c.F (true:Bool)) fun f=>
 sI b f true) else (sI b a d)
def oB (e:(List Edge)) (f b:List Bool) (d:Bool) (c:Int):Option ((List Bool × Bool × Int) ⊕ (List Bool × Bool)):=
 if (decide (c < (e.length:Int))) then (ob (ix e c) fun a=>
 ob (ix f a.F) fun g=>
 if g then (ob (ix f a.To) fun h=>
 if h then (ob (ix b a.To) fun i=>
 if i then (ob (ix b a.F) fun j=>
 lR b d c a (!j)) else (lR b d c a false)) else (lR b d c a false)) else (lR b d c a false)) else (some (.inr (b,d)))
def qT (c:(List Edge)) (d a:List Bool) (e:Bool):Option ((List Bool × Bool) ⊕ (List Bool)):=
 if e then (ob (loop (fun (s:(List Bool × Bool × Int))=>oB c d s.1 s.2.1 s.2.2) (a,false,0)) fun r=>wT r.1 r.2) else (some (.inr a))
def qU (c:cA) (d:dB) (e:(List (List Int))) (a:(List Edge)) (f:Bool) (b g:List Bool):Option ((List Bool) ⊕ (List Bool)):=
 ob (loop (fun (s:(List Bool × Bool))=>qT a b s.1 s.2) (g,true)) fun r=>sH c d e a f b r
def qV (a:Int) (b:List Bool):Option ((List Bool × Int) ⊕ (List Bool)):=
 some (.inl (b,wr (a+1)))
def lS (d:cA) (e:(List (List Int))) (c b:List Bool) (a:Int):Option ((List Bool × Int) ⊕ (List Bool)):=
 if (decide (a < (c.length:Int))) then (ob (ix c a) fun f=>
 if f then (ob (ix e a) fun g=>
 ob (ix g 0) fun h=>
 ob (aED d.M h) fun i=>
 ob (ix b a) fun l=>
 ob (st b a (i:Bool)) fun j=>
 qV a j) else (ob (ix b a) fun m=>
 ob (st b a (false:Bool)) fun k=>
 qV a k)) else (some (.inr b))
def oC (b:cA) (d:dB) (c:(List (List Int))) (e:(List Edge)) (f:Bool) (a:List Bool):Option ((List Bool) ⊕ (List Bool)):=
 ob (mkz (a.length:Int) (false:Bool)) fun g=>
 ob (loop (fun (s:(List Bool × Int))=>lS b c a s.1 s.2) (g,0)) fun r=>qU b d c e f a r
def qW (a:cA) (b:dB) (c:(List (List Int))) (d:(List Edge)) (e:Bool) (f:List Bool):Option (List Bool):=
 ob (loop (fun (s:List Bool)=>oC a b c d e s) f) fun r=>some r
def lT (c:cA) (d:dB) (e:(List (List Int))) (f:(List Edge)) (g:Bool) (b:List Bool) (a:Int):Option ((List Bool × Int) ⊕ (List Bool)):=
 if (decide (a < (b.length:Int))) then (ob (nH c d e f g a) fun h=>
 ob (ix b a) fun j=>
 ob (st b a (decide (h < 0):Bool)) fun i=>
 some (.inl (i,wr (a+1)))) else (some (.inr b))
def zJ (b:cA) (c:dB) (a:(List (List Int))) (d:(List Edge)) (e:Bool):Option (List Bool):=
 ob (aCh (a.length:Int)) fun f=>
 ob (loop (fun (s:(List Bool × Int))=>lT b c a d e s.1 s.2) (f,0)) fun r=>qW b c a d e r
def kZ (b:cA) (c:(List (List Int))) (a:List (List Int)) (d:List Edge):Option (dB × (List (List Int))):=
 ob (ix c 0) fun e=>
 ob (yX a e) fun f=>
 ob (aDp (a.length:Int) f b.S.L d) fun g=>
 some (g,a)
def gQ (a:Int) (b:List Edge):Option ((List Edge × Int) ⊕ (List Edge)):=
 some (.inl (b,wr (a+1)))
def gR (b:(List (List Int))) (c:List (List Int)) (d:List Edge) (e:Int) (a:Edge) (f:Bool):Option ((List Edge × Int) ⊕ (List Edge)):=
 if f then (ob (ix b a.F) fun g=>
 ob (ix b a.To) fun h=>
 ob (yX c g) fun i=>
 ob (yX c h) fun j=>
 ob (apd d ([⟨i,a.B,j⟩]:List Edge)) fun k=>
 gQ e k) else (gQ e d)
def eE (d:(List (List Int))) (e:(List Edge)) (f:(List Bool)) (g:List (List Int)) (c:List Edge) (a:Int):Option ((List Edge × Int) ⊕ (List Edge)):=
 if (decide (a < (e.length:Int))) then (ob (ix e a) fun b=>
 ob (ix f b.F) fun h=>
 if h then (ob (ix f b.To) fun i=>
 gR d g c a b i) else (gR d g c a b false)) else (some (.inr c))
def lA (c:cA) (a:(List (List Int))) (d:(List Edge)) (e:(List Bool)) (b:List (List Int)):Option (dB × (List (List Int))):=
 ob (loop (fun (s:(List Edge × Int))=>eE a d e b s.1 s.2) (([]:List Edge),0)) fun r=>kZ c a b r
def jH (a:Int) (b:List (List Int)):Option ((List (List Int) × Int) ⊕ (List (List Int))):=
 some (.inl (b,wr (a+1)))
def gS (c:(List (List Int))) (d:(List Bool)) (b:List (List Int)) (a:Int):Option ((List (List Int) × Int) ⊕ (List (List Int))):=
 if (decide (a < (c.length:Int))) then (ob (ix d a) fun e=>
 if e then (ob (ix c a) fun f=>
 ob (aAU b f) fun g=>
 jH a g) else (jH a b)) else (some (.inr b))
def nI (c:cA) (f:dB) (a:(List (List Int))) (d:(List Edge)) (g:Bool) (b:(List Bool)):Option (dB × (List (List Int))):=
 ob (loop (fun (s:(List (List Int) × Int))=>gS a b s.1 s.2) (([]:List (List Int)),0)) fun r=>lA c a d b r
def pD (p:cA) (c:dB) (f:Bool):Option (dB × Int):=
 if f then (some (⟨0,0,[],[]⟩,1)) else (ob (aCg p c) fun a=>
 if a.2.2 then (some (⟨0,0,[],[]⟩,5)) else (ob (zJ p c a.1 a.2.1 a.2.2) fun d=>
 ob (ix d 0) fun g=>
 if (!g) then (some (⟨0,0,[],[]⟩,3)) else (ob (nI p c a.1 a.2.1 a.2.2 d) fun e=>
 ob (aBX e.1) fun h=>
 ob (aDk e.1 h) fun i=>
 some (i,0))))
def uK (p:cA) (b:dB):Option (dB × Int):=
 ob (aGj p) fun c=>
 if (!c) then (pD p b true) else (ob (aBL b) fun d=>
 pD p b (!d))
def aAD (a:List Int):Option (List Int):=
 some a
def wK (a:(List Int)) (c:List Int) (b:Int):Option ((List Int × Int) ⊕ (List Int)):=
 if (decide (b < (a.length:Int))) then (ob (ix a b) fun e=>
 ob (ix c b) fun g=>
 ob (st c b (e:Int)) fun f=>
 some (.inl (f,wr (b+1)))) else (some (.inr c))
def aCj (a:(List Int)):Option (List Int):=
 ob (mkz (a.length:Int) (0:Int)) fun c=>
 ob (loop (fun (s:(List Int × Int))=>wK a s.1 s.2) (c,0)) fun r=>aAD r
def xV (a:cA):Option cA:=
 ob (aBt a.S) fun b=>
 ob (aCj a.M) fun d=>
 ob (xJ a.C) fun e=>
 some ⟨⟨b.N,b.I,b.L,b.E⟩,d,e⟩
def lU (a:Int):Option Bool:=
 some (a != a)
def fB (a y:Int):Option Int:=
 ob (lU a) fun d=>
 ob (lU y) fun c=>
 if d then (if c then (some 0) else (some (-1))) else (if c then (some 1) else (if (decide (a < y)) then (some (-1)) else (if (decide (y < a)) then (some 1) else (some 0))))
def qX:Option Int:=
 some 0
def iK (b:(List Int)) (a:Int):Option (Int ⊕ (Unit ⊕ Int)):=
 if (decide (a < (b.length:Int))) then (ob (ix b a) fun c=>
 if (c != 0) then (some (.inr (.inr c))) else (some (.inl (wr (a+1))))) else (some (.inr (.inl ())))
def wL (b:(List Int)):Option Int:=
 ob (loop (fun (s:Int)=>iK b s) 0) fun r=>match r with|.inl r=>qX|.inr r=>some r
def uL (a b:Edge):Option Int:=
 ob (fB a.F b.F) fun e=>
 ob (fB a.B b.B) fun f=>
 ob (fB a.To b.To) fun g=>
 ob (wL ([e,f,g]:List Int)) fun h=>
 some h
def iT:Option Int:=
 some (-1)
def eI (b:(List Int)) (c a:Int):Option (Int ⊕ (Unit ⊕ Int)):=
 if (decide (a < (b.length:Int))) then (ob (ix b a) fun d=>
 if (c == d) then (some (.inr (.inr a))) else (some (.inl (wr (a+1))))) else (some (.inr (.inl ())))
def fG (b:(List Int)) (c:Int):Option Int:=
 ob (loop (fun (s:Int)=>eI b c s) 0) fun r=>match r with|.inl r=>iT|.inr r=>some r
def pT (k:Int) (p:(List Int)):Option Int:=
 ob (fG p k) fun c=>
 some c
def dD (a:(List aZ)):Option (List aZ):=
 ob (apd ([]:List aZ) a) fun b=>
 some b
def wM (a:(List Int)) (b:Int) (c:List aZ) (d:List Edge):Option dB:=
 ob (wZ d) fun e=>
 some ⟨(a.length:Int),b,c,e⟩
def pU (a:Int) (b:List Edge):Option ((List Edge × Int) ⊕ (List Edge)):=
 some (.inl (b,wr (a+1)))
def pV (a:List Edge) (b:Int) (c:Edge) (d e:Int) (f:Bool):Option ((List Edge × Int) ⊕ (List Edge)):=
 if f then (ob (apd a ([⟨d,c.B,e⟩]:List Edge)) fun g=>
 pU b g) else (pU b a)
def pW (t:dB) (g:(List Int)) (c:List Edge) (a:Int):Option ((List Edge × Int) ⊕ (List Edge)):=
 if (decide (a < (t.E.length:Int))) then (ob (ix t.E a) fun b=>
 ob (pT b.F g) fun d=>
 ob (pT b.To g) fun e=>
 if (decide (0≤d)) then (pV c a b d e (decide (0≤e))) else (pV c a b d e false)) else (some (.inr c))
def aAE (t:dB) (a:(List Int)) (c:Int) (d:List aZ):Option dB:=
 ob (loop (fun (s:(List Edge × Int))=>pW t a s.1 s.2) ([],0)) fun r=>wM a c d r
def aCk (t:dB) (b:(List Int)):Option dB:=
 ob (pT t.I b) fun c=>
 ob (dD t.L) fun d=>
 aAE t b c d
def iE (a:List Int):Option (List Int):=
 some a
def fI (a:List Int) (b:Int):Option ((List Int × Int) ⊕ (List Int)):=
 if (decide (b < (a.length:Int))) then (ob (uV a b (a.length:Int)) fun d=>
 ob (uV a 0 b) fun c=>
 ob (ovw a b (List.take (Nat.min c.length d.length) c)) fun e=>
 some (.inl (e,wr (b+((Nat.min c.length d.length):Int))))) else (some (.inr a))
def iF (a:(List Int)) (c:(Int × Int)):Option (List Int):=
 ob (mkz (wr c.2) (0:Int)) fun b=>
 ob (ovw b 0 (List.take (Nat.min a.length b.length) a)) fun d=>
 ob (loop (fun (s:(List Int × Int))=>fI s.1 s.2) (d,((Nat.min a.length b.length):Int))) fun r=>iE r
def fJ (a:(List Int)) (b:(Int × Int)) (c:Bool):Option (List Int):=
 if c then (none) else (iF a b)
def iG (b:(List Int)) (c:Int):Option (List Int):=
 ob (aHm (aBO (b.length:Int)) (aBO c)) fun a=>
 if (decide (0 < a.1)) then (fJ b a true) else (fJ b a (decide (9223372036854775807 < a.2)))
def gD (b:(List Int)) (a:Int):Option (List Int):=
 if (decide (a < 0)) then (none) else (iG b a)
def eH (a:(List Int)):Option (List Int):=
 ob (apd ([]:List Int) a) fun b=>
 some b
def rT (a:List Int):Option (List Int):=
 some a
def xC (a b:List Int):Option ((List Int × List Int) ⊕ (List Int)):=
 some (.inl (a,b))
def rU (a b:List Int):Option ((List Int × List Int) ⊕ (List Int)):=
 xC a b
def kC (a:Int) (b c:List Int):Option ((List Int × List Int × Int) ⊕ (List Int × List Int)):=
 some (.inl (b,c,wr (a+1)))
def lV (e:Int) (a c:List Int) (d b:Int) (f:Bool):Option ((List Int × List Int × Int) ⊕ (List Int × List Int)):=
 if f then (ob (ix a e) fun g=>
 ob (ix a b) fun j=>
 ob (st a b (wr (g+1):Int)) fun h=>
 ob (apd c ([b]:List Int)) fun i=>
 kC d h i) else (kC d a c)
def oG (a:Int) (b d:List Int) (e f c:Int):Option ((List Int × List Int × Int) ⊕ (List Int × List Int)):=
 if (f == a) then (ob (ix b c) fun g=>
 lV a b d e c (decide (g < 0))) else (lV a b d e c false)
def lW (t:dB) (g:Bool) (f:Int) (c d:List Int) (a:Int):Option ((List Int × List Int × Int) ⊕ (List Int × List Int)):=
 if (decide (a < (t.E.length:Int))) then (ob (ix t.E a) fun b=>
 if (!g) then (oG f c d a b.To b.F) else (oG f c d a b.F b.To)) else (some (.inr (c,d)))
def oH (t:dB) (e:Bool) (b a:List Int):Option ((List Int × List Int) ⊕ (List Int)):=
 if (decide (0 < (a.length:Int))) then (ob (ix a 0) fun f=>
 ob (uV a 1 (a.length:Int)) fun g=>
 ob (loop (fun (s:(List Int × List Int × Int))=>lW t e f s.1 s.2.1 s.2.2) (b,g,0)) fun r=>rU r.1 r.2) else (some (.inr b))
def oI (t:dB) (b:Bool) (c:(List Int)) (d:List Int):Option (List Int):=
 ob (loop (fun (s:(List Int × List Int))=>oH t b s.1 s.2) (d,c)) fun r=>rT r
def nJ (c:(List Int)) (a:List Int) (b:Int):Option ((List Int × Int) ⊕ (List Int)):=
 if (decide (b < (c.length:Int))) then (ob (ix c b) fun d=>
 ob (ix a d) fun f=>
 ob (st a d (0:Int)) fun e=>
 some (.inl (e,wr (b+1)))) else (some (.inr a))
def sJ (t:dB) (b:(List Int)) (c:Bool):Option (List Int):=
 ob (gD ([(-1)]:List Int) t.N) fun d=>
 ob (eH b) fun e=>
 ob (loop (fun (s:(List Int × Int))=>nJ b s.1 s.2) (d,0)) fun r=>oI t c e r
def aFe (a:List Int):Option (List Int):=
 some a
def aBM (n:Int) (b:List Int) (a:Int):Option ((List Int × Int) ⊕ (List Int)):=
 if (decide (a < n)) then (ob (apd b ([a]:List Int)) fun d=>
 some (.inl (d,wr (a+1)))) else (some (.inr b))
def aIn (n:Int):Option (List Int):=
 ob (loop (fun (s:(List Int × Int))=>aBM n s.1 s.2) ([],0)) fun r=>aFe r
def lX (k:Int) (p:(List Int)):Option Bool:=
 ob (ix p k) fun c=>
 some (decide (c < 0))
def fL:Option Int:=
 some (-1)
def dN (b c:(List Int)) (a:Int):Option (Int ⊕ (Unit ⊕ Int)):=
 if (decide (a < (b.length:Int))) then (ob (ix b a) fun d=>
 ob (lX d c) fun e=>
 if e then (some (.inr (.inr a))) else (some (.inl (wr (a+1))))) else (some (.inr (.inl ())))
def eN (b c:(List Int)):Option Int:=
 ob (loop (fun (s:Int)=>dN b c s) 0) fun r=>match r with|.inl r=>fL|.inr r=>some r
def eJ (a:List Int) (b:Int):Option (List Int):=
 ob (uV a b (a.length:Int)) fun c=>
 ob (ovw a b (List.replicate c.length (0:Int))) fun d=>
 ob (uV d 0 b) fun e=>
 some e
def eK (a:Int) (b:List Int) (c:Int):Option ((List Int × Int × Int) ⊕ (List Int × Int)):=
 some (.inl (b,c,wr (a+1)))
def dH (e:(List Int)) (a:List Int) (b c:Int):Option ((List Int × Int × Int) ⊕ (List Int × Int)):=
 if (decide (c < (a.length:Int))) then (ob (ix a c) fun d=>
 ob (lX d e) fun f=>
 if (!f) then (ob (ix a b) fun h=>
 ob (st a b (d:Int)) fun g=>
 eK c g (wr (b+1))) else (eK c a b)) else (some (.inr (a,b)))
def fE (a c:(List Int)):Option (List Int):=
 ob (eN a c) fun b=>
 if (b == (-1)) then (some a) else (ob (loop (fun (s:(List Int × Int × Int))=>dH c s.1 s.2.1 s.2.2) (a,b,wr (b+1))) fun r=>eJ r.1 r.2)
def sK (t:dB):Option (List Int):=
 ob (sJ t ([t.I]:List Int) true) fun b=>
 ob (aIn t.N) fun c=>
 ob (fE c b) fun d=>
 some d
def zN (a:List Edge):Option (List Edge):=
 some a
def zO (a:Int) (b:List Edge):Option ((List Edge × Int) ⊕ (List Edge)):=
 some (.inl (b,wr (a+1)))
def vJ (t:dB) (k:Int) (b:List Edge) (a:Int):Option ((List Edge × Int) ⊕ (List Edge)):=
 if (decide (a < (t.E.length:Int))) then (ob (ix t.E a) fun d=>
 if (d.F == k) then (ob (apd b ([d]:List Edge)) fun f=>
 zO a f) else (zO a b)) else (some (.inr b))
def vK (t:dB) (k:Int):Option (List Edge):=
 ob (loop (fun (s:(List Edge × Int))=>vJ t k s.1 s.2) ([],0)) fun r=>zN r
def eM (a:(List Int)) (b:Int):Option Bool:=
 ob (fG a b) fun c=>
 some (decide (0≤c))
def gT (a:(List Int)):Option (List Int):=
 some a
def kD (a:Int):Option (Int ⊕ (Unit ⊕ (List Int))):=
 some (.inl (wr (a+1)))
def gV (a:List Int) (b:Int):Option (Int ⊕ (Unit ⊕ (List Int))):=
 ob (uV a b (a.length:Int)) fun c=>
 ob (ovw a b (List.replicate c.length (0:Int))) fun d=>
 ob (uV d 0 b) fun e=>
 some (.inr (.inr e))
def gW (a:Int) (b:List Int) (c:Int):Option ((List Int × Int × Int) ⊕ (List Int × Int)):=
 some (.inl (b,c,wr (a+1)))
def kE (e:Int) (d b:List Int) (c a:Int):Option ((List Int × Int × Int) ⊕ (List Int × Int)):=
 if (decide (a < (d.length:Int))) then (ob (ix d a) fun i=>
 ob (ix b (e+a)) fun f=>
 ob (ix d (wr (a - 1))) fun j=>
 ob (ix b (e+(wr (a - 1)))) fun g=>
 if (f != g) then (ob (ix b c) fun k=>
 ob (st b c (f:Int)) fun h=>
 gW a h (wr (c+1))) else (gW a b c)) else (some (.inr (b,c)))
def kF (b:(List Int)) (a:Int):Option (Int ⊕ (Unit ⊕ (List Int))):=
 if (decide (a < (b.length:Int))) then (ob (ix b a) fun d=>
 ob (ix b (wr (a - 1))) fun e=>
 if (d == e) then (ob (uV b a (b.length:Int)) fun f=>
 ob (loop (fun (s:(List Int × Int × Int))=>kE a f s.1 s.2.1 s.2.2) (b,a,1)) fun r=>gV r.1 r.2) else (kD a)) else (some (.inr (.inl ())))
def fS (a:(List Int)):Option (List Int):=
 if (decide ((a.length:Int) < 2)) then (some a) else (ob (loop (fun (s:Int)=>kF a s) 1) fun r=>match r with|.inl r=>gT a|.inr r=>some r)
def sL (a:List Int):Option (List Int):=
 ob (aDd a) fun b=>
 ob (fS b) fun c=>
 some c
def sM (a:Int) (b:List Int):Option ((List Int × Int) ⊕ (List Int)):=
 some (.inl (b,wr (a+1)))
def sN (a:List Int) (b:Int) (c:Edge) (d:Bool):Option ((List Int × Int) ⊕ (List Int)):=
 if d then (ob (apd a ([c.To]:List Int)) fun e=>
 sM b e) else (sM b a)
def oV (t:dB) (e:(List Int)) (f:aZ) (d:List Int) (a:Int):Option ((List Int × Int) ⊕ (List Int)):=
 if (decide (a < (t.E.length:Int))) then (ob (ix t.E a) fun b=>
 ob (ix t.L b.B) fun g=>
 if (g == f) then (ob (eM e b.F) fun h=>
 sN d a b h) else (sN d a b false)) else (some (.inr d))
def zQ (t:dB) (b:(List Int)) (c:aZ):Option (List Int):=
 ob (loop (fun (s:(List Int × Int))=>oV t b c s.1 s.2) ([],0)) fun r=>sL r
def aCl (t:dB) (k:Int) (d:aZ):Option Int:=
 if (decide (k < 0)) then (some (-1)) else (ob (zQ t ([k]:List Int) d) fun b=>
 if (decide (0 < (b.length:Int))) then (ob (ix b 0) fun e=>
 some e) else (some (-1)))
def gX:Option Int:=
 some (-1)
def dZ (b:(List aZ)) (c:aZ) (a:Int):Option (Int ⊕ (Unit ⊕ Int)):=
 if (decide (a < (b.length:Int))) then (ob (ix b a) fun d=>
 if (c == d) then (some (.inr (.inr a))) else (some (.inl (wr (a+1))))) else (some (.inr (.inl ())))
def eR (b:(List aZ)) (c:aZ):Option Int:=
 ob (loop (fun (s:Int)=>dZ b c s) 0) fun r=>match r with|.inl r=>gX|.inr r=>some r
def eA (a:(List aZ)) (b:aZ):Option Bool:=
 ob (eR a b) fun c=>
 some (decide (0≤c))
def lI (t:dB) (k:Int) (c:aZ):Option (Int × Bool):=
 ob (eA t.L c) fun e=>
 if (!e) then (some (k,true)) else (ob (aCl t k c) fun d=>
 some (d,decide (0≤d)))
def nD (a:(Int × Int)) (e:(List aZ)) (i j:Int) (k:(List aZ)) (l:(List Edge)) (m:(List Int)) (n:(List aZ)) (o p:Int) (q:(List aZ)) (r:(List Edge)) (b:(List (List Int))) (c:(List ((Int × Int) × Int))) (d:(List (List aZ))):Option ((List (List Int)) × (List ((Int × Int) × Int)) × (List (List aZ))):=
 if (!((nY c a).isSome)) then (ob (some (aFW c a (b.length:Int))) fun f=>
 ob (apd b ([([a.1,a.2]:List Int)]:List (List Int))) fun g=>
 ob (apd d ([e]:List (List aZ))) fun h=>
 some (g,f,h)) else (some (b,c,d))
def rV (a:List (List Int)) (b:(List ((Int × Int) × Int))) (c:List (List aZ)):Option ((List (List Int)) × (List ((Int × Int) × Int)) × (List (List aZ))):=
 some (a,b,c)
def wU (c:aZ) (d:(Int × Int)) (e f:Int) (g:(List aZ)) (h:(List Edge)) (i:(List Int)) (j:(List aZ)) (k l:Int) (m:(List aZ)) (n:(List Edge)) (o:(List (List Int))) (q:(List ((Int × Int) × Int))) (b:(List (List aZ))) (p:Int):Option ((List (List Int)) × (List ((Int × Int) × Int)) × (List (List aZ))):=
 ob (ix b p) fun s=>
 ob (dD s) fun t=>
 ob (apd t ([c]:List aZ)) fun u=>
 ob (nD d u e f g h i j k l m n o q b) fun a=>
 rV a.1 a.2.1 a.2.2
def rW (a:List (List Int)) (b:(List ((Int × Int) × Int))) (c:List (List aZ)):Option ((List (List Int)) × (List ((Int × Int) × Int)) × (List (List aZ))):=
 some (a,b,c)
def lY (a:Int) (b:List (List Int)) (c:(List ((Int × Int) × Int))) (d:List (List aZ)):Option ((List (List Int) × (List ((Int × Int) × Int)) × List (List aZ) × Int) ⊕ (List (List Int) × (List ((Int × Int) × Int)) × List (List aZ))):=
 some (.inl (b,c,d,wr (a+1)))
def kG (o p:Int) (f:(List aZ)) (q:(List Edge)) (r:(List Int)) (s:(List aZ)) (g h:Int) (i:(List aZ)) (j:(List Edge)) (t:(List Int)) (u:Int) (k:(List Edge)) (b:List (List Int)) (c:(List ((Int × Int) × Int))) (d:List (List aZ)) (a:Int):Option ((List (List Int) × (List ((Int × Int) × Int)) × List (List aZ) × Int) ⊕ (List (List Int) × (List ((Int × Int) × Int)) × List (List aZ))):=
 if (decide (a < (k.length:Int))) then (ob (ix k a) fun l=>
 ob (ix f l.B) fun m=>
 ob (ix t 1) fun v=>
 ob (lI ⟨g,h,i,j⟩ v m) fun n=>
 if n.2 then (ob (wU m ⟨l.To,n.1⟩ o p f q r s g h i j b c d u) fun e=>
 lY a e.1 e.2.1 e.2.2) else (lY a b c d)) else (some (.inr (b,c,d)))
def sO (b c:Int) (d:(List aZ)) (e:(List Edge)) (g:(List Int)) (h:(List aZ)) (i j:Int) (k:(List aZ)) (l:(List Edge)) (m:(List (List Int))) (n:(List ((Int × Int) × Int))) (o:(List (List aZ))) (f:(List Int)) (p:Int):Option ((List (List Int)) × (List ((Int × Int) × Int)) × (List (List aZ))):=
 ob (ix f 0) fun q=>
 ob (vK ⟨b,c,d,e⟩ q) fun t=>
 ob (loop (fun (s:(List (List Int) × (List ((Int × Int) × Int)) × List (List aZ) × Int))=>kG b c d e g h i j k l f p t s.1 s.2.1 s.2.2.1 s.2.2.2) (m,n,o,0)) fun r=>rW r.1 r.2.1 r.2.2
def wV (a:List (List Int)) (b:(List ((Int × Int) × Int))) (c:List (List aZ)):Option ((List (List Int)) × (List ((Int × Int) × Int)) × (List (List aZ))):=
 some (a,b,c)
def aBf (a:Int) (b:List (List Int)) (c:(List ((Int × Int) × Int))) (d:List (List aZ)):Option ((List (List Int) × (List ((Int × Int) × Int)) × List (List aZ) × Int) ⊕ (List (List Int) × (List ((Int × Int) × Int)) × List (List aZ))):=
 some (.inl (b,c,d,wr (a+1)))
def oW (p:cA) (b:dB) (c:List (List Int)) (f:(List ((Int × Int) × Int))) (g:List (List aZ)) (d:Int):Option ((List (List Int) × (List ((Int × Int) × Int)) × List (List aZ) × Int) ⊕ (List (List Int) × (List ((Int × Int) × Int)) × List (List aZ))):=
 if (decide (d < (c.length:Int))) then (ob (ix c d) fun h=>
 ob (sO p.S.N p.S.I p.S.L p.S.E p.M p.C b.N b.I b.L b.E c f g h d) fun e=>
 aBf d e.1 e.2.1 e.2.2) else (some (.inr (c,f,g)))
def vL (p:cA) (b:dB):Option ((List (List Int)) × (List ((Int × Int) × Int)) × (List (List aZ))):=
 ob (nD ⟨p.S.I,b.I⟩ [] p.S.N p.S.I p.S.L p.S.E p.M p.C b.N b.I b.L b.E [] ([]:(List ((Int × Int) × Int))) []) fun c=>
 ob (loop (fun (s:(List (List Int) × (List ((Int × Int) × Int)) × List (List aZ) × Int))=>oW p b s.1 s.2.1 s.2.2.1 s.2.2.2) (c.1,c.2.1,c.2.2,0)) fun r=>wV r.1 r.2.1 r.2.2
def eS (a:(List Edge)):Option (List Edge):=
 some a
def eU (a:Int):Option (Int ⊕ (Unit ⊕ (List Edge))):=
 some (.inl (wr (a+1)))
def eV (a:List Edge) (b:Int):Option (Int ⊕ (Unit ⊕ (List Edge))):=
 ob (uV a b (a.length:Int)) fun c=>
 ob (ovw a b (List.replicate c.length (⟨0,0,0⟩:Edge))) fun d=>
 ob (uV d 0 b) fun e=>
 some (.inr (.inr e))
def eW (a:Int) (b:List Edge) (c:Int):Option ((List Edge × Int × Int) ⊕ (List Edge × Int)):=
 some (.inl (b,c,wr (a+1)))
def gY (f:Int) (e b:List Edge) (c a:Int):Option ((List Edge × Int × Int) ⊕ (List Edge × Int)):=
 if (decide (a < (e.length:Int))) then (ob (ix e a) fun i=>
 ob (ix b (f+a)) fun d=>
 ob (ix e (wr (a - 1))) fun j=>
 ob (ix b (f+(wr (a - 1)))) fun g=>
 if (!decide ((d:Edge)=g)) then (ob (ix b c) fun k=>
 ob (st b c (⟨d.F,d.B,d.To⟩:Edge)) fun h=>
 eW a h (wr (c+1))) else (eW a b c)) else (some (.inr (b,c)))
def dI (b:(List Edge)) (a:Int):Option (Int ⊕ (Unit ⊕ (List Edge))):=
 if (decide (a < (b.length:Int))) then (ob (ix b a) fun d=>
 ob (ix b (wr (a - 1))) fun e=>
 if (decide ((d:Edge)=e)) then (ob (uV b a (b.length:Int)) fun f=>
 ob (loop (fun (s:(List Edge × Int × Int))=>gY a f s.1 s.2.1 s.2.2) (b,a,1)) fun r=>eV r.1 r.2) else (eU a)) else (some (.inr (.inl ())))
def eC (a:(List Edge)):Option (List Edge):=
 if (decide ((a.length:Int) < 2)) then (some a) else (ob (loop (fun (s:Int)=>dI a s) 1) fun r=>match r with|.inl r=>eS a|.inr r=>some r)
def wW (a b:aZ):Option Int:=
 if (a == b) then (some 0) else (if (a == ([116,97,117]:aZ)) then (some (-1)) else (if (b == ([116,97,117]:aZ)) then (some 1) else (ob (aKi a b) fun e=>
 some e)))
def gB (a:(List aZ)):Option (List aZ):=
 some a
def gC (a:Int):Option (Int ⊕ (Unit ⊕ (List aZ))):=
 some (.inl (wr (a+1)))
def eO (a:List aZ) (b:Int):Option (Int ⊕ (Unit ⊕ (List aZ))):=
 ob (uV a b (a.length:Int)) fun c=>
 ob (ovw a b (List.replicate c.length ([]:aZ))) fun d=>
 ob (uV d 0 b) fun e=>
 some (.inr (.inr e))
def eP (a:Int) (b:List aZ) (c:Int):Option ((List aZ × Int × Int) ⊕ (List aZ × Int)):=
 some (.inl (b,c,wr (a+1)))
def dT (e:Int) (d b:List aZ) (c a:Int):Option ((List aZ × Int × Int) ⊕ (List aZ × Int)):=
 if (decide (a < (d.length:Int))) then (ob (ix d a) fun i=>
 ob (ix b (e+a)) fun f=>
 ob (ix d (wr (a - 1))) fun j=>
 ob (ix b (e+(wr (a - 1)))) fun g=>
 if (!(f == g)) then (ob (ix b c) fun k=>
 ob (st b c (f:aZ)) fun h=>
 eP a h (wr (c+1))) else (eP a b c)) else (some (.inr (b,c)))
def dU (b:(List aZ)) (a:Int):Option (Int ⊕ (Unit ⊕ (List aZ))):=
 if (decide (a < (b.length:Int))) then (ob (ix b a) fun d=>
 ob (ix b (wr (a - 1))) fun e=>
 if (d == e) then (ob (uV b a (b.length:Int)) fun f=>
 ob (loop (fun (s:(List aZ × Int × Int))=>dT a f s.1 s.2.1 s.2.2) (b,a,1)) fun r=>eO r.1 r.2) else (gC a)) else (some (.inr (.inl ())))
def fK (a:(List aZ)):Option (List aZ):=
 if (decide ((a.length:Int) < 2)) then (some a) else (ob (loop (fun (s:Int)=>dU a s) 1) fun r=>match r with|.inl r=>gB a|.inr r=>some r)
def aEF (a b:Int) (c:(List aZ)) (d:List Edge):Option dB:=
 ob (wZ d) fun e=>
 ob (eC e) fun f=>
 some ⟨a,b,c,f⟩
def aDq (c:(List Arc)) (e:(List aZ)) (d:List Edge) (a:Int):Option ((List Edge × Int) ⊕ (List Edge)):=
 if (decide (a < (c.length:Int))) then (ob (ix c a) fun b=>
 ob (eR e b.label) fun f=>
 ob (apd d ([⟨b.from_,f,b.to_⟩]:List Edge)) fun g=>
 some (.inl (g,wr (a+1)))) else (some (.inr d))
def i_lts (b c:Int) (d:(List aZ)) (e:(List Arc)):Option dB:=
 ob (apd ([([116,97,117]:aZ)]:List aZ) d) fun f=>
 ob (aDc f) fun g=>
 ob (fK g) fun a=>
 ob (loop (fun (s:(List Edge × Int))=>aDq e a s.1 s.2) ([],0)) fun r=>aEF b c a r
def eB (a b:(List Int)):Option Int:=
 if (decide ((a.length:Int) < (b.length:Int))) then (some (-1)) else (some 0)
def cV (b c:(List Int)) (a:Int):Option (Int ⊕ (Unit ⊕ Int)):=
 if (decide (a < (b.length:Int))) then (ob (ix b a) fun e=>
 if (decide ((c.length:Int)≤a)) then (some (.inr (.inr 1))) else (ob (ix c a) fun f=>
 ob (fB e f) fun d=>
 if (d != 0) then (some (.inr (.inr d))) else (some (.inl (wr (a+1)))))) else (some (.inr (.inl ())))
def jA (b c:(List Int)):Option Int:=
 ob (loop (fun (s:Int)=>cV b c s) 0) fun r=>match r with|.inl r=>eB b c|.inr r=>some r
def nW (t:dB) (k:Int):Option Bool:=
 ob (yF k 0 (wr (t.N - 1))) fun c=>
 some c
def aGk (i many:Int):Option Bool:=
 ob (yF i 0 (wr (many - 1))) fun b=>
 some b
def aAF:Option Bool:=
 some true
def nX (a:Int) (b:Bool):Option (Int ⊕ (Unit ⊕ Bool)):=
 if b then (some (.inr (.inr false))) else (some (.inl (wr (a+1))))
def tI (t:dB) (a:Int):Option (Int ⊕ (Unit ⊕ Bool)):=
 if (decide (a < (t.E.length:Int))) then (ob (ix t.E a) fun c=>
 ob (nW t c.F) fun d=>
 if (!d) then (nX a true) else (ob (nW t c.To) fun e=>
 if (!e) then (nX a true) else (ob (aGk c.B (t.L.length:Int)) fun f=>
 if (!f) then (nX a true) else (if (decide (0 < a)) then (ob (ix t.E (wr (a - 1))) fun g=>
 ob (uL g c) fun h=>
 nX a (decide (0≤h))) else (nX a false))))) else (some (.inr (.inl ())))
def wN (t:dB):Option Bool:=
 ob (loop (fun (s:Int)=>tI t s) 0) fun r=>match r with|.inl r=>aAF|.inr r=>some r
def pX (a:Int) (b:Bool):Option (Int ⊕ (Unit ⊕ Bool)):=
 if b then (some (.inr (.inr false))) else (some (.inl (wr (a+1))))
def tJ (t:dB) (a:Int):Option (Int ⊕ (Unit ⊕ Bool)):=
 if (decide (a < (t.L.length:Int))) then (ob (ix t.L a) fun b=>
 ob (aBG b) fun e=>
 if (!e) then (pX a true) else (if ((b == ([116,97,117]:aZ)) != (a == 0)) then (pX a true) else (if (decide (1 < a)) then (ob (ix t.L (wr (a - 1))) fun d=>
 pX a (wQ b d||b == d)) else (pX a false)))) else (some (.inr (.inl ())))
def pY (t:dB) (c:Bool):Option Bool:=
 if c then (some false) else (ob (loop (fun (s:Int)=>tJ t s) 0) fun r=>match r with|.inl r=>wN t|.inr r=>some r)
def aCm (t:dB):Option Bool:=
 ob (yF t.N 1 40) fun b=>
 if (!b) then (pY t true) else (ob (nW t t.I) fun c=>
 if (!c) then (pY t true) else (ob (yF (t.L.length:Int) 1 12) fun d=>
 if (!d) then (pY t true) else (pY t (decide (300 < (t.E.length:Int))))))
def mT:Option Bool:=
 some true
def gG (a:Int) (b:Bool):Option (Int ⊕ (Unit ⊕ Bool)):=
 if b then (some (.inr (.inr false))) else (some (.inl (wr (a+1))))
def iV (t:dB) (a:Int):Option (Int ⊕ (Unit ⊕ Bool)):=
 if (decide (a < (t.E.length:Int))) then (ob (ix t.E a) fun c=>
 if (c.B == 0) then (gG a true) else (if (decide (0 < a)) then (ob (ix t.E (wr (a - 1))) fun d=>
 if (d.F == c.F) then (gG a (d.B == c.B)) else (gG a false)) else (gG a false))) else (some (.inr (.inl ())))
def kI (t:dB):Option Bool:=
 ob (aCm t) fun c=>
 if (!c) then (some false) else (ob (loop (fun (s:Int)=>iV t s) 0) fun r=>match r with|.inl r=>mT|.inr r=>some r)
def tQ:Option Bool:=
 some true
def mU (a:Int) (b:Bool):Option (Int ⊕ (Unit ⊕ Bool)):=
 if b then (some (.inr (.inr false))) else (some (.inl (wr (a+1))))
def lB (t:dB) (b:(List Int)) (a:Int):Option (Int ⊕ (Unit ⊕ Bool)):=
 if (decide (a < (b.length:Int))) then (ob (ix b a) fun c=>
 ob (nW t c) fun e=>
 if (!e) then (mU a true) else (if (decide (0 < a)) then (ob (ix b (wr (a - 1))) fun f=>
 mU a (decide (c≤f))) else (mU a false))) else (some (.inr (.inl ())))
def uM (t:dB) (c:(List Int)):Option Bool:=
 ob (loop (fun (s:Int)=>lB t c s) 0) fun r=>match r with|.inl r=>tQ|.inr r=>some r
def zU (a:(List aZ)):Option Bool:=
 some (decide ((a.length:Int)≤12))
def vM (a:Int) (b:Bool):Option (Int ⊕ (Unit ⊕ Bool)):=
 if b then (some (.inr (.inr false))) else (some (.inl (wr (a+1))))
def vN (b:(List aZ)) (a:Int):Option (Int ⊕ (Unit ⊕ Bool)):=
 if (decide (a < (b.length:Int))) then (ob (ix b a) fun c=>
 ob (aAh c) fun e=>
 if (!e) then (vM a true) else (if (decide (0 < a)) then (ob (ix b (wr (a - 1))) fun d=>
 vM a (wQ c d||c == d)) else (vM a false))) else (some (.inr (.inl ())))
def aDr (b:(List aZ)):Option Bool:=
 ob (loop (fun (s:Int)=>vN b s) 0) fun r=>match r with|.inl r=>zU b|.inr r=>some r
def oX (a:Bool):Option Bool:=
 some a
def vO (p:cA):Option Bool:=
 ob (kI p.S) fun b=>
 if b then (ob (uM p.S p.M) fun c=>
 if c then (ob (aDr p.C) fun d=>
 oX d) else (oX false)) else (oX false)
def zV (t:dB):Option Bool:=
 ob (kI t) fun b=>
 some (!b)
def eX:Option Int:=
 some (-1)
def eY (b:(List dB)) (a:Int):Option (Int ⊕ (Unit ⊕ Int)):=
 if (decide (a < (b.length:Int))) then (ob (ix b a) fun c=>
 ob (zV c) fun d=>
 if d then (some (.inr (.inr a))) else (some (.inl (wr (a+1))))) else (some (.inr (.inl ())))
def eD (b:(List dB)):Option Int:=
 ob (loop (fun (s:Int)=>eY b s) 0) fun r=>match r with|.inl r=>eX|.inr r=>some r
def eZ (a:(List dB)):Option Bool:=
 ob (eD a) fun b=>
 some (decide (0≤b))
def uN (a:Bool):Option Int:=
 if a then (some 1) else (some 0)
def aAV (p:cA) (b:(List dB)):Option Int:=
 ob (vO p) fun c=>
 if (!c) then (uN true) else (ob (eZ b) fun d=>
 uN d)
def qY (p:cA) (k:Int):Option Bool:=
 ob (eM p.M k) fun c=>
 some c
def jB (a:List Bool):Option (List Bool):=
 some a
def fT (a:List Bool) (b:Int):Option ((List Bool × Int) ⊕ (List Bool)):=
 if (decide (b < (a.length:Int))) then (ob (uV a b (a.length:Int)) fun d=>
 ob (uV a 0 b) fun c=>
 ob (ovw a b (List.take (Nat.min c.length d.length) c)) fun e=>
 some (.inl (e,wr (b+((Nat.min c.length d.length):Int))))) else (some (.inr a))
def jC (a:(List Bool)) (c:(Int × Int)):Option (List Bool):=
 ob (mkz (wr c.2) (false:Bool)) fun b=>
 ob (ovw b 0 (List.take (Nat.min a.length b.length) a)) fun d=>
 ob (loop (fun (s:(List Bool × Int))=>fT s.1 s.2) (d,((Nat.min a.length b.length):Int))) fun r=>jB r
def fU (a:(List Bool)) (b:(Int × Int)) (c:Bool):Option (List Bool):=
 if c then (none) else (jC a b)
def jD (b:(List Bool)) (c:Int):Option (List Bool):=
 ob (aHm (aBO (b.length:Int)) (aBO c)) fun a=>
 if (decide (0 < a.1)) then (fU b a true) else (fU b a (decide (9223372036854775807 < a.2)))
def fM (b:(List Bool)) (a:Int):Option (List Bool):=
 if (decide (a < 0)) then (none) else (jD b a)
def mR (d:aZ) (a:(Int × Int)) (b:(List ((Int × Int) × Int))) (p:(List Arc)) (e:Int):Option (List Arc):=
 if ((nY b a).isSome) then (ob (apd p ([⟨e,d,((nY b a).getD 0)⟩]:List Arc)) fun f=>
 some f) else (some p)
def oN (a:List Arc):Option (List Arc):=
 some a
def iO (a:Int) (b:List Arc):Option ((List Arc × Int) ⊕ (List Arc)):=
 some (.inl (b,wr (a+1)))
def iP (g:(List aZ)) (h i:Int) (j:(List aZ)) (k:(List Edge)) (l:(List Int)) (m:(List ((Int × Int) × Int))) (n:Int) (c:(List Edge)) (b:List Arc) (a:Int):Option ((List Arc × Int) ⊕ (List Arc)):=
 if (decide (a < (c.length:Int))) then (ob (ix c a) fun d=>
 ob (ix g d.B) fun e=>
 ob (ix l 1) fun o=>
 ob (lI ⟨h,i,j,k⟩ o e) fun f=>
 if f.2 then (ob (mR e ⟨d.To,f.1⟩ m b n) fun p=>
 iO a p) else (iO a b)) else (some (.inr b))
def oJ (c d:Int) (a:(List aZ)) (e:(List Edge)) (p:(List Int)) (q:(List aZ)) (f g:Int) (h:(List aZ)) (i:(List Edge)) (t:(List (List Int))) (u:(List ((Int × Int) × Int))) (v:(List (List aZ))) (b:(List Int)) (j:(List ((Int × Int) × Int))) (k:(List Arc)) (l:Int):Option (List Arc):=
 ob (ix b 0) fun m=>
 ob (vK ⟨c,d,a,e⟩ m) fun n=>
 ob (loop (fun (s:(List Arc × Int))=>iP a f g h i b j l n s.1 s.2) (k,0)) fun r=>oN r
def kJ (b:Int) (c:(List aZ)) (d:Int) (a:(List (List Int))) (e:(List ((Int × Int) × Int))) (f:List Arc):Option (dB × (List (List Int))):=
 ob (i_lts (a.length:Int) ((nY e ⟨b,d⟩).getD 0) c f) fun g=>
 some (g,a)
def gH (d e:Int) (f:(List aZ)) (g:(List Edge)) (h:(List Int)) (i:(List aZ)) (j k:Int) (l:(List aZ)) (m:(List Edge)) (n:(List (List Int))) (o:(List ((Int × Int) × Int))) (p:(List (List aZ))) (b:(List (List Int))) (q:(List ((Int × Int) × Int))) (c:List Arc) (a:Int):Option ((List Arc × Int) ⊕ (List Arc)):=
 if (decide (a < (b.length:Int))) then (ob (ix b a) fun r=>
 ob (oJ d e f g h i j k l m n o p r q c a) fun s=>
 some (.inl (s,wr (a+1)))) else (some (.inr c))
def kK (f a:Int) (b:(List aZ)) (g:(List Edge)) (h:(List Int)) (i:(List aZ)) (j c:Int) (k:(List aZ)) (l:(List Edge)) (m:(List (List Int))) (n:(List ((Int × Int) × Int))) (o:(List (List aZ))) (d:(List (List Int))) (e:(List ((Int × Int) × Int))):Option (dB × (List (List Int))):=
 ob (loop (fun (s:(List Arc × Int))=>gH f a b g h i j c k l m n o d e s.1 s.2) ([],0)) fun r=>kJ a b c d e r
def gI (b:(List (List Int))) (c:(List ((Int × Int) × Int))) (a:Int):Option (((List ((Int × Int) × Int)) × Int) ⊕ (List ((Int × Int) × Int))):=
 if (decide (a < (b.length:Int))) then (ob (ix b a) fun d=>
 ob (ix d 0) fun e=>
 ob (ix d 1) fun f=>
 ob (some (aFW c ⟨e,f⟩ a)) fun g=>
 some (.inl (g,wr (a+1)))) else (some (.inr c))
def kL (b c:Int) (d:(List aZ)) (e:(List Edge)) (f:(List Int)) (g:(List aZ)) (h i:Int) (j:(List aZ)) (k:(List Edge)) (l:(List (List Int))) (m:(List ((Int × Int) × Int))) (n:(List (List aZ))) (o:List (List Int)):Option (dB × (List (List Int))):=
 ob (aBU o) fun a=>
 ob (loop (fun (s:((List ((Int × Int) × Int)) × Int))=>gI a s.1 s.2) (([]:(List ((Int × Int) × Int))),0)) fun r=>kK b c d e f g h i j k l m n a r
def iW (a:Int) (b:List (List Int)):Option ((List (List Int) × Int) ⊕ (List (List Int))):=
 some (.inl (b,wr (a+1)))
def gJ (c:(List (List Int))) (d:(List Bool)) (b:List (List Int)) (a:Int):Option ((List (List Int) × Int) ⊕ (List (List Int))):=
 if (decide (a < (c.length:Int))) then (ob (ix c a) fun e=>
 ob (ix d a) fun f=>
 if f then (ob (eH e) fun g=>
 ob (apd b ([g]:List (List Int))) fun h=>
 iW a h) else (iW a b)) else (some (.inr b))
def kM (b c:Int) (d:(List aZ)) (e:(List Edge)) (f:(List Int)) (g:(List aZ)) (h i:Int) (j:(List aZ)) (k:(List Edge)) (a:(List (List Int))) (l:(List ((Int × Int) × Int))) (m:(List (List aZ))) (n:(List Bool)):Option (dB × (List (List Int))):=
 ob (loop (fun (s:(List (List Int) × Int))=>gJ a n s.1 s.2) ([],0)) fun r=>kL b c d e f g h i j k a l m r
def pE (a:(dB × (List (List Int)))) (b:List aZ) (c:List Int):Option (cA × (List (List Int)) × Int):=
 ob (vO ⟨⟨a.1.N,a.1.I,a.1.L,a.1.E⟩,c,b⟩) fun d=>
 if (!d) then (some (⟨⟨0,0,[],[]⟩,[],[]⟩,[],5)) else (some (⟨⟨a.1.N,a.1.I,a.1.L,a.1.E⟩,c,b⟩,a.2,0))
def mV (a:Int) (b:List Int):Option ((List Int × Int) ⊕ (List Int)):=
 some (.inl (b,wr (a+1)))
def lC (p:cA) (c:(dB × (List (List Int)))) (b:List Int) (a:Int):Option ((List Int × Int) ⊕ (List Int)):=
 if (decide (a < (c.2.length:Int))) then (ob (ix c.2 a) fun e=>
 ob (ix e 0) fun f=>
 ob (qY p f) fun g=>
 if g then (ob (apd b ([a]:List Int)) fun h=>
 mV a h) else (mV a b)) else (some (.inr b))
def tR (p:cA) (a:(dB × (List (List Int)))) (c:List aZ):Option (cA × (List (List Int)) × Int):=
 ob (loop (fun (s:(List Int × Int))=>lC p a s.1 s.2) ([],0)) fun r=>pE a c r
def uO (p:cA) (b:dB):Option (cA × (List (List Int)) × Int):=
 ob (aAV p ([b]:List dB)) fun d=>
 if (d != 0) then (some (⟨⟨0,0,[],[]⟩,[],[]⟩,[],d)) else (ob (vL p b) fun c=>
 ob (fM ([true]:List Bool) (c.1.length:Int)) fun e=>
 ob (kM p.S.N p.S.I p.S.L p.S.E p.M p.C b.N b.I b.L b.E c.1 c.2.1 c.2.2 e) fun f=>
 ob (dD p.C) fun g=>
 tR p f g)
def aAW (a:aZ):Option aZ:=
 ob (tW a) fun b=>
 some b.1
def lZ (p:cA) (b:aZ):Option Bool:=
 ob (aAW b) fun c=>
 ob (eA p.C c) fun d=>
 some d
def lJ (d:aZ) (a:Int) (p:(List Bool)):Option Bool:=
 ob (ix p a) fun c=>
 some c
def lD (a:Bool):Option Bool:=
 some a
def qF (a:aZ) (b:(Int × Int)) (p:Bool) (d:(List Bool)) (g h:Int) (i:(List aZ)) (j:(List Edge)) (k:(List Int)) (l:(List aZ)) (m n:Int) (o:(List aZ)) (q:(List Edge)) (r:(List (List Int))) (e:(List ((Int × Int) × Int))) (s:(List (List aZ))):Option Bool:=
 if p then (lD true) else (ob (lJ a ((nY e b).getD 0) d) fun f=>
 lD f)
def oO (a:Bool):Option Bool:=
 some a
def jM (a:Int) (b:Bool):Option ((Bool × Int) ⊕ Bool):=
 some (.inl (b,wr (a+1)))
def jN (g:(List aZ)) (h i:Int) (j:(List aZ)) (k:(List Edge)) (l:(List Int)) (m:(List Bool)) (n o:Int) (p:(List aZ)) (q:(List Edge)) (r:(List Int)) (s:(List aZ)) (t u:Int) (v:(List aZ)) (w:(List Edge)) (x:(List (List Int))) (y:(List ((Int × Int) × Int))) (z:(List (List aZ))) (c:(List Edge)) (b:Bool) (a:Int):Option ((Bool × Int) ⊕ Bool):=
 if (decide (a < (c.length:Int))) then (ob (ix c a) fun d=>
 ob (ix g d.B) fun e=>
 ob (ix l 1) fun a0=>
 ob (lI ⟨h,i,j,k⟩ a0 e) fun f=>
 if f.2 then (ob (qF e ⟨d.To,f.1⟩ b m n o p q r s t u v w x y z) fun a1=>
 jM a a1) else (jM a b)) else (some (.inr b))
def rX (c d:Int) (a:(List aZ)) (e:(List Edge)) (a3:(List Int)) (a4:(List aZ)) (f g:Int) (h:(List aZ)) (i:(List Edge)) (a5:(List (List Int))) (a6:(List ((Int × Int) × Int))) (a7:(List (List aZ))) (b:(List Int)) (j:Bool) (k:(List Bool)) (l m:Int) (n:(List aZ)) (o:(List Edge)) (p:(List Int)) (q:(List aZ)) (t u:Int) (v:(List aZ)) (w:(List Edge)) (x:(List (List Int))) (y:(List ((Int × Int) × Int))) (z:(List (List aZ))):Option Bool:=
 ob (ix b 0) fun a0=>
 ob (vK ⟨c,d,a,e⟩ a0) fun a1=>
 ob (loop (fun (s:(Bool × Int))=>jN a f g h i b k l m n o p q t u v w x y z a1 s.1 s.2) (j,0)) fun r=>oO r
def qZ (a b:Int) (c:(List aZ)) (d:(List Edge)) (e:(List Int)) (f:(List aZ)) (g h:Int) (i:(List aZ)) (j:(List Edge)) (k:(List (List Int))) (l:(List ((Int × Int) × Int))) (m:(List (List aZ))) (n:(List Int)) (o:(List Bool)):Option Bool:=
 ob (rX a b c d e f g h i j k l m n false o a b c d e f g h i j k l m) fun p=>
 some p
def jX (a:List Bool):Option (List Bool):=
 some a
def nE (a:List Bool) (b:Bool):Option ((List Bool × Bool) ⊕ (List Bool)):=
 some (.inl (a,b))
def jY (a:List Bool) (b:Bool):Option ((List Bool × Bool) ⊕ (List Bool)):=
 nE a b
def fN (a:Int) (b:List Bool) (c:Bool):Option ((List Bool × Bool × Int) ⊕ (List Bool × Bool)):=
 some (.inl (b,c,wr (a+1)))
def hY (b:List Bool) (c:Bool) (a:Int) (d:Bool):Option ((List Bool × Bool × Int) ⊕ (List Bool × Bool)):=
 if d then (ob (ix b a) fun f=>
 ob (st b a (true:Bool)) fun e=>
 fN a e true) else (fN a b c)
def iA (d e:Int) (f:(List aZ)) (g:(List Edge)) (h:(List Int)) (i:(List aZ)) (k l:Int) (m:(List aZ)) (n:(List Edge)) (o:(List (List Int))) (p:(List ((Int × Int) × Int))) (q:(List (List aZ))) (a:List Bool) (b:Bool) (c:Int) (j:(List Int)) (r:Bool):Option ((List Bool × Bool × Int) ⊕ (List Bool × Bool)):=
 if r then (fN c a b) else (ob (ix j 0) fun s=>
 ob (qY ⟨⟨d,e,f,g⟩,h,i⟩ s) fun t=>
 if t then (hY a b c true) else (ob (qZ d e f g h i k l m n o p q j a) fun u=>
 hY a b c u))
def fO (e f:Int) (g:(List aZ)) (h:(List Edge)) (i:(List Int)) (j:(List aZ)) (k l:Int) (m:(List aZ)) (n:(List Edge)) (b:(List (List Int))) (o:(List ((Int × Int) × Int))) (p:(List (List aZ))) (r:(List Bool)) (c:List Bool) (d:Bool) (a:Int):Option ((List Bool × Bool × Int) ⊕ (List Bool × Bool)):=
 if (decide (a < (b.length:Int))) then (ob (ix b a) fun q=>
 ob (ix r a) fun s=>
 if (!s) then (iA e f g h i j k l m n b o p c d a q true) else (ob (ix c a) fun t=>
 iA e f g h i j k l m n b o p c d a q t)) else (some (.inr (c,d)))
def jZ (c d:Int) (e:(List aZ)) (f:(List Edge)) (g:(List Int)) (h:(List aZ)) (i j:Int) (k:(List aZ)) (l:(List Edge)) (m:(List (List Int))) (n:(List ((Int × Int) × Int))) (o:(List (List aZ))) (p:(List Bool)) (a:List Bool) (q:Bool):Option ((List Bool × Bool) ⊕ (List Bool)):=
 if q then (ob (loop (fun (s:(List Bool × Bool × Int))=>fO c d e f g h i j k l m n o p s.1 s.2.1 s.2.2) (a,false,0)) fun r=>jY r.1 r.2) else (some (.inr a))
def jK (b c:Int) (d:(List aZ)) (e:(List Edge)) (f:(List Int)) (g:(List aZ)) (h i:Int) (j:(List aZ)) (k:(List Edge)) (a:(List (List Int))) (l:(List ((Int × Int) × Int))) (m:(List (List aZ))) (n:(List Bool)):Option (List Bool):=
 ob (mkz (a.length:Int) (false:Bool)) fun o=>
 ob (loop (fun (s:(List Bool × Bool))=>jZ b c d e f g h i j k a l m n s.1 s.2) (o,true)) fun r=>jX r
def kR (a:(List Bool)):Option (List Bool):=
 ob (apd ([]:List Bool) a) fun b=>
 some b
def lE (a:List aZ):Option (List aZ):=
 some a
def gK (a:Int) (b:List aZ):Option ((List aZ × Int) ⊕ (List aZ)):=
 some (.inl (b,wr (a+1)))
def fF (e:(List aZ)) (f g:Int) (h:(List aZ)) (i:(List Edge)) (j:(List Int)) (c:(List Edge)) (b:List aZ) (a:Int):Option ((List aZ × Int) ⊕ (List aZ)):=
 if (decide (a < (c.length:Int))) then (ob (ix c a) fun k=>
 ob (ix e k.B) fun d=>
 ob (ix j 1) fun l=>
 ob (lI ⟨f,g,h,i⟩ l d) fun m=>
 if (!m.2) then (ob (apd b ([d]:List aZ)) fun n=>
 gK a n) else (gK a b)) else (some (.inr b))
def kN (c d:Int) (a:(List aZ)) (e:(List Edge)) (m:(List Int)) (n:(List aZ)) (f g:Int) (h:(List aZ)) (i:(List Edge)) (o:(List (List Int))) (p:(List ((Int × Int) × Int))) (q:(List (List aZ))) (b:(List Int)):Option (List aZ):=
 ob (ix b 0) fun j=>
 ob (vK ⟨c,d,a,e⟩ j) fun k=>
 ob (loop (fun (s:(List aZ × Int))=>fF a f g h i b k s.1 s.2) ([],0)) fun r=>lE r
def nR:Option aZ:=
 some ([]:aZ)
def gZ (d e:Int) (f:(List aZ)) (g:(List Edge)) (h:(List Int)) (i b:(List aZ)) (a:Int):Option (Int ⊕ (Unit ⊕ aZ)):=
 if (decide (a < (b.length:Int))) then (ob (ix b a) fun c=>
 ob (lZ ⟨⟨d,e,f,g⟩,h,i⟩ c) fun j=>
 if (!j) then (some (.inr (.inr c))) else (some (.inl (wr (a+1))))) else (some (.inr (.inl ())))
def nK (b c:Int) (d:(List aZ)) (e:(List Edge)) (f:(List Int)) (g:(List aZ)) (h i:Int) (j:(List aZ)) (k:(List Edge)) (l:(List (List Int))) (m:(List ((Int × Int) × Int))) (n:(List (List aZ))) (o:(List Int)):Option aZ:=
 ob (kN b c d e f g h i j k l m n o) fun p=>
 ob (loop (fun (s:Int)=>gZ b c d e f g p s) 0) fun r=>match r with|.inl r=>nR|.inr r=>some r
def lN (a:Bool):Option Bool:=
 some a
def rY (a:aZ) (b c d:Int) (e:(List aZ)) (f:(List Edge)) (g:(List Int)) (h:(List aZ)) (l m:Int) (n:(List aZ)) (o:(List Edge)) (q:(List (List Int))) (r:(List ((Int × Int) × Int))) (s:(List (List aZ))) (p:(List Bool)):Option Bool:=
 ob (lZ ⟨⟨c,d,e,f⟩,g,h⟩ a) fun j=>
 if (!j) then (ob (ix p b) fun k=>
 lN (!k)) else (lN false)
def jL (a:Bool):Option Bool:=
 some a
def nS (a:aZ) (b:(Int × Int)) (p:Bool) (d e:Int) (f:(List aZ)) (g:(List Edge)) (h:(List Int)) (i:(List aZ)) (j k:Int) (l:(List aZ)) (m:(List Edge)) (n:(List (List Int))) (o:(List ((Int × Int) × Int))) (q:(List (List aZ))) (r:(List Bool)) (u v:Int) (w:(List aZ)) (x:(List Edge)) (y:(List Int)) (z:(List aZ)) (a0 a1:Int) (a2:(List aZ)) (a3:(List Edge)) (a4:(List (List Int))) (s:(List ((Int × Int) × Int))) (a5:(List (List aZ))):Option Bool:=
 if p then (jL true) else (ob (rY a ((nY s b).getD 0) d e f g h i j k l m n o q r) fun t=>
 jL t)
def oP (a:Bool):Option Bool:=
 some a
def jO (a:Int) (b:Bool):Option ((Bool × Int) ⊕ Bool):=
 some (.inl (b,wr (a+1)))
def jP (g:(List aZ)) (h i:Int) (j:(List aZ)) (k:(List Edge)) (l:(List Int)) (m n:Int) (o:(List aZ)) (p:(List Edge)) (q:(List Int)) (r:(List aZ)) (s t:Int) (u:(List aZ)) (v:(List Edge)) (w:(List (List Int))) (x:(List ((Int × Int) × Int))) (y:(List (List aZ))) (z:(List Bool)) (a0 a1:Int) (a2:(List aZ)) (a3:(List Edge)) (a4:(List Int)) (a5:(List aZ)) (a6 a7:Int) (a8:(List aZ)) (a9:(List Edge)) (b0:(List (List Int))) (b1:(List ((Int × Int) × Int))) (b2:(List (List aZ))) (c:(List Edge)) (b:Bool) (a:Int):Option ((Bool × Int) ⊕ Bool):=
 if (decide (a < (c.length:Int))) then (ob (ix c a) fun d=>
 ob (ix g d.B) fun e=>
 ob (ix l 1) fun b3=>
 ob (lI ⟨h,i,j,k⟩ b3 e) fun f=>
 if f.2 then (ob (nS e ⟨d.To,f.1⟩ b m n o p q r s t u v w x y z a0 a1 a2 a3 a4 a5 a6 a7 a8 a9 b0 b1 b2) fun b4=>
 jO a b4) else (jO a b)) else (some (.inr b))
def rZ (c d:Int) (a:(List aZ)) (e:(List Edge)) (b6:(List Int)) (b7:(List aZ)) (f g:Int) (h:(List aZ)) (i:(List Edge)) (b8:(List (List Int))) (b9:(List ((Int × Int) × Int))) (c0:(List (List aZ))) (b:(List Int)) (j:Bool) (k l:Int) (m:(List aZ)) (n:(List Edge)) (o:(List Int)) (p:(List aZ)) (q t:Int) (u:(List aZ)) (v:(List Edge)) (w:(List (List Int))) (x:(List ((Int × Int) × Int))) (y:(List (List aZ))) (z:(List Bool)) (a0 a1:Int) (a2:(List aZ)) (a3:(List Edge)) (a4:(List Int)) (a5:(List aZ)) (a6 a7:Int) (a8:(List aZ)) (a9:(List Edge)) (b0:(List (List Int))) (b1:(List ((Int × Int) × Int))) (b2:(List (List aZ))):Option Bool:=
 ob (ix b 0) fun b3=>
 ob (vK ⟨c,d,a,e⟩ b3) fun b4=>
 ob (loop (fun (s:(Bool × Int))=>jP a f g h i b k l m n o p q t u v w x y z a0 a1 a2 a3 a4 a5 a6 a7 a8 a9 b0 b1 b2 b4 s.1 s.2) (j,0)) fun r=>oP r
def nL (a b:Int) (c:(List aZ)) (d:(List Edge)) (e:(List Int)) (f:(List aZ)) (g h:Int) (i:(List aZ)) (j:(List Edge)) (k:(List (List Int))) (l:(List ((Int × Int) × Int))) (m:(List (List aZ))) (n:(List Int)) (o p:Int) (q:(List aZ)) (r:(List Edge)) (s:(List Int)) (t:(List aZ)) (u v:Int) (w:(List aZ)) (x:(List Edge)) (y:(List (List Int))) (z:(List ((Int × Int) × Int))) (a0:(List (List aZ))) (a1:(List Bool)):Option Bool:=
 ob (rZ a b c d e f g h i j k l m n false o p q r s t u v w x y z a0 a1 a b c d e f g h i j k l m) fun a2=>
 some a2
def jI:Option Bool:=
 some true
def fC (b c:(List Bool)) (a:Int):Option (Int ⊕ (Unit ⊕ Bool)):=
 if (decide (a < (b.length:Int))) then (ob (ix b a) fun d=>
 ob (ix c a) fun e=>
 if (d != e) then (some (.inr (.inr false))) else (some (.inl (wr (a+1))))) else (some (.inr (.inl ())))
def iU (b c:(List Bool)):Option Bool:=
 if ((b.length:Int) != (c.length:Int)) then (some false) else (ob (loop (fun (s:Int)=>fC b c s) 0) fun r=>match r with|.inl r=>jI|.inr r=>some r)
def tN (a:List Bool):Option ((List Bool) ⊕ (List Bool)):=
 some (.inl a)
def lO (a b:List Bool):Option ((List Bool) ⊕ (List Bool)):=
 ob (iU b a) fun c=>
 if c then (some (.inr a)) else (tN b)
def lP (a:Int) (b:List Bool):Option ((List Bool × Int) ⊕ (List Bool)):=
 some (.inl (b,wr (a+1)))
def jQ (b:List Bool) (a:Int) (c:Bool):Option ((List Bool × Int) ⊕ (List Bool)):=
 if c then (ob (ix b a) fun e=>
 ob (st b a (false:Bool)) fun d=>
 lP a d) else (lP a b)
def iQ (d e:Int) (f:(List aZ)) (g:(List Edge)) (h:(List Int)) (i:(List aZ)) (j k:Int) (l:(List aZ)) (m:(List Edge)) (b:(List (List Int))) (n:(List ((Int × Int) × Int))) (o:(List (List aZ))) (q:List Bool) (r:(List Bool)) (c:List Bool) (a:Int):Option ((List Bool × Int) ⊕ (List Bool)):=
 if (decide (a < (b.length:Int))) then (ob (ix b a) fun p=>
 ob (ix r a) fun s=>
 if (!s) then (jQ c a true) else (ob (nK d e f g h i j k l m b n o p) fun t=>
 if (!(t == ([]:aZ))) then (jQ c a true) else (ob (nL d e f g h i j k l m b n o p d e f g h i j k l m b n o q) fun u=>
 jQ c a u))) else (some (.inr c))
def jR (b c:Int) (d:(List aZ)) (e:(List Edge)) (f:(List Int)) (g:(List aZ)) (h i:Int) (j:(List aZ)) (k:(List Edge)) (l:(List (List Int))) (m:(List ((Int × Int) × Int))) (n:(List (List aZ))) (a:List Bool):Option ((List Bool) ⊕ (List Bool)):=
 ob (jK b c d e f g h i j k l m n a) fun o=>
 ob (kR a) fun p=>
 ob (loop (fun (s:(List Bool × Int))=>iQ b c d e f g h i j k l m n a o s.1 s.2) (p,0)) fun r=>lO a r
def oK (b c:Int) (d:(List aZ)) (e:(List Edge)) (f:(List Int)) (g:(List aZ)) (h i:Int) (j:(List aZ)) (k:(List Edge)) (a:(List (List Int))) (l:(List ((Int × Int) × Int))) (m:(List (List aZ))):Option (List Bool):=
 ob (fM ([true]:List Bool) (a.length:Int)) fun n=>
 ob (loop (fun (s:List Bool)=>jR b c d e f g h i j k a l m s) n) fun r=>some r
def rA (p:cA) (b:dB):Option (dB × Int):=
 ob (uO p b) fun d=>
 if (d.2.2 != 0) then (some (⟨0,0,[],[]⟩,d.2.2)) else (ob (vL p b) fun c=>
 ob (oK p.S.N p.S.I p.S.L p.S.E p.M p.C b.N b.I b.L b.E c.1 c.2.1 c.2.2) fun e=>
 ob (ix e 0) fun g=>
 if (!g) then (some (⟨0,0,[],[]⟩,3)) else (ob (kM p.S.N p.S.I p.S.L p.S.E p.M p.C b.N b.I b.L b.E c.1 c.2.1 c.2.2 e) fun f=>
 ob (sK f.1) fun h=>
 ob (aCk f.1 h) fun i=>
 some (i,0)))
def aAG:Option Bool:=
 some true
def tK (a b:(List Int)) (c:Int):Option (Int ⊕ (Unit ⊕ Bool)):=
 if (decide (c < (a.length:Int))) then (ob (ix a c) fun f=>
 ob (ix b c) fun g=>
 if (f != g) then (some (.inr (.inr false))) else (some (.inl (wr (c+1))))) else (some (.inr (.inl ())))
def aCn (a b:(List Int)):Option Bool:=
 if ((a.length:Int) != (b.length:Int)) then (some false) else (ob (loop (fun (s:Int)=>tK a b s) 0) fun r=>match r with|.inl r=>aAG|.inr r=>some r)
def aDs (a b:cA):Option Bool:=
 ob (aBv a.S b.S) fun e=>
 if (!e) then (some false) else (ob (aCn a.M b.M) fun f=>
 if (!f) then (some false) else (ob (xK a.C b.C) fun g=>
 if (!g) then (some false) else (some true)))
def sP (a:Int) (b:List Int):Option (Int × (List Int)):=
 some (a,b)
def sQ (a:List Int) (c b:Int):Option ((List Int × Int × Int) ⊕ (Int × List Int)):=
 if (decide (b < (a.length:Int))) then (ob (ix a b) fun e=>
 ob (st a b (c:Int)) fun d=>
 some (.inl (d,wr (c+1),wr (b+1)))) else (some (.inr (c,a)))
def zW (a:(List Int)) (k:Int):Option (Int × (List Int)):=
 ob (loop (fun (s:(List Int × Int × Int))=>sQ s.1 s.2.1 s.2.2) (a,k,0)) fun r=>sP r.1 r.2
def aAX (d e:Int) (f:(List aZ)) (g:(List Edge)) (h:(List Int)) (i:(List aZ)) (k:Int):Option (Int × (List aZ) × (List Edge) × (List Int) × (List aZ)):=
 ob (xL d e f g k) fun a=>
 ob (zW h a.1) fun b=>
 ob (sX i b.1) fun c=>
 some (c.1,a.2.1,a.2.2,b.2,c.2)
def jU (b:(dB × Int)) (a:(Int × (List aZ) × (List Edge))) (d:Bool):Option Bool:=
 if d then (some false) else (ob (aBH ⟨b.1.N,b.1.I,a.2.1,a.2.2⟩ 1) fun c=>
 if (decide (c < 0)) then (some false) else (if (c != a.1) then (some false) else (some true)))
def mF (c d:Int) (e:List aZ) (f:List Edge) (g:Int) (a:(dB × Int)) (b:(Int × (List aZ) × (List Edge))) (h i:Int) (j:List aZ) (k:List Edge) (l:Int):Option Bool:=
 ob (aBv ⟨h,i,j,k⟩ ⟨c,d,e,f⟩) fun m=>
 if (!m) then (jU a b true) else (jU a b (l != g))
def iL (e:cA) (f:dB) (g h:Int) (i:List aZ) (j:List Edge) (k:Int) (a:(dB × Int)) (l:Bool):Option Bool:=
 if l then (some false) else (ob (xL a.1.N a.1.I a.1.L a.1.E 1) fun c=>
 ob (aBH ⟨a.1.N,a.1.I,c.2.1,c.2.2⟩ 1) fun d=>
 if (decide (d < 0)) then (some false) else (if (d != c.1) then (some false) else (ob (xV e) fun m=>
 ob (aBt f) fun n=>
 ob (rA m n) fun b=>
 mF g h i j k a c b.1.N b.1.I b.1.L b.1.E b.2)))
def jV (d:cA) (e:dB) (f g:Int) (h:List aZ) (i:List Edge) (j:Int) (a:cA) (b:dB) (c:(dB × Int)) (k:Bool):Option Bool:=
 if k then (some false) else (ob (xV d) fun l=>
 ob (aDs a l) fun m=>
 if (!m) then (some false) else (ob (aBt e) fun n=>
 ob (aBv b n) fun o=>
 if (!o) then (some false) else (ob (aAX a.S.N a.S.I a.S.L a.S.E a.M a.C 1) fun p=>
 ob (xL b.N b.I b.L b.E p.1) fun q=>
 if (decide (q.1 < 0)) then (iL d e f g h i j c true) else (ob (aBv c.1 ⟨f,g,h,i⟩) fun r=>
 if (!r) then (iL d e f g h i j c true) else (iL d e f g h i j c (c.2 != j))))))
def mG (b:cA) (c:dB) (d e:Int) (f:List aZ) (g:List Edge) (h:Int):Option Bool:=
 ob (xV b) fun i=>
 ob (aBt c) fun j=>
 ob (rA i j) fun a=>
 ob (aBv a.1 ⟨d,e,f,g⟩) fun k=>
 if (!k) then (jV b c d e f g h i j a true) else (jV b c d e f g h i j a (a.2 != h))
def oQ (b:cA) (c:dB):Option Bool:=
 ob (aDj b 1048576) fun d=>
 if (decide (d < 0)) then (some true) else (ob (aFc c d) fun e=>
 if (decide (e < 0)) then (some true) else (ob (xV b) fun f=>
 ob (aBt c) fun g=>
 ob (uK f g) fun a=>
 mG b c a.1.N a.1.I a.1.L a.1.E a.2))
end
end Gv
