/- Models of the functions, printed by program off their code. Plain Lean. -/
import Derived.Test.YtingjpdikgpflaaGreatDoorJLM
set_option linter.all false
namespace Gv
noncomputable section
def nW (a:List Int):Option ((List Int) × Bool):=
 some (a,true)
def aAz (b:(List aZ)) (c:List Int) (a:Int):Option ((List Int × Int) ⊕ (List Int ⊕ ((List Int) × Bool))):=
 if (decide (a < (b.length:Int))) then (ob (ix b a) fun e=>
 ob (aAi e) fun d=>
 if (!d.2) then (some (.inr (.inr ([],false)))) else (ob (nE c ([d.1]:List Int)) fun f=>
 some (.inl (f,wr (a+1))))) else (some (.inr (.inl c)))
def aAj (b:(List aZ)):Option ((List Int) × Bool):=
 ob (loop (fun (s:(List Int × Int))=>aAz b s.1 s.2) ([],0)) fun r=>match r with|.inl r=>nW r|.inr r=>some r
def yV (a:aZ) (b:List aZ):Option aZ:=
 ob (aNU b a) fun c=>
 some c
def aFU (c:(List Int)) (b:List aZ) (a:Int):Option ((List aZ × Int) ⊕ (List aZ)):=
 if (decide (a < (c.length:Int))) then (ob (ix c a) fun d=>
 ob (aFl d) fun e=>
 ob (ix b a) fun g=>
 ob (st b a (e:aZ)) fun f=>
 some (.inl (f,wr (a+1)))) else (some (.inr b))
def aEC (a:(List Int)) (b:aZ):Option aZ:=
 ob (mkz (a.length:Int) ([]:aZ)) fun c=>
 ob (loop (fun (s:(List aZ × Int))=>aFU a s.1 s.2) (c,0)) fun r=>yV b r
def vT (a:Bool):Option Bool:=
 some a
def aFn (c:UInt8):Option Bool:=
 if (decide (48<=(c.toNat:Int))) then (vT (decide ((c.toNat:Int)<=57))) else (vT false)
def yW (a:Bool):Option Bool:=
 some a
def yX (a:aZ):Option Bool:=
 if (decide (1<=(a.length:Int))) then (yW (decide ((a.length:Int)<=10))) else (yW false)
def vB (a:Int) (b:Bool):Option (Int ⊕ (Unit ⊕ Bool)):=
 if b then (some (.inr (.inr false))) else (some (.inl (wr (a+1))))
def yY (b:aZ) (a:Int) (c:Bool):Option (Int ⊕ (Unit ⊕ Bool)):=
 if (!c) then (if (a == 0) then (vB a true) else (ob (ix b a) fun d=>
 ob (aFn d) fun e=>
 vB a (!e))) else (vB a false)
def aFV (a:aZ) (b:Int):Option (Int ⊕ (Unit ⊕ Bool)):=
 if (decide (b < (a.length:Int))) then (ob (ix a b) fun c45=>
 if (decide (97<=(c45.toNat:Int))) then (yY a b (decide ((c45.toNat:Int)<=122))) else (yY a b false)) else (some (.inr (.inl ())))
def aGQ (b:aZ):Option Bool:=
 ob (loop (fun (s:Int)=>aFV b s) 0) fun r=>match r with|.inl r=>yX b|.inr r=>some r
def tI (a:Bool):Option Bool:=
 some a
def aDU (a:aZ):Option Bool:=
 ob (aGQ a) fun b=>
 if b then (tI (!(a == ([116,97,117]:aZ)))) else (tI false)
def yZ (a:Bool):Option Bool:=
 some a
def vC (n low b:Int):Option Bool:=
 if (decide (low<=n)) then (yZ (decide (n<=b))) else (yZ false)
def aFo (n:Int):Option Bool:=
 ob (vC n 0 63) fun b=>
 some b
def xS (n:Int):Option Bool:=
 ob (aFo n) fun b=>
 some (!b)
def eN:Option Int:=
 some (-1)
def jQ (b:(List Int)) (a:Int):Option (Int ⊕ (Unit ⊕ Int)):=
 if (decide (a < (b.length:Int))) then (ob (ix b a) fun c=>
 ob (xS c) fun d=>
 if d then (some (.inr (.inr a))) else (some (.inl (wr (a+1))))) else (some (.inr (.inl ())))
def iB (b:(List Int)):Option Int:=
 ob (loop (fun (s:Int)=>jQ b s) 0) fun r=>match r with|.inl r=>eN|.inr r=>some r
def gJ (a:(List Int)):Option Bool:=
 ob (iB a) fun b=>
 some (decide (0<=b))
def aBV (a:(List Int)):Option Bool:=
 ob (gJ a) fun b=>
 some (!b)
def qR (a:aZ) (b:(List Int)) (c:Bool):Option (aZ × Bool):=
 if c then (some (([]:aZ),false)) else (if ((b.length:Int) == 0) then (some (a,true)) else (ob (cat a ([40]:aZ)) fun d=>
 ob (aEC b ([44]:aZ)) fun e=>
 ob (cat d e) fun f=>
 ob (cat f ([41]:aZ)) fun g=>
 some (g,true)))
def aFp (b:aZ) (a:(List Int)):Option (aZ × Bool):=
 if (b == ([116,97,117]:aZ)) then (some (([116,97,117]:aZ),(a.length:Int) == 0)) else (ob (aDU b) fun c=>
 if (!c) then (qR b a true) else (if (decide (2 < (a.length:Int))) then (qR b a true) else (ob (aBV a) fun d=>
 qR b a (!d))))
def eV (a:Bool):Option Bool:=
 some a
def iD (a b:aZ):Option Bool:=
 if (decide ((b.length:Int)<=(a.length:Int))) then (ob (yK a (wr ((a.length:Int) - (b.length:Int))) (a.length:Int)) fun c=>
 eV (c == b)) else (eV false)
def iC (a b:aZ):Option aZ:=
 ob (iD a b) fun c=>
 if c then (ob (yK a 0 (wr ((a.length:Int) - (b.length:Int)))) fun d=>
 some d) else (some a)
def nK (a b:aZ):Option aZ:=
 ob (iC a b) fun c=>
 some c
def qS (a:(aZ × aZ × Bool)) (b:List Int) (c:Bool):Option (aZ × (List Int) × Bool):=
 if c then (some (([]:aZ),[],false)) else (some (a.1,b,true))
def qT (d:aZ) (a:(aZ × aZ × Bool)) (b:List Int):Option (aZ × (List Int) × Bool):=
 ob (aFp a.1 b) fun c=>
 if (!c.2) then (qS a b true) else (qS a b (!(c.1 == d)))
def aBW (b:aZ):Option (aZ × (List Int) × Bool):=
 ob (l_Cut b ([40]:aZ)) fun a=>
 if a.2.2 then (ob (nK a.2.1 ([41]:aZ)) fun d=>
 ob (aIb d ([44]:aZ)) fun e=>
 ob (aAj e) fun c=>
 if (!c.2) then (some (([]:aZ),[],false)) else (qT b a c.1)) else (qT b a [])
def aCS (a:aZ):Option Bool:=
 ob (aBW a) fun b=>
 some b.2.2
def xT (a:aZ):Option Bool:=
 ob (aCS a) fun b=>
 some (!b)
def eG:Option Int:=
 some (-1)
def jA (b:(List aZ)) (a:Int):Option (Int ⊕ (Unit ⊕ Int)):=
 if (decide (a < (b.length:Int))) then (ob (ix b a) fun c=>
 ob (xT c) fun d=>
 if d then (some (.inr (.inr a))) else (some (.inl (wr (a+1))))) else (some (.inr (.inl ())))
def gS (b:(List aZ)):Option Int:=
 ob (loop (fun (s:Int)=>jA b s) 0) fun r=>match r with|.inl r=>eG|.inr r=>some r
def fZ (a:(List aZ)):Option Bool:=
 ob (gS a) fun b=>
 some (decide (0<=b))
def aBX (a:(List aZ)):Option Bool:=
 ob (fZ a) fun b=>
 some (!b)
def fC:Option Int:=
 some (-1)
def kH (b:(List aZ)) (c:aZ) (a:Int):Option (Int ⊕ (Unit ⊕ Int)):=
 if (decide (a < (b.length:Int))) then (ob (ix b a) fun d=>
 if (c == d) then (some (.inr (.inr a))) else (some (.inl (wr (a+1))))) else (some (.inr (.inl ())))
def fX (b:(List aZ)) (c:aZ):Option Int:=
 ob (loop (fun (s:Int)=>kH b c s) 0) fun r=>match r with|.inl r=>fC|.inr r=>some r
def eA (a:(List aZ)) (b:aZ):Option Bool:=
 ob (fX a b) fun c=>
 some (decide (0<=c))
def pE (a:Bool):Option Bool:=
 some a
def qU (a:(List aZ)):Option Bool:=
 ob (aBX a) fun b=>
 if b then (ob (eA a ([116,97,117]:aZ)) fun c=>
 pE (!c)) else (pE false)
def aFq (a:(List UInt8)):Option Bool:=
 some (decide (1048576 < (a.length:Int)))
def aFr (a:(List UInt8)):Option (Int × Int):=
 some (0,0)
def vU:Option Int:=
 some (-1)
def aED (b:(List aZ)) (c:aZ) (a:Int):Option (Int ⊕ (Unit ⊕ Int)):=
 if (decide (a < (b.length:Int))) then (ob (ix b a) fun d=>
 if (d == c) then (some (.inr (.inr a))) else (some (.inl (wr (a+1))))) else (some (.inr (.inl ())))
def aCT (b:(List aZ)) (c:aZ):Option Int:=
 ob (loop (fun (s:Int)=>aED b c s) 0) fun r=>match r with|.inl r=>vU|.inr r=>some r
def vV (a:List aZ):Option (List aZ):=
 some a
def vW (a:Int) (b:List aZ):Option ((List aZ × Int) ⊕ (List aZ)):=
 some (.inl (b,wr (a+1)))
def vX (c:Int) (d:aZ) (a:Int) (b:List aZ):Option ((List aZ × Int) ⊕ (List aZ)):=
 ob (ix b a) fun f=>
 ob (st b a (d:aZ)) fun e=>
 vW c e
def aEE (c:Int) (b:List aZ) (a:Int):Option ((List aZ × Int) ⊕ (List aZ)):=
 if (decide (c < a)) then (ob (ix b (wr (a - 1))) fun d=>
 ob (ix b a) fun f=>
 ob (st b a (d:aZ)) fun e=>
 some (.inl (e,wr (a - 1)))) else (some (.inr b))
def vY (c:List aZ) (d:Int) (e:aZ) (a:Int):Option ((List aZ × Int) ⊕ (List aZ)):=
 ob (nE c ([([]:aZ)]:List aZ)) fun b=>
 ob (loop (fun (s:(List aZ × Int))=>aEE a s.1 s.2) (b,wr ((b.length:Int) - 1))) fun r=>vX d e a r
def vZ (a:Int) (b:Bool):Option (Int ⊕ Int):=
 if b then (some (.inl (wr (a+1)))) else (some (.inr a))
def aEF (b:List aZ) (c:aZ) (a:Int):Option (Int ⊕ Int):=
 if (decide (a < (b.length:Int))) then (ob (ix b a) fun d=>
 vZ a (qJ d c)) else (vZ a false)
def aEG (d:(List aZ)) (a:List aZ) (b:Int):Option ((List aZ × Int) ⊕ (List aZ)):=
 if (decide (b < (d.length:Int))) then (ob (ix d b) fun c=>
 ob (aCT a c) fun e=>
 if (decide (0<=e)) then (vW b a) else (ob (loop (fun (s:Int)=>aEF a c s) 1) fun r=>vY a b c r)) else (some (.inr a))
def aFs (a:(List aZ)):Option (List aZ):=
 ob (loop (fun (s:(List aZ × Int))=>aEG a s.1 s.2) (([([116,97,117]:aZ)]:List aZ),0)) fun r=>vV r
def aCU (a b:Edge):Option Bool:=
 if (a.F != b.F) then (some (decide (a.F < b.F))) else (if (a.B != b.B) then (some (decide (a.B < b.B))) else (some (decide (a.To < b.To))))
def zD (e:Edge) (b:Int) (c:List Edge):Option (List Edge):=
 ob (ix c b) fun f=>
 ob (st c b (⟨e.F,e.B,e.To⟩:Edge)) fun d=>
 some d
def aFW (d:Int) (b:List Edge) (a:Int):Option ((List Edge × Int) ⊕ (List Edge)):=
 if (decide (d < a)) then (ob (ix b (wr (a - 1))) fun c=>
 ob (ix b a) fun f=>
 ob (st b a (⟨c.F,c.B,c.To⟩:Edge)) fun e=>
 some (.inl (e,wr (a - 1)))) else (some (.inr b))
def zF (a:(List Edge)) (e:Edge) (b:Int) (f:Bool):Option (List Edge):=
 if f then (some a) else (ob (nE a ([⟨0,0,0⟩]:List Edge)) fun c=>
 ob (loop (fun (s:(List Edge × Int))=>aFW b s.1 s.2) (c,wr ((c.length:Int) - 1))) fun r=>zD e b r)
def zH (b:(List Edge)) (e:Edge) (a:Int):Option (List Edge):=
 if (decide (0 < a)) then (ob (ix b (wr (a - 1))) fun d=>
 zF b e a (decide ((d:Edge)=e))) else (zF b e a false)
def zJ (a:Int) (b:Bool):Option (Int ⊕ Int):=
 if b then (some (.inl (wr (a - 1)))) else (some (.inr a))
def aFX (b:(List Edge)) (e:Edge) (a:Int):Option (Int ⊕ Int):=
 if (decide (0 < a)) then (ob (ix b (wr (a - 1))) fun d=>
 ob (aCU e d) fun f=>
 zJ a f) else (zJ a false)
def aGR (a:(List Edge)) (e:Edge):Option (List Edge):=
 ob (loop (fun (s:Int)=>aFX a e s) (a.length:Int)) fun r=>zH a e r
def wA (a b:Int) (c:(List aZ)) (d:List Edge):Option cI:=
 some ⟨a,b,c,d⟩
def aEH (e:(List aZ)) (c:(List Edge)) (f:(List aZ)) (d:List Edge) (a:Int):Option ((List Edge × Int) ⊕ (List Edge)):=
 if (decide (a < (c.length:Int))) then (ob (ix c a) fun b=>
 ob (ix e b.B) fun g=>
 ob (aCT f g) fun h=>
 ob (aGR d ⟨b.F,h,b.To⟩) fun i=>
 some (.inl (i,wr (a+1)))) else (some (.inr d))
def xL (c d:Int) (a:(List aZ)) (e:(List Edge)):Option cI:=
 ob (aFs a) fun b=>
 ob (loop (fun (s:(List Edge × Int))=>aEH a e b s.1 s.2) (([]:List Edge),0)) fun r=>wA c d b r
def tJ:Option Int:=
 some (-1)
def aDm (b:(List Int)) (n a:Int):Option (Int ⊕ (Unit ⊕ Int)):=
 if (decide (a < (b.length:Int))) then (ob (ix b a) fun d=>
 if (d == n) then (some (.inr (.inr a))) else (some (.inl (wr (a+1))))) else (some (.inr (.inl ())))
def xU (b:(List Int)) (n:Int):Option Int:=
 ob (loop (fun (s:Int)=>aDm b n s) 0) fun r=>match r with|.inl r=>tJ|.inr r=>some r
def wB (a:(List Int)) (b:Int) (c:List aZ) (d:List Edge):Option cI:=
 some ⟨(a.length:Int),b,c,d⟩
def wC (a:Int) (b:List Edge):Option ((List Edge × Int) ⊕ (List Edge)):=
 some (.inl (b,wr (a+1)))
def wD (a:List Edge) (b:Int) (c:Edge) (d e:Int) (f:Bool):Option ((List Edge × Int) ⊕ (List Edge)):=
 if f then (ob (nE a ([⟨d,c.B,e⟩]:List Edge)) fun g=>
 wC b g) else (wC b a)
def aEI (t:cI) (g:(List Int)) (c:List Edge) (a:Int):Option ((List Edge × Int) ⊕ (List Edge)):=
 if (decide (a < (t.E.length:Int))) then (ob (ix t.E a) fun b=>
 ob (xU g b.F) fun d=>
 ob (xU g b.To) fun e=>
 if (decide (0<=d)) then (wD c a b d e (decide (0<=e))) else (wD c a b d e false)) else (some (.inr c))
def aAA (t:cI) (b:(List Int)):Option cI:=
 ob (xU b t.I) fun c=>
 ob (nE ([]:List aZ) t.L) fun d=>
 ob (loop (fun (s:(List Edge × Int))=>aEI t b s.1 s.2) (([]:List Edge),0)) fun r=>wB b c d r
def tK (a:List Int):Option (List Int):=
 some a
def tL (a:Int) (b:List Int):Option ((List Int × Int) ⊕ (List Int)):=
 some (.inl (b,wr (a+1)))
def aDn (t:cI) (d:List Bool) (b:List Int) (a:Int):Option ((List Int × Int) ⊕ (List Int)):=
 if (decide (a < t.N)) then (ob (ix d a) fun e=>
 if e then (ob (nE b ([a]:List Int)) fun f=>
 tL a f) else (tL a b)) else (some (.inr b))
def tM (t:cI) (b:List Bool):Option (List Int):=
 ob (loop (fun (s:(List Int × Int))=>aDn t b s.1 s.2) (([]:List Int),0)) fun r=>tK r
def aAk (a:List Bool) (b:Bool):Option ((List Bool × Bool) ⊕ (List Bool)):=
 some (.inl (a,b))
def tN (a:List Bool) (b:Bool):Option ((List Bool × Bool) ⊕ (List Bool)):=
 aAk a b
def tO (a:Int) (b:List Bool) (c:Bool):Option ((List Bool × Bool × Int) ⊕ (List Bool × Bool)):=
 some (.inl (b,c,wr (a+1)))
def tP (t:cI) (a:List Bool) (e:Bool) (b:Int) (f:Bool):Option ((List Bool × Bool × Int) ⊕ (List Bool × Bool)):=
 if f then (ob (ix t.E b) fun c=>
 ob (ix a c.To) fun h=>
 ob (st a c.To (true:Bool)) fun g=>
 tO b g true) else (tO b a e)
def aDo (t:cI) (a:List Bool) (d:Bool) (c:Int):Option ((List Bool × Bool × Int) ⊕ (List Bool × Bool)):=
 if (decide (c < (t.E.length:Int))) then (ob (ix t.E c) fun e=>
 ob (ix a e.F) fun f=>
 if f then (ob (ix a e.To) fun g=>
 tP t a d c (!g)) else (tP t a d c false)) else (some (.inr (a,d)))
def aBY (t:cI) (a:List Bool) (d:Bool):Option ((List Bool × Bool) ⊕ (List Bool)):=
 if d then (ob (loop (fun (s:(List Bool × Bool × Int))=>aDo t s.1 s.2.1 s.2.2) (a,false,0)) fun r=>tN r.1 r.2) else (some (.inr a))
def xV (t:cI):Option (List Int):=
 ob (mkz t.N (false:Bool)) fun b=>
 ob (ix b t.I) fun e=>
 ob (st b t.I (true:Bool)) fun c=>
 ob (loop (fun (s:(List Bool × Bool))=>aBY t s.1 s.2) (c,true)) fun r=>tM t r
def aGS (a b:Int):Option Int:=
 if (decide (b < a)) then (some a) else (some b)
def qV (a:Int):Option Int:=
 some a
def aBZ (p:(List Int)) (c a:Int):Option ((Int × Int) ⊕ Int):=
 if (decide (a < (p.length:Int))) then (ob (ix p a) fun d=>
 ob (aGS c (wr (d+1))) fun e=>
 some (.inl (e,wr (a+1)))) else (some (.inr c))
def zN (p:(List Int)):Option Int:=
 ob (loop (fun (s:(Int × Int))=>aBZ p s.1 s.2) (0,0)) fun r=>qV r
def nX (t:cI) (p:(List Int)) (c:List Edge):Option cI:=
 ob (ix p t.I) fun d=>
 ob (zN p) fun e=>
 ob (xL e d t.L c) fun f=>
 some f
def aAB (t:cI) (p:(List Int)) (e:List Edge) (a:Int):Option ((List Edge × Int) ⊕ (List Edge)):=
 if (decide (a < (t.E.length:Int))) then (ob (ix t.E a) fun b=>
 ob (ix p b.F) fun f=>
 ob (ix p b.To) fun g=>
 ob (nE e ([⟨f,b.B,g⟩]:List Edge)) fun h=>
 some (.inl (h,wr (a+1)))) else (some (.inr e))
def aAl (t:cI) (p:(List Int)):Option cI:=
 ob (loop (fun (s:(List Edge × Int))=>aAB t p s.1 s.2) (([]:List Edge),0)) fun r=>nX t p r
def wE:Option Bool:=
 some true
def aEJ (a b:(List Int)) (c:Int):Option (Int ⊕ (Unit ⊕ Bool)):=
 if (decide (c < (a.length:Int))) then (ob (ix a c) fun f=>
 ob (ix b c) fun g=>
 if (f != g) then (some (.inr (.inr false))) else (some (.inl (wr (c+1))))) else (some (.inr (.inl ())))
def sZ (a b:(List Int)):Option Bool:=
 if ((a.length:Int) != (b.length:Int)) then (some false) else (ob (loop (fun (s:Int)=>aEJ a b s) 0) fun r=>match r with|.inl r=>wE|.inr r=>some r)
def zO (a:List Int):Option (List Int):=
 some a
def zQ (n:Int) (a:List Int) (c:Bool):Option (List Int):=
 if (!c) then (ob (nE a ([n]:List Int)) fun d=>
 zO d) else (zO a)
def vD (b:(List Int)) (a:Int) (c:List Int) (d:Bool):Option ((List Int × Bool × Int) ⊕ (List Int × Bool)):=
 ob (ix b a) fun e=>
 ob (nE c ([e]:List Int)) fun f=>
 some (.inl (f,d,wr (a+1)))
def zU (a:(List Int)) (n:Int) (c:List Int) (e:Bool) (b:Int) (f:Bool):Option ((List Int × Bool × Int) ⊕ (List Int × Bool)):=
 if f then (ob (ix a b) fun g=>
 if (decide (n < g)) then (ob (nE c ([n]:List Int)) fun h=>
 vD a b h true) else (vD a b c true)) else (vD a b c e)
def aFY (a:(List Int)) (n:Int) (e:List Int) (b:Bool) (c:Int):Option ((List Int × Bool × Int) ⊕ (List Int × Bool)):=
 if (decide (c < (a.length:Int))) then (if (!b) then (ob (ix a c) fun f=>
 zU a n e b c (decide (n<=f))) else (zU a n e b c false)) else (some (.inr (e,b)))
def aEK (c:(List Int)) (n:Int):Option (List Int):=
 ob (loop (fun (s:(List Int × Bool × Int))=>aFY c n s.1 s.2.1 s.2.2) (([]:List Int),false,0)) fun r=>zQ n r.1 r.2
def wF (a:List Int):Option (List Int):=
 some a
def wG (a:Int) (b:List Int):Option ((List Int × Int) ⊕ (List Int)):=
 some (.inl (b,wr (a+1)))
def aEL (t:cI) (p:(List Int)) (k:Int) (b:List Int) (a:Int):Option ((List Int × Int) ⊕ (List Int)):=
 if (decide (a < (t.E.length:Int))) then (ob (ix t.E a) fun c=>
 if (c.F == k) then (ob (ix p c.To) fun g=>
 ob (aEK b (wr ((wr (c.B * (p.length:Int)))+g))) fun h=>
 wG a h) else (wG a b)) else (some (.inr b))
def aFt (t:cI) (p:(List Int)) (k:Int):Option (List Int):=
 ob (loop (fun (s:(List Int × Int))=>aEL t p k s.1 s.2) (([]:List Int),0)) fun r=>wF r
def qW (a:List Int):Option (List Int):=
 some a
def xW (a:Int) (b:List Int) (c:Int):Option ((List Int × Int × Int) ⊕ (List Int)):=
 some (.inl (b,c,wr (a+1)))
def qX (a:List Int) (b c d:Int):Option ((List Int × Int × Int) ⊕ (List Int)):=
 ob (nE a ([d]:List Int)) fun e=>
 xW b e c
def qY (b:List Int) (a c d:Int):Option ((List Int × Int × Int) ⊕ (List Int)):=
 if (decide (d < 0)) then (qX b c (wr (a+1)) a) else (qX b c a d)
def qZ (a b:Int):Option ((Int × Int) ⊕ Int):=
 some (.inl (b,wr (a+1)))
def rA (b:List Int) (c a:Int) (d:Bool):Option ((Int × Int) ⊕ Int):=
 if d then (ob (ix b a) fun e=>
 qZ a e) else (qZ a c)
def rB (p:(List Int)) (d:List (List Int)) (e:List Int) (f b a:Int) (g:Bool):Option ((Int × Int) ⊕ Int):=
 if g then (ob (ix p a) fun h=>
 ob (ix p f) fun i=>
 if (h == i) then (ob (ix d a) fun j=>
 ob (ix d f) fun k=>
 ob (sZ j k) fun l=>
 rA e b a l) else (rA e b a false)) else (some (.inr b))
def aCa (p:(List Int)) (e:List (List Int)) (f:List Int) (a b c:Int):Option ((Int × Int) ⊕ Int):=
 if (decide (c < a)) then (rB p e f a b c (decide (b < 0))) else (rB p e f a b c false)
def aCb (p:(List Int)) (d:List (List Int)) (a:List Int) (e b:Int):Option ((List Int × Int × Int) ⊕ (List Int)):=
 if (decide (b < (p.length:Int))) then (ob (loop (fun (s:(Int × Int))=>aCa p d a b s.1 s.2) ((-1),0)) fun r=>qY a e b r) else (some (.inr a))
def pF (p:(List Int)) (b:List (List Int)):Option (List Int):=
 ob (loop (fun (s:(List Int × Int × Int))=>aCb p b s.1 s.2.1 s.2.2) (([]:List Int),0,0)) fun r=>qW r
def aBs (t:cI) (p:(List Int)) (c:List (List Int)) (a:Int):Option ((List (List Int) × Int) ⊕ (List (List Int))):=
 if (decide (a < t.N)) then (ob (aFt t p a) fun e=>
 ob (nE c ([e]:List (List Int))) fun f=>
 some (.inl (f,wr (a+1)))) else (some (.inr c))
def aCc (t:cI) (p:(List Int)):Option (List Int):=
 ob (loop (fun (s:(List (List Int) × Int))=>aBs t p s.1 s.2) (([]:List (List Int)),0)) fun r=>pF p r
def aCd (t:cI) (a:List Int) (b:Int):Option ((List Int × Int) ⊕ ((List Int) × Int)):=
 ob (aCc t a) fun c=>
 ob (sZ c a) fun e=>
 if e then (some (.inr (a,b))) else (some (.inl (c,wr (b+1))))
def aCe (t:cI):Option ((List Int) × Int):=
 ob (mkz t.N (0:Int)) fun b=>
 ob (loop (fun (s:(List Int × Int))=>aCd t s.1 s.2) (b,0)) fun r=>some r
def aCV (t:cI):Option (List Int):=
 ob (aCe t) fun b=>
 some b.1
def aDV (t:cI):Option cI:=
 ob (xV t) fun c=>
 ob (aAA t c) fun b=>
 ob (aCV b) fun d=>
 ob (aAl b d) fun e=>
 some e
def tQ (a:Bool):Option Bool:=
 some a
def tA (e:Edge) (p:(List Int)):Option Bool:=
 if (e.B == 0) then (ob (ix p e.F) fun c=>
 ob (ix p e.To) fun d=>
 tQ (c == d)) else (tQ false)
def wH (a:List Int):Option (List Int):=
 some a
def wI (a:Int) (b:List Int):Option ((List Int × Int) ⊕ (List Int)):=
 some (.inl (b,wr (a+1)))
def aEM (c:(List Bool)) (b:List Int) (a:Int):Option ((List Int × Int) ⊕ (List Int)):=
 if (decide (a < (c.length:Int))) then (ob (ix c a) fun d=>
 if d then (ob (nE b ([a]:List Int)) fun e=>
 wI a e) else (wI a b)) else (some (.inr b))
def aFu (a:(List Bool)):Option (List Int):=
 ob (loop (fun (s:(List Int × Int))=>aEM a s.1 s.2) (([]:List Int),0)) fun r=>wH r
def pG (a:List Bool):Option (List Bool):=
 some a
def vK (a:List Bool) (b:Bool):Option ((List Bool × Bool) ⊕ (List Bool)):=
 some (.inl (a,b))
def pH (a:List Bool) (b:Bool):Option ((List Bool × Bool) ⊕ (List Bool)):=
 vK a b
def mC (a:Int) (b:List Bool) (c:Bool):Option ((List Bool × Bool × Int) ⊕ (List Bool × Bool)):=
 some (.inl (b,c,wr (a+1)))
def pI (b:List Bool) (c:Bool) (a:Int) (d:Bool):Option ((List Bool × Bool × Int) ⊕ (List Bool × Bool)):=
 if (!d) then (ob (st b a (false:Bool)) fun e=>
 mC a e true) else (mC a b c)
def kT (a:Int) (b:Bool):Option ((Bool × Int) ⊕ Bool):=
 some (.inl (b,wr (a+1)))
def aBt (t:cI) (p:(List Int)) (f:List Bool) (g:Int) (d:Bool) (a:Int):Option ((Bool × Int) ⊕ Bool):=
 if (decide (a < (t.E.length:Int))) then (ob (ix t.E a) fun b=>
 if d then (kT a true) else (if (b.F == g) then (ob (tA b p) fun h=>
 if h then (ob (ix f b.To) fun i=>
 kT a i) else (kT a false)) else (kT a false))) else (some (.inr d))
def aBu (t:cI) (p:(List Int)) (a:List Bool) (c:Bool) (b:Int):Option ((List Bool × Bool × Int) ⊕ (List Bool × Bool)):=
 if (decide (b < t.N)) then (ob (ix a b) fun f=>
 if (!f) then (mC b a c) else (ob (loop (fun (s:(Bool × Int))=>aBt t p a b s.1 s.2) (false,0)) fun r=>pI a c b r)) else (some (.inr (a,c)))
def aBv (t:cI) (p:(List Int)) (a:List Bool) (e:Bool):Option ((List Bool × Bool) ⊕ (List Bool)):=
 if e then (ob (loop (fun (s:(List Bool × Bool × Int))=>aBu t p s.1 s.2.1 s.2.2) (a,false,0)) fun r=>pH r.1 r.2) else (some (.inr a))
def nY (t:cI) (p:(List Int)) (c:List Bool):Option (List Bool):=
 ob (loop (fun (s:(List Bool × Bool))=>aBv t p s.1 s.2) (c,true)) fun r=>pG r
def aAC (t:cI) (b:List Bool) (a:Int):Option ((List Bool × Int) ⊕ (List Bool)):=
 if (decide (a < t.N)) then (ob (ix b a) fun e=>
 ob (st b a (true:Bool)) fun d=>
 some (.inl (d,wr (a+1)))) else (some (.inr b))
def wJ (t:cI) (p:(List Int)):Option (List Bool):=
 ob (mkz t.N (false:Bool)) fun c=>
 ob (loop (fun (s:(List Bool × Int))=>aAC t s.1 s.2) (c,0)) fun r=>nY t p r
def nZ (t:cI) (p:(List Int)) (c:List Edge):Option cI:=
 ob (ix p t.I) fun d=>
 ob (zN p) fun e=>
 ob (xL e d t.L c) fun f=>
 some f
def oA (t:cI) (p:(List Int)) (c:List Edge):Option cI:=
 nZ t p c
def aAD (p b:(List Int)) (c:List Edge) (a:Int):Option ((List Edge × Int) ⊕ (List Edge)):=
 if (decide (a < (b.length:Int))) then (ob (ix b a) fun f=>
 ob (ix p f) fun d=>
 ob (nE c ([⟨d,0,d⟩]:List Edge)) fun g=>
 some (.inl (g,wr (a+1)))) else (some (.inr c))
def oB (t:cI) (p:(List Int)) (d:Bool) (c:List Edge):Option cI:=
 if d then (ob (wJ t p) fun e=>
 ob (aFu e) fun f=>
 ob (loop (fun (s:(List Edge × Int))=>aAD p f s.1 s.2) (c,0)) fun r=>oA t p r) else (nZ t p c)
def oC (a:Int) (b:List Edge):Option ((List Edge × Int) ⊕ (List Edge)):=
 some (.inl (b,wr (a+1)))
def aAE (t:cI) (p:(List Int)) (d:List Edge) (a:Int):Option ((List Edge × Int) ⊕ (List Edge)):=
 if (decide (a < (t.E.length:Int))) then (ob (ix t.E a) fun b=>
 ob (tA b p) fun f=>
 if (!f) then (ob (ix p b.F) fun g=>
 ob (ix p b.To) fun h=>
 ob (nE d ([⟨g,b.B,h⟩]:List Edge)) fun i=>
 oC a i) else (oC a d)) else (some (.inr d))
def tR (t:cI) (p:(List Int)) (c:Bool):Option cI:=
 ob (loop (fun (s:(List Edge × Int))=>aAE t p s.1 s.2) (([]:List Edge),0)) fun r=>oB t p c r
def tS (a:List Bool):Option (List Bool):=
 some a
def aAm (a:List Bool) (b:Bool):Option ((List Bool × Bool) ⊕ (List Bool)):=
 some (.inl (a,b))
def tT (a:List Bool) (b:Bool):Option ((List Bool × Bool) ⊕ (List Bool)):=
 aAm a b
def tU (a:Int) (b:List Bool) (c:Bool):Option ((List Bool × Bool × Int) ⊕ (List Bool × Bool)):=
 some (.inl (b,c,wr (a+1)))
def oW (a:List Bool) (d:Bool) (b:Int) (c:Edge) (e:Bool):Option ((List Bool × Bool × Int) ⊕ (List Bool × Bool)):=
 if e then (ob (ix a c.To) fun g=>
 ob (st a c.To (true:Bool)) fun f=>
 tU b f true) else (tU b a d)
def aDp (t:cI) (p:(List Int)) (a:List Bool) (d:Bool) (c:Int):Option ((List Bool × Bool × Int) ⊕ (List Bool × Bool)):=
 if (decide (c < (t.E.length:Int))) then (ob (ix t.E c) fun b=>
 ob (ix a b.F) fun g=>
 if g then (ob (ix a b.To) fun h=>
 if (!h) then (ob (tA b p) fun i=>
 oW a d c b i) else (oW a d c b false)) else (oW a d c b false)) else (some (.inr (a,d)))
def aDq (t:cI) (p:(List Int)) (a:List Bool) (e:Bool):Option ((List Bool × Bool) ⊕ (List Bool)):=
 if e then (ob (loop (fun (s:(List Bool × Bool × Int))=>aDp t p s.1 s.2.1 s.2.2) (a,false,0)) fun r=>tT r.1 r.2) else (some (.inr a))
def aDW (t:cI) (p:(List Int)) (k:Int):Option (List Bool):=
 ob (mkz t.N (false:Bool)) fun c=>
 ob (ix c k) fun g=>
 ob (st c k (true:Bool)) fun e=>
 ob (loop (fun (s:(List Bool × Bool))=>aDq t p s.1 s.2) (e,true)) fun r=>tS r
def rC (a:List Int):Option (List Int):=
 some a
def rD (a:Int) (b:List Int):Option ((List Int × Int) ⊕ (List Int)):=
 some (.inl (b,wr (a+1)))
def rE (p:(List Int)) (b:List Int) (c:Int) (d:Edge) (e:Bool):Option ((List Int × Int) ⊕ (List Int)):=
 if e then (ob (ix p d.To) fun f=>
 ob (aEK b (wr ((wr (d.B * (p.length:Int)))+f))) fun g=>
 rD c g) else (rD c b)
def aCf (t:cI) (p:(List Int)) (f:(List Bool)) (d:List Int) (a:Int):Option ((List Int × Int) ⊕ (List Int)):=
 if (decide (a < (t.E.length:Int))) then (ob (ix t.E a) fun b=>
 ob (ix f b.F) fun g=>
 if g then (ob (tA b p) fun h=>
 rE p d a b (!h)) else (rE p d a b false)) else (some (.inr d))
def aCg (t:cI) (p:(List Int)) (k:Int):Option (List Int):=
 ob (aDW t p k) fun d=>
 ob (loop (fun (s:(List Int × Int))=>aCf t p d s.1 s.2) (([]:List Int),0)) fun r=>rC r
def rF (a:List Int):Option (List Int):=
 some a
def xX (a:Int) (b:List Int) (c:Int):Option ((List Int × Int × Int) ⊕ (List Int)):=
 some (.inl (b,c,wr (a+1)))
def rG (a:List Int) (b c d:Int):Option ((List Int × Int × Int) ⊕ (List Int)):=
 ob (nE a ([d]:List Int)) fun e=>
 xX b e c
def rH (b:List Int) (a c d:Int):Option ((List Int × Int × Int) ⊕ (List Int)):=
 if (decide (d < 0)) then (rG b c (wr (a+1)) a) else (rG b c a d)
def rI (a b:Int):Option ((Int × Int) ⊕ Int):=
 some (.inl (b,wr (a+1)))
def rJ (b:List Int) (c a:Int) (d:Bool):Option ((Int × Int) ⊕ Int):=
 if d then (ob (ix b a) fun e=>
 rI a e) else (rI a c)
def rK (p:(List Int)) (d:List (List Int)) (e:List Int) (f b a:Int) (g:Bool):Option ((Int × Int) ⊕ Int):=
 if g then (ob (ix p a) fun h=>
 ob (ix p f) fun i=>
 if (h == i) then (ob (ix d a) fun j=>
 ob (ix d f) fun k=>
 ob (sZ j k) fun l=>
 rJ e b a l) else (rJ e b a false)) else (some (.inr b))
def aCh (p:(List Int)) (e:List (List Int)) (f:List Int) (a b c:Int):Option ((Int × Int) ⊕ Int):=
 if (decide (c < a)) then (rK p e f a b c (decide (b < 0))) else (rK p e f a b c false)
def aCi (p:(List Int)) (d:List (List Int)) (a:List Int) (e b:Int):Option ((List Int × Int × Int) ⊕ (List Int)):=
 if (decide (b < (p.length:Int))) then (ob (loop (fun (s:(Int × Int))=>aCh p d a b s.1 s.2) ((-1),0)) fun r=>rH a e b r) else (some (.inr a))
def pJ (p:(List Int)) (b:List (List Int)):Option (List Int):=
 ob (loop (fun (s:(List Int × Int × Int))=>aCi p b s.1 s.2.1 s.2.2) (([]:List Int),0,0)) fun r=>rF r
def pK (a:List (List Int)) (b:Int) (c:List Int):Option ((List (List Int) × Int) ⊕ (List (List Int))):=
 ob (nE a ([c]:List (List Int))) fun d=>
 some (.inl (d,wr (b+1)))
def pL (a:List (List Int)) (b:Int) (c:(List Int)) (d:Bool):Option ((List (List Int) × Int) ⊕ (List (List Int))):=
 if d then (ob (nE c ([(-1)]:List Int)) fun e=>
 pK a b e) else (pK a b c)
def aBw (t:cI) (p:(List Int)) (f:Bool) (g:(List Bool)) (b:List (List Int)) (a:Int):Option ((List (List Int) × Int) ⊕ (List (List Int))):=
 if (decide (a < t.N)) then (ob (aCg t p a) fun d=>
 if f then (ob (ix g a) fun h=>
 pL b a d h) else (pL b a d false)) else (some (.inr b))
def aCj (t:cI) (p:(List Int)) (c:Bool):Option (List Int):=
 ob (wJ t p) fun d=>
 ob (loop (fun (s:(List (List Int) × Int))=>aBw t p c d s.1 s.2) (([]:List (List Int)),0)) fun r=>pJ p r
def aEN (t:cI) (d:Bool) (a:List Int):Option ((List Int) ⊕ (List Int)):=
 ob (aCj t a d) fun b=>
 ob (sZ b a) fun e=>
 if e then (some (.inr a)) else (some (.inl b))
def aFv (t:cI) (b:Bool):Option (List Int):=
 ob (mkz t.N (0:Int)) fun c=>
 ob (loop (fun (s:List Int)=>aEN t b s) c) fun r=>some r
def aAW (t:cI) (b:Bool):Option cI:=
 ob (xV t) fun d=>
 ob (aAA t d) fun c=>
 ob (aFv c b) fun e=>
 ob (tR c e b) fun f=>
 some f
def tV (a:List Bool):Option (List Bool):=
 some a
def aAn (a:Int) (b:List Bool):Option ((List Bool × Int) ⊕ (List Bool)):=
 some (.inl (b,wr (a+1)))
def tW (a:Int) (b:List Bool):Option ((List Bool × Int) ⊕ (List Bool)):=
 aAn a b
def tX (a:Int) (b:List Bool):Option ((List Bool × Int) ⊕ (List Bool)):=
 some (.inl (b,wr (a+1)))
def tY (a:Int) (b:List Bool):Option ((List Bool × Int) ⊕ (List Bool)):=
 tX a b
def tZ (a:Int) (b:List Bool):Option ((List Bool × Int) ⊕ (List Bool)):=
 some (.inl (b,wr (a+1)))
def aDr (n e d:Int) (b:List Bool) (a:Int):Option ((List Bool × Int) ⊕ (List Bool)):=
 if (decide (a < n)) then (ob (ix b (wr ((wr (e * n))+a))) fun f=>
 if f then (ob (ix b (wr ((wr (d * n))+a))) fun h=>
 ob (st b (wr ((wr (d * n))+a)) (true:Bool)) fun g=>
 tZ a g) else (tZ a b)) else (some (.inr b))
def aDs (n d:Int) (b:List Bool) (a:Int):Option ((List Bool × Int) ⊕ (List Bool)):=
 if (decide (a < n)) then (ob (ix b (wr ((wr (a * n))+d))) fun e=>
 if (!e) then (tX a b) else (ob (loop (fun (s:(List Bool × Int))=>aDr n d a s.1 s.2) (b,0)) fun r=>tY a r)) else (some (.inr b))
def aDt (n:Int) (c:List Bool) (a:Int):Option ((List Bool × Int) ⊕ (List Bool)):=
 if (decide (a < n)) then (ob (loop (fun (s:(List Bool × Int))=>aDs n a s.1 s.2) (c,0)) fun r=>tW a r) else (some (.inr c))
def rL (n:Int) (b:List Bool):Option (List Bool):=
 ob (loop (fun (s:(List Bool × Int))=>aDt n s.1 s.2) (b,0)) fun r=>tV r
def aCk (n:Int) (c:List Bool) (a:Int):Option ((List Bool × Int) ⊕ (List Bool)):=
 if (decide (a < n)) then (ob (ix c (wr ((wr (a * n))+a))) fun e=>
 ob (st c (wr ((wr (a * n))+a)) (true:Bool)) fun d=>
 some (.inl (d,wr (a+1)))) else (some (.inr c))
def aDX (n:Int) (m:(List Bool)):Option (List Bool):=
 ob (loop (fun (s:(List Bool × Int))=>aCk n s.1 s.2) (m,0)) fun r=>rL n r
def uA (t:cI) (b:List Bool):Option (List Bool):=
 ob (aDX t.N b) fun c=>
 some c
def uB (a:Int) (b:List Bool):Option ((List Bool × Int) ⊕ (List Bool)):=
 some (.inl (b,wr (a+1)))
def aDu (t:cI) (c:List Bool) (d:Int):Option ((List Bool × Int) ⊕ (List Bool)):=
 if (decide (d < (t.E.length:Int))) then (ob (ix t.E d) fun a=>
 if (a.B == 0) then (ob (ix c (wr ((wr (a.F * t.N))+a.To))) fun f=>
 ob (st c (wr ((wr (a.F * t.N))+a.To)) (true:Bool)) fun e=>
 uB d e) else (uB d c)) else (some (.inr c))
def aDY (t:cI):Option (List Bool):=
 ob (mkz (wr (t.N * t.N)) (false:Bool)) fun b=>
 ob (loop (fun (s:(List Bool × Int))=>aDu t s.1 s.2) (b,0)) fun r=>uA t r
def wK (a:List Bool):Option (List Bool):=
 some a
def aEO (t:cI) (d:(List Bool)) (e:Int) (b:List Bool) (a:Int):Option ((List Bool × Int) ⊕ (List Bool)):=
 if (decide (a < t.N)) then (ob (ix d (wr ((wr (e * t.N))+a))) fun f=>
 ob (ix b a) fun h=>
 ob (st b a (f:Bool)) fun g=>
 some (.inl (g,wr (a+1)))) else (some (.inr b))
def wL (a:List Bool):Option (List Bool):=
 some a
def wM (a:Int) (b:List Bool):Option ((List Bool × Int) ⊕ (List Bool)):=
 some (.inl (b,wr (a+1)))
def wN (a:Int) (b:List Bool):Option ((List Bool × Int) ⊕ (List Bool)):=
 wM a b
def wO (a:Int) (b:List Bool):Option ((List Bool × Int) ⊕ (List Bool)):=
 some (.inl (b,wr (a+1)))
def aEP (t:cI) (d:(List Bool)) (e:Edge) (b:List Bool) (a:Int):Option ((List Bool × Int) ⊕ (List Bool)):=
 if (decide (a < t.N)) then (ob (ix d (wr ((wr (e.To * t.N))+a))) fun f=>
 if f then (ob (ix b a) fun h=>
 ob (st b a (true:Bool)) fun g=>
 wO a g) else (wO a b)) else (some (.inr b))
def wP (t:cI) (d:(List Bool)) (a:List Bool) (b:Int) (e:Edge) (f:Bool):Option ((List Bool × Int) ⊕ (List Bool)):=
 if f then (wM b a) else (ob (loop (fun (s:(List Bool × Int))=>aEP t d e s.1 s.2) (a,0)) fun r=>wN b r)
def aEQ (t:cI) (d:(List Bool)) (f g:Int) (e:List Bool) (b:Int):Option ((List Bool × Int) ⊕ (List Bool)):=
 if (decide (b < (t.E.length:Int))) then (ob (ix t.E b) fun c=>
 if (c.B != g) then (wP t d e b c true) else (ob (ix d (wr ((wr (f * t.N))+c.F))) fun h=>
 wP t d e b c (!h))) else (some (.inr e))
def aFw (t:cI) (c:(List Bool)) (d e:Int):Option (List Bool):=
 ob (mkz t.N (false:Bool)) fun f=>
 if (e == 0) then (ob (loop (fun (s:(List Bool × Int))=>aEO t c d s.1 s.2) (f,0)) fun r=>wK r) else (ob (loop (fun (s:(List Bool × Int))=>aEQ t c d e s.1 s.2) (f,0)) fun r=>wL r)
def oD (t:cI) (b:List aZ) (c:List Edge):Option cI:=
 some ⟨t.N,t.I,b,c⟩
def tB (a:Int) (b:List Edge):Option ((List Edge × Int) ⊕ (List Edge)):=
 some (.inl (b,wr (a+1)))
def oE (a:Int) (b:List Edge):Option ((List Edge × Int) ⊕ (List Edge)):=
 tB a b
def tC (a:Int) (b:List Edge):Option ((List Edge × Int) ⊕ (List Edge)):=
 some (.inl (b,wr (a+1)))
def oF (a:Int) (b:List Edge):Option ((List Edge × Int) ⊕ (List Edge)):=
 tC a b
def oG (a:Int) (b:List Edge):Option ((List Edge × Int) ⊕ (List Edge)):=
 some (.inl (b,wr (a+1)))
def aAF (t:cI) (d e:Int) (f:(List Bool)) (b:List Edge) (a:Int):Option ((List Edge × Int) ⊕ (List Edge)):=
 if (decide (a < t.N)) then (ob (ix f a) fun g=>
 if g then (ob (nE b ([⟨d,e,a⟩]:List Edge)) fun h=>
 oG a h) else (oG a b)) else (some (.inr b))
def aAG (t:cI) (e:(List Bool)) (c:Int) (d:List Edge) (a:Int):Option ((List Edge × Int) ⊕ (List Edge)):=
 if (decide (a < (t.L.length:Int))) then (ob (aFw t e c a) fun f=>
 ob (loop (fun (s:(List Edge × Int))=>aAF t c a f s.1 s.2) (d,0)) fun r=>oF a r) else (some (.inr d))
def aAH (t:cI) (d:(List Bool)) (c:List Edge) (a:Int):Option ((List Edge × Int) ⊕ (List Edge)):=
 if (decide (a < t.N)) then (ob (loop (fun (s:(List Edge × Int))=>aAG t d a s.1 s.2) (c,0)) fun r=>oE a r) else (some (.inr c))
def rM (t:cI) (b:List aZ):Option cI:=
 ob (aDY t) fun c=>
 ob (loop (fun (s:(List Edge × Int))=>aAH t c s.1 s.2) (([]:List Edge),0)) fun r=>oD t b r
def aAo (t:cI):Option cI:=
 ob (nE ([]:List aZ) t.L) fun b=>
 rM t b
def aFx (t:cI):Option (List Int):=
 ob (aAo t) fun b=>
 ob (aCV b) fun c=>
 some c
def aDZ (t:cI):Option cI:=
 ob (xV t) fun c=>
 ob (aAA t c) fun b=>
 ob (aFx b) fun d=>
 ob (tR b d false) fun e=>
 some e
def uC (a:List Bool):Option (List Bool):=
 some a
def aDv (c:(List Int)) (a:List Bool) (b:Int):Option ((List Bool × Int) ⊕ (List Bool)):=
 if (decide (b < (c.length:Int))) then (ob (ix c b) fun d=>
 ob (ix a d) fun f=>
 ob (st a d (true:Bool)) fun e=>
 some (.inl (e,wr (b+1)))) else (some (.inr a))
def aEa (t:cI) (b:(List Int)):Option (List Bool):=
 ob (mkz t.N (false:Bool)) fun c=>
 ob (loop (fun (s:(List Bool × Int))=>aDv b s.1 s.2) (c,0)) fun r=>uC r
def uD (a:List Bool):Option (List Bool):=
 some a
def aAp (a:List Bool) (b:Bool):Option ((List Bool × Bool) ⊕ (List Bool)):=
 some (.inl (a,b))
def uE (a:List Bool) (b:Bool):Option ((List Bool × Bool) ⊕ (List Bool)):=
 aAp a b
def uF (a:Int) (b:List Bool) (c:Bool):Option ((List Bool × Bool × Int) ⊕ (List Bool × Bool)):=
 some (.inl (b,c,wr (a+1)))
def oX (a:List Bool) (d:Bool) (b:Int) (c:Edge) (e:Bool):Option ((List Bool × Bool × Int) ⊕ (List Bool × Bool)):=
 if e then (ob (ix a c.To) fun g=>
 ob (st a c.To (true:Bool)) fun f=>
 uF b f true) else (uF b a d)
def aDw (t:cI) (a:List Bool) (d:Bool) (c:Int):Option ((List Bool × Bool × Int) ⊕ (List Bool × Bool)):=
 if (decide (c < (t.E.length:Int))) then (ob (ix t.E c) fun b=>
 if (b.B == 0) then (ob (ix a b.F) fun f=>
 if f then (ob (ix a b.To) fun g=>
 oX a d c b (!g)) else (oX a d c b false)) else (oX a d c b false)) else (some (.inr (a,d)))
def aDx (t:cI) (a:List Bool) (d:Bool):Option ((List Bool × Bool) ⊕ (List Bool)):=
 if d then (ob (loop (fun (s:(List Bool × Bool × Int))=>aDw t s.1 s.2.1 s.2.2) (a,false,0)) fun r=>uE r.1 r.2) else (some (.inr a))
def aAX (t:cI) (b:(List Bool)):Option (List Bool):=
 ob (loop (fun (s:(List Bool × Bool))=>aDx t s.1 s.2) (b,true)) fun r=>uD r
def wQ (a:List Int):Option (List Int):=
 some a
def wR (a:Int) (b:List Int):Option ((List Int × Int) ⊕ (List Int)):=
 some (.inl (b,wr (a+1)))
def aER (c:(List Bool)) (b:List Int) (a:Int):Option ((List Int × Int) ⊕ (List Int)):=
 if (decide (a < (c.length:Int))) then (ob (ix c a) fun d=>
 if d then (ob (nE b ([a]:List Int)) fun e=>
 wR a e) else (wR a b)) else (some (.inr b))
def aCW (a:(List Bool)):Option (List Int):=
 ob (loop (fun (s:(List Int × Int))=>aER a s.1 s.2) (([]:List Int),0)) fun r=>wQ r
def aAY (t:cI):Option (List Int):=
 ob (aEa t ([t.I]:List Int)) fun b=>
 ob (aAX t b) fun c=>
 ob (aCW c) fun d=>
 some d
def zV:Option Bool:=
 some false
def aFZ (b:(List Int)) (n a:Int):Option (Int ⊕ (Unit ⊕ Bool)):=
 if (decide (a < (b.length:Int))) then (ob (ix b a) fun d=>
 if (d == n) then (some (.inr (.inr true))) else (some (.inl (wr (a+1))))) else (some (.inr (.inl ())))
def aGT (b:(List Int)) (n:Int):Option Bool:=
 ob (loop (fun (s:Int)=>aFZ b n s) 0) fun r=>match r with|.inl r=>zV|.inr r=>some r
def wS (t:cI) (b:List Bool):Option (List Int):=
 ob (aAX t b) fun c=>
 ob (aCW c) fun d=>
 some d
def wT (a:Int) (b:List Bool):Option ((List Bool × Int) ⊕ (List Bool)):=
 some (.inl (b,wr (a+1)))
def wU (t:cI) (a:List Bool) (b:Int) (e:Bool):Option ((List Bool × Int) ⊕ (List Bool)):=
 if e then (ob (ix t.E b) fun c=>
 ob (ix a c.To) fun g=>
 ob (st a c.To (true:Bool)) fun f=>
 wT b f) else (wT b a)
def aES (t:cI) (e:(List Int)) (f:Int) (c:List Bool) (b:Int):Option ((List Bool × Int) ⊕ (List Bool)):=
 if (decide (b < (t.E.length:Int))) then (ob (ix t.E b) fun d=>
 if (d.B == f) then (ob (aGT e d.F) fun g=>
 wU t c b g) else (wU t c b false)) else (some (.inr c))
def aFy (t:cI) (b:(List Int)) (c:Int):Option (List Int):=
 ob (mkz t.N (false:Bool)) fun d=>
 ob (loop (fun (s:(List Bool × Int))=>aES t b c s.1 s.2) (d,0)) fun r=>wS t r
def wV (t:cI) (a:List (List Int)) (c:List Edge):Option (cI × (List (List Int)) × Bool):=
 ob (nE ([]:List aZ) t.L) fun d=>
 some (⟨(a.length:Int),0,d,c⟩,a,true)
def aAZ (a:Int) (b:List (List Int)) (c:List Edge):Option ((List (List Int) × List Edge × Int) ⊕ ((List (List Int) × List Edge) ⊕ (cI × (List (List Int)) × Bool))):=
 some (.inl (b,c,wr (a+1)))
def wW (a:Int) (b:List (List Int)) (c:List Edge):Option ((List (List Int) × List Edge × Int) ⊕ ((List (List Int) × List Edge) ⊕ (cI × (List (List Int)) × Bool))):=
 aAZ a b c
def wX (a:Int) (b:List (List Int)) (c:List Edge):Option ((List (List Int) × List Edge × Int) ⊕ ((List (List Int) × List Edge) ⊕ (cI × (List (List Int)) × Bool))):=
 some (.inl (b,c,wr (a+1)))
def wY (c:Int) (a:List Edge) (b:Int) (d:List (List Int)) (e:Int):Option ((List (List Int) × List Edge × Int) ⊕ ((List (List Int) × List Edge) ⊕ (cI × (List (List Int)) × Bool))):=
 if ((a.length:Int) == 300) then (some (.inr (.inr (⟨0,0,[],[]⟩,[],false)))) else (ob (nE a ([⟨c,b,e⟩]:List Edge)) fun f=>
 wX b d f)
def wZ (b:Int) (a:List (List Int)) (c:List Edge) (d:Int) (f:(List Int)) (e:Int):Option ((List (List Int) × List Edge × Int) ⊕ ((List (List Int) × List Edge) ⊕ (cI × (List (List Int)) × Bool))):=
 if (decide (e < 0)) then (if ((a.length:Int) == 40) then (some (.inr (.inr (⟨0,0,[],[]⟩,[],false)))) else (ob (nE a ([f]:List (List Int))) fun g=>
 wY b c d g (a.length:Int))) else (wY b c d a e)
def xA (a b:Int):Option ((Int × Int) ⊕ Int):=
 some (.inl (b,wr (a+1)))
def aET (b:List (List Int)) (d:(List Int)) (c a:Int):Option ((Int × Int) ⊕ Int):=
 if (decide (a < (b.length:Int))) then (ob (ix b a) fun e=>
 ob (sZ e d) fun f=>
 if f then (xA a a) else (xA a c)) else (some (.inr c))
def aEU (t:cI) (f:Int) (a:List (List Int)) (c:List Edge) (b:Int):Option ((List (List Int) × List Edge × Int) ⊕ ((List (List Int) × List Edge) ⊕ (cI × (List (List Int)) × Bool))):=
 if (decide (b < (t.L.length:Int))) then (ob (ix a f) fun g=>
 ob (aFy t g b) fun d=>
 if ((d.length:Int) == 0) then (wX b a c) else (ob (loop (fun (s:(Int × Int))=>aET a d s.1 s.2) ((-1),0)) fun r=>wZ f a c b d r)) else (some (.inr (.inl (a,c))))
def aDy (t:cI) (b:List (List Int)) (d:List Edge) (c:Int):Option ((List (List Int) × List Edge × Int) ⊕ ((List (List Int) × List Edge) ⊕ (cI × (List (List Int)) × Bool))):=
 if (decide (c < (b.length:Int))) then (ob (loop (fun (s:(List (List Int) × List Edge × Int))=>aEU t c s.1 s.2.1 s.2.2) (b,d,1)) fun r=>match r with|.inl r=>wW c r.1 r.2|.inr r=>some (.inr (.inr r))) else (some (.inr (.inl (b,d))))
def aAI (t:cI):Option (cI × (List (List Int)) × Bool):=
 ob (aAY t) fun c=>
 ob (loop (fun (s:(List (List Int) × List Edge × Int))=>aDy t s.1 s.2.1 s.2.2) (([c]:List (List Int)),([]:List Edge),0)) fun r=>match r with|.inl r=>wV t r.1 r.2|.inr r=>some r
def aGU (t:cI):Option cI:=
 ob (nE ([]:List aZ) t.L) fun b=>
 ob (nE ([]:List Edge) t.E) fun c=>
 some ⟨t.N,t.I,b,c⟩
def oH (d:(List UInt8)) (b c a:Int):Option (Int × Int × Int):=
 if (decide (wr (b+1)<=(d.length:Int))) then (some (a,wr (b+1),nD ((nD ((nD (c * 6364136223846793005))+(nD a)))+1442695040888963407))) else (ob (shU (nD ((nD ((nD (c * 6364136223846793005))+(nD a)))+1442695040888963407)) 40) fun e=>
 some (wr (anU e 255),wr (b+1),nD ((nD ((nD (c * 6364136223846793005))+(nD a)))+1442695040888963407)))
def uG (a:(List UInt8)) (b c:Int):Option (Int × Int × Int):=
 if (decide (b < (a.length:Int))) then (ob (ix a b) fun d=>
 oH a b c (wr (d.toNat:Int))) else (oH a b c 0)
def oI (n b c d:Int):Option (Int × Int × Int):=
 ob (rm b n) fun e=>
 some (e,c,d)
def dJ (d:(List UInt8)) (e f n:Int):Option (Int × Int × Int):=
 if (decide (n<=1)) then (some (0,e,f)) else (ob (uG d e f) fun a=>
 if (decide (200 < n)) then (ob (uG d a.2.1 a.2.2) fun c=>
 oI n (wr ((wr (a.1 * 256))+c.1)) c.2.1 c.2.2) else (oI n a.1 a.2.1 a.2.2))
def rN (b:(List UInt8)) (c d n:Int):Option (Bool × Int × Int):=
 ob (dJ b c d n) fun a=>
 some (a.1 == 0,a.2.1,a.2.2)
def mS (a b:Int) (c:List aZ):Option ((List aZ) × Int × Int):=
 some (c,a,b)
def mT (a:List aZ) (b c:Int):Option ((List aZ) × Int × Int):=
 if ((a.length:Int) == 1) then (ob (nE a ([([97]:aZ)]:List aZ)) fun d=>
 mS b c d) else (mS b c a)
def mU (a b c:Int) (d:List aZ):Option ((Int × Int × List aZ × Int) ⊕ (List aZ × Int × Int)):=
 some (.inl (b,c,d,wr (a+1)))
def mV (b:List aZ) (a c d:Int) (e:Bool):Option ((Int × Int × List aZ × Int) ⊕ (List aZ × Int × Int)):=
 if e then (ob (ix ([([97]:aZ),([98]:aZ),([99]:aZ),([103,101,116,40,48,41]:aZ),([103,101,116,40,49,41]:aZ)]:List aZ) a) fun f=>
 ob (nE b ([f]:List aZ)) fun g=>
 mU a c d g) else (mU a c d b)
def zW (f:(List UInt8)) (d e:Int) (b:List aZ) (c:Int):Option ((Int × Int × List aZ × Int) ⊕ (List aZ × Int × Int)):=
 if (decide (c < (([([97]:aZ),([98]:aZ),([99]:aZ),([103,101,116,40,48,41]:aZ),([103,101,116,40,49,41]:aZ)]:List aZ).length:Int))) then (ob (rN f d e 2) fun a=>
 if a.1 then (mV b c a.2.1 a.2.2 (decide ((b.length:Int) < 4))) else (mV b c a.2.1 a.2.2 false)) else (some (.inr (b,d,e)))
def xY (b:(List UInt8)) (c d:Int):Option ((List aZ) × Int × Int):=
 ob (loop (fun (s:(Int × Int × List aZ × Int))=>zW b s.1 s.2.1 s.2.2.1 s.2.2.2) (c,d,([([116,97,117]:aZ)]:List aZ),0)) fun r=>mT r.1 r.2.1 r.2.2
def xZ (c:(List UInt8)) (d e:Int) (b:(List Int)):Option (Int × Int × Int):=
 ob (dJ c d e (b.length:Int)) fun a=>
 ob (ix b a.1) fun f=>
 some (f,a.2.1,a.2.2)
def rO (d:(List UInt8)) (b c:(Int × Int × Int)) (e:((List aZ) × Int × Int)) (f g:Int) (h:List Edge):Option (cI × Int × Int):=
 ob (dJ d f g (wr ((wr (1+b.1))+c.1))) fun a=>
 ob (xL (wr ((wr (1+b.1))+c.1)) a.1 e.1 h) fun i=>
 some (i,a.2.1,a.2.2)
def rP (a:(List UInt8)) (c d:(Int × Int × Int)) (e:((List aZ) × Int × Int)) (j k:Int) (i:List Edge):Option (cI × Int × Int):=
 ob (rN a j k 3) fun b=>
 if b.1 then (ob (dJ a b.2.1 b.2.2 (wr ((wr (1+c.1))+d.1))) fun f=>
 ob (dJ a f.2.1 f.2.2 (e.1.length:Int)) fun g=>
 ob (dJ a g.2.1 g.2.2 (wr ((wr (1+c.1))+d.1))) fun h=>
 ob (nE i ([⟨f.1,g.1,h.1⟩]:List Edge)) fun l=>
 rO a c d e h.2.1 h.2.2 l) else (rO a c d e b.2.1 b.2.2 i)
def yA (a b c:Int) (d:List Edge):Option ((Int × Int × List Edge × Int) ⊕ (Int × Int × List Edge)):=
 some (.inl (b,c,d,wr (a - 1)))
def rQ (a b c:Int) (d:List Edge):Option ((Int × Int × List Edge × Int) ⊕ (Int × Int × List Edge)):=
 yA a b c d
def rR (a b c:Int) (d:List Edge):Option ((Int × Int × List Edge × Int) ⊕ (Int × Int × List Edge)):=
 some (.inl (b,c,d,wr (a+1)))
def rS (c:(List UInt8)) (d:(Int × Int × Int)) (e f:Int) (g:List Edge) (b:Int) (h:List Int):Option ((Int × Int × List Edge × Int) ⊕ (Int × Int × List Edge)):=
 ob (xZ c e f h) fun a=>
 ob (nE g ([⟨b,d.1,a.1⟩]:List Edge)) fun i=>
 rR b a.2.1 a.2.2 i
def rT (a:Int) (b:List Int):Option ((List Int × Int) ⊕ (List Int)):=
 some (.inl (b,wr (a+1)))
def aCl (c d:(Int × Int × Int)) (e:List Int) (f:(Int × Int × Int)) (b:List Int) (a:Int):Option ((List Int × Int) ⊕ (List Int)):=
 if (decide (a < wr ((wr (1+c.1))+d.1))) then (ob (ix e a) fun g=>
 if (g == f.1) then (ob (nE b ([a]:List Int)) fun h=>
 rT a h) else (rT a b)) else (some (.inr b))
def aCm (h:(List UInt8)) (e f:(Int × Int × Int)) (g:List Int) (i j k:(Int × Int × Int)) (b c:Int) (d:List Edge) (a:Int):Option ((Int × Int × List Edge × Int) ⊕ (Int × Int × List Edge)):=
 if (decide (a < wr ((wr (1+e.1))+f.1))) then (ob (ix g a) fun l=>
 if (l != i.1) then (rR a b c d) else (ob (loop (fun (s:(List Int × Int))=>aCl e f g k s.1 s.2) (([]:List Int),0)) fun r=>rS h j b c d a r)) else (some (.inr (b,c,d)))
def aBx (a:(List UInt8)) (b k:(Int × Int × Int)) (l:((List aZ) × Int × Int)) (m:List Int) (g h:Int) (i:List Edge) (j:Int):Option ((Int × Int × List Edge × Int) ⊕ (Int × Int × List Edge)):=
 if (decide (0 < j)) then (ob (dJ a g h (wr (1+b.1))) fun c=>
 ob (dJ a c.2.1 c.2.2 (l.1.length:Int)) fun d=>
 ob (dJ a d.2.1 d.2.2 (wr (1+b.1))) fun e=>
 ob (loop (fun (s:(Int × Int × List Edge × Int))=>aCm a b k m c d e s.1 s.2.1 s.2.2.1 s.2.2.2) (e.2.1,e.2.2,i,0)) fun r=>rQ j r.1 r.2.1 r.2.2) else (some (.inr (g,h,i)))
def pM (a:(List UInt8)) (b e:(Int × Int × Int)) (f:((List aZ) × Int × Int)) (g h:Int) (i:List Int):Option (cI × Int × Int):=
 ob (dJ a g h (wr (2+(wr (2 * (wr (1+b.1))))))) fun c=>
 ob (loop (fun (s:(Int × Int × List Edge × Int))=>aBx a b e f i s.1 s.2.1 s.2.2.1 s.2.2.2) (c.2.1,c.2.2,([]:List Edge),c.1)) fun r=>rP a b e f r.1 r.2.1 r.2.2
def pN (a b c:Int) (d:List Int):Option ((Int × Int × List Int × Int) ⊕ (Int × Int × List Int)):=
 some (.inl (b,c,d,wr (a+1)))
def aBy (g:(List UInt8)) (b h:(Int × Int × Int)) (c d:Int) (e:List Int) (a:Int):Option ((Int × Int × List Int × Int) ⊕ (Int × Int × List Int)):=
 if (decide (a < wr ((wr (1+b.1))+h.1))) then (if (decide (a < wr (1+b.1))) then (ob (nE e ([a]:List Int)) fun i=>
 pN a c d i) else (ob (dJ g c d (wr (1+b.1))) fun f=>
 ob (nE e ([f.1]:List Int)) fun j=>
 pN a f.2.1 f.2.2 j)) else (some (.inr (c,d,e)))
def aCn (a:(List UInt8)) (f g:Int):Option (cI × Int × Int):=
 ob (dJ a f g 4) fun b=>
 ob (dJ a b.2.1 b.2.2 (wr (7 - (wr (1+b.1))))) fun c=>
 ob (xY a c.2.1 c.2.2) fun d=>
 ob (loop (fun (s:(Int × Int × List Int × Int))=>aBy a b c s.1 s.2.1 s.2.2.1 s.2.2.2) (d.2.1,d.2.2,([]:List Int),0)) fun r=>pM a b c d r.1 r.2.1 r.2.2
def aKw (d:(List UInt8)) (b c a:Int):Option (Int × Int × Int):=
 if (decide (wr (b+1)<=(d.length:Int))) then (some (a,wr (b+1),nD ((nD ((nD (c * 6364136223846793005))+(nD a)))+1442695040888963407))) else (ob (shU (nD ((nD ((nD (c * 6364136223846793005))+(nD a)))+1442695040888963407)) 40) fun e=>
 some (wr (anU e 255),wr (b+1),nD ((nD ((nD (c * 6364136223846793005))+(nD a)))+1442695040888963407)))
def aKu (a:(List UInt8)) (b c:Int):Option (Int × Int × Int):=
 if (decide (b < (a.length:Int))) then (ob (ix a b) fun d=>
 aKw a b c (wr (d.toNat:Int))) else (aKw a b c 0)
def aKH (a:(List UInt8)) (n c d e:Int):Option (Int × (List UInt8) × Int × Int):=
 ob (rm c n) fun f=>
 some (f,a,d,e)
def aPy (b:(List UInt8)) (e f n:Int):Option (Int × (List UInt8) × Int × Int):=
 if (decide (n<=1)) then (some (0,b,e,f)) else (ob (aKu b e f) fun a=>
 if (decide (200 < n)) then (ob (aKu b a.2.1 a.2.2) fun d=>
 aKH b n (wr ((wr (a.1 * 256))+d.1)) d.2.1 d.2.2) else (aKH b n a.1 a.2.1 a.2.2))
def rU (a:(cI × Int × Int)) (b:List Edge) (c d:Int):Option (cI × Int × Int):=
 ob (xL a.1.N a.1.I a.1.L b) fun e=>
 some (e,c,d)
def aCo (c:(List UInt8)) (d:(cI × Int × Int)) (e f:Int) (g:List Edge) (h:Int):Option ((Int × Int × List Edge × Int) ⊕ (List Edge × Int × Int)):=
 if (decide (0 < h)) then (ob (dJ c e f d.1.N) fun a=>
 ob (dJ c a.2.1 a.2.2 d.1.N) fun b=>
 ob (nE g ([⟨a.1,0,b.1⟩]:List Edge)) fun i=>
 some (.inl (b.2.1,b.2.2,i,wr (h - 1)))) else (some (.inr (g,e,f)))
def rV (c:(List UInt8)) (d:(cI × Int × Int)) (e f:Int) (g:List Edge):Option (cI × Int × Int):=
 ob (dJ c e f 3) fun a=>
 ob (loop (fun (s:(Int × Int × List Edge × Int))=>aCo c d s.1 s.2.1 s.2.2.1 s.2.2.2) (a.2.1,a.2.2,g,a.1)) fun r=>rU d r.1 r.2.1 r.2.2
def rW (b:List Edge) (c:Int) (a:Edge) (d e f:Int):Option ((Int × Int × List Edge × Int) ⊕ (Int × Int × List Edge)):=
 ob (nE b ([⟨a.F,f,a.To⟩]:List Edge)) fun g=>
 some (.inl (d,e,g,wr (c+1)))
def aCp (h:(List UInt8)) (e:(cI × Int × Int)) (f g:Int) (c:List Edge) (b:Int):Option ((Int × Int × List Edge × Int) ⊕ (Int × Int × List Edge)):=
 if (decide (b < (e.1.E.length:Int))) then (ob (ix e.1.E b) fun d=>
 ob (rN h f g 3) fun a=>
 if a.1 then (rW c b d a.2.1 a.2.2 0) else (rW c b d a.2.1 a.2.2 d.B)) else (some (.inr (f,g,c)))
def zX (b:(List UInt8)) (d e:Int):Option (cI × Int × Int):=
 ob (aCn b d e) fun a=>
 ob (loop (fun (s:(Int × Int × List Edge × Int))=>aCp b a s.1 s.2.1 s.2.2.1 s.2.2.2) (a.2.1,a.2.2,([]:List Edge),0)) fun r=>rV b a r.1 r.2.1 r.2.2
def iE (a:(cI × Int × Int)) (b c:Int) (d:List aZ) (e:List Edge):Option (cI × cI):=
 some (a.1,⟨b,c,d,e⟩)
def aFz (e:(List UInt8)):Option (cI × cI):=
 ob (aFr e) fun k=>
 ob (zX e k.1 k.2) fun a=>
 ob (zX e a.2.1 a.2.2) fun c=>
 ob (dJ e c.2.1 c.2.2 7) fun d=>
 if (d.1 == 0) then (ob (aDV a.1) fun g=>
 iE a g.N g.I g.L g.E) else (if (d.1 == 1) then (ob (aAW a.1 true) fun h=>
 iE a h.N h.I h.L h.E) else (if (d.1 == 2) then (ob (aAW a.1 false) fun i=>
 iE a i.N i.I i.L i.E) else (if (d.1 == 3) then (ob (aDZ a.1) fun j=>
 iE a j.N j.I j.L j.E) else (if (d.1 == 4) then (ob (aAI a.1) fun f=>
 if f.2.2 then (iE a f.1.N f.1.I f.1.L f.1.E) else (iE a c.1.N c.1.I c.1.L c.1.E)) else (if (d.1 == 5) then (ob (aGU a.1) fun b=>
 if (decide (0 < (b.E.length:Int))) then (ob (dJ e d.2.1 d.2.2 (b.E.length:Int)) fun l=>
 ob (yK b.E 0 l.1) fun m=>
 ob (yK b.E (wr (l.1+1)) (b.E.length:Int)) fun n=>
 ob (nE m n) fun o=>
 iE a b.N b.I b.L o) else (iE a b.N b.I b.L b.E)) else (iE a c.1.N c.1.I c.1.L c.1.E))))))
def oY (t:cI) (k:Int):Option Bool:=
 ob (vC k 0 (wr (t.N - 1))) fun c=>
 some c
def aIe (i many:Int):Option Bool:=
 ob (vC i 0 (wr (many - 1))) fun b=>
 some b
def kI (a:Int):Option Bool:=
 some (a != a)
def gA (a y:Int):Option Int:=
 ob (kI a) fun d=>
 ob (kI y) fun c=>
 if d then (if c then (some 0) else (some (-1))) else (if c then (some 1) else (if (decide (a < y)) then (some (-1)) else (if (decide (y < a)) then (some 1) else (some 0))))
def lK:Option Int:=
 some 0
def gE (b:(List Int)) (a:Int):Option (Int ⊕ (Unit ⊕ Int)):=
 if (decide (a < (b.length:Int))) then (ob (ix b a) fun c=>
 if (c != 0) then (some (.inr (.inr c))) else (some (.inl (wr (a+1))))) else (some (.inr (.inl ())))
def oZ (b:(List Int)):Option Int:=
 ob (loop (fun (s:Int)=>gE b s) 0) fun r=>match r with|.inl r=>lK|.inr r=>some r
def nL (a b:Edge):Option Int:=
 ob (gA a.F b.F) fun e=>
 ob (gA a.B b.B) fun f=>
 ob (gA a.To b.To) fun g=>
 ob (oZ ([e,f,g]:List Int)) fun h=>
 some h
def uH:Option Bool:=
 some true
def lG (a:Int) (b:Bool):Option (Int ⊕ (Unit ⊕ Bool)):=
 if b then (some (.inr (.inr false))) else (some (.inl (wr (a+1))))
def aDz (t:cI) (a:Int):Option (Int ⊕ (Unit ⊕ Bool)):=
 if (decide (a < (t.E.length:Int))) then (ob (ix t.E a) fun c=>
 ob (oY t c.F) fun d=>
 if (!d) then (lG a true) else (ob (oY t c.To) fun e=>
 if (!e) then (lG a true) else (ob (aIe c.B (t.L.length:Int)) fun f=>
 if (!f) then (lG a true) else (if (decide (0 < a)) then (ob (ix t.E (wr (a - 1))) fun g=>
 ob (nL g c) fun h=>
 lG a (decide (0<=h))) else (lG a false))))) else (some (.inr (.inl ())))
def uI (t:cI):Option Bool:=
 ob (loop (fun (s:Int)=>aDz t s) 0) fun r=>match r with|.inl r=>uH|.inr r=>some r
def mK (a:Int) (b:Bool):Option (Int ⊕ (Unit ⊕ Bool)):=
 if b then (some (.inr (.inr false))) else (some (.inl (wr (a+1))))
def aDA (t:cI) (a:Int):Option (Int ⊕ (Unit ⊕ Bool)):=
 if (decide (a < (t.L.length:Int))) then (ob (ix t.L a) fun b=>
 ob (aCS b) fun e=>
 if (!e) then (mK a true) else (if ((b == ([116,97,117]:aZ)) != (a == 0)) then (mK a true) else (if (decide (1 < a)) then (ob (ix t.L (wr (a - 1))) fun d=>
 mK a (qJ b d||b == d)) else (mK a false)))) else (some (.inr (.inl ())))
def mL (t:cI) (c:Bool):Option Bool:=
 if c then (some false) else (ob (loop (fun (s:Int)=>aDA t s) 0) fun r=>match r with|.inl r=>uI t|.inr r=>some r)
def lW (t:cI):Option Bool:=
 ob (vC t.N 1 40) fun b=>
 if (!b) then (mL t true) else (ob (oY t t.I) fun c=>
 if (!c) then (mL t true) else (ob (vC (t.L.length:Int) 1 12) fun d=>
 if (!d) then (mL t true) else (mL t (decide (300 < (t.E.length:Int))))))
def fO:Option Int:=
 some (-1)
def kV (b:(List Int)) (c a:Int):Option (Int ⊕ (Unit ⊕ Int)):=
 if (decide (a < (b.length:Int))) then (ob (ix b a) fun d=>
 if (c == d) then (some (.inr (.inr a))) else (some (.inl (wr (a+1))))) else (some (.inr (.inl ())))
def jB (b:(List Int)) (c:Int):Option Int:=
 ob (loop (fun (s:Int)=>kV b c s) 0) fun r=>match r with|.inl r=>fO|.inr r=>some r
def fP (a:(List Int)) (b:Int):Option Bool:=
 ob (jB a b) fun c=>
 some (decide (0<=c))
def fD (a:(List Int)):Option (List Int):=
 some a
def gV (a:Int):Option (Int ⊕ (Unit ⊕ (List Int))):=
 some (.inl (wr (a+1)))
def fE (a:List Int) (b:Int):Option (Int ⊕ (Unit ⊕ (List Int))):=
 ob (yK a b (a.length:Int)) fun c=>
 ob (ovw a b (List.replicate c.length (0:Int))) fun d=>
 ob (yK d 0 b) fun e=>
 some (.inr (.inr e))
def fF (a:Int) (b:List Int) (c:Int):Option ((List Int × Int × Int) ⊕ (List Int × Int)):=
 some (.inl (b,c,wr (a+1)))
def kJ (e:Int) (d b:List Int) (c a:Int):Option ((List Int × Int × Int) ⊕ (List Int × Int)):=
 if (decide (a < (d.length:Int))) then (ob (ix d a) fun i=>
 ob (ix b (e+a)) fun f=>
 ob (ix d (wr (a - 1))) fun j=>
 ob (ix b (e+(wr (a - 1)))) fun g=>
 if (f != g) then (ob (ix b c) fun k=>
 ob (st b c (f:Int)) fun h=>
 fF a h (wr (c+1))) else (fF a b c)) else (some (.inr (b,c)))
def kK (b:(List Int)) (a:Int):Option (Int ⊕ (Unit ⊕ (List Int))):=
 if (decide (a < (b.length:Int))) then (ob (ix b a) fun d=>
 ob (ix b (wr (a - 1))) fun e=>
 if (d == e) then (ob (yK b a (b.length:Int)) fun f=>
 ob (loop (fun (s:(List Int × Int × Int))=>kJ a f s.1 s.2.1 s.2.2) (b,a,1)) fun r=>fE r.1 r.2) else (gV a)) else (some (.inr (.inl ())))
def iQ (a:(List Int)):Option (List Int):=
 if (decide ((a.length:Int) < 2)) then (some a) else (ob (loop (fun (s:Int)=>kK a s) 1) fun r=>match r with|.inl r=>fD a|.inr r=>some r)
def pO (a:List Int):Option (List Int):=
 ob (aCQ a) fun b=>
 ob (iQ b) fun c=>
 some c
def pP (a:Int) (b:List Int):Option ((List Int × Int) ⊕ (List Int)):=
 some (.inl (b,wr (a+1)))
def pQ (a:List Int) (b:Int) (c:Edge) (d:Bool):Option ((List Int × Int) ⊕ (List Int)):=
 if d then (ob (nE a ([c.To]:List Int)) fun e=>
 pP b e) else (pP b a)
def aBz (t:cI) (e:(List Int)) (f:aZ) (d:List Int) (a:Int):Option ((List Int × Int) ⊕ (List Int)):=
 if (decide (a < (t.E.length:Int))) then (ob (ix t.E a) fun b=>
 ob (ix t.L b.B) fun g=>
 if (g == f) then (ob (fP e b.F) fun h=>
 pQ d a b h) else (pQ d a b false)) else (some (.inr d))
def rX (t:cI) (b:(List Int)) (c:aZ):Option (List Int):=
 ob (loop (fun (s:(List Int × Int))=>aBz t b c s.1 s.2) ([],0)) fun r=>pO r
def gQ (a:(List Int)):Option (List Int):=
 ob (nE ([]:List Int) a) fun b=>
 some b
def mW (a:List Int):Option (List Int):=
 ob (aCQ a) fun b=>
 some b
def rY (a:Int) (b:List Int):Option ((List Int × Int) ⊕ (List Int)):=
 some (.inl (b,wr (a+1)))
def mX (a:Int) (b:List Int):Option ((List Int × Int) ⊕ (List Int)):=
 rY a b
def mY (a:Int) (b:List Int):Option ((List Int × Int) ⊕ (List Int)):=
 some (.inl (b,wr (a+1)))
def zY (c:(List Int)) (a:List Int) (b:Int):Option ((List Int × Int) ⊕ (List Int)):=
 if (decide (b < (c.length:Int))) then (ob (ix c b) fun d=>
 ob (fP a d) fun e=>
 if (!e) then (ob (nE a ([d]:List Int)) fun f=>
 mY b f) else (mY b a)) else (some (.inr a))
def zZ (t:cI) (a:List Int) (b:Int):Option ((List Int × Int) ⊕ (List Int)):=
 if (decide (b < (a.length:Int))) then (ob (ix a b) fun d=>
 ob (rX t ([d]:List Int) ([116,97,117]:aZ)) fun e=>
 ob (loop (fun (s:(List Int × Int))=>zY e s.1 s.2) (a,0)) fun r=>mX b r) else (some (.inr a))
def nM (t:cI) (b:(List Int)):Option (List Int):=
 ob (gQ b) fun c=>
 ob (loop (fun (s:(List Int × Int))=>zZ t s.1 s.2) (c,0)) fun r=>mW r
def pA (t:cI) (b:(List Int)) (c:aZ):Option (List Int):=
 ob (rX t b c) fun d=>
 ob (nM t d) fun e=>
 some e
def rZ (a:List Int):Option (List Int):=
 some a
def aCq (t:cI) (b:(List aZ)) (c:List Int) (a:Int):Option ((List Int × Int) ⊕ (List Int)):=
 if (decide (a < (b.length:Int))) then (ob (ix b a) fun e=>
 ob (pA t c e) fun f=>
 some (.inl (f,wr (a+1)))) else (some (.inr c))
def nN (t:cI) (b:(List aZ)):Option (List Int):=
 ob (nM t ([t.I]:List Int)) fun c=>
 ob (loop (fun (s:(List Int × Int))=>aCq t b s.1 s.2) (c,0)) fun r=>rZ r
def pR (a b:aZ):Option Int:=
 if (a == b) then (some 0) else (if (a == ([116,97,117]:aZ)) then (some (-1)) else (if (b == ([116,97,117]:aZ)) then (some 1) else (ob (aHN a b) fun e=>
 some e)))
def dU (a:(List Edge)):Option (List Edge):=
 some a
def fG (a:Int):Option (Int ⊕ (Unit ⊕ (List Edge))):=
 some (.inl (wr (a+1)))
def dV (a:List Edge) (b:Int):Option (Int ⊕ (Unit ⊕ (List Edge))):=
 ob (yK a b (a.length:Int)) fun c=>
 ob (ovw a b (List.replicate c.length (⟨0,0,0⟩:Edge))) fun d=>
 ob (yK d 0 b) fun e=>
 some (.inr (.inr e))
def dW (a:Int) (b:List Edge) (c:Int):Option ((List Edge × Int × Int) ⊕ (List Edge × Int)):=
 some (.inl (b,c,wr (a+1)))
def iF (f:Int) (e b:List Edge) (c a:Int):Option ((List Edge × Int × Int) ⊕ (List Edge × Int)):=
 if (decide (a < (e.length:Int))) then (ob (ix e a) fun i=>
 ob (ix b (f+a)) fun d=>
 ob (ix e (wr (a - 1))) fun j=>
 ob (ix b (f+(wr (a - 1)))) fun g=>
 if (!decide ((d:Edge)=g)) then (ob (ix b c) fun k=>
 ob (st b c (⟨d.F,d.B,d.To⟩:Edge)) fun h=>
 dW a h (wr (c+1))) else (dW a b c)) else (some (.inr (b,c)))
def iG (b:(List Edge)) (a:Int):Option (Int ⊕ (Unit ⊕ (List Edge))):=
 if (decide (a < (b.length:Int))) then (ob (ix b a) fun d=>
 ob (ix b (wr (a - 1))) fun e=>
 if (decide ((d:Edge)=e)) then (ob (yK b a (b.length:Int)) fun f=>
 ob (loop (fun (s:(List Edge × Int × Int))=>iF a f s.1 s.2.1 s.2.2) (b,a,1)) fun r=>dV r.1 r.2) else (fG a)) else (some (.inr (.inl ())))
def fR (a:(List Edge)):Option (List Edge):=
 if (decide ((a.length:Int) < 2)) then (some a) else (ob (loop (fun (s:Int)=>iG a s) 1) fun r=>match r with|.inl r=>dU a|.inr r=>some r)
def eO (a:(List aZ)):Option (List aZ):=
 some a
def gK (a:Int):Option (Int ⊕ (Unit ⊕ (List aZ))):=
 some (.inl (wr (a+1)))
def eP (a:List aZ) (b:Int):Option (Int ⊕ (Unit ⊕ (List aZ))):=
 ob (yK a b (a.length:Int)) fun c=>
 ob (ovw a b (List.replicate c.length ([]:aZ))) fun d=>
 ob (yK d 0 b) fun e=>
 some (.inr (.inr e))
def eQ (a:Int) (b:List aZ) (c:Int):Option ((List aZ × Int × Int) ⊕ (List aZ × Int)):=
 some (.inl (b,c,wr (a+1)))
def jR (e:Int) (d b:List aZ) (c a:Int):Option ((List aZ × Int × Int) ⊕ (List aZ × Int)):=
 if (decide (a < (d.length:Int))) then (ob (ix d a) fun i=>
 ob (ix b (e+a)) fun f=>
 ob (ix d (wr (a - 1))) fun j=>
 ob (ix b (e+(wr (a - 1)))) fun g=>
 if (!(f == g)) then (ob (ix b c) fun k=>
 ob (st b c (f:aZ)) fun h=>
 eQ a h (wr (c+1))) else (eQ a b c)) else (some (.inr (b,c)))
def jS (b:(List aZ)) (a:Int):Option (Int ⊕ (Unit ⊕ (List aZ))):=
 if (decide (a < (b.length:Int))) then (ob (ix b a) fun d=>
 ob (ix b (wr (a - 1))) fun e=>
 if (d == e) then (ob (yK b a (b.length:Int)) fun f=>
 ob (loop (fun (s:(List aZ × Int × Int))=>jR a f s.1 s.2.1 s.2.2) (b,a,1)) fun r=>eP r.1 r.2) else (gK a)) else (some (.inr (.inl ())))
def fM (a:(List aZ)):Option (List aZ):=
 if (decide ((a.length:Int) < 2)) then (some a) else (ob (loop (fun (s:Int)=>jS a s) 1) fun r=>match r with|.inl r=>eO a|.inr r=>some r)
def aEV (a b:Int) (c:(List aZ)) (d:List Edge):Option cI:=
 ob (aDT d) fun e=>
 ob (fR e) fun f=>
 some ⟨a,b,c,f⟩
def aII (c:(List oT)) (e:(List aZ)) (d:List Edge) (a:Int):Option ((List Edge × Int) ⊕ (List Edge)):=
 if (decide (a < (c.length:Int))) then (ob (ix c a) fun b=>
 ob (fX e b.label) fun f=>
 ob (nE d ([⟨b.from_,f,b.to_⟩]:List Edge)) fun g=>
 some (.inl (g,wr (a+1)))) else (some (.inr d))
def aHO (b c:Int) (d:(List aZ)) (e:(List oT)):Option cI:=
 ob (nE ([([116,97,117]:aZ)]:List aZ) d) fun f=>
 ob (aCP f) fun g=>
 ob (fM g) fun a=>
 ob (loop (fun (s:(List Edge × Int))=>aII e a s.1 s.2) ([],0)) fun r=>aEV b c a r
def uJ (a:List aZ):Option (List aZ):=
 some a
def aDB (b:(List oT)) (c:List aZ) (a:Int):Option ((List aZ × Int) ⊕ (List aZ)):=
 if (decide (a < (b.length:Int))) then (ob (ix b a) fun d=>
 ob (nE c ([d.label]:List aZ)) fun e=>
 some (.inl (e,wr (a+1)))) else (some (.inr c))
def aEb (a:(List oT)):Option (List aZ):=
 ob (loop (fun (s:(List aZ × Int))=>aDB a s.1 s.2) ([],0)) fun r=>uJ r
def nO (a:(List Int)):Option aZ:=
 ob (aEC a ([44]:aZ)) fun b=>
 some b
def uK (a:List oT):Option (List oT):=
 some a
def aDC (t:cI) (d:List oT) (b:Int):Option ((List oT × Int) ⊕ (List oT)):=
 if (decide (b < (t.E.length:Int))) then (ob (ix t.E b) fun c=>
 ob (ix t.L c.B) fun e=>
 ob (nE d ([⟨c.F,e,c.To⟩]:List oT)) fun f=>
 some (.inl (f,wr (b+1)))) else (some (.inr d))
def aEc (t:cI):Option (List oT):=
 ob (loop (fun (s:(List oT × Int))=>aDC t s.1 s.2) ([],0)) fun r=>uK r
def gF (a:Int) (b:List (List Int)) (c:(List (aZ × Int))):Option (Int × (List (List Int)) × (List (aZ × Int))):=
 some (a,b,c)
def aHt (a:(List (List Int))) (b:(List (aZ × Int))) (g:(List oT)) (d:(List Int)):Option (Int × (List (List Int)) × (List (aZ × Int))):=
 ob (nO d) fun c=>
 if (!((qO b c).isSome)) then (ob (some (aAt b c (a.length:Int))) fun e=>
 ob (nE a ([d]:List (List Int))) fun f=>
 gF (a.length:Int) f e) else (gF ((qO b c).getD 0) a b)
def kR (a:List (List Int)) (b:(List (aZ × Int))) (c:List oT):Option ((List (List Int)) × (List (aZ × Int)) × (List oT)):=
 some (a,b,c)
def lX (c:aZ) (d:(List Int)) (e:(List (List Int))) (f:(List (aZ × Int))) (b:(List oT)) (p:Int):Option ((List (List Int)) × (List (aZ × Int)) × (List oT)):=
 ob (aHt e f b d) fun a=>
 ob (nE b ([⟨p,c,a.1⟩]:List oT)) fun h=>
 kR a.2.1 a.2.2 h
def jF (a:List (List Int)) (b:(List (aZ × Int))) (c:List oT):Option (Bool × (List (List Int)) × (List (aZ × Int)) × (List oT)):=
 some (true,a,b,c)
def jG (a:Int) (b:List (List Int)) (c:(List (aZ × Int))) (d:List oT):Option ((List (List Int) × (List (aZ × Int)) × List oT × Int) ⊕ (List (List Int) × (List (aZ × Int)) × List oT)):=
 some (.inl (b,c,d,wr (a+1)))
def qK (i:(List Int)) (j:Int) (p:cI) (f:List aZ) (b:List (List Int)) (c:(List (aZ × Int))) (d:List oT) (a:Int):Option ((List (List Int) × (List (aZ × Int)) × List oT × Int) ⊕ (List (List Int) × (List (aZ × Int)) × List oT)):=
 if (decide (a < (f.length:Int))) then (ob (ix f a) fun g=>
 ob (pA p i g) fun h=>
 if (decide (0 < (h.length:Int))) then (ob (lX g h b c d j) fun e=>
 jG a e.1 e.2.1 e.2.2) else (jG a b c d)) else (some (.inr (b,c,d)))
def nP (c:(List Int)) (d:(List (List Int))) (e:(List (aZ × Int))) (f:(List oT)) (g:Int) (p:cI):Option (Bool × (List (List Int)) × (List (aZ × Int)) × (List oT)):=
 ob (yK p.L 1 (p.L.length:Int)) fun h=>
 ob (loop (fun (s:(List (List Int) × (List (aZ × Int)) × List oT × Int))=>qK c g p h s.1 s.2.1 s.2.2.1 s.2.2.2) (d,e,f,0)) fun r=>jF r.1 r.2.1 r.2.2
def lY (e:List (List Int)) (a b:Int) (c:List aZ) (d:List Edge):Option (cI × (List (List Int)) × Bool):=
 ob (lW ⟨a,b,c,d⟩) fun f=>
 some (⟨a,b,c,d⟩,e,f)
def jX (b:List (List Int)) (e:(List (aZ × Int))) (c:List oT):Option (cI × (List (List Int)) × Bool):=
 ob (aEb c) fun d=>
 ob (aHO (b.length:Int) 0 d c) fun a=>
 lY b a.N a.I a.L a.E
def jY (b:Int) (a:(Bool × (List (List Int)) × (List (aZ × Int)) × (List oT))) (c:Bool):Option ((List (List Int) × (List (aZ × Int)) × List oT × Int) ⊕ ((List (List Int) × (List (aZ × Int)) × List oT) ⊕ (cI × (List (List Int)) × Bool))):=
 if c then (some (.inr (.inr (⟨0,0,[],[]⟩,[],false)))) else (some (.inl (a.2.1,a.2.2.1,a.2.2.2,wr (b+1))))
def sA (f:cI) (b:List (List Int)) (d:(List (aZ × Int))) (e:List oT) (a:Int):Option ((List (List Int) × (List (aZ × Int)) × List oT × Int) ⊕ ((List (List Int) × (List (aZ × Int)) × List oT) ⊕ (cI × (List (List Int)) × Bool))):=
 if (decide (a < (b.length:Int))) then (ob (ix b a) fun g=>
 ob (nP g b d e a f) fun c=>
 if (!c.1) then (jY a c true) else (jY a c (decide (40 < (c.2.1.length:Int))))) else (some (.inr (.inl (b,d,e))))
def oP (c:(List Int)) (d:cI):Option (cI × (List (List Int)) × Bool):=
 ob (aHt [] ([]:(List (aZ × Int))) [] c) fun b=>
 ob (loop (fun (s:(List (List Int) × (List (aZ × Int)) × List oT × Int))=>sA d s.1 s.2.1 s.2.2.1 s.2.2.2) (b.2.1,b.2.2,[],0)) fun r=>match r with|.inl r=>jX r.1 r.2.1 r.2.2|.inr r=>some r
def kW (t:cI):Option (cI × (List (List Int)) × Bool):=
 ob (nM t ([t.I]:List Int)) fun c=>
 ob (oP c t) fun b=>
 if (!b.2.2) then (some (⟨0,0,[],[]⟩,[],false)) else (ob (aEc b.1) fun d=>
 ob (aHO b.1.N 0 t.L d) fun e=>
 some (e,b.2.1,true))
def aBa (t:cI) (k:Int) (d:aZ):Option Int:=
 if (decide (k < 0)) then (some (-1)) else (ob (rX t ([k]:List Int) d) fun b=>
 if (decide (0 < (b.length:Int))) then (ob (ix b 0) fun e=>
 some e) else (some (-1)))
def xB (a:List Edge):Option (List Edge):=
 some a
def xC (a:Int) (b:List Edge):Option ((List Edge × Int) ⊕ (List Edge)):=
 some (.inl (b,wr (a+1)))
def aEW (t:cI) (k:Int) (b:List Edge) (a:Int):Option ((List Edge × Int) ⊕ (List Edge)):=
 if (decide (a < (t.E.length:Int))) then (ob (ix t.E a) fun d=>
 if (d.F == k) then (ob (nE b ([d]:List Edge)) fun f=>
 xC a f) else (xC a b)) else (some (.inr b))
def aCX (t:cI) (k:Int):Option (List Edge):=
 ob (loop (fun (s:(List Edge × Int))=>aEW t k s.1 s.2) ([],0)) fun r=>xB r
def kX (a:List aZ):Option (List aZ):=
 ob (aCP a) fun b=>
 ob (fM b) fun c=>
 some c
def vE (t:cI) (b:(List Edge)) (c:List aZ) (a:Int):Option ((List aZ × Int) ⊕ (List aZ)):=
 if (decide (a < (b.length:Int))) then (ob (ix b a) fun e=>
 ob (ix t.L e.B) fun f=>
 ob (nE c ([f]:List aZ)) fun g=>
 some (.inl (g,wr (a+1)))) else (some (.inr c))
def gR (t:cI) (k:Int):Option (List aZ):=
 ob (aCX t k) fun c=>
 ob (loop (fun (s:(List aZ × Int))=>vE t c s.1 s.2) ([],0)) fun r=>kX r
def yB (t:cI) (k:Int):Option Bool:=
 ob (gR t k) fun c=>
 ob (eA c ([116,97,117]:aZ)) fun d=>
 some (!d)
def pS (k:Int) (p:cI):Option Bool:=
 ob (yB p k) fun c=>
 some (!c)
def eB:Option Int:=
 some (-1)
def iW (b:(List Int)) (c:cI) (a:Int):Option (Int ⊕ (Unit ⊕ Int)):=
 if (decide (a < (b.length:Int))) then (ob (ix b a) fun d=>
 ob (pS d c) fun e=>
 if e then (some (.inr (.inr a))) else (some (.inl (wr (a+1))))) else (some (.inr (.inl ())))
def gL (b:(List Int)) (c:cI):Option Int:=
 ob (loop (fun (s:Int)=>iW b c s) 0) fun r=>match r with|.inl r=>eB|.inr r=>some r
def eJ (a:List Int) (b:Int):Option (List Int):=
 ob (yK a b (a.length:Int)) fun c=>
 ob (ovw a b (List.replicate c.length (0:Int))) fun d=>
 ob (yK d 0 b) fun e=>
 some e
def eK (a:Int) (b:List Int) (c:Int):Option ((List Int × Int × Int) ⊕ (List Int × Int)):=
 some (.inl (b,c,wr (a+1)))
def jH (e:cI) (a:List Int) (b c:Int):Option ((List Int × Int × Int) ⊕ (List Int × Int)):=
 if (decide (c < (a.length:Int))) then (ob (ix a c) fun d=>
 ob (pS d e) fun f=>
 if (!f) then (ob (ix a b) fun h=>
 ob (st a b (d:Int)) fun g=>
 eK c g (wr (b+1))) else (eK c a b)) else (some (.inr (a,b)))
def gW (a:(List Int)) (c:cI):Option (List Int):=
 ob (gL a c) fun b=>
 if (b == (-1)) then (some a) else (ob (loop (fun (s:(List Int × Int × Int))=>jH c s.1 s.2.1 s.2.2) (a,b,wr (b+1))) fun r=>eJ r.1 r.2)
def oJ (t:cI) (b:(List Int)):Option (List Int):=
 ob (gQ b) fun c=>
 ob (gW c t) fun d=>
 some d
def eL (a:(List aZ)):Option (List aZ):=
 ob (nE ([]:List aZ) a) fun b=>
 some b
def xD (a:aZ) (p:(List aZ)):Option Bool:=
 ob (eA p a) fun c=>
 some c
def dY:Option Int:=
 some (-1)
def iL (b c:(List aZ)) (a:Int):Option (Int ⊕ (Unit ⊕ Int)):=
 if (decide (a < (b.length:Int))) then (ob (ix b a) fun d=>
 ob (xD d c) fun e=>
 if e then (some (.inr (.inr a))) else (some (.inl (wr (a+1))))) else (some (.inr (.inl ())))
def gB (b c:(List aZ)):Option Int:=
 ob (loop (fun (s:Int)=>iL b c s) 0) fun r=>match r with|.inl r=>dY|.inr r=>some r
def eC (a:List aZ) (b:Int):Option (List aZ):=
 ob (yK a b (a.length:Int)) fun c=>
 ob (ovw a b (List.replicate c.length ([]:aZ))) fun d=>
 ob (yK d 0 b) fun e=>
 some e
def eD (a:Int) (b:List aZ) (c:Int):Option ((List aZ × Int × Int) ⊕ (List aZ × Int)):=
 some (.inl (b,c,wr (a+1)))
def iX (e:(List aZ)) (a:List aZ) (b c:Int):Option ((List aZ × Int × Int) ⊕ (List aZ × Int)):=
 if (decide (c < (a.length:Int))) then (ob (ix a c) fun d=>
 ob (xD d e) fun f=>
 if (!f) then (ob (ix a b) fun h=>
 ob (st a b (d:aZ)) fun g=>
 eD c g (wr (b+1))) else (eD c a b)) else (some (.inr (a,b)))
def gM (a c:(List aZ)):Option (List aZ):=
 ob (gB a c) fun b=>
 if (b == (-1)) then (some a) else (ob (loop (fun (s:(List aZ × Int × Int))=>iX c s.1 s.2.1 s.2.2) (a,b,wr (b+1))) fun r=>eC r.1 r.2)
def xM (a b:(List aZ)):Option (List aZ):=
 ob (eL a) fun c=>
 ob (gM c b) fun d=>
 some d
def aCr (j:Int) (p:cI) (c:(List aZ)):Option Bool:=
 ob (gR p j) fun d=>
 ob (xM d c) fun e=>
 some ((e.length:Int) == 0)
def eE:Option Int:=
 some (-1)
def iY (b:(List Int)) (c:cI) (d:(List aZ)) (a:Int):Option (Int ⊕ (Unit ⊕ Int)):=
 if (decide (a < (b.length:Int))) then (ob (ix b a) fun e=>
 ob (aCr e c d) fun f=>
 if f then (some (.inr (.inr a))) else (some (.inl (wr (a+1))))) else (some (.inr (.inl ())))
def gN (b:(List Int)) (c:cI) (d:(List aZ)):Option Int:=
 ob (loop (fun (s:Int)=>iY b c d s) 0) fun r=>match r with|.inl r=>eE|.inr r=>some r
def fS (a:(List Int)) (b:cI) (c:(List aZ)):Option Bool:=
 ob (gN a b c) fun d=>
 some (decide (0<=d))
def aAa:Option Int:=
 some (-1)
def aGa (b e:cI) (f c:(List Int)) (a:Int):Option (Int ⊕ (Unit ⊕ Int)):=
 if (decide (a < (c.length:Int))) then (ob (ix c a) fun d=>
 ob (gR e d) fun g=>
 ob (oJ b f) fun h=>
 ob (fS h b g) fun i=>
 if (!i) then (some (.inr (.inr d))) else (some (.inl (wr (a+1))))) else (some (.inr (.inl ())))
def aEX (c b:cI) (d e:(List Int)):Option Int:=
 ob (oJ b e) fun f=>
 ob (loop (fun (s:Int)=>aGa c b d f s) 0) fun r=>match r with|.inl r=>aAa|.inr r=>some r
def eW (a:List aZ):Option (List aZ):=
 some a
def kE (b:(List (List aZ))) (c:List aZ) (a:Int):Option ((List aZ × Int) ⊕ (List aZ)):=
 if (decide (a < (b.length:Int))) then (ob (ix b a) fun d=>
 ob (nE c d) fun e=>
 some (.inl (e,wr (a+1)))) else (some (.inr c))
def eX (a:(List (List aZ))) (b:Int):Option (List aZ):=
 ob (aFm [] b) fun c=>
 ob (loop (fun (s:(List aZ × Int))=>kE a s.1 s.2) (c,0)) fun r=>eW r
def gT (a b:Int):Option ((Int × Int) ⊕ Int):=
 some (.inl (b,wr (a+1)))
def kF (c:(List (List aZ))) (a b:Int):Option ((Int × Int) ⊕ Int):=
 if (decide (b < (c.length:Int))) then (ob (ix c b) fun d=>
 if (decide (wr (a+(d.length:Int)) < 0)) then (none) else (gT b (wr (a+(d.length:Int))))) else (some (.inr a))
def fQ (a:(List (List aZ))):Option (List aZ):=
 ob (loop (fun (s:(Int × Int))=>kF a s.1 s.2) (0,0)) fun r=>eX a r
def kL (a:Bool):Option Bool:=
 some a
def vL (p q:Int) (c d:cI) (e f:(List (List Int))):Option Bool:=
 if (decide (0<=q)) then (if (decide (p < 0)) then (kL true) else (ob (ix e p) fun g=>
 ob (ix f q) fun h=>
 ob (aEX c d g h) fun i=>
 kL (decide (0<=i)))) else (kL false)
def pT:Option ((List aZ) × Bool):=
 some ([],false)
def pU (a:(List ((Int × Int) × Bool))) (b:List bR):Option (((List ((Int × Int) × Bool)) × List bR) ⊕ (Unit ⊕ ((List aZ) × Bool))):=
 some (.inl (a,b))
def pV (a:(List ((Int × Int) × Bool))) (b:List bR):Option (((List ((Int × Int) × Bool)) × List bR) ⊕ (Unit ⊕ ((List aZ) × Bool))):=
 pU a b
def vM (a:Int) (b:List bR):Option ((List bR × Int) ⊕ (List bR)):=
 some (.inl (b,wr (a+1)))
def aBA (a b:cI) (f:List aZ) (c:bR) (g:List bR) (d:Int):Option ((List bR × Int) ⊕ (List bR)):=
 if (decide (d < (f.length:Int))) then (ob (ix f d) fun e=>
 ob (aBa a c.a e) fun j=>
 ob (aBa b c.b e) fun k=>
 ob (eL c.trace) fun l=>
 ob (nE l ([e]:List aZ)) fun m=>
 ob (nE g ([⟨j,k,m⟩]:List bR)) fun n=>
 vM d n) else (some (.inr g))
def mD (a b h i:cI) (j k:(List (List Int))) (l:List aZ) (d:(List ((Int × Int) × Bool))) (c:bR) (e:List bR) (m:Bool):Option (((List ((Int × Int) × Bool)) × List bR) ⊕ (Unit ⊕ ((List aZ) × Bool))):=
 if m then (pU d e) else (ob (some (aAt d ⟨c.a,c.b⟩ true)) fun n=>
 ob (vL c.a c.b h i j k) fun o=>
 if o then (some (.inr (.inr (c.trace,true)))) else (ob (loop (fun (s:(List bR × Int))=>aBA a b l c s.1 s.2) (e,0)) fun r=>pV n r))
def aBB (a b h i:cI) (j k:(List (List Int))) (l:List aZ) (d:(List ((Int × Int) × Bool))) (e:List bR):Option (((List ((Int × Int) × Bool)) × List bR) ⊕ (Unit ⊕ ((List aZ) × Bool))):=
 if (decide (0 < (e.length:Int))) then (ob (ix e 0) fun c=>
 ob (yK e 1 (e.length:Int)) fun m=>
 if (decide (c.a < 0)) then (if (decide (c.b < 0)) then (mD a b h i j k l d c m true) else (mD a b h i j k l d c m ((qO d ⟨c.a,c.b⟩).getD false))) else (mD a b h i j k l d c m ((qO d ⟨c.a,c.b⟩).getD false))) else (some (.inr (.inl ())))
def aBb (a b g h:cI) (i j:(List (List Int))):Option ((List aZ) × Bool):=
 ob (fQ ([a.L,b.L]:List (List aZ))) fun k=>
 ob (aHO 1 0 k []) fun f=>
 ob (yK f.L 1 (f.L.length:Int)) fun l=>
 ob (loop (fun (s:((List ((Int × Int) × Bool)) × List bR))=>aBB a b g h i j l s.1 s.2) (([]:(List ((Int × Int) × Bool))),([⟨a.I,b.I,[]⟩]:List bR))) fun r=>match r with|.inl r=>pT|.inr r=>some r
def pW (e a:cI) (b c:(cI × (List (List Int)) × Bool)) (h:Bool):Option (Bool × (List aZ) × (List aZ) × Bool):=
 if h then (some (false,[],[],false)) else (ob (aBb ⟨b.1.N,b.1.I,b.1.L,b.1.E⟩ ⟨c.1.N,c.1.I,c.1.L,c.1.E⟩ e a b.2.1 c.2.1) fun d=>
 if (!d.2) then (some (true,[],[],true)) else (ob (nN e d.1) fun f=>
 if ((f.length:Int) == 0) then (some (false,d.1,[],true)) else (ob (nN a d.1) fun i=>
 ob (aEX e a f i) fun j=>
 ob (fQ ([e.L,a.L]:List (List aZ))) fun k=>
 ob (aHO 1 0 k []) fun g=>
 ob (yK g.L 1 (g.L.length:Int)) fun l=>
 ob (gR a j) fun m=>
 ob (xM l m) fun n=>
 some (false,d.1,n,true))))
def aBc (a b:cI):Option (Bool × (List aZ) × (List aZ) × Bool):=
 ob (kW a) fun c=>
 ob (kW b) fun d=>
 if (!c.2.2) then (pW a b c d true) else (pW a b c d (!d.2.2))
def kY (b c:cI) (d:Bool):Option (Bool × (List aZ) × (List aZ) × Int):=
 if d then (some (false,[],[],1)) else (ob (aBc b c) fun a=>
 if (!a.2.2.2) then (some (false,[],[],5)) else (some (a.1,a.2.1,a.2.2.1,0)))
def mZ (a b:cI):Option (Bool × (List aZ) × (List aZ) × Int):=
 ob (lW a) fun c=>
 if (!c) then (kY a b true) else (ob (lW b) fun d=>
 kY a b (!d))
def aBd (a:Bool):Option Bool:=
 some a
def aAb (n low b:Int):Option Bool:=
 if (decide (low<=n)) then (aBd (decide (n<=b))) else (aBd false)
def xE (a:aZ):Option Int:=
 some (a.length:Int)
def aEY (b:aZ) (a:Int):Option (Int ⊕ (Unit ⊕ Int)):=
 if (decide (a < (b.length:Int))) then (ob (ix b a) fun c=>
 if ((c.toNat:Int) == 40) then (some (.inr (.inr a))) else (some (.inl (wr (a+1))))) else (some (.inr (.inl ())))
def aFA (b:aZ):Option Int:=
 ob (loop (fun (s:Int)=>aEY b s) 0) fun r=>match r with|.inl r=>xE b|.inr r=>some r
def uL (a:Bool):Option Bool:=
 some a
def aBe (c:UInt8):Option Bool:=
 if (decide (97<=(c.toNat:Int))) then (uL (decide ((c.toNat:Int)<=122))) else (uL false)
def uM (a:Bool):Option Bool:=
 some a
def aBf (c:UInt8):Option Bool:=
 if (decide (48<=(c.toNat:Int))) then (uM (decide ((c.toNat:Int)<=57))) else (uM false)
def xF:Option Bool:=
 some true
def xG (a:Int) (b:Bool):Option (Int ⊕ (Unit ⊕ Bool)):=
 if b then (some (.inr (.inr false))) else (some (.inl (wr (a+1))))
def aEZ (b:aZ) (a:Int):Option (Int ⊕ (Unit ⊕ Bool)):=
 if (decide (a < (b.length:Int))) then (ob (ix b a) fun c=>
 ob (aBe c) fun d=>
 if (!d) then (ob (aBf c) fun e=>
 xG a (!e)) else (xG a false)) else (some (.inr (.inl ())))
def sB (b:aZ) (c:Bool):Option Bool:=
 if c then (some false) else (ob (loop (fun (s:Int)=>aEZ b s) 0) fun r=>match r with|.inl r=>xF|.inr r=>some r)
def aCY (a:aZ):Option Bool:=
 if (a == ([]:aZ)) then (sB a true) else (if (decide (10 < (a.length:Int))) then (sB a true) else (ob (ix a 0) fun b=>
 ob (aBe b) fun c=>
 sB a (!c)))
def sC (a:Bool):Option Bool:=
 some a
def aCs (a:aZ):Option Bool:=
 ob (aCY a) fun b=>
 if b then (sC (!(a == ([116,97,117]:aZ)))) else (sC false)
def uN (a:aZ) (b:List aZ) (c:Int):Option (List aZ):=
 ob (yK a c (a.length:Int)) fun d=>
 ob (nE b ([d]:List aZ)) fun e=>
 some e
def uO (a:Int) (b:List aZ) (c:Int):Option ((List aZ × Int × Int) ⊕ (List aZ × Int)):=
 some (.inl (b,c,wr (a+1)))
def aDD (b:aZ) (e:UInt8) (c:List aZ) (d a:Int):Option ((List aZ × Int × Int) ⊕ (List aZ × Int)):=
 if (decide (a < (b.length:Int))) then (ob (ix b a) fun f=>
 if ((f.toNat:Int) == (e.toNat:Int)) then (ob (yK b d a) fun g=>
 ob (nE c ([g]:List aZ)) fun h=>
 uO a h (wr (a+1))) else (uO a c d)) else (some (.inr (c,d)))
def aEd (a:aZ) (c:UInt8):Option (List aZ):=
 ob (loop (fun (s:(List aZ × Int × Int))=>aDD a c s.1 s.2.1 s.2.2) (([]:List aZ),0,0)) fun r=>uN a r.1 r.2
def sD (a:Int):Option (Int × Bool):=
 some (a,true)
def sE (b a:Int):Option (Int × Bool):=
 if (b == 1) then (sD (wr (0 - a))) else (sD a)
def aCt (b:aZ) (c a:Int):Option ((Int × Int) ⊕ (Int ⊕ (Int × Bool))):=
 if (decide (a < (b.length:Int))) then (ob (ix b a) fun c45=>
 ob (aBf c45) fun d=>
 if (!d) then (some (.inr (.inr (0,false)))) else (some (.inl (wr ((wr (10 * c))+(wr ((c45 - (48:UInt8)).toNat:Int))),wr (a+1))))) else (some (.inr (.inl c)))
def lL (c:aZ) (b:Int) (d:Bool):Option (Int × Bool):=
 if d then (some (0,false)) else (ob (loop (fun (s:(Int × Int))=>aCt c s.1 s.2) (0,b)) fun r=>match r with|.inl r=>sE b r|.inr r=>some r)
def sF (a:aZ) (b:Int):Option (Int × Bool):=
 if ((a.length:Int) == b) then (lL a b true) else (if (decide (18 < wr ((a.length:Int) - b))) then (lL a b true) else (ob (ix a b) fun c=>
 if ((c.toNat:Int) == 48) then (lL a b (decide (1 < (a.length:Int)))) else (lL a b false)))
def sG (a:aZ) (b:Bool):Option (Int × Bool):=
 if b then (sF a 1) else (sF a 0)
def aCu (a:aZ):Option (Int × Bool):=
 if (decide (0 < (a.length:Int))) then (ob (ix a 0) fun b=>
 sG a ((b.toNat:Int) == 45)) else (sG a false)
def sH (a:List Int):Option ((List Int) × Bool):=
 some (a,decide ((a.length:Int)<=2))
def sI (a:List Int) (b:Int) (c:(Int × Bool)) (d:Bool):Option ((List Int × Int) ⊕ (List Int ⊕ ((List Int) × Bool))):=
 if d then (some (.inr (.inr ([],false)))) else (ob (nE a ([c.1]:List Int)) fun e=>
 some (.inl (e,wr (b+1))))
def aCv (d:(List aZ)) (c:List Int) (a:Int):Option ((List Int × Int) ⊕ (List Int ⊕ ((List Int) × Bool))):=
 if (decide (a < (d.length:Int))) then (ob (ix d a) fun e=>
 ob (aCu e) fun b=>
 if (!b.2) then (sI c a b true) else (ob (aAb b.1 0 63) fun f=>
 sI c a b (!f))) else (some (.inr (.inl c)))
def sJ (b:aZ) (c:Int) (d:Bool):Option ((List Int) × Bool):=
 if d then (some ([],false)) else (ob (yK b (wr (c+1)) (wr ((b.length:Int) - 1))) fun e=>
 ob (aEd e (44:UInt8)) fun f=>
 ob (loop (fun (s:(List Int × Int))=>aCv f s.1 s.2) (([]:List Int),0)) fun r=>match r with|.inl r=>sH r|.inr r=>some r)
def aCw (a:aZ):Option ((List Int) × Bool):=
 ob (aFA a) fun b=>
 if (b == (a.length:Int)) then (ob (aCY a) fun c=>
 some (([]:List Int),c)) else (ob (yK a 0 b) fun d=>
 ob (aCs d) fun e=>
 if (!e) then (sJ a b true) else (ob (ix a (wr ((a.length:Int) - 1))) fun f=>
 sJ a b ((f.toNat:Int) != 41)))
def aEe (a:aZ):Option Bool:=
 ob (aCw a) fun b=>
 some b.2
def uP:Option Bool:=
 some true
def mM (a:Int) (b:Bool):Option (Int ⊕ (Unit ⊕ Bool)):=
 if b then (some (.inr (.inr false))) else (some (.inl (wr (a+1))))
def aDE (b:(List aZ)) (a:Int):Option (Int ⊕ (Unit ⊕ Bool)):=
 if (decide (a < (b.length:Int))) then (ob (ix b a) fun c=>
 ob (aEe c) fun d=>
 if (!d) then (mM a true) else (if (c == ([116,97,117]:aZ)) then (mM a true) else (if (decide (1 < a)) then (ob (ix b (wr (a - 1))) fun e=>
 mM a (!qJ e c)) else (mM a false)))) else (some (.inr (.inl ())))
def pB (b:(List aZ)) (c:Bool):Option Bool:=
 if c then (some false) else (ob (loop (fun (s:Int)=>aDE b s) 1) fun r=>match r with|.inl r=>uP|.inr r=>some r)
def aEf (a:(List aZ)):Option Bool:=
 if ((a.length:Int) == 0) then (pB a true) else (if (decide (12 < (a.length:Int))) then (pB a true) else (ob (ix a 0) fun b=>
 pB a (!(b == ([116,97,117]:aZ)))))
def aBg:Option Bool:=
 some true
def aBh (a:Int) (b:Bool):Option (Int ⊕ (Unit ⊕ Bool)):=
 if b then (some (.inr (.inr false))) else (some (.inl (wr (a+1))))
def yC (t:cI) (a:Int) (c:Edge) (d:Bool):Option (Int ⊕ (Unit ⊕ Bool)):=
 if d then (some (.inr (.inr false))) else (if (decide (0 < a)) then (ob (ix t.E (wr (a - 1))) fun e=>
 ob (aCU e c) fun f=>
 aBh a (!f)) else (aBh a false))
def aGV (t:cI) (c:Int):Option (Int ⊕ (Unit ⊕ Bool)):=
 if (decide (c < (t.E.length:Int))) then (ob (ix t.E c) fun b=>
 ob (aAb b.F 0 (wr (t.N - 1))) fun d=>
 if (!d) then (yC t c b true) else (ob (aAb b.To 0 (wr (t.N - 1))) fun e=>
 if (!e) then (yC t c b true) else (ob (aAb b.B 0 (wr ((t.L.length:Int) - 1))) fun f=>
 yC t c b (!f)))) else (some (.inr (.inl ())))
def tD (t:cI) (c:Bool):Option Bool:=
 if c then (some false) else (ob (loop (fun (s:Int)=>aGV t s) 0) fun r=>match r with|.inl r=>aBg|.inr r=>some r)
def aGA (t:cI):Option Bool:=
 ob (aAb t.N 1 40) fun b=>
 if (!b) then (tD t true) else (ob (aAb t.I 0 (wr (t.N - 1))) fun c=>
 if (!c) then (tD t true) else (ob (aEf t.L) fun d=>
 if (!d) then (tD t true) else (tD t (decide (300 < (t.E.length:Int))))))
def aPS:Option Bool:=
 some true
def aOg (a:Int) (b:Bool):Option (Int ⊕ (Unit ⊕ Bool)):=
 if b then (some (.inr (.inr false))) else (some (.inl (wr (a+1))))
def aPT (t:cI) (d a:Int):Option (Int ⊕ (Unit ⊕ Bool)):=
 if (decide (a < (t.E.length:Int))) then (ob (ix t.E a) fun c=>
 if (c.F == d) then (aOg a (c.B == 0)) else (aOg a false)) else (some (.inr (.inl ())))
def aPW (t:cI) (c:Int):Option Bool:=
 ob (loop (fun (s:Int)=>aPT t c s) 0) fun r=>match r with|.inl r=>aPS|.inr r=>some r
def aQo (a:List aZ):Option (List aZ):=
 some a
def aMh (a:Int) (b:List aZ):Option ((List aZ × Int) ⊕ (List aZ)):=
 some (.inl (b,wr (a+1)))
def aKI (t:cI) (a:List aZ) (b:Int) (d:Edge) (e:Bool):Option ((List aZ × Int) ⊕ (List aZ)):=
 if e then (ob (ix t.L d.B) fun f=>
 ob (nE a ([f]:List aZ)) fun g=>
 aMh b g) else (aMh b a)
def aQp (t:cI) (e:Int) (c:List aZ) (d:Int):Option ((List aZ × Int) ⊕ (List aZ)):=
 if (decide (d < (t.E.length:Int))) then (ob (ix t.E d) fun b=>
 if (b.F == e) then (if (decide (0 < b.B)) then (ob (ix t.L b.B) fun f=>
 ob (aCT c f) fun g=>
 aKI t c d b (decide (g < 0))) else (aKI t c d b false)) else (aKI t c d b false)) else (some (.inr c))
def aQr (t:cI) (b:Int):Option (List aZ):=
 ob (loop (fun (s:(List aZ × Int))=>aQp t b s.1 s.2) (([]:List aZ),0)) fun r=>aQo r
def aPX (a:List (List aZ)):Option (List (List aZ)):=
 some a
def aLh (a:Int) (b:List (List aZ)):Option ((List (List aZ) × Int) ⊕ (List (List aZ))):=
 some (.inl (b,wr (a+1)))
def aQb (t:cI) (d:(List Int)) (b:List (List aZ)) (a:Int):Option ((List (List aZ) × Int) ⊕ (List (List aZ))):=
 if (decide (a < (d.length:Int))) then (ob (ix d a) fun e=>
 ob (aPW t e) fun f=>
 if f then (ob (aQr t e) fun g=>
 ob (nE b ([g]:List (List aZ))) fun h=>
 aLh a h) else (aLh a b)) else (some (.inr b))
def aQF (t:cI) (b:(List Int)):Option (List (List aZ)):=
 ob (loop (fun (s:(List (List aZ) × Int))=>aQb t b s.1 s.2) (([]:List (List aZ)),0)) fun r=>aPX r
def aQf:Option Bool:=
 some true
def aQK (a b:(List aZ)) (c:Int):Option (Int ⊕ (Unit ⊕ Bool)):=
 if (decide (c < (a.length:Int))) then (ob (ix a c) fun f=>
 ob (aCT b f) fun g=>
 if (decide (g < 0)) then (some (.inr (.inr false))) else (some (.inl (wr (c+1))))) else (some (.inr (.inl ())))
def aQg (a b:(List aZ)):Option Bool:=
 ob (loop (fun (s:Int)=>aQK a b s) 0) fun r=>match r with|.inl r=>aQf|.inr r=>some r
def aPE:Option Bool:=
 some false
def aQI (c:(List aZ)) (b:(List (List aZ))) (a:Int):Option (Int ⊕ (Unit ⊕ Bool)):=
 if (decide (a < (b.length:Int))) then (ob (ix b a) fun d=>
 ob (aQg d c) fun e=>
 if e then (some (.inr (.inr true))) else (some (.inl (wr (a+1))))) else (some (.inr (.inl ())))
def aQu (b:(List aZ)) (c:(List (List aZ))):Option Bool:=
 ob (loop (fun (s:Int)=>aQI b c s) 0) fun r=>match r with|.inl r=>aPE|.inr r=>some r
def aQv (a:List aZ):Option (List aZ):=
 some a
def aNm (a:Int) (b:List aZ):Option ((List aZ × Int) ⊕ (List aZ)):=
 some (.inl (b,wr (a+1)))
def aQw (c e:(List aZ)) (b:List aZ) (a:Int):Option ((List aZ × Int) ⊕ (List aZ)):=
 if (decide (a < (c.length:Int))) then (ob (ix c a) fun d=>
 ob (aCT e d) fun f=>
 if (decide (f < 0)) then (ob (nE b ([d]:List aZ)) fun g=>
 aNm a g) else (aNm a b)) else (some (.inr b))
def aQU (a b:(List aZ)):Option (List aZ):=
 ob (loop (fun (s:(List aZ × Int))=>aQw a b s.1 s.2) (([]:List aZ),1)) fun r=>aQv r
def aQL:Option Int:=
 some (-1)
def aQs (d:cI) (a:Int) (c:Bool):Option (Int ⊕ (Unit ⊕ Int)):=
 if c then (ob (ix d.E a) fun e=>
 some (.inr (.inr e.To))) else (some (.inl (wr (a+1))))
def aPC (d:cI) (e:Int) (f:aZ) (b:Int) (g:Bool):Option (Int ⊕ (Unit ⊕ Int)):=
 if g then (ob (ix d.E b) fun c=>
 if (c.F == e) then (ob (ix d.L c.B) fun h=>
 aQs d b (h == f)) else (aQs d b false)) else (some (.inr (.inl ())))
def aQM (d:cI) (b:Int) (e:aZ) (c:Int):Option (Int ⊕ (Unit ⊕ Int)):=
 if (decide (c < (d.E.length:Int))) then (aPC d b e c (decide (0<=b))) else (aPC d b e c false)
def s_l12Go (d:cI) (c:Int) (e:aZ):Option Int:=
 ob (loop (fun (s:Int)=>aQM d c e s) 0) fun r=>match r with|.inl r=>aQL|.inr r=>some r
def sK (a:Bool):Option ((List aZ) × (List aZ) × Bool × Bool):=
 if a then (some ([],[],false,false)) else (none)
def aCx (a b:cI):Option ((List aZ) × (List aZ) × Bool × Bool):=
 ob (aAI a) fun c=>
 ob (aAI b) fun d=>
 if (!c.2.2) then (sK true) else (sK (!d.2.2))
def kZ (b c:cI) (d:Bool):Option (Bool × (List aZ) × (List aZ) × Int):=
 if d then (some (false,[],[],1)) else (ob (aCx b c) fun a=>
 if (!a.2.2.2) then (some (false,[],[],5)) else (some (!a.2.2.1,a.1,a.2.1,0)))
def sL (a b:cI):Option (Bool × (List aZ) × (List aZ) × Int):=
 ob (aGA a) fun c=>
 if (!c) then (kZ a b true) else (ob (aGA b) fun d=>
 kZ a b (!d))
def aBi (a:(List aZ)):Option Bool:=
 ob (qU a) fun b=>
 some b
def aBj (a:Int) (b:Bool):Option (Int ⊕ (Unit ⊕ Bool)):=
 if b then (some (.inr (.inr false))) else (some (.inl (wr (a+1))))
def aGW (b:(List aZ)) (a:Int):Option (Int ⊕ (Unit ⊕ Bool)):=
 if (decide (a < (b.length:Int))) then (ob (ix b a) fun c=>
 if (decide (0 < a)) then (ob (ix b (wr (a - 1))) fun d=>
 aBj a (qJ c d||c == d)) else (aBj a false)) else (some (.inr (.inl ())))
def aIf (b:(List aZ)):Option Bool:=
 ob (loop (fun (s:Int)=>aGW b s) 0) fun r=>match r with|.inl r=>aBi b|.inr r=>some r
def vN (k:Int) (p:(List aZ)) (c:cI):Option Bool:=
 ob (gR c k) fun d=>
 ob (xM p d) fun e=>
 some ((e.length:Int) == (p.length:Int))
def eF:Option Int:=
 some (-1)
def iZ (b:(List Int)) (c:(List aZ)) (d:cI) (a:Int):Option (Int ⊕ (Unit ⊕ Int)):=
 if (decide (a < (b.length:Int))) then (ob (ix b a) fun e=>
 ob (vN e c d) fun f=>
 if f then (some (.inr (.inr a))) else (some (.inl (wr (a+1))))) else (some (.inr (.inl ())))
def gO (b:(List Int)) (c:(List aZ)) (d:cI):Option Int:=
 ob (loop (fun (s:Int)=>iZ b c d s) 0) fun r=>match r with|.inl r=>eF|.inr r=>some r
def fT (a:(List Int)) (b:(List aZ)) (c:cI):Option Bool:=
 ob (gO a b c) fun d=>
 some (decide (0<=d))
def xH (t:cI) (b:(List Int)) (c:(List aZ)):Option Bool:=
 ob (oJ t b) fun d=>
 ob (fT d c t) fun e=>
 some e
def jZ (a:Bool):Option (Bool × Int):=
 some (a,0)
def kA (b c:cI) (d a:(List aZ)) (g:Bool):Option (Bool × Int):=
 if g then (some (false,2)) else (ob (nN b d) fun e=>
 ob (nN c d) fun f=>
 if ((f.length:Int) == 0) then (some (false,0)) else (if ((e.length:Int) == 0) then (some ((a.length:Int) == 0,0)) else (ob (xH c f a) fun h=>
 if h then (ob (xH b e a) fun i=>
 jZ (!i)) else (jZ false))))
def kB (c d:cI) (a b:(List aZ)) (e:Bool):Option (Bool × Int):=
 if e then (some (false,1)) else (ob (qU a) fun f=>
 if (!f) then (kA c d a b true) else (ob (aIf b) fun g=>
 kA c d a b (!g)))
def oQ (a b:cI) (c d:(List aZ)):Option (Bool × Int):=
 ob (lW a) fun e=>
 if (!e) then (kB a b c d true) else (ob (lW b) fun f=>
 kB a b c d (!f))
def aCy (t:cI) (n:Int):Option (cI × Int):=
 ob (lW t) fun d=>
 if (!d) then (some (⟨0,0,[],[]⟩,1)) else (ob (vC n 0 12) fun e=>
 if (!e) then (some (⟨0,0,[],[]⟩,2)) else (ob (kW t) fun b=>
 if (!b.2.2) then (some (⟨0,0,[],[]⟩,5)) else (some (b.1,0))))
def uQ (a:List (List aZ)):Option ((List (List aZ)) × Int):=
 some (a,0)
def aDF (b:List bR) (c:List (List aZ)) (a:Int):Option ((List (List aZ) × Int) ⊕ (List (List aZ))):=
 if (decide (a < (b.length:Int))) then (ob (ix b a) fun d=>
 ob (nE c ([d.trace]:List (List aZ))) fun e=>
 some (.inl (e,wr (a+1)))) else (some (.inr c))
def uR (a:List bR):Option ((List (List aZ)) × Int):=
 if (decide (200 < (a.length:Int))) then (some ([],5)) else (ob (loop (fun (s:(List (List aZ) × Int))=>aDF a s.1 s.2) ([],0)) fun r=>uQ r)
def uS (a:Int) (b:List bR):Option ((List bR × Int) ⊕ (List bR)):=
 some (.inl (b,wr (a+1)))
def uT (a:Int) (b:List bR):Option ((List bR × Int) ⊕ (List bR)):=
 uS a b
def aAq (a:Int) (b:List bR):Option ((List bR × Int) ⊕ (List bR)):=
 some (.inl (b,wr (a+1)))
def aDG (e:(cI × Int)) (f:bR) (b:(List Edge)) (c:List bR) (a:Int):Option ((List bR × Int) ⊕ (List bR)):=
 if (decide (a < (b.length:Int))) then (ob (ix b a) fun d=>
 ob (ix e.1.L d.B) fun g=>
 ob (eL f.trace) fun h=>
 ob (nE h ([g]:List aZ)) fun i=>
 ob (nE c ([⟨d.To,0,i⟩]:List bR)) fun j=>
 aAq a j) else (some (.inr c))
def uU (n:Int) (e:(cI × Int)) (b:List bR) (c:Int) (g:Bool):Option ((List bR × Int) ⊕ (List bR)):=
 if g then (ob (ix b c) fun d=>
 if ((d.trace.length:Int) == n) then (uS c b) else (ob (aCX e.1 d.a) fun h=>
 ob (loop (fun (s:(List bR × Int))=>aDG e d h s.1 s.2) (b,0)) fun r=>uT c r)) else (some (.inr b))
def aDH (n:Int) (d:(cI × Int)) (a:List bR) (b:Int):Option ((List bR × Int) ⊕ (List bR)):=
 if (decide (b < (a.length:Int))) then (uU n d a b (decide ((a.length:Int)<=200))) else (uU n d a b false)
def aEg (t:cI) (n:Int):Option ((List (List aZ)) × Int):=
 ob (aCy t n) fun a=>
 if (a.2 != 0) then (some ([],a.2)) else (ob (loop (fun (s:(List bR × Int))=>aDH n a s.1 s.2) (([⟨0,0,[]⟩]:List bR),0)) fun r=>uR r)
def aBk (t:cI) (b:(List aZ)):Option ((List Int) × Int):=
 ob (lW t) fun d=>
 if (!d) then (some ([],1)) else (ob (qU b) fun e=>
 if (!e) then (some ([],2)) else (ob (nN t b) fun c=>
 if ((c.length:Int) == 0) then (some ([],3)) else (some (c,0))))
def jT (a:aZ):Option Bool:=
 some (!(a == a))
def iS (a y:aZ):Option Int:=
 ob (jT a) fun d=>
 ob (jT y) fun c=>
 if d then (if c then (some 0) else (some (-1))) else (if c then (some 1) else (if (qJ a y) then (some (-1)) else (if (!(qJ a y||a == y)) then (some 1) else (some 0))))
def dH (a b:(List aZ)):Option Int:=
 if (decide ((a.length:Int) < (b.length:Int))) then (some (-1)) else (some 0)
def cR (b c:(List aZ)) (a:Int):Option (Int ⊕ (Unit ⊕ Int)):=
 if (decide (a < (b.length:Int))) then (ob (ix b a) fun e=>
 if (decide ((c.length:Int)<=a)) then (some (.inr (.inr 1))) else (ob (ix c a) fun f=>
 ob (iS e f) fun d=>
 if (d != 0) then (some (.inr (.inr d))) else (some (.inl (wr (a+1)))))) else (some (.inr (.inl ())))
def fN (b c:(List aZ)):Option Int:=
 ob (loop (fun (s:Int)=>cR b c s) 0) fun r=>match r with|.inl r=>dH b c|.inr r=>some r
def fH:Option Bool:=
 some true
def kM (b c:(List aZ)) (a:Int):Option (Int ⊕ (Unit ⊕ Bool)):=
 if (decide (a < (b.length:Int))) then (ob (ix b a) fun d=>
 ob (ix c a) fun e=>
 if (!(d == e)) then (some (.inr (.inr false))) else (some (.inl (wr (a+1))))) else (some (.inr (.inl ())))
def fY (b c:(List aZ)):Option Bool:=
 if ((b.length:Int) != (c.length:Int)) then (some false) else (ob (loop (fun (s:Int)=>kM b c s) 0) fun r=>match r with|.inl r=>fH|.inr r=>some r)
def dP (a:(List (List aZ))):Option (List (List aZ)):=
 some a
def eT (a:Int):Option (Int ⊕ (Unit ⊕ (List (List aZ)))):=
 some (.inl (wr (a+1)))
def dQ (a:List (List aZ)) (b:Int):Option (Int ⊕ (Unit ⊕ (List (List aZ)))):=
 ob (yK a b (a.length:Int)) fun c=>
 ob (ovw a b (List.replicate c.length ([]:(List aZ)))) fun d=>
 ob (yK d 0 b) fun e=>
 some (.inr (.inr e))
def dR (a:Int) (b:List (List aZ)) (c:Int):Option ((List (List aZ) × Int × Int) ⊕ (List (List aZ) × Int)):=
 some (.inl (b,c,wr (a+1)))
def gZ (e:Int) (d b:List (List aZ)) (c a:Int):Option ((List (List aZ) × Int × Int) ⊕ (List (List aZ) × Int)):=
 if (decide (a < (d.length:Int))) then (ob (ix d a) fun j=>
 ob (ix b (e+a)) fun f=>
 ob (ix d (wr (a - 1))) fun k=>
 ob (ix b (e+(wr (a - 1)))) fun g=>
 ob (fY f g) fun h=>
 if (!h) then (ob (ix b c) fun l=>
 ob (st b c (f:(List aZ))) fun i=>
 dR a i (wr (c+1))) else (dR a b c)) else (some (.inr (b,c)))
def aHr (b:(List (List aZ))) (a:Int):Option (Int ⊕ (Unit ⊕ (List (List aZ)))):=
 if (decide (a < (b.length:Int))) then (ob (ix b a) fun d=>
 ob (ix b (wr (a - 1))) fun e=>
 ob (fY d e) fun f=>
 if f then (ob (yK b a (b.length:Int)) fun g=>
 ob (loop (fun (s:(List (List aZ) × Int × Int))=>gZ a g s.1 s.2.1 s.2.2) (b,a,1)) fun r=>dQ r.1 r.2) else (eT a)) else (some (.inr (.inl ())))
def fL (a:(List (List aZ))):Option (List (List aZ)):=
 if (decide ((a.length:Int) < 2)) then (some a) else (ob (loop (fun (s:Int)=>aHr a s) 1) fun r=>match r with|.inl r=>dP a|.inr r=>some r)
def jI (a:Bool):Option Bool:=
 some a
def nR (p b:(List aZ)):Option Bool:=
 if (decide ((p.length:Int) < (b.length:Int))) then (ob (xM p b) fun c=>
 jI ((c.length:Int) == 0)) else (jI false)
def dX:Option Int:=
 some (-1)
def iH (b:(List (List aZ))) (c:(List aZ)) (a:Int):Option (Int ⊕ (Unit ⊕ Int)):=
 if (decide (a < (b.length:Int))) then (ob (ix b a) fun d=>
 ob (nR d c) fun e=>
 if e then (some (.inr (.inr a))) else (some (.inl (wr (a+1))))) else (some (.inr (.inl ())))
def fU (b:(List (List aZ))) (c:(List aZ)):Option Int:=
 ob (loop (fun (s:Int)=>iH b c s) 0) fun r=>match r with|.inl r=>dX|.inr r=>some r
def fI (a:(List (List aZ))) (b:(List aZ)):Option Bool:=
 ob (fU a b) fun c=>
 some (decide (0<=c))
def lA (a:List (List aZ)):Option (List (List aZ)):=
 some a
def lB (a:Int) (b:List (List aZ)):Option ((List (List aZ) × Int) ⊕ (List (List aZ))):=
 some (.inl (b,wr (a+1)))
def vF (b:(List (List aZ))) (c:List (List aZ)) (a:Int):Option ((List (List aZ) × Int) ⊕ (List (List aZ))):=
 if (decide (a < (b.length:Int))) then (ob (ix b a) fun d=>
 ob (fI b d) fun e=>
 if (!e) then (ob (nE c ([d]:List (List aZ))) fun f=>
 lB a f) else (lB a c)) else (some (.inr c))
def lC (a:List (List aZ)):Option (List (List aZ)):=
 ob (aBS a) fun b=>
 ob (fL b) fun c=>
 ob (loop (fun (s:(List (List aZ) × Int))=>vF c s.1 s.2) ([],0)) fun r=>lA r
def vG (t:cI) (b:(List Int)) (c:List (List aZ)) (a:Int):Option ((List (List aZ) × Int) ⊕ (List (List aZ))):=
 if (decide (a < (b.length:Int))) then (ob (ix b a) fun e=>
 ob (gR t e) fun f=>
 ob (nE c ([f]:List (List aZ))) fun g=>
 some (.inl (g,wr (a+1)))) else (some (.inr c))
def sM (t:cI) (b:(List Int)):Option (List (List aZ)):=
 ob (oJ t b) fun c=>
 ob (loop (fun (s:(List (List aZ) × Int))=>vG t c s.1 s.2) ([],0)) fun r=>lC r
def lZ (t:cI) (c:(List aZ)):Option ((List (List aZ)) × Int):=
 ob (aBk t c) fun a=>
 if (a.2 != 0) then (some ([],a.2)) else (ob (sM t a.1) fun d=>
 some (d,0))
def sO:Option Bool:=
 some true
def yD (a:Int):Option (Int ⊕ (Unit ⊕ Bool)):=
 some (.inl (wr (a+1)))
def sP (a:Int) (b:Bool):Option (Int ⊕ (Unit ⊕ Bool)):=
 if (!b) then (some (.inr (.inr false))) else (yD a)
def sQ (a:Int) (b:Bool):Option ((Bool × Int) ⊕ Bool):=
 some (.inl (b,wr (a+1)))
def aCz (a b:(List aZ)) (g:Int) (e:Bool) (c:Int):Option ((Bool × Int) ⊕ Bool):=
 if (decide (c < (b.length:Int))) then (if e then (sQ c true) else (ob (ix a g) fun h=>
 ob (ix b c) fun i=>
 sQ c (h == i))) else (some (.inr e))
def aCA (a b:(List aZ)) (c:Int):Option (Int ⊕ (Unit ⊕ Bool)):=
 if (decide (c < (a.length:Int))) then (ob (loop (fun (s:(Bool × Int))=>aCz a b c s.1 s.2) (false,0)) fun r=>sP c r) else (some (.inr (.inl ())))
def aCB (a b:(List aZ)):Option Bool:=
 ob (loop (fun (s:Int)=>aCA a b s) 0) fun r=>match r with|.inl r=>sO|.inr r=>some r
def pX (a:Bool):Option Bool:=
 some a
def pY (a:((List (List aZ)) × Int)):Option Bool:=
 some (decide (0 < (a.1.length:Int)))
def vO (a:Int):Option (Int ⊕ (Unit ⊕ Bool)):=
 some (.inl (wr (a+1)))
def pZ (a:Int):Option (Int ⊕ (Unit ⊕ Bool)):=
 vO a
def vP (a:Int):Option (Int ⊕ (Unit ⊕ Bool)):=
 some (.inl (wr (a+1)))
def qA (a:Int) (b:Bool):Option (Int ⊕ (Unit ⊕ Bool)):=
 if (!b) then (some (.inr (.inr false))) else (vP a)
def qB (a:Int) (b:Bool):Option ((Bool × Int) ⊕ Bool):=
 some (.inl (b,wr (a+1)))
def aBC (b d:((List (List aZ)) × Int)) (e:Int) (c:Bool) (a:Int):Option ((Bool × Int) ⊕ Bool):=
 if (decide (a < (b.1.length:Int))) then (if c then (qB a true) else (ob (ix b.1 a) fun f=>
 ob (ix d.1 e) fun g=>
 ob (aCB f g) fun h=>
 qB a h)) else (some (.inr c))
def aBD (c b:((List (List aZ)) × Int)) (a:Int):Option (Int ⊕ (Unit ⊕ Bool)):=
 if (decide (a < (b.1.length:Int))) then (ob (loop (fun (s:(Bool × Int))=>aBC c b a s.1 s.2) (false,0)) fun r=>qA a r) else (some (.inr (.inl ())))
def oK (b:Int) (c d:((List (List aZ)) × Int)) (e:Bool):Option (Int ⊕ (Unit ⊕ Bool)):=
 if e then (some (.inr (.inr false))) else (ob (loop (fun (s:Int)=>aBD c d s) 0) fun r=>match r with|.inl r=>pZ b|.inr r=>some (.inr (.inr r)))
def aAJ (d:(cI × cI)) (e:((List (List aZ)) × Int)) (a:Int):Option (Int ⊕ (Unit ⊕ Bool)):=
 if (decide (a < (e.1.length:Int))) then (ob (ix e.1 a) fun f=>
 ob (lZ d.1 f) fun b=>
 ob (lZ d.2 f) fun c=>
 if (b.2 != 0) then (oK a b c true) else (oK a b c (c.2 != 0))) else (some (.inr (.inl ())))
def oL (a:(cI × cI)) (b f:(Bool × (List aZ) × (List aZ) × Int)) (g:Bool):Option Bool:=
 if g then (ob (sL a.1 a.2) fun h=>
 some (b.2.2.2 == h.2.2.2)) else (if (!f.1) then (some false) else (if (!b.1) then (ob (oQ a.1 a.2 b.2.1 b.2.2.1) fun e=>
 if (e.2 == 0) then (pX e.1) else (pX false)) else (ob (aEg a.2 2) fun c=>
 if (c.2 != 0) then (some (c.2 == 5)) else (ob (loop (fun (s:Int)=>aAJ a c s) 0) fun r=>match r with|.inl r=>pY c|.inr r=>some r))))
def aFa (d:(List UInt8)):Option Bool:=
 ob (aFq d) fun e=>
 if e then (some true) else (ob (aFz d) fun a=>
 ob (mZ ⟨a.1.N,a.1.I,a.1.L,a.1.E⟩ ⟨a.2.N,a.2.I,a.2.L,a.2.E⟩) fun b=>
 ob (mZ a.2 a.2) fun c=>
 if (b.2.2.2 != 0) then (oL a b c true) else (oL a b c (c.2.2.2 != 0)))
end
end Gv
