/- Models of the functions, printed by program off their code. Plain Lean. -/
import Derived.Test.YtohbafhnoifmoaaGreatDoorTJLM
set_option linter.all false
namespace Gv
noncomputable section
def tY (a:List Int):Option ((List Int) × Bool):=
 some (a,true)
def mL (b:(List aU)) (c:List Int) (a:Int):Option ((List Int × Int) ⊕ (List Int ⊕ ((List Int) × Bool))):=
 if (decide (a < (b.length:Int))) then (ob (ix b a) fun e=>
 ob (uZ e) fun d=>
 if (!d.2) then (some (.inr (.inr ([],false)))) else (ob (pX c ([d.1]:List Int)) fun f=>
 some (.inl (f,wr (a+1))))) else (some (.inr (.inl c)))
def vA (b:(List aU)):Option ((List Int) × Bool):=
 ob (loop (fun (s:(List Int × Int))=>mL b s.1 s.2) ([],0)) fun r=>match r with|.inl r=>tY r|.inr r=>some r
def aAQ (a:aU) (b:List aU):Option aU:=
 ob (aKN b a) fun c=>
 some c
def wX (c:(List Int)) (b:List aU) (a:Int):Option ((List aU × Int) ⊕ (List aU)):=
 if (decide (a < (c.length:Int))) then (ob (ix c a) fun d=>
 ob (aDo d) fun e=>
 ob (ix b a) fun g=>
 ob (st b a (e:aU)) fun f=>
 some (.inl (f,wr (a+1)))) else (some (.inr b))
def aDr (a:(List Int)) (b:aU):Option aU:=
 ob (mkz (a.length:Int) ([]:aU)) fun c=>
 ob (loop (fun (s:(List aU × Int))=>wX a s.1 s.2) (c,0)) fun r=>aAQ b r
def aBD (a:Bool):Option Bool:=
 some a
def aFc (c:UInt8):Option Bool:=
 if (decide (48≤(c.toNat:Int))) then (aBD (decide ((c.toNat:Int)≤57))) else (aBD false)
def aCT (a:Bool):Option Bool:=
 some a
def aAR (a:aU):Option Bool:=
 if (decide (1≤(a.length:Int))) then (aCT (decide ((a.length:Int)≤10))) else (aCT false)
def wY (a:Int) (b:Bool):Option (Int ⊕ (Unit ⊕ Bool)):=
 if b then (some (.inr (.inr false))) else (some (.inl (wr (a+1))))
def pT (b:aU) (a:Int) (c:Bool):Option (Int ⊕ (Unit ⊕ Bool)):=
 if (!c) then (if (a == 0) then (wY a true) else (ob (ix b a) fun d=>
 ob (aFc d) fun e=>
 wY a (!e))) else (wY a false)
def sF (a:aU) (b:Int):Option (Int ⊕ (Unit ⊕ Bool)):=
 if (decide (b < (a.length:Int))) then (ob (ix a b) fun c=>
 if (decide (97≤(c.toNat:Int))) then (pT a b (decide ((c.toNat:Int)≤122))) else (pT a b false)) else (some (.inr (.inl ())))
def aEE (b:aU):Option Bool:=
 ob (loop (fun (s:Int)=>sF b s) 0) fun r=>match r with|.inl r=>aAR b|.inr r=>some r
def vB (a:Bool):Option Bool:=
 some a
def aCi (a:aU):Option Bool:=
 ob (aEE a) fun b=>
 if b then (vB (!(a == ([116,97,117]:aU)))) else (vB false)
def aAS (a:Bool):Option Bool:=
 some a
def sG (n low b:Int):Option Bool:=
 if (decide (low≤n)) then (aAS (decide (n≤b))) else (aAS false)
def aFd (n:Int):Option Bool:=
 ob (sG n 0 63) fun b=>
 some b
def xQ (n:Int):Option Bool:=
 ob (aFd n) fun b=>
 some (!b)
def fP:Option Int:=
 some (-1)
def dW (b:(List Int)) (a:Int):Option (Int ⊕ (Unit ⊕ Int)):=
 if (decide (a < (b.length:Int))) then (ob (ix b a) fun c=>
 ob (xQ c) fun d=>
 if d then (some (.inr (.inr a))) else (some (.inl (wr (a+1))))) else (some (.inr (.inl ())))
def gG (b:(List Int)):Option Int:=
 ob (loop (fun (s:Int)=>dW b s) 0) fun r=>match r with|.inl r=>fP|.inr r=>some r
def fQ (a:(List Int)):Option Bool:=
 ob (gG a) fun b=>
 some (decide (0≤b))
def aAT (a:(List Int)):Option Bool:=
 ob (fQ a) fun b=>
 some (!b)
def tZ (a:aU) (b:(List Int)) (c:Bool):Option (aU × Bool):=
 if c then (some (([]:aU),false)) else (if ((b.length:Int) == 0) then (some (a,true)) else (ob (cat a ([40]:aU)) fun d=>
 ob (aDr b ([44]:aU)) fun e=>
 ob (cat d e) fun f=>
 ob (cat f ([41]:aU)) fun g=>
 some (g,true)))
def aDs (b:aU) (a:(List Int)):Option (aU × Bool):=
 if (b == ([116,97,117]:aU)) then (some (([116,97,117]:aU),(a.length:Int) == 0)) else (ob (aCi b) fun c=>
 if (!c) then (tZ b a true) else (if (decide (2 < (a.length:Int))) then (tZ b a true) else (ob (aAT a) fun d=>
 tZ b a (!d))))
def eY (a:Bool):Option Bool:=
 some a
def gM (a b:aU):Option Bool:=
 if (decide ((b.length:Int)≤(a.length:Int))) then (ob (tU a (wr ((a.length:Int) - (b.length:Int))) (a.length:Int)) fun c=>
 eY (c == b)) else (eY false)
def gH (a b:aU):Option aU:=
 ob (gM a b) fun c=>
 if c then (ob (tU a 0 (wr ((a.length:Int) - (b.length:Int)))) fun d=>
 some d) else (some a)
def kQ (a b:aU):Option aU:=
 ob (gH a b) fun c=>
 some c
def oR (a:(aU × aU × Bool)) (b:List Int) (c:Bool):Option (aU × (List Int) × Bool):=
 if c then (some (([]:aU),[],false)) else (some (a.1,b,true))
def oS (d:aU) (a:(aU × aU × Bool)) (b:List Int):Option (aU × (List Int) × Bool):=
 ob (aDs a.1 b) fun c=>
 if (!c.2) then (oR a b true) else (oR a b (!(c.1 == d)))
def aCU (b:aU):Option (aU × (List Int) × Bool):=
 ob (l_Cut b ([40]:aU)) fun a=>
 if a.2.2 then (ob (kQ a.2.1 ([41]:aU)) fun d=>
 ob (aGf d ([44]:aU)) fun e=>
 ob (vA e) fun c=>
 if (!c.2) then (some (([]:aU),[],false)) else (oS b a c.1)) else (oS b a [])
def aBU (a:aU):Option Bool:=
 ob (aCU a) fun b=>
 some b.2.2
def aFe (a:(List UInt8)):Option Bool:=
 some (decide (1048576 < (a.length:Int)))
def aFf (a:(List UInt8)):Option (Int × Int):=
 some (0,0)
def aBE:Option Int:=
 some (-1)
def uA (b:(List aU)) (c:aU) (a:Int):Option (Int ⊕ (Unit ⊕ Int)):=
 if (decide (a < (b.length:Int))) then (ob (ix b a) fun d=>
 if (d == c) then (some (.inr (.inr a))) else (some (.inl (wr (a+1))))) else (some (.inr (.inl ())))
def aAb (b:(List aU)) (c:aU):Option Int:=
 ob (loop (fun (s:Int)=>uA b c s) 0) fun r=>match r with|.inl r=>aBE|.inr r=>some r
def aBF (a:List aU):Option (List aU):=
 some a
def nP (a:Int) (b:List aU):Option ((List aU × Int) ⊕ (List aU)):=
 some (.inl (b,wr (a+1)))
def uB (c:Int) (d:aU) (a:Int) (b:List aU):Option ((List aU × Int) ⊕ (List aU)):=
 ob (ix b a) fun f=>
 ob (st b a (d:aU)) fun e=>
 nP c e
def nR (c:Int) (b:List aU) (a:Int):Option ((List aU × Int) ⊕ (List aU)):=
 if (decide (c < a)) then (ob (ix b (wr (a - 1))) fun d=>
 ob (ix b a) fun f=>
 ob (st b a (d:aU)) fun e=>
 some (.inl (e,wr (a - 1)))) else (some (.inr b))
def uC (c:List aU) (d:Int) (e:aU) (a:Int):Option ((List aU × Int) ⊕ (List aU)):=
 ob (pX c ([([]:aU)]:List aU)) fun b=>
 ob (loop (fun (s:(List aU × Int))=>nR a s.1 s.2) (b,wr ((b.length:Int) - 1))) fun r=>uB d e a r
def qC (a:Int) (b:Bool):Option (Int ⊕ Int):=
 if b then (some (.inl (wr (a+1)))) else (some (.inr a))
def jG (b:List aU) (c:aU) (a:Int):Option (Int ⊕ Int):=
 if (decide (a < (b.length:Int))) then (ob (ix b a) fun d=>
 qC a (wU d c)) else (qC a false)
def hY (d:(List aU)) (a:List aU) (b:Int):Option ((List aU × Int) ⊕ (List aU)):=
 if (decide (b < (d.length:Int))) then (ob (ix d b) fun c=>
 ob (aAb a c) fun e=>
 if (decide (0≤e)) then (nP b a) else (ob (loop (fun (s:Int)=>jG a c s) 1) fun r=>uC a b c r)) else (some (.inr a))
def uD (a:(List aU)):Option (List aU):=
 ob (loop (fun (s:(List aU × Int))=>hY a s.1 s.2) (([([116,97,117]:aU)]:List aU),0)) fun r=>aBF r
def aBV (a b:Edge):Option Bool:=
 if (a.F != b.F) then (some (decide (a.F < b.F))) else (if (a.B != b.B) then (some (decide (a.B < b.B))) else (some (decide (a.To < b.To))))
def aAU (e:Edge) (b:Int) (c:List Edge):Option (List Edge):=
 ob (ix c b) fun f=>
 ob (st c b (⟨e.F,e.B,e.To⟩:Edge)) fun d=>
 some d
def wZ (d:Int) (b:List Edge) (a:Int):Option ((List Edge × Int) ⊕ (List Edge)):=
 if (decide (d < a)) then (ob (ix b (wr (a - 1))) fun c=>
 ob (ix b a) fun f=>
 ob (st b a (⟨c.F,c.B,c.To⟩:Edge)) fun e=>
 some (.inl (e,wr (a - 1)))) else (some (.inr b))
def xA (a:(List Edge)) (e:Edge) (b:Int) (f:Bool):Option (List Edge):=
 if f then (some a) else (ob (pX a ([⟨0,0,0⟩]:List Edge)) fun c=>
 ob (loop (fun (s:(List Edge × Int))=>wZ b s.1 s.2) (c,wr ((c.length:Int) - 1))) fun r=>aAU e b r)
def aAV (b:(List Edge)) (e:Edge) (a:Int):Option (List Edge):=
 if (decide (0 < a)) then (ob (ix b (wr (a - 1))) fun d=>
 xA b e a (decide ((d:Edge)=e))) else (xA b e a false)
def xB (a:Int) (b:Bool):Option (Int ⊕ Int):=
 if b then (some (.inl (wr (a - 1)))) else (some (.inr a))
def sH (b:(List Edge)) (e:Edge) (a:Int):Option (Int ⊕ Int):=
 if (decide (0 < a)) then (ob (ix b (wr (a - 1))) fun d=>
 ob (aBV e d) fun f=>
 xB a f) else (xB a false)
def aEF (a:(List Edge)) (e:Edge):Option (List Edge):=
 ob (loop (fun (s:Int)=>sH a e s) (a.length:Int)) fun r=>aAV a e r
def aBG (a b:Int) (c:(List aU)) (d:List Edge):Option cG:=
 some ⟨a,b,c,d⟩
def jH (e:(List aU)) (c:(List Edge)) (f:(List aU)) (d:List Edge) (a:Int):Option ((List Edge × Int) ⊕ (List Edge)):=
 if (decide (a < (c.length:Int))) then (ob (ix c a) fun b=>
 ob (ix e b.B) fun g=>
 ob (aAb f g) fun h=>
 ob (aEF d ⟨b.F,h,b.To⟩) fun i=>
 some (.inl (i,wr (a+1)))) else (some (.inr d))
def oT (c d:Int) (a:(List aU)) (e:(List Edge)):Option cG:=
 ob (uD a) fun b=>
 ob (loop (fun (s:(List Edge × Int))=>jH a e b s.1 s.2) (([]:List Edge),0)) fun r=>aBG c d b r
def aAs:Option Int:=
 some (-1)
def qY (b:(List Int)) (n a:Int):Option (Int ⊕ (Unit ⊕ Int)):=
 if (decide (a < (b.length:Int))) then (ob (ix b a) fun d=>
 if (d == n) then (some (.inr (.inr a))) else (some (.inl (wr (a+1))))) else (some (.inr (.inl ())))
def wL (b:(List Int)) (n:Int):Option Int:=
 ob (loop (fun (s:Int)=>qY b n s) 0) fun r=>match r with|.inl r=>aAs|.inr r=>some r
def aBH (a:(List Int)) (b:Int) (c:List aU) (d:List Edge):Option cG:=
 some ⟨(a.length:Int),b,c,d⟩
def qD (a:Int) (b:List Edge):Option ((List Edge × Int) ⊕ (List Edge)):=
 some (.inl (b,wr (a+1)))
def qE (a:List Edge) (b:Int) (c:Edge) (d e:Int) (f:Bool):Option ((List Edge × Int) ⊕ (List Edge)):=
 if f then (ob (pX a ([⟨d,c.B,e⟩]:List Edge)) fun g=>
 qD b g) else (qD b a)
def qF (t:cG) (g:(List Int)) (c:List Edge) (a:Int):Option ((List Edge × Int) ⊕ (List Edge)):=
 if (decide (a < (t.E.length:Int))) then (ob (ix t.E a) fun b=>
 ob (wL g b.F) fun d=>
 ob (wL g b.To) fun e=>
 if (decide (0≤d)) then (qE c a b d e (decide (0≤e))) else (qE c a b d e false)) else (some (.inr c))
def xC (t:cG) (b:(List Int)):Option cG:=
 ob (wL b t.I) fun c=>
 ob (pX ([]:List aU) t.L) fun d=>
 ob (loop (fun (s:(List Edge × Int))=>qF t b s.1 s.2) (([]:List Edge),0)) fun r=>aBH b c d r
def aAt (a:List Int):Option (List Int):=
 some a
def vC (a:Int) (b:List Int):Option ((List Int × Int) ⊕ (List Int)):=
 some (.inl (b,wr (a+1)))
def qZ (t:cG) (d:List Bool) (b:List Int) (a:Int):Option ((List Int × Int) ⊕ (List Int)):=
 if (decide (a < t.N)) then (ob (ix d a) fun e=>
 if e then (ob (pX b ([a]:List Int)) fun f=>
 vC a f) else (vC a b)) else (some (.inr b))
def vD (t:cG) (b:List Bool):Option (List Int):=
 ob (loop (fun (s:(List Int × Int))=>qZ t b s.1 s.2) (([]:List Int),0)) fun r=>aAt r
def aDc (a:List Bool) (b:Bool):Option ((List Bool × Bool) ⊕ (List Bool)):=
 some (.inl (a,b))
def aAu (a:List Bool) (b:Bool):Option ((List Bool × Bool) ⊕ (List Bool)):=
 aDc a b
def oC (a:Int) (b:List Bool) (c:Bool):Option ((List Bool × Bool × Int) ⊕ (List Bool × Bool)):=
 some (.inl (b,c,wr (a+1)))
def oD (t:cG) (a:List Bool) (e:Bool) (b:Int) (f:Bool):Option ((List Bool × Bool × Int) ⊕ (List Bool × Bool)):=
 if f then (ob (ix t.E b) fun c=>
 ob (ix a c.To) fun h=>
 ob (st a c.To (true:Bool)) fun g=>
 oC b g true) else (oC b a e)
def rA (t:cG) (a:List Bool) (d:Bool) (c:Int):Option ((List Bool × Bool × Int) ⊕ (List Bool × Bool)):=
 if (decide (c < (t.E.length:Int))) then (ob (ix t.E c) fun e=>
 ob (ix a e.F) fun f=>
 if f then (ob (ix a e.To) fun g=>
 oD t a d c (!g)) else (oD t a d c false)) else (some (.inr (a,d)))
def xR (t:cG) (a:List Bool) (d:Bool):Option ((List Bool × Bool) ⊕ (List Bool)):=
 if d then (ob (loop (fun (s:(List Bool × Bool × Int))=>rA t s.1 s.2.1 s.2.2) (a,false,0)) fun r=>aAu r.1 r.2) else (some (.inr a))
def sI (t:cG):Option (List Int):=
 ob (mkz t.N (false:Bool)) fun b=>
 ob (ix b t.I) fun e=>
 ob (st b t.I (true:Bool)) fun c=>
 ob (loop (fun (s:(List Bool × Bool))=>xR t s.1 s.2) (c,true)) fun r=>vD t r
def aGh (a b:Int):Option Int:=
 if (decide (b < a)) then (some a) else (some b)
def xS (a:Int):Option Int:=
 some a
def mR (p:(List Int)) (c a:Int):Option ((Int × Int) ⊕ Int):=
 if (decide (a < (p.length:Int))) then (ob (ix p a) fun d=>
 ob (aGh c (wr (d+1))) fun e=>
 some (.inl (e,wr (a+1)))) else (some (.inr c))
def pU (p:(List Int)):Option Int:=
 ob (loop (fun (s:(Int × Int))=>mR p s.1 s.2) (0,0)) fun r=>xS r
def oU (t:cG) (p:(List Int)) (c:List Edge):Option cG:=
 ob (ix p t.I) fun d=>
 ob (pU p) fun e=>
 ob (oT e d t.L c) fun f=>
 some f
def mM (t:cG) (p:(List Int)) (e:List Edge) (a:Int):Option ((List Edge × Int) ⊕ (List Edge)):=
 if (decide (a < (t.E.length:Int))) then (ob (ix t.E a) fun b=>
 ob (ix p b.F) fun f=>
 ob (ix p b.To) fun g=>
 ob (pX e ([⟨f,b.B,g⟩]:List Edge)) fun h=>
 some (.inl (h,wr (a+1)))) else (some (.inr e))
def rB (t:cG) (p:(List Int)):Option cG:=
 ob (loop (fun (s:(List Edge × Int))=>mM t p s.1 s.2) (([]:List Edge),0)) fun r=>oU t p r
def aBI:Option Bool:=
 some true
def lX (a b:(List Int)) (c:Int):Option (Int ⊕ (Unit ⊕ Bool)):=
 if (decide (c < (a.length:Int))) then (ob (ix a c) fun f=>
 ob (ix b c) fun g=>
 if (f != g) then (some (.inr (.inr false))) else (some (.inl (wr (c+1))))) else (some (.inr (.inl ())))
def oV (a b:(List Int)):Option Bool:=
 if ((a.length:Int) != (b.length:Int)) then (some false) else (ob (loop (fun (s:Int)=>lX a b s) 0) fun r=>match r with|.inl r=>aBI|.inr r=>some r)
def aAW (a:List Int):Option (List Int):=
 some a
def aAX (n:Int) (a:List Int) (c:Bool):Option (List Int):=
 if (!c) then (ob (pX a ([n]:List Int)) fun d=>
 aAW d) else (aAW a)
def sJ (b:(List Int)) (a:Int) (c:List Int) (d:Bool):Option ((List Int × Bool × Int) ⊕ (List Int × Bool)):=
 ob (ix b a) fun e=>
 ob (pX c ([e]:List Int)) fun f=>
 some (.inl (f,d,wr (a+1)))
def xD (a:(List Int)) (n:Int) (c:List Int) (e:Bool) (b:Int) (f:Bool):Option ((List Int × Bool × Int) ⊕ (List Int × Bool)):=
 if f then (ob (ix a b) fun g=>
 if (decide (n < g)) then (ob (pX c ([n]:List Int)) fun h=>
 sJ a b h true) else (sJ a b c true)) else (sJ a b c e)
def pV (a:(List Int)) (n:Int) (e:List Int) (b:Bool) (c:Int):Option ((List Int × Bool × Int) ⊕ (List Int × Bool)):=
 if (decide (c < (a.length:Int))) then (if (!b) then (ob (ix a c) fun f=>
 xD a n e b c (decide (n≤f))) else (xD a n e b c false)) else (some (.inr (e,b)))
def aDt (c:(List Int)) (n:Int):Option (List Int):=
 ob (loop (fun (s:(List Int × Bool × Int))=>pV c n s.1 s.2.1 s.2.2) (([]:List Int),false,0)) fun r=>aAX n r.1 r.2
def aBJ (a:List Int):Option (List Int):=
 some a
def xT (a:Int) (b:List Int):Option ((List Int × Int) ⊕ (List Int)):=
 some (.inl (b,wr (a+1)))
def lY (t:cG) (p:(List Int)) (k:Int) (b:List Int) (a:Int):Option ((List Int × Int) ⊕ (List Int)):=
 if (decide (a < (t.E.length:Int))) then (ob (ix t.E a) fun c=>
 if (c.F == k) then (ob (ix p c.To) fun g=>
 ob (aDt b (wr ((wr (c.B * (p.length:Int)))+g))) fun h=>
 xT a h) else (xT a b)) else (some (.inr b))
def aDu (t:cG) (p:(List Int)) (k:Int):Option (List Int):=
 ob (loop (fun (s:(List Int × Int))=>lY t p k s.1 s.2) (([]:List Int),0)) fun r=>aBJ r
def xU (a:List Int):Option (List Int):=
 some a
def xV (a:Int) (b:List Int) (c:Int):Option ((List Int × Int × Int) ⊕ (List Int)):=
 some (.inl (b,c,wr (a+1)))
def sK (a:List Int) (b c d:Int):Option ((List Int × Int × Int) ⊕ (List Int)):=
 ob (pX a ([d]:List Int)) fun e=>
 xV b e c
def sL (b:List Int) (a c d:Int):Option ((List Int × Int × Int) ⊕ (List Int)):=
 if (decide (d < 0)) then (sK b c (wr (a+1)) a) else (sK b c a d)
def oW (a b:Int):Option ((Int × Int) ⊕ Int):=
 some (.inl (b,wr (a+1)))
def mS (b:List Int) (c a:Int) (d:Bool):Option ((Int × Int) ⊕ Int):=
 if d then (ob (ix b a) fun e=>
 oW a e) else (oW a c)
def mT (p:(List Int)) (d:List (List Int)) (e:List Int) (f b a:Int) (g:Bool):Option ((Int × Int) ⊕ Int):=
 if g then (ob (ix p a) fun h=>
 ob (ix p f) fun i=>
 if (h == i) then (ob (ix d a) fun j=>
 ob (ix d f) fun k=>
 ob (oV j k) fun l=>
 mS e b a l) else (mS e b a false)) else (some (.inr b))
def kR (p:(List Int)) (e:List (List Int)) (f:List Int) (a b c:Int):Option ((Int × Int) ⊕ Int):=
 if (decide (c < a)) then (mT p e f a b c (decide (b < 0))) else (mT p e f a b c false)
def jI (p:(List Int)) (d:List (List Int)) (a:List Int) (e b:Int):Option ((List Int × Int × Int) ⊕ (List Int)):=
 if (decide (b < (p.length:Int))) then (ob (loop (fun (s:(Int × Int))=>kR p d a b s.1 s.2) ((-1),0)) fun r=>sL a e b r) else (some (.inr a))
def lG (p:(List Int)) (b:List (List Int)):Option (List Int):=
 ob (loop (fun (s:(List Int × Int × Int))=>jI p b s.1 s.2.1 s.2.2) (([]:List Int),0,0)) fun r=>xU r
def iK (t:cG) (p:(List Int)) (c:List (List Int)) (a:Int):Option ((List (List Int) × Int) ⊕ (List (List Int))):=
 if (decide (a < t.N)) then (ob (aDu t p a) fun e=>
 ob (pX c ([e]:List (List Int))) fun f=>
 some (.inl (f,wr (a+1)))) else (some (.inr c))
def aAY (t:cG) (p:(List Int)):Option (List Int):=
 ob (loop (fun (s:(List (List Int) × Int))=>iK t p s.1 s.2) (([]:List (List Int)),0)) fun r=>lG p r
def kT (t:cG) (a:List Int) (b:Int):Option ((List Int × Int) ⊕ ((List Int) × Int)):=
 ob (aAY t a) fun c=>
 ob (oV c a) fun e=>
 if e then (some (.inr (a,b))) else (some (.inl (c,wr (b+1))))
def aAZ (t:cG):Option ((List Int) × Int):=
 ob (mkz t.N (0:Int)) fun b=>
 ob (loop (fun (s:(List Int × Int))=>kT t s.1 s.2) (b,0)) fun r=>some r
def aBW (t:cG):Option (List Int):=
 ob (aAZ t) fun b=>
 some b.1
def aAc (t:cG):Option cG:=
 ob (sI t) fun c=>
 ob (xC t c) fun b=>
 ob (aBW b) fun d=>
 ob (rB b d) fun e=>
 some e
def vE (a:Bool):Option Bool:=
 some a
def sM (e:Edge) (p:(List Int)):Option Bool:=
 if (e.B == 0) then (ob (ix p e.F) fun c=>
 ob (ix p e.To) fun d=>
 vE (c == d)) else (vE false)
def aBK (a:List Int):Option (List Int):=
 some a
def xW (a:Int) (b:List Int):Option ((List Int × Int) ⊕ (List Int)):=
 some (.inl (b,wr (a+1)))
def lZ (c:(List Bool)) (b:List Int) (a:Int):Option ((List Int × Int) ⊕ (List Int)):=
 if (decide (a < (c.length:Int))) then (ob (ix c a) fun d=>
 if d then (ob (pX b ([a]:List Int)) fun e=>
 xW a e) else (xW a b)) else (some (.inr b))
def aDv (a:(List Bool)):Option (List Int):=
 ob (loop (fun (s:(List Int × Int))=>lZ a s.1 s.2) (([]:List Int),0)) fun r=>aBK r
def qS (a:List Bool):Option (List Bool):=
 some a
def aBo (a:List Bool) (b:Bool):Option ((List Bool × Bool) ⊕ (List Bool)):=
 some (.inl (a,b))
def wA (a:List Bool) (b:Bool):Option ((List Bool × Bool) ⊕ (List Bool)):=
 aBo a b
def lH (a:Int) (b:List Bool) (c:Bool):Option ((List Bool × Bool × Int) ⊕ (List Bool × Bool)):=
 some (.inl (b,c,wr (a+1)))
def qT (b:List Bool) (c:Bool) (a:Int) (d:Bool):Option ((List Bool × Bool × Int) ⊕ (List Bool × Bool)):=
 if (!d) then (ob (st b a (false:Bool)) fun e=>
 lH a e true) else (lH a b c)
def jX (a:Int) (b:Bool):Option ((Bool × Int) ⊕ Bool):=
 some (.inl (b,wr (a+1)))
def iL (t:cG) (p:(List Int)) (f:List Bool) (g:Int) (d:Bool) (a:Int):Option ((Bool × Int) ⊕ Bool):=
 if (decide (a < (t.E.length:Int))) then (ob (ix t.E a) fun b=>
 if d then (jX a true) else (if (b.F == g) then (ob (sM b p) fun h=>
 if h then (ob (ix f b.To) fun i=>
 jX a i) else (jX a false)) else (jX a false))) else (some (.inr d))
def jY (t:cG) (p:(List Int)) (a:List Bool) (c:Bool) (b:Int):Option ((List Bool × Bool × Int) ⊕ (List Bool × Bool)):=
 if (decide (b < t.N)) then (ob (ix a b) fun f=>
 if (!f) then (lH b a c) else (ob (loop (fun (s:(Bool × Int))=>iL t p a b s.1 s.2) (false,0)) fun r=>qT a c b r)) else (some (.inr (a,c)))
def lI (t:cG) (p:(List Int)) (a:List Bool) (e:Bool):Option ((List Bool × Bool) ⊕ (List Bool)):=
 if e then (ob (loop (fun (s:(List Bool × Bool × Int))=>jY t p s.1 s.2.1 s.2.2) (a,false,0)) fun r=>wA r.1 r.2) else (some (.inr a))
def oX (t:cG) (p:(List Int)) (c:List Bool):Option (List Bool):=
 ob (loop (fun (s:(List Bool × Bool))=>lI t p s.1 s.2) (c,true)) fun r=>qS r
def iA (t:cG) (b:List Bool) (a:Int):Option ((List Bool × Int) ⊕ (List Bool)):=
 if (decide (a < t.N)) then (ob (ix b a) fun e=>
 ob (st b a (true:Bool)) fun d=>
 some (.inl (d,wr (a+1)))) else (some (.inr b))
def uE (t:cG) (p:(List Int)):Option (List Bool):=
 ob (mkz t.N (false:Bool)) fun c=>
 ob (loop (fun (s:(List Bool × Int))=>iA t s.1 s.2) (c,0)) fun r=>oX t p r
def mN (t:cG) (p:(List Int)) (c:List Edge):Option cG:=
 ob (ix p t.I) fun d=>
 ob (pU p) fun e=>
 ob (oT e d t.L c) fun f=>
 some f
def oY (t:cG) (p:(List Int)) (c:List Edge):Option cG:=
 mN t p c
def iB (p b:(List Int)) (c:List Edge) (a:Int):Option ((List Edge × Int) ⊕ (List Edge)):=
 if (decide (a < (b.length:Int))) then (ob (ix b a) fun f=>
 ob (ix p f) fun d=>
 ob (pX c ([⟨d,0,d⟩]:List Edge)) fun g=>
 some (.inl (g,wr (a+1)))) else (some (.inr c))
def oZ (t:cG) (p:(List Int)) (d:Bool) (c:List Edge):Option cG:=
 if d then (ob (uE t p) fun e=>
 ob (aDv e) fun f=>
 ob (loop (fun (s:(List Edge × Int))=>iB p f s.1 s.2) (c,0)) fun r=>oY t p r) else (mN t p c)
def pA (a:Int) (b:List Edge):Option ((List Edge × Int) ⊕ (List Edge)):=
 some (.inl (b,wr (a+1)))
def iC (t:cG) (p:(List Int)) (d:List Edge) (a:Int):Option ((List Edge × Int) ⊕ (List Edge)):=
 if (decide (a < (t.E.length:Int))) then (ob (ix t.E a) fun b=>
 ob (sM b p) fun f=>
 if (!f) then (ob (ix p b.F) fun g=>
 ob (ix p b.To) fun h=>
 ob (pX d ([⟨g,b.B,h⟩]:List Edge)) fun i=>
 pA a i) else (pA a d)) else (some (.inr d))
def rC (t:cG) (p:(List Int)) (c:Bool):Option cG:=
 ob (loop (fun (s:(List Edge × Int))=>iC t p s.1 s.2) (([]:List Edge),0)) fun r=>oZ t p c r
def aAv (a:List Bool):Option (List Bool):=
 some a
def aDd (a:List Bool) (b:Bool):Option ((List Bool × Bool) ⊕ (List Bool)):=
 some (.inl (a,b))
def aAw (a:List Bool) (b:Bool):Option ((List Bool × Bool) ⊕ (List Bool)):=
 aDd a b
def rD (a:Int) (b:List Bool) (c:Bool):Option ((List Bool × Bool × Int) ⊕ (List Bool × Bool)):=
 some (.inl (b,c,wr (a+1)))
def mC (a:List Bool) (d:Bool) (b:Int) (c:Edge) (e:Bool):Option ((List Bool × Bool × Int) ⊕ (List Bool × Bool)):=
 if e then (ob (ix a c.To) fun g=>
 ob (st a c.To (true:Bool)) fun f=>
 rD b f true) else (rD b a d)
def mD (t:cG) (p:(List Int)) (a:List Bool) (d:Bool) (c:Int):Option ((List Bool × Bool × Int) ⊕ (List Bool × Bool)):=
 if (decide (c < (t.E.length:Int))) then (ob (ix t.E c) fun b=>
 ob (ix a b.F) fun g=>
 if g then (ob (ix a b.To) fun h=>
 if (!h) then (ob (sM b p) fun i=>
 mC a d c b i) else (mC a d c b false)) else (mC a d c b false)) else (some (.inr (a,d)))
def oE (t:cG) (p:(List Int)) (a:List Bool) (e:Bool):Option ((List Bool × Bool) ⊕ (List Bool)):=
 if e then (ob (loop (fun (s:(List Bool × Bool × Int))=>mD t p s.1 s.2.1 s.2.2) (a,false,0)) fun r=>aAw r.1 r.2) else (some (.inr a))
def aCj (t:cG) (p:(List Int)) (k:Int):Option (List Bool):=
 ob (mkz t.N (false:Bool)) fun c=>
 ob (ix c k) fun g=>
 ob (st c k (true:Bool)) fun e=>
 ob (loop (fun (s:(List Bool × Bool))=>oE t p s.1 s.2) (e,true)) fun r=>aAv r
def xX (a:List Int):Option (List Int):=
 some a
def pB (a:Int) (b:List Int):Option ((List Int × Int) ⊕ (List Int)):=
 some (.inl (b,wr (a+1)))
def mU (p:(List Int)) (b:List Int) (c:Int) (d:Edge) (e:Bool):Option ((List Int × Int) ⊕ (List Int)):=
 if e then (ob (ix p d.To) fun f=>
 ob (aDt b (wr ((wr (d.B * (p.length:Int)))+f))) fun g=>
 pB c g) else (pB c b)
def jJ (t:cG) (p:(List Int)) (f:(List Bool)) (d:List Int) (a:Int):Option ((List Int × Int) ⊕ (List Int)):=
 if (decide (a < (t.E.length:Int))) then (ob (ix t.E a) fun b=>
 ob (ix f b.F) fun g=>
 if g then (ob (sM b p) fun h=>
 mU p d a b (!h)) else (mU p d a b false)) else (some (.inr d))
def aBa (t:cG) (p:(List Int)) (k:Int):Option (List Int):=
 ob (aCj t p k) fun d=>
 ob (loop (fun (s:(List Int × Int))=>jJ t p d s.1 s.2) (([]:List Int),0)) fun r=>xX r
def xY (a:List Int):Option (List Int):=
 some a
def aCk (a:Int) (b:List Int) (c:Int):Option ((List Int × Int × Int) ⊕ (List Int)):=
 some (.inl (b,c,wr (a+1)))
def xZ (a:List Int) (b c d:Int):Option ((List Int × Int × Int) ⊕ (List Int)):=
 ob (pX a ([d]:List Int)) fun e=>
 aCk b e c
def yA (b:List Int) (a c d:Int):Option ((List Int × Int × Int) ⊕ (List Int)):=
 if (decide (d < 0)) then (xZ b c (wr (a+1)) a) else (xZ b c a d)
def yB (a b:Int):Option ((Int × Int) ⊕ Int):=
 some (.inl (b,wr (a+1)))
def yC (b:List Int) (c a:Int) (d:Bool):Option ((Int × Int) ⊕ Int):=
 if d then (ob (ix b a) fun e=>
 yB a e) else (yB a c)
def yD (p:(List Int)) (d:List (List Int)) (e:List Int) (f b a:Int) (g:Bool):Option ((Int × Int) ⊕ Int):=
 if g then (ob (ix p a) fun h=>
 ob (ix p f) fun i=>
 if (h == i) then (ob (ix d a) fun j=>
 ob (ix d f) fun k=>
 ob (oV j k) fun l=>
 yC e b a l) else (yC e b a false)) else (some (.inr b))
def aCl (p:(List Int)) (e:List (List Int)) (f:List Int) (a b c:Int):Option ((Int × Int) ⊕ Int):=
 if (decide (c < a)) then (yD p e f a b c (decide (b < 0))) else (yD p e f a b c false)
def aCm (p:(List Int)) (d:List (List Int)) (a:List Int) (e b:Int):Option ((List Int × Int × Int) ⊕ (List Int)):=
 if (decide (b < (p.length:Int))) then (ob (loop (fun (s:(Int × Int))=>aCl p d a b s.1 s.2) ((-1),0)) fun r=>yA a e b r) else (some (.inr a))
def qU (p:(List Int)) (b:List (List Int)):Option (List Int):=
 ob (loop (fun (s:(List Int × Int × Int))=>aCm p b s.1 s.2.1 s.2.2) (([]:List Int),0,0)) fun r=>xY r
def nK (a:List (List Int)) (b:Int) (c:List Int):Option ((List (List Int) × Int) ⊕ (List (List Int))):=
 ob (pX a ([c]:List (List Int))) fun d=>
 some (.inl (d,wr (b+1)))
def nL (a:List (List Int)) (b:Int) (c:(List Int)) (d:Bool):Option ((List (List Int) × Int) ⊕ (List (List Int))):=
 if d then (ob (pX c ([(-1)]:List Int)) fun e=>
 nK a b e) else (nK a b c)
def iM (t:cG) (p:(List Int)) (f:Bool) (g:(List Bool)) (b:List (List Int)) (a:Int):Option ((List (List Int) × Int) ⊕ (List (List Int))):=
 if (decide (a < t.N)) then (ob (aBa t p a) fun d=>
 if f then (ob (ix g a) fun h=>
 nL b a d h) else (nL b a d false)) else (some (.inr b))
def aBb (t:cG) (p:(List Int)) (c:Bool):Option (List Int):=
 ob (uE t p) fun d=>
 ob (loop (fun (s:(List (List Int) × Int))=>iM t p c d s.1 s.2) (([]:List (List Int)),0)) fun r=>qU p r
def uF (t:cG) (d:Bool) (a:List Int):Option ((List Int) ⊕ (List Int)):=
 ob (aBb t a d) fun b=>
 ob (oV b a) fun e=>
 if e then (some (.inr a)) else (some (.inl b))
def aDw (t:cG) (b:Bool):Option (List Int):=
 ob (mkz t.N (0:Int)) fun c=>
 ob (loop (fun (s:List Int)=>uF t b s) c) fun r=>some r
def sO (t:cG) (b:Bool):Option cG:=
 ob (sI t) fun d=>
 ob (xC t d) fun c=>
 ob (aDw c b) fun e=>
 ob (rC c e b) fun f=>
 some f
def aAx (a:List Bool):Option (List Bool):=
 some a
def aAy (a:Int) (b:List Bool):Option ((List Bool × Int) ⊕ (List Bool)):=
 some (.inl (b,wr (a+1)))
def vF (a:Int) (b:List Bool):Option ((List Bool × Int) ⊕ (List Bool)):=
 aAy a b
def vG (a:Int) (b:List Bool):Option ((List Bool × Int) ⊕ (List Bool)):=
 some (.inl (b,wr (a+1)))
def vH (a:Int) (b:List Bool):Option ((List Bool × Int) ⊕ (List Bool)):=
 vG a b
def vI (a:Int) (b:List Bool):Option ((List Bool × Int) ⊕ (List Bool)):=
 some (.inl (b,wr (a+1)))
def mE (n e d:Int) (b:List Bool) (a:Int):Option ((List Bool × Int) ⊕ (List Bool)):=
 if (decide (a < n)) then (ob (ix b (wr ((wr (e * n))+a))) fun f=>
 if f then (ob (ix b (wr ((wr (d * n))+a))) fun h=>
 ob (st b (wr ((wr (d * n))+a)) (true:Bool)) fun g=>
 vI a g) else (vI a b)) else (some (.inr b))
def mF (n d:Int) (b:List Bool) (a:Int):Option ((List Bool × Int) ⊕ (List Bool)):=
 if (decide (a < n)) then (ob (ix b (wr ((wr (a * n))+d))) fun e=>
 if (!e) then (vG a b) else (ob (loop (fun (s:(List Bool × Int))=>mE n d a s.1 s.2) (b,0)) fun r=>vH a r)) else (some (.inr b))
def mG (n:Int) (c:List Bool) (a:Int):Option ((List Bool × Int) ⊕ (List Bool)):=
 if (decide (a < n)) then (ob (loop (fun (s:(List Bool × Int))=>mF n a s.1 s.2) (c,0)) fun r=>vF a r) else (some (.inr c))
def sP (n:Int) (b:List Bool):Option (List Bool):=
 ob (loop (fun (s:(List Bool × Int))=>mG n s.1 s.2) (b,0)) fun r=>aAx r
def kU (n:Int) (c:List Bool) (a:Int):Option ((List Bool × Int) ⊕ (List Bool)):=
 if (decide (a < n)) then (ob (ix c (wr ((wr (a * n))+a))) fun e=>
 ob (st c (wr ((wr (a * n))+a)) (true:Bool)) fun d=>
 some (.inl (d,wr (a+1)))) else (some (.inr c))
def aCn (n:Int) (m:(List Bool)):Option (List Bool):=
 ob (loop (fun (s:(List Bool × Int))=>kU n s.1 s.2) (m,0)) fun r=>sP n r
def vJ (t:cG) (b:List Bool):Option (List Bool):=
 ob (aCn t.N b) fun c=>
 some c
def vK (a:Int) (b:List Bool):Option ((List Bool × Int) ⊕ (List Bool)):=
 some (.inl (b,wr (a+1)))
def mH (t:cG) (c:List Bool) (d:Int):Option ((List Bool × Int) ⊕ (List Bool)):=
 if (decide (d < (t.E.length:Int))) then (ob (ix t.E d) fun a=>
 if (a.B == 0) then (ob (ix c (wr ((wr (a.F * t.N))+a.To))) fun f=>
 ob (st c (wr ((wr (a.F * t.N))+a.To)) (true:Bool)) fun e=>
 vK d e) else (vK d c)) else (some (.inr c))
def aCo (t:cG):Option (List Bool):=
 ob (mkz (wr (t.N * t.N)) (false:Bool)) fun b=>
 ob (loop (fun (s:(List Bool × Int))=>mH t s.1 s.2) (b,0)) fun r=>vJ t r
def aBL (a:List Bool):Option (List Bool):=
 some a
def nS (t:cG) (d:(List Bool)) (e:Int) (b:List Bool) (a:Int):Option ((List Bool × Int) ⊕ (List Bool)):=
 if (decide (a < t.N)) then (ob (ix d (wr ((wr (e * t.N))+a))) fun f=>
 ob (ix b a) fun h=>
 ob (st b a (f:Bool)) fun g=>
 some (.inl (g,wr (a+1)))) else (some (.inr b))
def aBM (a:List Bool):Option (List Bool):=
 some a
def uG (a:Int) (b:List Bool):Option ((List Bool × Int) ⊕ (List Bool)):=
 some (.inl (b,wr (a+1)))
def yE (a:Int) (b:List Bool):Option ((List Bool × Int) ⊕ (List Bool)):=
 uG a b
def yF (a:Int) (b:List Bool):Option ((List Bool × Int) ⊕ (List Bool)):=
 some (.inl (b,wr (a+1)))
def nT (t:cG) (d:(List Bool)) (e:Edge) (b:List Bool) (a:Int):Option ((List Bool × Int) ⊕ (List Bool)):=
 if (decide (a < t.N)) then (ob (ix d (wr ((wr (e.To * t.N))+a))) fun f=>
 if f then (ob (ix b a) fun h=>
 ob (st b a (true:Bool)) fun g=>
 yF a g) else (yF a b)) else (some (.inr b))
def uH (t:cG) (d:(List Bool)) (a:List Bool) (b:Int) (e:Edge) (f:Bool):Option ((List Bool × Int) ⊕ (List Bool)):=
 if f then (uG b a) else (ob (loop (fun (s:(List Bool × Int))=>nT t d e s.1 s.2) (a,0)) fun r=>yE b r)
def nU (t:cG) (d:(List Bool)) (f g:Int) (e:List Bool) (b:Int):Option ((List Bool × Int) ⊕ (List Bool)):=
 if (decide (b < (t.E.length:Int))) then (ob (ix t.E b) fun c=>
 if (c.B != g) then (uH t d e b c true) else (ob (ix d (wr ((wr (f * t.N))+c.F))) fun h=>
 uH t d e b c (!h))) else (some (.inr e))
def aDx (t:cG) (c:(List Bool)) (d e:Int):Option (List Bool):=
 ob (mkz t.N (false:Bool)) fun f=>
 if (e == 0) then (ob (loop (fun (s:(List Bool × Int))=>nS t c d s.1 s.2) (f,0)) fun r=>aBL r) else (ob (loop (fun (s:(List Bool × Int))=>nU t c d e s.1 s.2) (f,0)) fun r=>aBM r)
def uI (t:cG) (b:List aU) (c:List Edge):Option cG:=
 some ⟨t.N,t.I,b,c⟩
def uJ (a:Int) (b:List Edge):Option ((List Edge × Int) ⊕ (List Edge)):=
 some (.inl (b,wr (a+1)))
def pC (a:Int) (b:List Edge):Option ((List Edge × Int) ⊕ (List Edge)):=
 uJ a b
def uK (a:Int) (b:List Edge):Option ((List Edge × Int) ⊕ (List Edge)):=
 some (.inl (b,wr (a+1)))
def pD (a:Int) (b:List Edge):Option ((List Edge × Int) ⊕ (List Edge)):=
 uK a b
def pE (a:Int) (b:List Edge):Option ((List Edge × Int) ⊕ (List Edge)):=
 some (.inl (b,wr (a+1)))
def iV (t:cG) (d e:Int) (f:(List Bool)) (b:List Edge) (a:Int):Option ((List Edge × Int) ⊕ (List Edge)):=
 if (decide (a < t.N)) then (ob (ix f a) fun g=>
 if g then (ob (pX b ([⟨d,e,a⟩]:List Edge)) fun h=>
 pE a h) else (pE a b)) else (some (.inr b))
def iW (t:cG) (e:(List Bool)) (c:Int) (d:List Edge) (a:Int):Option ((List Edge × Int) ⊕ (List Edge)):=
 if (decide (a < (t.L.length:Int))) then (ob (aDx t e c a) fun f=>
 ob (loop (fun (s:(List Edge × Int))=>iV t c a f s.1 s.2) (d,0)) fun r=>pD a r) else (some (.inr d))
def iX (t:cG) (d:(List Bool)) (c:List Edge) (a:Int):Option ((List Edge × Int) ⊕ (List Edge)):=
 if (decide (a < t.N)) then (ob (loop (fun (s:(List Edge × Int))=>iW t d a s.1 s.2) (c,0)) fun r=>pC a r) else (some (.inr c))
def rX (t:cG) (b:List aU):Option cG:=
 ob (aCo t) fun c=>
 ob (loop (fun (s:(List Edge × Int))=>iX t c s.1 s.2) (([]:List Edge),0)) fun r=>uI t b r
def vL (t:cG):Option cG:=
 ob (pX ([]:List aU) t.L) fun b=>
 rX t b
def aFg (t:cG):Option (List Int):=
 ob (vL t) fun b=>
 ob (aBW b) fun c=>
 some c
def aAd (t:cG):Option cG:=
 ob (sI t) fun c=>
 ob (xC t c) fun b=>
 ob (aFg b) fun d=>
 ob (rC b d false) fun e=>
 some e
def aAz (a:List Bool):Option (List Bool):=
 some a
def vM (c:(List Int)) (a:List Bool) (b:Int):Option ((List Bool × Int) ⊕ (List Bool)):=
 if (decide (b < (c.length:Int))) then (ob (ix c b) fun d=>
 ob (ix a d) fun f=>
 ob (st a d (true:Bool)) fun e=>
 some (.inl (e,wr (b+1)))) else (some (.inr a))
def aCp (t:cG) (b:(List Int)):Option (List Bool):=
 ob (mkz t.N (false:Bool)) fun c=>
 ob (loop (fun (s:(List Bool × Int))=>vM b s.1 s.2) (c,0)) fun r=>aAz r
def aAA (a:List Bool):Option (List Bool):=
 some a
def aAB (a:List Bool) (b:Bool):Option ((List Bool × Bool) ⊕ (List Bool)):=
 some (.inl (a,b))
def vN (a:List Bool) (b:Bool):Option ((List Bool × Bool) ⊕ (List Bool)):=
 aAB a b
def vO (a:Int) (b:List Bool) (c:Bool):Option ((List Bool × Bool × Int) ⊕ (List Bool × Bool)):=
 some (.inl (b,c,wr (a+1)))
def rE (a:List Bool) (d:Bool) (b:Int) (c:Edge) (e:Bool):Option ((List Bool × Bool × Int) ⊕ (List Bool × Bool)):=
 if e then (ob (ix a c.To) fun g=>
 ob (st a c.To (true:Bool)) fun f=>
 vO b f true) else (vO b a d)
def rF (t:cG) (a:List Bool) (d:Bool) (c:Int):Option ((List Bool × Bool × Int) ⊕ (List Bool × Bool)):=
 if (decide (c < (t.E.length:Int))) then (ob (ix t.E c) fun b=>
 if (b.B == 0) then (ob (ix a b.F) fun f=>
 if f then (ob (ix a b.To) fun g=>
 rE a d c b (!g)) else (rE a d c b false)) else (rE a d c b false)) else (some (.inr (a,d)))
def oF (t:cG) (a:List Bool) (d:Bool):Option ((List Bool × Bool) ⊕ (List Bool)):=
 if d then (ob (loop (fun (s:(List Bool × Bool × Int))=>rF t s.1 s.2.1 s.2.2) (a,false,0)) fun r=>vN r.1 r.2) else (some (.inr a))
def wM (t:cG) (b:(List Bool)):Option (List Bool):=
 ob (loop (fun (s:(List Bool × Bool))=>oF t s.1 s.2) (b,true)) fun r=>aAA r
def aBN (a:List Int):Option (List Int):=
 some a
def yG (a:Int) (b:List Int):Option ((List Int × Int) ⊕ (List Int)):=
 some (.inl (b,wr (a+1)))
def uL (c:(List Bool)) (b:List Int) (a:Int):Option ((List Int × Int) ⊕ (List Int)):=
 if (decide (a < (c.length:Int))) then (ob (ix c a) fun d=>
 if d then (ob (pX b ([a]:List Int)) fun e=>
 yG a e) else (yG a b)) else (some (.inr b))
def aAe (a:(List Bool)):Option (List Int):=
 ob (loop (fun (s:(List Int × Int))=>uL a s.1 s.2) (([]:List Int),0)) fun r=>aBN r
def sQ (t:cG):Option (List Int):=
 ob (aCp t ([t.I]:List Int)) fun b=>
 ob (wM t b) fun c=>
 ob (aAe c) fun d=>
 some d
def aCV:Option Bool:=
 some false
def xE (b:(List Int)) (n a:Int):Option (Int ⊕ (Unit ⊕ Bool)):=
 if (decide (a < (b.length:Int))) then (ob (ix b a) fun d=>
 if (d == n) then (some (.inr (.inr true))) else (some (.inl (wr (a+1))))) else (some (.inr (.inl ())))
def aEG (b:(List Int)) (n:Int):Option Bool:=
 ob (loop (fun (s:Int)=>xE b n s) 0) fun r=>match r with|.inl r=>aCV|.inr r=>some r
def yH (t:cG) (b:List Bool):Option (List Int):=
 ob (wM t b) fun c=>
 ob (aAe c) fun d=>
 some d
def yI (a:Int) (b:List Bool):Option ((List Bool × Int) ⊕ (List Bool)):=
 some (.inl (b,wr (a+1)))
def yJ (t:cG) (a:List Bool) (b:Int) (e:Bool):Option ((List Bool × Int) ⊕ (List Bool)):=
 if e then (ob (ix t.E b) fun c=>
 ob (ix a c.To) fun g=>
 ob (st a c.To (true:Bool)) fun f=>
 yI b f) else (yI b a)
def qG (t:cG) (e:(List Int)) (f:Int) (c:List Bool) (b:Int):Option ((List Bool × Int) ⊕ (List Bool)):=
 if (decide (b < (t.E.length:Int))) then (ob (ix t.E b) fun d=>
 if (d.B == f) then (ob (aEG e d.F) fun g=>
 yJ t c b g) else (yJ t c b false)) else (some (.inr c))
def xF (t:cG) (b:(List Int)) (c:Int):Option (List Int):=
 ob (mkz t.N (false:Bool)) fun d=>
 ob (loop (fun (s:(List Bool × Int))=>qG t b c s.1 s.2) (d,0)) fun r=>yH t r
def uM (t:cG) (a:List (List Int)) (c:List Edge):Option (cG × (List (List Int)) × Bool):=
 ob (pX ([]:List aU) t.L) fun d=>
 some (⟨(a.length:Int),0,d,c⟩,a,true)
def aBO (a:Int) (b:List (List Int)) (c:List Edge):Option ((List (List Int) × List Edge × Int) ⊕ ((List (List Int) × List Edge) ⊕ (cG × (List (List Int)) × Bool))):=
 some (.inl (b,c,wr (a+1)))
def yK (a:Int) (b:List (List Int)) (c:List Edge):Option ((List (List Int) × List Edge × Int) ⊕ ((List (List Int) × List Edge) ⊕ (cG × (List (List Int)) × Bool))):=
 aBO a b c
def uN (a:Int) (b:List (List Int)) (c:List Edge):Option ((List (List Int) × List Edge × Int) ⊕ ((List (List Int) × List Edge) ⊕ (cG × (List (List Int)) × Bool))):=
 some (.inl (b,c,wr (a+1)))
def yL (c:Int) (a:List Edge) (b:Int) (d:List (List Int)) (e:Int):Option ((List (List Int) × List Edge × Int) ⊕ ((List (List Int) × List Edge) ⊕ (cG × (List (List Int)) × Bool))):=
 if ((a.length:Int) == 300) then (some (.inr (.inr (⟨0,0,[],[]⟩,[],false)))) else (ob (pX a ([⟨c,b,e⟩]:List Edge)) fun f=>
 uN b d f)
def qH (b:Int) (a:List (List Int)) (c:List Edge) (d:Int) (f:(List Int)) (e:Int):Option ((List (List Int) × List Edge × Int) ⊕ ((List (List Int) × List Edge) ⊕ (cG × (List (List Int)) × Bool))):=
 if (decide (e < 0)) then (if ((a.length:Int) == 40) then (some (.inr (.inr (⟨0,0,[],[]⟩,[],false)))) else (ob (pX a ([f]:List (List Int))) fun g=>
 yL b c d g (a.length:Int))) else (yL b c d a e)
def yM (a b:Int):Option ((Int × Int) ⊕ Int):=
 some (.inl (b,wr (a+1)))
def nV (b:List (List Int)) (d:(List Int)) (c a:Int):Option ((Int × Int) ⊕ Int):=
 if (decide (a < (b.length:Int))) then (ob (ix b a) fun e=>
 ob (oV e d) fun f=>
 if f then (yM a a) else (yM a c)) else (some (.inr c))
def nW (t:cG) (f:Int) (a:List (List Int)) (c:List Edge) (b:Int):Option ((List (List Int) × List Edge × Int) ⊕ ((List (List Int) × List Edge) ⊕ (cG × (List (List Int)) × Bool))):=
 if (decide (b < (t.L.length:Int))) then (ob (ix a f) fun g=>
 ob (xF t g b) fun d=>
 if ((d.length:Int) == 0) then (uN b a c) else (ob (loop (fun (s:(Int × Int))=>nV a d s.1 s.2) ((-1),0)) fun r=>qH f a c b d r)) else (some (.inr (.inl (a,c))))
def gW (t:cG) (b:List (List Int)) (d:List Edge) (c:Int):Option ((List (List Int) × List Edge × Int) ⊕ ((List (List Int) × List Edge) ⊕ (cG × (List (List Int)) × Bool))):=
 if (decide (c < (b.length:Int))) then (ob (loop (fun (s:(List (List Int) × List Edge × Int))=>nW t c s.1 s.2.1 s.2.2) (b,d,1)) fun r=>match r with|.inl r=>yK c r.1 r.2|.inr r=>some (.inr (.inr r))) else (some (.inr (.inl (b,d))))
def xG (t:cG):Option (cG × (List (List Int)) × Bool):=
 ob (sQ t) fun c=>
 ob (loop (fun (s:(List (List Int) × List Edge × Int))=>gW t s.1 s.2.1 s.2.2) (([c]:List (List Int)),([]:List Edge),0)) fun r=>match r with|.inl r=>uM t r.1 r.2|.inr r=>some r
def aDy (t:cG):Option cG:=
 ob (pX ([]:List aU) t.L) fun b=>
 ob (pX ([]:List Edge) t.E) fun c=>
 some ⟨t.N,t.I,b,c⟩
def mO (d:(List UInt8)) (b c a:Int):Option (Int × Int × Int):=
 if (decide (wr (b+1)≤(d.length:Int))) then (some (a,wr (b+1),pR ((pR ((pR (c * 6364136223846793005))+(pR a)))+1442695040888963407))) else (ob (shU (pR ((pR ((pR (c * 6364136223846793005))+(pR a)))+1442695040888963407)) 40) fun e=>
 some (wr (anU e 255),wr (b+1),pR ((pR ((pR (c * 6364136223846793005))+(pR a)))+1442695040888963407)))
def rG (a:(List UInt8)) (b c:Int):Option (Int × Int × Int):=
 if (decide (b < (a.length:Int))) then (ob (ix a b) fun d=>
 mO a b c (wr (d.toNat:Int))) else (mO a b c 0)
def mP (n b c d:Int):Option (Int × Int × Int):=
 ob (rm b n) fun e=>
 some (e,c,d)
def dK (d:(List UInt8)) (e f n:Int):Option (Int × Int × Int):=
 if (decide (n≤1)) then (some (0,e,f)) else (ob (rG d e f) fun a=>
 if (decide (200 < n)) then (ob (rG d a.2.1 a.2.2) fun c=>
 mP n (wr ((wr (a.1 * 256))+c.1)) c.2.1 c.2.2) else (mP n a.1 a.2.1 a.2.2))
def qI (b:(List UInt8)) (c d n:Int):Option (Bool × Int × Int):=
 ob (dK b c d n) fun a=>
 some (a.1 == 0,a.2.1,a.2.2)
def nX (a b:Int) (c:List aU):Option ((List aU) × Int × Int):=
 some (c,a,b)
def nY (a:List aU) (b c:Int):Option ((List aU) × Int × Int):=
 if ((a.length:Int) == 1) then (ob (pX a ([([97]:aU)]:List aU)) fun d=>
 nX b c d) else (nX b c a)
def jK (a b c:Int) (d:List aU):Option ((Int × Int × List aU × Int) ⊕ (List aU × Int × Int)):=
 some (.inl (b,c,d,wr (a+1)))
def lA (b:List aU) (a c d:Int) (e:Bool):Option ((Int × Int × List aU × Int) ⊕ (List aU × Int × Int)):=
 if e then (ob (ix ([([97]:aU),([98]:aU),([99]:aU),([103,101,116,40,48,41]:aU),([103,101,116,40,49,41]:aU)]:List aU) a) fun f=>
 ob (pX b ([f]:List aU)) fun g=>
 jK a c d g) else (jK a c d b)
def jL (f:(List UInt8)) (d e:Int) (b:List aU) (c:Int):Option ((Int × Int × List aU × Int) ⊕ (List aU × Int × Int)):=
 if (decide (c < (([([97]:aU),([98]:aU),([99]:aU),([103,101,116,40,48,41]:aU),([103,101,116,40,49,41]:aU)]:List aU).length:Int))) then (ob (qI f d e 2) fun a=>
 if a.1 then (lA b c a.2.1 a.2.2 (decide ((b.length:Int) < 4))) else (lA b c a.2.1 a.2.2 false)) else (some (.inr (b,d,e)))
def sS (b:(List UInt8)) (c d:Int):Option ((List aU) × Int × Int):=
 ob (loop (fun (s:(Int × Int × List aU × Int))=>jL b s.1 s.2.1 s.2.2.1 s.2.2.2) (c,d,([([116,97,117]:aU)]:List aU),0)) fun r=>nY r.1 r.2.1 r.2.2
def sT (c:(List UInt8)) (d e:Int) (b:(List Int)):Option (Int × Int × Int):=
 ob (dK c d e (b.length:Int)) fun a=>
 ob (ix b a.1) fun f=>
 some (f,a.2.1,a.2.2)
def pF (d:(List UInt8)) (b c:(Int × Int × Int)) (e:((List aU) × Int × Int)) (f g:Int) (h:List Edge):Option (cG × Int × Int):=
 ob (dK d f g (wr ((wr (1+b.1))+c.1))) fun a=>
 ob (oT (wr ((wr (1+b.1))+c.1)) a.1 e.1 h) fun i=>
 some (i,a.2.1,a.2.2)
def sU (a:(List UInt8)) (c d:(Int × Int × Int)) (e:((List aU) × Int × Int)) (j k:Int) (i:List Edge):Option (cG × Int × Int):=
 ob (qI a j k 3) fun b=>
 if b.1 then (ob (dK a b.2.1 b.2.2 (wr ((wr (1+c.1))+d.1))) fun f=>
 ob (dK a f.2.1 f.2.2 (e.1.length:Int)) fun g=>
 ob (dK a g.2.1 g.2.2 (wr ((wr (1+c.1))+d.1))) fun h=>
 ob (pX i ([⟨f.1,g.1,h.1⟩]:List Edge)) fun l=>
 pF a c d e h.2.1 h.2.2 l) else (pF a c d e b.2.1 b.2.2 i)
def yN (a b c:Int) (d:List Edge):Option ((Int × Int × List Edge × Int) ⊕ (Int × Int × List Edge)):=
 some (.inl (b,c,d,wr (a - 1)))
def sV (a b c:Int) (d:List Edge):Option ((Int × Int × List Edge × Int) ⊕ (Int × Int × List Edge)):=
 yN a b c d
def sW (a b c:Int) (d:List Edge):Option ((Int × Int × List Edge × Int) ⊕ (Int × Int × List Edge)):=
 some (.inl (b,c,d,wr (a+1)))
def sX (c:(List UInt8)) (d:(Int × Int × Int)) (e f:Int) (g:List Edge) (b:Int) (h:List Int):Option ((Int × Int × List Edge × Int) ⊕ (Int × Int × List Edge)):=
 ob (sT c e f h) fun a=>
 ob (pX g ([⟨b,d.1,a.1⟩]:List Edge)) fun i=>
 sW b a.2.1 a.2.2 i
def sY (a:Int) (b:List Int):Option ((List Int × Int) ⊕ (List Int)):=
 some (.inl (b,wr (a+1)))
def jM (c d:(Int × Int × Int)) (e:List Int) (f:(Int × Int × Int)) (b:List Int) (a:Int):Option ((List Int × Int) ⊕ (List Int)):=
 if (decide (a < wr ((wr (1+c.1))+d.1))) then (ob (ix e a) fun g=>
 if (g == f.1) then (ob (pX b ([a]:List Int)) fun h=>
 sY a h) else (sY a b)) else (some (.inr b))
def mV (h:(List UInt8)) (e f:(Int × Int × Int)) (g:List Int) (i j k:(Int × Int × Int)) (b c:Int) (d:List Edge) (a:Int):Option ((Int × Int × List Edge × Int) ⊕ (Int × Int × List Edge)):=
 if (decide (a < wr ((wr (1+e.1))+f.1))) then (ob (ix g a) fun l=>
 if (l != i.1) then (sW a b c d) else (ob (loop (fun (s:(List Int × Int))=>jM e f g k s.1 s.2) (([]:List Int),0)) fun r=>sX h j b c d a r)) else (some (.inr (b,c,d)))
def lJ (a:(List UInt8)) (b k:(Int × Int × Int)) (l:((List aU) × Int × Int)) (m:List Int) (g h:Int) (i:List Edge) (j:Int):Option ((Int × Int × List Edge × Int) ⊕ (Int × Int × List Edge)):=
 if (decide (0 < j)) then (ob (dK a g h (wr (1+b.1))) fun c=>
 ob (dK a c.2.1 c.2.2 (l.1.length:Int)) fun d=>
 ob (dK a d.2.1 d.2.2 (wr (1+b.1))) fun e=>
 ob (loop (fun (s:(Int × Int × List Edge × Int))=>mV a b k m c d e s.1 s.2.1 s.2.2.1 s.2.2.2) (e.2.1,e.2.2,i,0)) fun r=>sV j r.1 r.2.1 r.2.2) else (some (.inr (g,h,i)))
def qV (a:(List UInt8)) (b e:(Int × Int × Int)) (f:((List aU) × Int × Int)) (g h:Int) (i:List Int):Option (cG × Int × Int):=
 ob (dK a g h (wr (2+(wr (2 * (wr (1+b.1))))))) fun c=>
 ob (loop (fun (s:(Int × Int × List Edge × Int))=>lJ a b e f i s.1 s.2.1 s.2.2.1 s.2.2.2) (c.2.1,c.2.2,([]:List Edge),c.1)) fun r=>sU a b e f r.1 r.2.1 r.2.2
def nM (a b c:Int) (d:List Int):Option ((Int × Int × List Int × Int) ⊕ (Int × Int × List Int)):=
 some (.inl (b,c,d,wr (a+1)))
def lK (g:(List UInt8)) (b h:(Int × Int × Int)) (c d:Int) (e:List Int) (a:Int):Option ((Int × Int × List Int × Int) ⊕ (Int × Int × List Int)):=
 if (decide (a < wr ((wr (1+b.1))+h.1))) then (if (decide (a < wr (1+b.1))) then (ob (pX e ([a]:List Int)) fun i=>
 nM a c d i) else (ob (dK g c d (wr (1+b.1))) fun f=>
 ob (pX e ([f.1]:List Int)) fun j=>
 nM a f.2.1 f.2.2 j)) else (some (.inr (c,d,e)))
def aBc (a:(List UInt8)) (f g:Int):Option (cG × Int × Int):=
 ob (dK a f g 4) fun b=>
 ob (dK a b.2.1 b.2.2 (wr (7 - (wr (1+b.1))))) fun c=>
 ob (sS a c.2.1 c.2.2) fun d=>
 ob (loop (fun (s:(Int × Int × List Int × Int))=>lK a b c s.1 s.2.1 s.2.2.1 s.2.2.2) (d.2.1,d.2.2,([]:List Int),0)) fun r=>qV a b c d r.1 r.2.1 r.2.2
def sZ (a:(cG × Int × Int)) (b:List Edge) (c d:Int):Option (cG × Int × Int):=
 ob (oT a.1.N a.1.I a.1.L b) fun e=>
 some (e,c,d)
def mW (c:(List UInt8)) (d:(cG × Int × Int)) (e f:Int) (g:List Edge) (h:Int):Option ((Int × Int × List Edge × Int) ⊕ (List Edge × Int × Int)):=
 if (decide (0 < h)) then (ob (dK c e f d.1.N) fun a=>
 ob (dK c a.2.1 a.2.2 d.1.N) fun b=>
 ob (pX g ([⟨a.1,0,b.1⟩]:List Edge)) fun i=>
 some (.inl (b.2.1,b.2.2,i,wr (h - 1)))) else (some (.inr (g,e,f)))
def tA (c:(List UInt8)) (d:(cG × Int × Int)) (e f:Int) (g:List Edge):Option (cG × Int × Int):=
 ob (dK c e f 3) fun a=>
 ob (loop (fun (s:(Int × Int × List Edge × Int))=>mW c d s.1 s.2.1 s.2.2.1 s.2.2.2) (a.2.1,a.2.2,g,a.1)) fun r=>sZ d r.1 r.2.1 r.2.2
def pG (b:List Edge) (c:Int) (a:Edge) (d e f:Int):Option ((Int × Int × List Edge × Int) ⊕ (Int × Int × List Edge)):=
 ob (pX b ([⟨a.F,f,a.To⟩]:List Edge)) fun g=>
 some (.inl (d,e,g,wr (c+1)))
def mX (h:(List UInt8)) (e:(cG × Int × Int)) (f g:Int) (c:List Edge) (b:Int):Option ((Int × Int × List Edge × Int) ⊕ (Int × Int × List Edge)):=
 if (decide (b < (e.1.E.length:Int))) then (ob (ix e.1.E b) fun d=>
 ob (qI h f g 3) fun a=>
 if a.1 then (pG c b d a.2.1 a.2.2 0) else (pG c b d a.2.1 a.2.2 d.B)) else (some (.inr (f,g,c)))
def pW (b:(List UInt8)) (d e:Int):Option (cG × Int × Int):=
 ob (aBc b d e) fun a=>
 ob (loop (fun (s:(Int × Int × List Edge × Int))=>mX b a s.1 s.2.1 s.2.2.1 s.2.2.2) (a.2.1,a.2.2,([]:List Edge),0)) fun r=>tA b a r.1 r.2.1 r.2.2
def iN (a:(cG × Int × Int)) (b c:Int) (d:List aU) (e:List Edge):Option (cG × cG):=
 some (a.1,⟨b,c,d,e⟩)
def aDz (e:(List UInt8)):Option (cG × cG):=
 ob (aFf e) fun k=>
 ob (pW e k.1 k.2) fun a=>
 ob (pW e a.2.1 a.2.2) fun c=>
 ob (dK e c.2.1 c.2.2 7) fun d=>
 if (d.1 == 0) then (ob (aAc a.1) fun g=>
 iN a g.N g.I g.L g.E) else (if (d.1 == 1) then (ob (sO a.1 true) fun h=>
 iN a h.N h.I h.L h.E) else (if (d.1 == 2) then (ob (sO a.1 false) fun i=>
 iN a i.N i.I i.L i.E) else (if (d.1 == 3) then (ob (aAd a.1) fun j=>
 iN a j.N j.I j.L j.E) else (if (d.1 == 4) then (ob (xG a.1) fun f=>
 if f.2.2 then (iN a f.1.N f.1.I f.1.L f.1.E) else (iN a c.1.N c.1.I c.1.L c.1.E)) else (if (d.1 == 5) then (ob (aDy a.1) fun b=>
 if (decide (0 < (b.E.length:Int))) then (ob (dK e d.2.1 d.2.2 (b.E.length:Int)) fun l=>
 ob (tU b.E 0 l.1) fun m=>
 ob (tU b.E (wr (l.1+1)) (b.E.length:Int)) fun n=>
 ob (pX m n) fun o=>
 iN a b.N b.I b.L o) else (iN a b.N b.I b.L b.E)) else (iN a c.1.N c.1.I c.1.L c.1.E))))))
def oG (t:cG) (k:Int):Option Bool:=
 ob (sG k 0 (wr (t.N - 1))) fun c=>
 some c
def aGi (i many:Int):Option Bool:=
 ob (sG i 0 (wr (many - 1))) fun b=>
 some b
def mY (a:Int):Option Bool:=
 some (a != a)
def gU (a y:Int):Option Int:=
 ob (mY a) fun d=>
 ob (mY y) fun c=>
 if d then (if c then (some 0) else (some (-1))) else (if c then (some 1) else (if (decide (a < y)) then (some (-1)) else (if (decide (y < a)) then (some 1) else (some 0))))
def pH:Option Int:=
 some 0
def gI (b:(List Int)) (a:Int):Option (Int ⊕ (Unit ⊕ Int)):=
 if (decide (a < (b.length:Int))) then (ob (ix b a) fun c=>
 if (c != 0) then (some (.inr (.inr c))) else (some (.inl (wr (a+1))))) else (some (.inr (.inl ())))
def vP (b:(List Int)):Option Int:=
 ob (loop (fun (s:Int)=>gI b s) 0) fun r=>match r with|.inl r=>pH|.inr r=>some r
def tB (a b:Edge):Option Int:=
 ob (gU a.F b.F) fun e=>
 ob (gU a.B b.B) fun f=>
 ob (gU a.To b.To) fun g=>
 ob (vP ([e,f,g]:List Int)) fun h=>
 some h
def aAC:Option Bool:=
 some true
def mI (a:Int) (b:Bool):Option (Int ⊕ (Unit ⊕ Bool)):=
 if b then (some (.inr (.inr false))) else (some (.inl (wr (a+1))))
def rH (t:cG) (a:Int):Option (Int ⊕ (Unit ⊕ Bool)):=
 if (decide (a < (t.E.length:Int))) then (ob (ix t.E a) fun c=>
 ob (oG t c.F) fun d=>
 if (!d) then (mI a true) else (ob (oG t c.To) fun e=>
 if (!e) then (mI a true) else (ob (aGi c.B (t.L.length:Int)) fun f=>
 if (!f) then (mI a true) else (if (decide (0 < a)) then (ob (ix t.E (wr (a - 1))) fun g=>
 ob (tB g c) fun h=>
 mI a (decide (0≤h))) else (mI a false))))) else (some (.inr (.inl ())))
def vQ (t:cG):Option Bool:=
 ob (loop (fun (s:Int)=>rH t s) 0) fun r=>match r with|.inl r=>aAC|.inr r=>some r
def oH (a:Int) (b:Bool):Option (Int ⊕ (Unit ⊕ Bool)):=
 if b then (some (.inr (.inr false))) else (some (.inl (wr (a+1))))
def rI (t:cG) (a:Int):Option (Int ⊕ (Unit ⊕ Bool)):=
 if (decide (a < (t.L.length:Int))) then (ob (ix t.L a) fun b=>
 ob (aBU b) fun e=>
 if (!e) then (oH a true) else (if ((b == ([116,97,117]:aU)) != (a == 0)) then (oH a true) else (if (decide (1 < a)) then (ob (ix t.L (wr (a - 1))) fun d=>
 oH a (wU b d||b == d)) else (oH a false)))) else (some (.inr (.inl ())))
def oI (t:cG) (c:Bool):Option Bool:=
 if c then (some false) else (ob (loop (fun (s:Int)=>rI t s) 0) fun r=>match r with|.inl r=>vQ t|.inr r=>some r)
def mZ (t:cG):Option Bool:=
 ob (sG t.N 1 40) fun b=>
 if (!b) then (oI t true) else (ob (oG t t.I) fun c=>
 if (!c) then (oI t true) else (ob (sG (t.L.length:Int) 1 12) fun d=>
 if (!d) then (oI t true) else (oI t (decide (300 < (t.E.length:Int))))))
def gN:Option Int:=
 some (-1)
def eK (b:(List Int)) (c a:Int):Option (Int ⊕ (Unit ⊕ Int)):=
 if (decide (a < (b.length:Int))) then (ob (ix b a) fun d=>
 if (c == d) then (some (.inr (.inr a))) else (some (.inl (wr (a+1))))) else (some (.inr (.inl ())))
def fZ (b:(List Int)) (c:Int):Option Int:=
 ob (loop (fun (s:Int)=>eK b c s) 0) fun r=>match r with|.inl r=>gN|.inr r=>some r
def eL (a:(List Int)) (b:Int):Option Bool:=
 ob (fZ a b) fun c=>
 some (decide (0≤c))
def gA (a:(List Int)):Option (List Int):=
 some a
def gB (a:Int):Option (Int ⊕ (Unit ⊕ (List Int))):=
 some (.inl (wr (a+1)))
def fB (a:List Int) (b:Int):Option (Int ⊕ (Unit ⊕ (List Int))):=
 ob (tU a b (a.length:Int)) fun c=>
 ob (ovw a b (List.replicate c.length (0:Int))) fun d=>
 ob (tU d 0 b) fun e=>
 some (.inr (.inr e))
def fC (a:Int) (b:List Int) (c:Int):Option ((List Int × Int × Int) ⊕ (List Int × Int)):=
 some (.inl (b,c,wr (a+1)))
def eE (e:Int) (d b:List Int) (c a:Int):Option ((List Int × Int × Int) ⊕ (List Int × Int)):=
 if (decide (a < (d.length:Int))) then (ob (ix d a) fun i=>
 ob (ix b (e+a)) fun f=>
 ob (ix d (wr (a - 1))) fun j=>
 ob (ix b (e+(wr (a - 1)))) fun g=>
 if (f != g) then (ob (ix b c) fun k=>
 ob (st b c (f:Int)) fun h=>
 fC a h (wr (c+1))) else (fC a b c)) else (some (.inr (b,c)))
def eF (b:(List Int)) (a:Int):Option (Int ⊕ (Unit ⊕ (List Int))):=
 if (decide (a < (b.length:Int))) then (ob (ix b a) fun d=>
 ob (ix b (wr (a - 1))) fun e=>
 if (d == e) then (ob (tU b a (b.length:Int)) fun f=>
 ob (loop (fun (s:(List Int × Int × Int))=>eE a f s.1 s.2.1 s.2.2) (b,a,1)) fun r=>fB r.1 r.2) else (gB a)) else (some (.inr (.inl ())))
def eA (a:(List Int)):Option (List Int):=
 if (decide ((a.length:Int) < 2)) then (some a) else (ob (loop (fun (s:Int)=>eF a s) 1) fun r=>match r with|.inl r=>gA a|.inr r=>some r)
def lL (a:List Int):Option (List Int):=
 ob (wW a) fun b=>
 ob (eA b) fun c=>
 some c
def lM (a:Int) (b:List Int):Option ((List Int × Int) ⊕ (List Int)):=
 some (.inl (b,wr (a+1)))
def lN (a:List Int) (b:Int) (c:Edge) (d:Bool):Option ((List Int × Int) ⊕ (List Int)):=
 if d then (ob (pX a ([c.To]:List Int)) fun e=>
 lM b e) else (lM b a)
def fT (t:cG) (e:(List Int)) (f:aU) (d:List Int) (a:Int):Option ((List Int × Int) ⊕ (List Int)):=
 if (decide (a < (t.E.length:Int))) then (ob (ix t.E a) fun b=>
 ob (ix t.L b.B) fun g=>
 if (g == f) then (ob (eL e b.F) fun h=>
 lN d a b h) else (lN d a b false)) else (some (.inr d))
def jN (t:cG) (b:(List Int)) (c:aU):Option (List Int):=
 ob (loop (fun (s:(List Int × Int))=>fT t b c s.1 s.2) ([],0)) fun r=>lL r
def iH (a:(List Int)):Option (List Int):=
 ob (pX ([]:List Int) a) fun b=>
 some b
def nZ (a:List Int):Option (List Int):=
 ob (wW a) fun b=>
 some b
def rY (a:Int) (b:List Int):Option ((List Int × Int) ⊕ (List Int)):=
 some (.inl (b,wr (a+1)))
def oA (a:Int) (b:List Int):Option ((List Int × Int) ⊕ (List Int)):=
 rY a b
def oB (a:Int) (b:List Int):Option ((List Int × Int) ⊕ (List Int)):=
 some (.inl (b,wr (a+1)))
def jO (c:(List Int)) (a:List Int) (b:Int):Option ((List Int × Int) ⊕ (List Int)):=
 if (decide (b < (c.length:Int))) then (ob (ix c b) fun d=>
 ob (eL a d) fun e=>
 if (!e) then (ob (pX a ([d]:List Int)) fun f=>
 oB b f) else (oB b a)) else (some (.inr a))
def lB (t:cG) (a:List Int) (b:Int):Option ((List Int × Int) ⊕ (List Int)):=
 if (decide (b < (a.length:Int))) then (ob (ix a b) fun d=>
 ob (jN t ([d]:List Int) ([116,97,117]:aU)) fun e=>
 ob (loop (fun (s:(List Int × Int))=>jO e s.1 s.2) (a,0)) fun r=>oA b r) else (some (.inr a))
def jP (t:cG) (b:(List Int)):Option (List Int):=
 ob (iH b) fun c=>
 ob (loop (fun (s:(List Int × Int))=>lB t s.1 s.2) (c,0)) fun r=>nZ r
def wB (a b:aU):Option Int:=
 if (a == b) then (some 0) else (if (a == ([116,97,117]:aU)) then (some (-1)) else (if (b == ([116,97,117]:aU)) then (some 1) else (ob (aKe a b) fun e=>
 some e)))
def eT (a:(List Edge)):Option (List Edge):=
 some a
def eU (a:Int):Option (Int ⊕ (Unit ⊕ (List Edge))):=
 some (.inl (wr (a+1)))
def eV (a:List Edge) (b:Int):Option (Int ⊕ (Unit ⊕ (List Edge))):=
 ob (tU a b (a.length:Int)) fun c=>
 ob (ovw a b (List.replicate c.length (⟨0,0,0⟩:Edge))) fun d=>
 ob (tU d 0 b) fun e=>
 some (.inr (.inr e))
def eW (a:Int) (b:List Edge) (c:Int):Option ((List Edge × Int × Int) ⊕ (List Edge × Int)):=
 some (.inl (b,c,wr (a+1)))
def gC (f:Int) (e b:List Edge) (c a:Int):Option ((List Edge × Int × Int) ⊕ (List Edge × Int)):=
 if (decide (a < (e.length:Int))) then (ob (ix e a) fun i=>
 ob (ix b (f+a)) fun d=>
 ob (ix e (wr (a - 1))) fun j=>
 ob (ix b (f+(wr (a - 1)))) fun g=>
 if (!decide ((d:Edge)=g)) then (ob (ix b c) fun k=>
 ob (st b c (⟨d.F,d.B,d.To⟩:Edge)) fun h=>
 eW a h (wr (c+1))) else (eW a b c)) else (some (.inr (b,c)))
def dH (b:(List Edge)) (a:Int):Option (Int ⊕ (Unit ⊕ (List Edge))):=
 if (decide (a < (b.length:Int))) then (ob (ix b a) fun d=>
 ob (ix b (wr (a - 1))) fun e=>
 if (decide ((d:Edge)=e)) then (ob (tU b a (b.length:Int)) fun f=>
 ob (loop (fun (s:(List Edge × Int × Int))=>gC a f s.1 s.2.1 s.2.2) (b,a,1)) fun r=>eV r.1 r.2) else (eU a)) else (some (.inr (.inl ())))
def eH (a:(List Edge)):Option (List Edge):=
 if (decide ((a.length:Int) < 2)) then (some a) else (ob (loop (fun (s:Int)=>dH a s) 1) fun r=>match r with|.inl r=>eT a|.inr r=>some r)
def fR (a:(List aU)):Option (List aU):=
 some a
def fS (a:Int):Option (Int ⊕ (Unit ⊕ (List aU))):=
 some (.inl (wr (a+1)))
def eO (a:List aU) (b:Int):Option (Int ⊕ (Unit ⊕ (List aU))):=
 ob (tU a b (a.length:Int)) fun c=>
 ob (ovw a b (List.replicate c.length ([]:aU))) fun d=>
 ob (tU d 0 b) fun e=>
 some (.inr (.inr e))
def eP (a:Int) (b:List aU) (c:Int):Option ((List aU × Int × Int) ⊕ (List aU × Int)):=
 some (.inl (b,c,wr (a+1)))
def dX (e:Int) (d b:List aU) (c a:Int):Option ((List aU × Int × Int) ⊕ (List aU × Int)):=
 if (decide (a < (d.length:Int))) then (ob (ix d a) fun i=>
 ob (ix b (e+a)) fun f=>
 ob (ix d (wr (a - 1))) fun j=>
 ob (ix b (e+(wr (a - 1)))) fun g=>
 if (!(f == g)) then (ob (ix b c) fun k=>
 ob (st b c (f:aU)) fun h=>
 eP a h (wr (c+1))) else (eP a b c)) else (some (.inr (b,c)))
def dY (b:(List aU)) (a:Int):Option (Int ⊕ (Unit ⊕ (List aU))):=
 if (decide (a < (b.length:Int))) then (ob (ix b a) fun d=>
 ob (ix b (wr (a - 1))) fun e=>
 if (d == e) then (ob (tU b a (b.length:Int)) fun f=>
 ob (loop (fun (s:(List aU × Int × Int))=>dX a f s.1 s.2.1 s.2.2) (b,a,1)) fun r=>eO r.1 r.2) else (fS a)) else (some (.inr (.inl ())))
def fF (a:(List aU)):Option (List aU):=
 if (decide ((a.length:Int) < 2)) then (some a) else (ob (loop (fun (s:Int)=>dY a s) 1) fun r=>match r with|.inl r=>fR a|.inr r=>some r)
def gD:Option Int:=
 some (-1)
def eG (b:(List aU)) (c:aU) (a:Int):Option (Int ⊕ (Unit ⊕ Int)):=
 if (decide (a < (b.length:Int))) then (ob (ix b a) fun d=>
 if (c == d) then (some (.inr (.inr a))) else (some (.inl (wr (a+1))))) else (some (.inr (.inl ())))
def eS (b:(List aU)) (c:aU):Option Int:=
 ob (loop (fun (s:Int)=>eG b c s) 0) fun r=>match r with|.inl r=>gD|.inr r=>some r
def aDA (a b:Int) (c:(List aU)) (d:List Edge):Option cG:=
 ob (wK d) fun e=>
 ob (eH e) fun f=>
 some ⟨a,b,c,f⟩
def yO (c:(List oO)) (e:(List aU)) (d:List Edge) (a:Int):Option ((List Edge × Int) ⊕ (List Edge)):=
 if (decide (a < (c.length:Int))) then (ob (ix c a) fun b=>
 ob (eS e b.label) fun f=>
 ob (pX d ([⟨b.from_,f,b.to_⟩]:List Edge)) fun g=>
 some (.inl (g,wr (a+1)))) else (some (.inr d))
def aCW (b c:Int) (d:(List aU)) (e:(List oO)):Option cG:=
 ob (pX ([([116,97,117]:aU)]:List aU) d) fun f=>
 ob (aAa f) fun g=>
 ob (fF g) fun a=>
 ob (loop (fun (s:(List Edge × Int))=>yO e a s.1 s.2) ([],0)) fun r=>aDA b c a r
def aAD (a:List aU):Option (List aU):=
 some a
def rJ (b:(List oO)) (c:List aU) (a:Int):Option ((List aU × Int) ⊕ (List aU)):=
 if (decide (a < (b.length:Int))) then (ob (ix b a) fun d=>
 ob (pX c ([d.label]:List aU)) fun e=>
 some (.inl (e,wr (a+1)))) else (some (.inr c))
def aCq (a:(List oO)):Option (List aU):=
 ob (loop (fun (s:(List aU × Int))=>rJ a s.1 s.2) ([],0)) fun r=>aAD r
def kV (a:(List Int)):Option aU:=
 ob (aDr a ([44]:aU)) fun b=>
 some b
def jD (t:cG) (b:(List Int)) (c:aU):Option (List Int):=
 ob (jN t b c) fun d=>
 ob (jP t d) fun e=>
 some e
def aAE (a:List oO):Option (List oO):=
 some a
def rK (t:cG) (d:List oO) (b:Int):Option ((List oO × Int) ⊕ (List oO)):=
 if (decide (b < (t.E.length:Int))) then (ob (ix t.E b) fun c=>
 ob (ix t.L c.B) fun e=>
 ob (pX d ([⟨c.F,e,c.To⟩]:List oO)) fun f=>
 some (.inl (f,wr (b+1)))) else (some (.inr d))
def aAf (t:cG):Option (List oO):=
 ob (loop (fun (s:(List oO × Int))=>rK t s.1 s.2) ([],0)) fun r=>aAE r
def iD (a:Int) (b:List (List Int)) (c:(List (aU × Int))):Option (Int × (List (List Int)) × (List (aU × Int))):=
 some (a,b,c)
def eX (a:(List (List Int))) (b:(List (aU × Int))) (g:(List oO)) (d:(List Int)):Option (Int × (List (List Int)) × (List (aU × Int))):=
 ob (kV d) fun c=>
 if (!((nO b c).isSome)) then (ob (some (xM b c (a.length:Int))) fun e=>
 ob (pX a ([d]:List (List Int))) fun f=>
 iD (a.length:Int) f e) else (iD ((nO b c).getD 0) a b)
def kB (a:List (List Int)) (b:(List (aU × Int))) (c:List oO):Option ((List (List Int)) × (List (aU × Int)) × (List oO)):=
 some (a,b,c)
def jQ (c:aU) (d:(List Int)) (e:(List (List Int))) (f:(List (aU × Int))) (b:(List oO)) (p:Int):Option ((List (List Int)) × (List (aU × Int)) × (List oO)):=
 ob (eX e f b d) fun a=>
 ob (pX b ([⟨p,c,a.1⟩]:List oO)) fun h=>
 kB a.2.1 a.2.2 h
def iY (a:List (List Int)) (b:(List (aU × Int))) (c:List oO):Option (Bool × (List (List Int)) × (List (aU × Int)) × (List oO)):=
 some (true,a,b,c)
def gQ (a:Int) (b:List (List Int)) (c:(List (aU × Int))) (d:List oO):Option ((List (List Int) × (List (aU × Int)) × List oO × Int) ⊕ (List (List Int) × (List (aU × Int)) × List oO)):=
 some (.inl (b,c,d,wr (a+1)))
def fW (i:(List Int)) (j:Int) (p:cG) (f:List aU) (b:List (List Int)) (c:(List (aU × Int))) (d:List oO) (a:Int):Option ((List (List Int) × (List (aU × Int)) × List oO × Int) ⊕ (List (List Int) × (List (aU × Int)) × List oO)):=
 if (decide (a < (f.length:Int))) then (ob (ix f a) fun g=>
 ob (jD p i g) fun h=>
 if (decide (0 < (h.length:Int))) then (ob (jQ g h b c d j) fun e=>
 gQ a e.1 e.2.1 e.2.2) else (gQ a b c d)) else (some (.inr (b,c,d)))
def kW (c:(List Int)) (d:(List (List Int))) (e:(List (aU × Int))) (f:(List oO)) (g:Int) (p:cG):Option (Bool × (List (List Int)) × (List (aU × Int)) × (List oO)):=
 ob (tU p.L 1 (p.L.length:Int)) fun h=>
 ob (loop (fun (s:(List (List Int) × (List (aU × Int)) × List oO × Int))=>fW c g p h s.1 s.2.1 s.2.2.1 s.2.2.2) (d,e,f,0)) fun r=>iY r.1 r.2.1 r.2.2
def mA (e:List (List Int)) (a b:Int) (c:List aU) (d:List Edge):Option (cG × (List (List Int)) × Bool):=
 ob (mZ ⟨a,b,c,d⟩) fun f=>
 some (⟨a,b,c,d⟩,e,f)
def iE (b:List (List Int)) (e:(List (aU × Int))) (c:List oO):Option (cG × (List (List Int)) × Bool):=
 ob (aCq c) fun d=>
 ob (aCW (b.length:Int) 0 d c) fun a=>
 mA b a.N a.I a.L a.E
def jR (b:Int) (a:(Bool × (List (List Int)) × (List (aU × Int)) × (List oO))) (c:Bool):Option ((List (List Int) × (List (aU × Int)) × List oO × Int) ⊕ ((List (List Int) × (List (aU × Int)) × List oO) ⊕ (cG × (List (List Int)) × Bool))):=
 if c then (some (.inr (.inr (⟨0,0,[],[]⟩,[],false)))) else (some (.inl (a.2.1,a.2.2.1,a.2.2.2,wr (b+1))))
def dN (f:cG) (b:List (List Int)) (d:(List (aU × Int))) (e:List oO) (a:Int):Option ((List (List Int) × (List (aU × Int)) × List oO × Int) ⊕ ((List (List Int) × (List (aU × Int)) × List oO) ⊕ (cG × (List (List Int)) × Bool))):=
 if (decide (a < (b.length:Int))) then (ob (ix b a) fun g=>
 ob (kW g b d e a f) fun c=>
 if (!c.1) then (jR a c true) else (jR a c (decide (40 < (c.2.1.length:Int))))) else (some (.inr (.inl (b,d,e))))
def lS (c:(List Int)) (d:cG):Option (cG × (List (List Int)) × Bool):=
 ob (eX [] ([]:(List (aU × Int))) [] c) fun b=>
 ob (loop (fun (s:(List (List Int) × (List (aU × Int)) × List oO × Int))=>dN d s.1 s.2.1 s.2.2.1 s.2.2.2) (b.2.1,b.2.2,[],0)) fun r=>match r with|.inl r=>iE r.1 r.2.1 r.2.2|.inr r=>some r
def gO (t:cG):Option (cG × (List (List Int)) × Bool):=
 ob (jP t ([t.I]:List Int)) fun c=>
 ob (lS c t) fun b=>
 if (!b.2.2) then (some (⟨0,0,[],[]⟩,[],false)) else (ob (aAf b.1) fun d=>
 ob (aCW b.1.N 0 t.L d) fun e=>
 some (e,b.2.1,true))
def tC (t:cG) (k:Int) (d:aU):Option Int:=
 if (decide (k < 0)) then (some (-1)) else (ob (jN t ([k]:List Int) d) fun b=>
 if (decide (0 < (b.length:Int))) then (ob (ix b 0) fun e=>
 some e) else (some (-1)))
def lT (p q:Int):Option Bool:=
 some (decide (p < 0))
def fX (a:List aU):Option (List aU):=
 some a
def cH (b:(List (List aU))) (c:List aU) (a:Int):Option ((List aU × Int) ⊕ (List aU)):=
 if (decide (a < (b.length:Int))) then (ob (ix b a) fun d=>
 ob (pX c d) fun e=>
 some (.inl (e,wr (a+1)))) else (some (.inr c))
def eZ (a:(List (List aU))) (b:Int):Option (List aU):=
 ob (aFb [] b) fun c=>
 ob (loop (fun (s:(List aU × Int))=>cH a s.1 s.2) (c,0)) fun r=>fX r
def fA (a b:Int):Option ((Int × Int) ⊕ Int):=
 some (.inl (b,wr (a+1)))
def cD (c:(List (List aU))) (a b:Int):Option ((Int × Int) ⊕ Int):=
 if (decide (b < (c.length:Int))) then (ob (ix c b) fun d=>
 if (decide (wr (a+(d.length:Int)) < 0)) then (none) else (fA b (wr (a+(d.length:Int))))) else (some (.inr a))
def dB (a:(List (List aU))):Option (List aU):=
 ob (loop (fun (s:(Int × Int))=>cD a s.1 s.2) (0,0)) fun r=>eZ a r
def eB (a:(List aU)):Option (List aU):=
 ob (pX ([]:List aU) a) fun b=>
 some b
def wC:Option ((List aU) × Bool):=
 some ([],false)
def wD (a:(List ((Int × Int) × Bool))) (b:List aY):Option (((List ((Int × Int) × Bool)) × List aY) ⊕ (Unit ⊕ ((List aU) × Bool))):=
 some (.inl (a,b))
def wE (a:(List ((Int × Int) × Bool))) (b:List aY):Option (((List ((Int × Int) × Bool)) × List aY) ⊕ (Unit ⊕ ((List aU) × Bool))):=
 wD a b
def wF (a:Int) (b:List aY):Option ((List aY × Int) ⊕ (List aY)):=
 some (.inl (b,wr (a+1)))
def gX (a b:cG) (f:List aU) (c:aY) (g:List aY) (d:Int):Option ((List aY × Int) ⊕ (List aY)):=
 if (decide (d < (f.length:Int))) then (ob (ix f d) fun e=>
 ob (tC a c.a e) fun j=>
 ob (tC b c.b e) fun k=>
 ob (eB c.trace) fun l=>
 ob (pX l ([e]:List aU)) fun m=>
 ob (pX g ([⟨j,k,m⟩]:List aY)) fun n=>
 wF d n) else (some (.inr g))
def jZ (a b:cG) (h:List aU) (d:(List ((Int × Int) × Bool))) (c:aY) (e:List aY) (i:Bool):Option (((List ((Int × Int) × Bool)) × List aY) ⊕ (Unit ⊕ ((List aU) × Bool))):=
 if i then (wD d e) else (ob (some (xM d ⟨c.a,c.b⟩ true)) fun j=>
 ob (lT c.a c.b) fun k=>
 if k then (some (.inr (.inr (c.trace,true)))) else (ob (loop (fun (s:(List aY × Int))=>gX a b h c s.1 s.2) (e,0)) fun r=>wE j r))
def fU (a b:cG) (h:List aU) (d:(List ((Int × Int) × Bool))) (e:List aY):Option (((List ((Int × Int) × Bool)) × List aY) ⊕ (Unit ⊕ ((List aU) × Bool))):=
 if (decide (0 < (e.length:Int))) then (ob (ix e 0) fun c=>
 ob (tU e 1 (e.length:Int)) fun i=>
 if (decide (c.a < 0)) then (if (decide (c.b < 0)) then (jZ a b h d c i true) else (jZ a b h d c i ((nO d ⟨c.a,c.b⟩).getD false))) else (jZ a b h d c i ((nO d ⟨c.a,c.b⟩).getD false))) else (some (.inr (.inl ())))
def qJ (a b:cG):Option ((List aU) × Bool):=
 ob (dB ([a.L,b.L]:List (List aU))) fun g=>
 ob (aCW 1 0 g []) fun f=>
 ob (tU f.L 1 (f.L.length:Int)) fun h=>
 ob (loop (fun (s:((List ((Int × Int) × Bool)) × List aY))=>fU a b h s.1 s.2) (([]:(List ((Int × Int) × Bool))),([⟨a.I,b.I,[]⟩]:List aY))) fun r=>match r with|.inl r=>wC|.inr r=>some r
def nA (a b:(cG × (List (List Int)) × Bool)) (d:Bool):Option (Bool × (List aU) × Int):=
 if d then (some (false,[],5)) else (ob (qJ ⟨a.1.N,a.1.I,a.1.L,a.1.E⟩ ⟨b.1.N,b.1.I,b.1.L,b.1.E⟩) fun c=>
 some (!c.2,c.1,0))
def nB (a b:cG) (g:Bool):Option (Bool × (List aU) × Int):=
 if g then (some (false,[],1)) else (ob (gO a) fun c=>
 ob (gO b) fun d=>
 if (!c.2.2) then (nA c d true) else (nA c d (!d.2.2)))
def qW (a b:cG):Option (Bool × (List aU) × Int):=
 ob (mZ a) fun e=>
 if (!e) then (nB a b true) else (ob (mZ b) fun f=>
 nB a b (!f))
def fG (a b:cG):Option (Bool × (List aU) × Int):=
 ob (qW a b) fun c=>
 some (c.1,c.2.1,c.2.2)
def lU (a:Bool):Option Bool:=
 some a
def pI (p q:Int):Option Bool:=
 if (decide (p < 0)) then (lU true) else (lU (decide (q < 0)))
def qK:Option ((List aU) × Bool):=
 some ([],false)
def qL (a:(List ((Int × Int) × Bool))) (b:List aY):Option (((List ((Int × Int) × Bool)) × List aY) ⊕ (Unit ⊕ ((List aU) × Bool))):=
 some (.inl (a,b))
def qM (a:(List ((Int × Int) × Bool))) (b:List aY):Option (((List ((Int × Int) × Bool)) × List aY) ⊕ (Unit ⊕ ((List aU) × Bool))):=
 qL a b
def wN (a:Int) (b:List aY):Option ((List aY × Int) ⊕ (List aY)):=
 some (.inl (b,wr (a+1)))
def qN (a b:cG) (f:List aU) (c:aY) (g:List aY) (d:Int):Option ((List aY × Int) ⊕ (List aY)):=
 if (decide (d < (f.length:Int))) then (ob (ix f d) fun e=>
 ob (tC a c.a e) fun j=>
 ob (tC b c.b e) fun k=>
 ob (eB c.trace) fun l=>
 ob (pX l ([e]:List aU)) fun m=>
 ob (pX g ([⟨j,k,m⟩]:List aY)) fun n=>
 wN d n) else (some (.inr g))
def gV (a b:cG) (h:List aU) (d:(List ((Int × Int) × Bool))) (c:aY) (e:List aY) (i:Bool):Option (((List ((Int × Int) × Bool)) × List aY) ⊕ (Unit ⊕ ((List aU) × Bool))):=
 if i then (qL d e) else (ob (some (xM d ⟨c.a,c.b⟩ true)) fun j=>
 ob (pI c.a c.b) fun k=>
 if k then (some (.inr (.inr (c.trace,true)))) else (ob (loop (fun (s:(List aY × Int))=>qN a b h c s.1 s.2) (e,0)) fun r=>qM j r))
def eN (a b:cG) (h:List aU) (d:(List ((Int × Int) × Bool))) (e:List aY):Option (((List ((Int × Int) × Bool)) × List aY) ⊕ (Unit ⊕ ((List aU) × Bool))):=
 if (decide (0 < (e.length:Int))) then (ob (ix e 0) fun c=>
 ob (tU e 1 (e.length:Int)) fun i=>
 if (decide (c.a < 0)) then (if (decide (c.b < 0)) then (gV a b h d c i true) else (gV a b h d c i ((nO d ⟨c.a,c.b⟩).getD false))) else (gV a b h d c i ((nO d ⟨c.a,c.b⟩).getD false))) else (some (.inr (.inl ())))
def lO (a b:cG):Option ((List aU) × Bool):=
 ob (dB ([a.L,b.L]:List (List aU))) fun g=>
 ob (aCW 1 0 g []) fun f=>
 ob (tU f.L 1 (f.L.length:Int)) fun h=>
 ob (loop (fun (s:((List ((Int × Int) × Bool)) × List aY))=>eN a b h s.1 s.2) (([]:(List ((Int × Int) × Bool))),([⟨a.I,b.I,[]⟩]:List aY))) fun r=>match r with|.inl r=>qK|.inr r=>some r
def kD (a b:(cG × (List (List Int)) × Bool)) (d:Bool):Option (Bool × (List aU) × Int):=
 if d then (some (false,[],5)) else (ob (lO ⟨a.1.N,a.1.I,a.1.L,a.1.E⟩ ⟨b.1.N,b.1.I,b.1.L,b.1.E⟩) fun c=>
 some (!c.2,c.1,0))
def kE (a b:cG) (g:Bool):Option (Bool × (List aU) × Int):=
 if g then (some (false,[],1)) else (ob (gO a) fun c=>
 ob (gO b) fun d=>
 if (!c.2.2) then (kD c d true) else (kD c d (!d.2.2)))
def nC (a b:cG):Option (Bool × (List aU) × Int):=
 ob (mZ a) fun e=>
 if (!e) then (kE a b true) else (ob (mZ b) fun f=>
 kE a b (!f))
def mJ (a b:cG):Option (Bool × (List aU) × Int):=
 ob (nC a b) fun c=>
 some (c.1,c.2.1,c.2.2)
def aDY (a:Bool):Option Bool:=
 some a
def aAF (n low b:Int):Option Bool:=
 if (decide (low≤n)) then (aDY (decide (n≤b))) else (aDY false)
def aBP (a:aU):Option Int:=
 some (a.length:Int)
def uO (b:aU) (a:Int):Option (Int ⊕ (Unit ⊕ Int)):=
 if (decide (a < (b.length:Int))) then (ob (ix b a) fun c=>
 if ((c.toNat:Int) == 40) then (some (.inr (.inr a))) else (some (.inl (wr (a+1))))) else (some (.inr (.inl ())))
def aDB (b:aU):Option Int:=
 ob (loop (fun (s:Int)=>uO b s) 0) fun r=>match r with|.inl r=>aBP b|.inr r=>some r
def aAG (a:Bool):Option Bool:=
 some a
def aCr (c:UInt8):Option Bool:=
 if (decide (97≤(c.toNat:Int))) then (aAG (decide ((c.toNat:Int)≤122))) else (aAG false)
def aAH (a:Bool):Option Bool:=
 some a
def aCs (c:UInt8):Option Bool:=
 if (decide (48≤(c.toNat:Int))) then (aAH (decide ((c.toNat:Int)≤57))) else (aAH false)
def yP:Option Bool:=
 some true
def yQ (a:Int) (b:Bool):Option (Int ⊕ (Unit ⊕ Bool)):=
 if b then (some (.inr (.inr false))) else (some (.inl (wr (a+1))))
def uP (b:aU) (a:Int):Option (Int ⊕ (Unit ⊕ Bool)):=
 if (decide (a < (b.length:Int))) then (ob (ix b a) fun c=>
 ob (aCr c) fun d=>
 if (!d) then (ob (aCs c) fun e=>
 yQ a (!e)) else (yQ a false)) else (some (.inr (.inl ())))
def qO (b:aU) (c:Bool):Option Bool:=
 if c then (some false) else (ob (loop (fun (s:Int)=>uP b s) 0) fun r=>match r with|.inl r=>yP|.inr r=>some r)
def aBX (a:aU):Option Bool:=
 if (a == ([]:aU)) then (qO a true) else (if (decide (10 < (a.length:Int))) then (qO a true) else (ob (ix a 0) fun b=>
 ob (aCr b) fun c=>
 qO a (!c)))
def tD (a:Bool):Option Bool:=
 some a
def aBd (a:aU):Option Bool:=
 ob (aBX a) fun b=>
 if b then (tD (!(a == ([116,97,117]:aU)))) else (tD false)
def vR (a:aU) (b:List aU) (c:Int):Option (List aU):=
 ob (tU a c (a.length:Int)) fun d=>
 ob (pX b ([d]:List aU)) fun e=>
 some e
def rL (a:Int) (b:List aU) (c:Int):Option ((List aU × Int × Int) ⊕ (List aU × Int)):=
 some (.inl (b,c,wr (a+1)))
def vS (b:aU) (e:UInt8) (c:List aU) (d a:Int):Option ((List aU × Int × Int) ⊕ (List aU × Int)):=
 if (decide (a < (b.length:Int))) then (ob (ix b a) fun f=>
 if ((f.toNat:Int) == (e.toNat:Int)) then (ob (tU b d a) fun g=>
 ob (pX c ([g]:List aU)) fun h=>
 rL a h (wr (a+1))) else (rL a c d)) else (some (.inr (c,d)))
def aCt (a:aU) (c:UInt8):Option (List aU):=
 ob (loop (fun (s:(List aU × Int × Int))=>vS a c s.1 s.2.1 s.2.2) (([]:List aU),0,0)) fun r=>vR a r.1 r.2
def yR (a:Int):Option (Int × Bool):=
 some (a,true)
def tE (b a:Int):Option (Int × Bool):=
 if (b == 1) then (yR (wr (0 - a))) else (yR a)
def nD (b:aU) (c a:Int):Option ((Int × Int) ⊕ (Int ⊕ (Int × Bool))):=
 if (decide (a < (b.length:Int))) then (ob (ix b a) fun d=>
 ob (aCs d) fun e=>
 if (!e) then (some (.inr (.inr (0,false)))) else (some (.inl (wr ((wr (10 * c))+(wr ((d - (48:UInt8)).toNat:Int))),wr (a+1))))) else (some (.inr (.inl c)))
def kX (c:aU) (b:Int) (d:Bool):Option (Int × Bool):=
 if d then (some (0,false)) else (ob (loop (fun (s:(Int × Int))=>nD c s.1 s.2) (0,b)) fun r=>match r with|.inl r=>tE b r|.inr r=>some r)
def pJ (a:aU) (b:Int):Option (Int × Bool):=
 if ((a.length:Int) == b) then (kX a b true) else (if (decide (18 < wr ((a.length:Int) - b))) then (kX a b true) else (ob (ix a b) fun c=>
 if ((c.toNat:Int) == 48) then (kX a b (decide (1 < (a.length:Int)))) else (kX a b false)))
def pK (a:aU) (b:Bool):Option (Int × Bool):=
 if b then (pJ a 1) else (pJ a 0)
def xH (a:aU):Option (Int × Bool):=
 if (decide (0 < (a.length:Int))) then (ob (ix a 0) fun b=>
 pK a ((b.toNat:Int) == 45)) else (pK a false)
def tF (a:List Int):Option ((List Int) × Bool):=
 some (a,decide ((a.length:Int)≤2))
def tG (a:List Int) (b:Int) (c:(Int × Bool)) (d:Bool):Option ((List Int × Int) ⊕ (List Int ⊕ ((List Int) × Bool))):=
 if d then (some (.inr (.inr ([],false)))) else (ob (pX a ([c.1]:List Int)) fun e=>
 some (.inl (e,wr (b+1))))
def pL (d:(List aU)) (c:List Int) (a:Int):Option ((List Int × Int) ⊕ (List Int ⊕ ((List Int) × Bool))):=
 if (decide (a < (d.length:Int))) then (ob (ix d a) fun e=>
 ob (xH e) fun b=>
 if (!b.2) then (tG c a b true) else (ob (aAF b.1 0 63) fun f=>
 tG c a b (!f))) else (some (.inr (.inl c)))
def pM (b:aU) (c:Int) (d:Bool):Option ((List Int) × Bool):=
 if d then (some ([],false)) else (ob (tU b (wr (c+1)) (wr ((b.length:Int) - 1))) fun e=>
 ob (aCt e (44:UInt8)) fun f=>
 ob (loop (fun (s:(List Int × Int))=>pL f s.1 s.2) (([]:List Int),0)) fun r=>match r with|.inl r=>tF r|.inr r=>some r)
def aCX (a:aU):Option ((List Int) × Bool):=
 ob (aDB a) fun b=>
 if (b == (a.length:Int)) then (ob (aBX a) fun c=>
 some (([]:List Int),c)) else (ob (tU a 0 b) fun d=>
 ob (aBd d) fun e=>
 if (!e) then (pM a b true) else (ob (ix a (wr ((a.length:Int) - 1))) fun f=>
 pM a b ((f.toNat:Int) != 41)))
def aCu (a:aU):Option Bool:=
 ob (aCX a) fun b=>
 some b.2
def aAI:Option Bool:=
 some true
def oJ (a:Int) (b:Bool):Option (Int ⊕ (Unit ⊕ Bool)):=
 if b then (some (.inr (.inr false))) else (some (.inl (wr (a+1))))
def rM (b:(List aU)) (a:Int):Option (Int ⊕ (Unit ⊕ Bool)):=
 if (decide (a < (b.length:Int))) then (ob (ix b a) fun c=>
 ob (aCu c) fun d=>
 if (!d) then (oJ a true) else (if (c == ([116,97,117]:aU)) then (oJ a true) else (if (decide (1 < a)) then (ob (ix b (wr (a - 1))) fun e=>
 oJ a (!wU e c)) else (oJ a false)))) else (some (.inr (.inl ())))
def rN (b:(List aU)) (c:Bool):Option Bool:=
 if c then (some false) else (ob (loop (fun (s:Int)=>rM b s) 1) fun r=>match r with|.inl r=>aAI|.inr r=>some r)
def aCv (a:(List aU)):Option Bool:=
 if ((a.length:Int) == 0) then (rN a true) else (if (decide (12 < (a.length:Int))) then (rN a true) else (ob (ix a 0) fun b=>
 rN a (!(b == ([116,97,117]:aU)))))
def aDZ:Option Bool:=
 some true
def aCw (a:Int) (b:Bool):Option (Int ⊕ (Unit ⊕ Bool)):=
 if b then (some (.inr (.inr false))) else (some (.inl (wr (a+1))))
def aAg (t:cG) (a:Int) (c:Edge) (d:Bool):Option (Int ⊕ (Unit ⊕ Bool)):=
 if d then (some (.inr (.inr false))) else (if (decide (0 < a)) then (ob (ix t.E (wr (a - 1))) fun e=>
 ob (aBV e c) fun f=>
 aCw a (!f)) else (aCw a false))
def aAh (t:cG) (c:Int):Option (Int ⊕ (Unit ⊕ Bool)):=
 if (decide (c < (t.E.length:Int))) then (ob (ix t.E c) fun b=>
 ob (aAF b.F 0 (wr (t.N - 1))) fun d=>
 if (!d) then (aAg t c b true) else (ob (aAF b.To 0 (wr (t.N - 1))) fun e=>
 if (!e) then (aAg t c b true) else (ob (aAF b.B 0 (wr ((t.L.length:Int) - 1))) fun f=>
 aAg t c b (!f)))) else (some (.inr (.inl ())))
def wO (t:cG) (c:Bool):Option Bool:=
 if c then (some false) else (ob (loop (fun (s:Int)=>aAh t s) 0) fun r=>match r with|.inl r=>aDZ|.inr r=>some r)
def aFh (t:cG):Option Bool:=
 ob (aAF t.N 1 40) fun b=>
 if (!b) then (wO t true) else (ob (aAF t.I 0 (wr (t.N - 1))) fun c=>
 if (!c) then (wO t true) else (ob (aCv t.L) fun d=>
 if (!d) then (wO t true) else (wO t (decide (300 < (t.E.length:Int))))))
def aBe (a b:(cG × (List (List Int)) × Bool)) (c:Bool):Option (cG × cG × Bool):=
 some (a.1,b.1,c)
def aGj (a b:cG):Option (cG × cG × Bool):=
 ob (xG a) fun c=>
 ob (xG b) fun d=>
 if c.2.2 then (aBe c d d.2.2) else (aBe c d false)
def aEa:Option Int:=
 some (-1)
def aEb (d:cG) (a:Int) (c:Bool):Option (Int ⊕ (Unit ⊕ Int)):=
 if c then (ob (ix d.E a) fun e=>
 some (.inr (.inr e.To))) else (some (.inl (wr (a+1))))
def aEc (d:cG) (e:Int) (f:aU) (b:Int) (g:Bool):Option (Int ⊕ (Unit ⊕ Int)):=
 if g then (ob (ix d.E b) fun c=>
 if (c.F == e) then (ob (ix d.L c.B) fun h=>
 aEb d b (h == f)) else (aEb d b false)) else (some (.inr (.inl ())))
def aFI (d:cG) (b:Int) (e:aU) (c:Int):Option (Int ⊕ (Unit ⊕ Int)):=
 if (decide (c < (d.E.length:Int))) then (aEc d b e c (decide (0≤b))) else (aEc d b e c false)
def aHU (d:cG) (c:Int) (e:aU):Option Int:=
 ob (loop (fun (s:Int)=>aFI d c e s) 0) fun r=>match r with|.inl r=>aEa|.inr r=>some r
def yS:Option ((List aU) × Bool):=
 some ([],false)
def aCx (a:Int) (b c d:List Int) (e:List aU):Option ((List Int × List Int × List Int × List aU × Int) ⊕ (Unit ⊕ ((List aU) × Bool))):=
 some (.inl (b,c,d,e,wr (a+1)))
def yT (a:Int) (b c d:List Int) (e:List aU):Option ((List Int × List Int × List Int × List aU × Int) ⊕ (Unit ⊕ ((List aU) × Bool))):=
 aCx a b c d e
def tH (a:Int) (b c d:List Int) (e:List aU):Option ((List Int × List Int × List Int × List aU × Int) ⊕ ((List Int × List Int × List Int × List aU) ⊕ ((List aU) × Bool))):=
 some (.inl (b,c,d,e,wr (a+1)))
def yU (a:List aU):Option ((List Int × List Int × List Int × List aU × Int) ⊕ ((List Int × List Int × List Int × List aU) ⊕ ((List aU) × Bool))):=
 some (.inr (.inr (a,true)))
def aCy (c:List Int) (d b:List aU) (a:Int):Option ((List aU × Int) ⊕ (List aU)):=
 if (decide (0 < a)) then (ob (ix d a) fun e=>
 ob (pX ([e]:List aU) b) fun f=>
 ob (ix c a) fun g=>
 some (.inl (f,g))) else (some (.inr b))
def yV (f:Int) (a b c:List Int) (d:List aU) (e:Int) (g:aU) (h i:Int) (j:Bool):Option ((List Int × List Int × List Int × List aU × Int) ⊕ ((List Int × List Int × List Int × List aU) ⊕ ((List aU) × Bool))):=
 if (!j) then (ob (pX a ([h]:List Int)) fun k=>
 ob (pX b ([i]:List Int)) fun l=>
 ob (pX c ([f]:List Int)) fun m=>
 ob (pX d ([g]:List aU)) fun n=>
 tH e k l m n) else (tH e a b c d)
def tI (a:Int) (b:Bool):Option ((Bool × Int) ⊕ Bool):=
 some (.inl (b,wr (a+1)))
def aCz (b d:List Int) (e f:Int) (c:Bool) (a:Int):Option ((Bool × Int) ⊕ Bool):=
 if (decide (a < (b.length:Int))) then (if c then (tI a true) else (ob (ix b a) fun g=>
 if (g == e) then (ob (ix d a) fun h=>
 tI a (h == f)) else (tI a false))) else (some (.inr c))
def wG (b:Int) (c d e:List Int) (f:List aU) (j:Int) (g:aU) (h i:Int) (k:Bool):Option ((List Int × List Int × List Int × List aU × Int) ⊕ ((List Int × List Int × List Int × List aU) ⊕ ((List aU) × Bool))):=
 if k then (ob (loop (fun (s:(List aU × Int))=>aCy e f s.1 s.2) (([g]:List aU),b)) fun r=>yU r) else (ob (loop (fun (s:(Bool × Int))=>aCz c d h i s.1 s.2) (false,0)) fun r=>yV b c d e f j g h i r)
def nN (h:Int) (a b c:List Int) (d:List aU) (e:Int) (i:aU) (f g:Int) (j:Bool):Option ((List Int × List Int × List Int × List aU × Int) ⊕ ((List Int × List Int × List Int × List aU) ⊕ ((List aU) × Bool))):=
 if j then (tH e a b c d) else (if (decide (f < 0)) then (wG h a b c d e i f g true) else (wG h a b c d e i f g (decide (g < 0))))
def aBp (a b:cG) (o:Bool) (l:(List aU)) (c:Int) (d e i:List Int) (j:List aU) (f:Int):Option ((List Int × List Int × List Int × List aU × Int) ⊕ ((List Int × List Int × List Int × List aU) ⊕ ((List aU) × Bool))):=
 if (decide (f < (l.length:Int))) then (ob (ix d c) fun p=>
 ob (ix l f) fun g=>
 ob (aHU a p g) fun k=>
 ob (ix e c) fun q=>
 ob (aHU b q g) fun h=>
 if (decide (k < 0)) then (if (decide (h < 0)) then (nN c d e i j f g k h true) else (nN c d e i j f g k h false)) else (if (decide (h < 0)) then (nN c d e i j f g k h (!o)) else (nN c d e i j f g k h false))) else (some (.inr (.inl (d,e,i,j))))
def aBq (a b:cG) (h:Bool) (i:(List aU)) (e j k:List Int) (l:List aU) (d:Int):Option ((List Int × List Int × List Int × List aU × Int) ⊕ (Unit ⊕ ((List aU) × Bool))):=
 if (decide (d < (e.length:Int))) then (ob (loop (fun (s:(List Int × List Int × List Int × List aU × Int))=>aBp a b h i d s.1 s.2.1 s.2.2.1 s.2.2.2.1 s.2.2.2.2) (e,j,k,l,1)) fun r=>match r with|.inl r=>yT d r.1 r.2.1 r.2.2.1 r.2.2.2|.inr r=>some (.inr (.inr r))) else (some (.inr (.inl ())))
def aEH (a b:cG) (f:Bool):Option ((List aU) × Bool):=
 ob (pX ([]:List aU) a.L) fun g=>
 ob (pX g b.L) fun h=>
 ob (uD h) fun i=>
 ob (loop (fun (s:(List Int × List Int × List Int × List aU × Int))=>aBq a b f i s.1 s.2.1 s.2.2.1 s.2.2.2.1 s.2.2.2.2) (([0]:List Int),([0]:List Int),([(-1)]:List Int),([([]:aU)]:List aU),0)) fun r=>match r with|.inl r=>yS|.inr r=>some r
def pN (a b:cG) (g:Bool):Option (Bool × (List aU) × Int):=
 if g then (some (false,[],1)) else (ob (aGj a b) fun c=>
 if (!c.2.2) then (some (false,[],5)) else (ob (aEH c.1 c.2.1 true) fun d=>
 some (!d.2,d.1,0)))
def rO (a b:cG):Option (Bool × (List aU) × Int):=
 ob (aFh a) fun e=>
 if (!e) then (pN a b true) else (ob (aFh b) fun f=>
 pN a b (!f))
def aBf (t:cG) (n:Int):Option (cG × Int):=
 ob (mZ t) fun d=>
 if (!d) then (some (⟨0,0,[],[]⟩,1)) else (ob (sG n 0 12) fun e=>
 if (!e) then (some (⟨0,0,[],[]⟩,2)) else (ob (gO t) fun b=>
 if (!b.2.2) then (some (⟨0,0,[],[]⟩,5)) else (some (b.1,0))))
def yW (a:List Edge):Option (List Edge):=
 some a
def yX (a:Int) (b:List Edge):Option ((List Edge × Int) ⊕ (List Edge)):=
 some (.inl (b,wr (a+1)))
def uQ (t:cG) (k:Int) (b:List Edge) (a:Int):Option ((List Edge × Int) ⊕ (List Edge)):=
 if (decide (a < (t.E.length:Int))) then (ob (ix t.E a) fun d=>
 if (d.F == k) then (ob (pX b ([d]:List Edge)) fun f=>
 yX a f) else (yX a b)) else (some (.inr b))
def aBY (t:cG) (k:Int):Option (List Edge):=
 ob (loop (fun (s:(List Edge × Int))=>uQ t k s.1 s.2) ([],0)) fun r=>yW r
def aAJ (a:List (List aU)):Option ((List (List aU)) × Int):=
 some (a,0)
def kL (b:List aY) (c:List (List aU)) (a:Int):Option ((List (List aU) × Int) ⊕ (List (List aU))):=
 if (decide (a < (b.length:Int))) then (ob (ix b a) fun d=>
 ob (pX c ([d.trace]:List (List aU))) fun e=>
 some (.inl (e,wr (a+1)))) else (some (.inr c))
def vT (a:List aY):Option ((List (List aU)) × Int):=
 if (decide (200 < (a.length:Int))) then (some ([],5)) else (ob (loop (fun (s:(List (List aU) × Int))=>kL a s.1 s.2) ([],0)) fun r=>aAJ r)
def rP (a:Int) (b:List aY):Option ((List aY × Int) ⊕ (List aY)):=
 some (.inl (b,wr (a+1)))
def aAK (a:Int) (b:List aY):Option ((List aY × Int) ⊕ (List aY)):=
 rP a b
def aAL (a:Int) (b:List aY):Option ((List aY × Int) ⊕ (List aY)):=
 some (.inl (b,wr (a+1)))
def kM (e:(cG × Int)) (f:aY) (b:(List Edge)) (c:List aY) (a:Int):Option ((List aY × Int) ⊕ (List aY)):=
 if (decide (a < (b.length:Int))) then (ob (ix b a) fun d=>
 ob (ix e.1.L d.B) fun g=>
 ob (eB f.trace) fun h=>
 ob (pX h ([g]:List aU)) fun i=>
 ob (pX c ([⟨d.To,0,i⟩]:List aY)) fun j=>
 aAL a j) else (some (.inr c))
def oK (n:Int) (e:(cG × Int)) (b:List aY) (c:Int) (g:Bool):Option ((List aY × Int) ⊕ (List aY)):=
 if g then (ob (ix b c) fun d=>
 if ((d.trace.length:Int) == n) then (rP c b) else (ob (aBY e.1 d.a) fun h=>
 ob (loop (fun (s:(List aY × Int))=>kM e d h s.1 s.2) (b,0)) fun r=>aAK c r)) else (some (.inr b))
def iJ (n:Int) (d:(cG × Int)) (a:List aY) (b:Int):Option ((List aY × Int) ⊕ (List aY)):=
 if (decide (b < (a.length:Int))) then (oK n d a b (decide ((a.length:Int)≤200))) else (oK n d a b false)
def aAi (t:cG) (n:Int):Option ((List (List aU)) × Int):=
 ob (aBf t n) fun a=>
 if (a.2 != 0) then (some ([],a.2)) else (ob (loop (fun (s:(List aY × Int))=>iJ n a s.1 s.2) (([⟨0,0,[]⟩]:List aY),0)) fun r=>vT r)
def yY (a:aU):Option Bool:=
 ob (aBU a) fun b=>
 some (!b)
def fI:Option Int:=
 some (-1)
def dU (b:(List aU)) (a:Int):Option (Int ⊕ (Unit ⊕ Int)):=
 if (decide (a < (b.length:Int))) then (ob (ix b a) fun c=>
 ob (yY c) fun d=>
 if d then (some (.inr (.inr a))) else (some (.inl (wr (a+1))))) else (some (.inr (.inl ())))
def fY (b:(List aU)):Option Int:=
 ob (loop (fun (s:Int)=>dU b s) 0) fun r=>match r with|.inl r=>fI|.inr r=>some r
def fJ (a:(List aU)):Option Bool:=
 ob (fY a) fun b=>
 some (decide (0≤b))
def aBg (a:(List aU)):Option Bool:=
 ob (fJ a) fun b=>
 some (!b)
def fD (a:(List aU)) (b:aU):Option Bool:=
 ob (eS a b) fun c=>
 some (decide (0≤c))
def wH (a:Bool):Option Bool:=
 some a
def yZ (a:(List aU)):Option Bool:=
 ob (aBg a) fun b=>
 if b then (ob (fD a ([116,97,117]:aU)) fun c=>
 wH (!c)) else (wH false)
def zD (a:List Int):Option (List Int):=
 some a
def jS (t:cG) (b:(List aU)) (c:List Int) (a:Int):Option ((List Int × Int) ⊕ (List Int)):=
 if (decide (a < (b.length:Int))) then (ob (ix b a) fun e=>
 ob (jD t c e) fun f=>
 some (.inl (f,wr (a+1)))) else (some (.inr c))
def aBh (t:cG) (b:(List aU)):Option (List Int):=
 ob (jP t ([t.I]:List Int)) fun c=>
 ob (loop (fun (s:(List Int × Int))=>jS t b s.1 s.2) (c,0)) fun r=>zD r
def iO (t:cG) (b:(List aU)):Option ((List Int) × Int):=
 ob (mZ t) fun d=>
 if (!d) then (some ([],1)) else (ob (yZ b) fun e=>
 if (!e) then (some ([],2)) else (ob (aBh t b) fun c=>
 if ((c.length:Int) == 0) then (some ([],3)) else (some (c,0))))
def vU (a:Bool):Option Bool:=
 some a
def rQ (a:((List (List aU)) × Int)):Option Bool:=
 some (decide (0 < (a.1.length:Int)))
def kN (c:(cG × cG)) (b:((List (List aU)) × Int)) (a:Int):Option (Int ⊕ (Unit ⊕ Bool)):=
 if (decide (a < (b.1.length:Int))) then (ob (ix b.1 a) fun d=>
 ob (iO c.1 d) fun e=>
 if (e.2 != 0) then (some (.inr (.inr false))) else (some (.inl (wr (a+1))))) else (some (.inr (.inl ())))
def rR (a:Bool):Option Bool:=
 some a
def mK (b:(cG × cG)) (a:(Bool × (List aU) × Int)) (f:Bool):Option Bool:=
 if f then (some false) else (if a.1 then (ob (aAi b.2 2) fun c=>
 if (c.2 != 0) then (some (c.2 == 5)) else (ob (loop (fun (s:Int)=>kN b c s) 0) fun r=>match r with|.inl r=>rQ c|.inr r=>some r)) else (if ((a.2.1.length:Int) == 0) then (some false) else (ob (iO b.2 a.2.1) fun e=>
 ob (iO b.1 a.2.1) fun g=>
 ob (tU a.2.1 0 (wr ((a.2.1.length:Int) - 1))) fun h=>
 ob (iO b.1 h) fun i=>
 if (e.2 == 0) then (if (decide (0 < (e.1.length:Int))) then (if (g.2 == 3) then (rR (i.2 == 0)) else (rR false)) else (rR false)) else (rR false))))
def jE (a:(cG × cG)) (b e c:(Bool × (List aU) × Int)) (f:Bool):Option Bool:=
 if f then (ob (rO a.1 a.2) fun d=>
 if (b.2.2 == d.2.2) then (if (e.2.2 == d.2.2) then (vU (c.2.2 == d.2.2)) else (vU false)) else (vU false)) else (if b.1 then (mK a b (c.1 != e.1)) else (mK a b (c.1 != false)))
def aEd (e:(List UInt8)):Option Bool:=
 ob (aFe e) fun f=>
 if f then (some true) else (ob (aDz e) fun a=>
 ob (fG ⟨a.1.N,a.1.I,a.1.L,a.1.E⟩ ⟨a.2.N,a.2.I,a.2.L,a.2.E⟩) fun b=>
 ob (fG a.2 a.1) fun c=>
 ob (mJ a.1 a.2) fun d=>
 if (b.2.2 != 0) then (jE a b c d true) else (if (c.2.2 != 0) then (jE a b c d true) else (jE a b c d (d.2.2 != 0))))
end
end Gv
