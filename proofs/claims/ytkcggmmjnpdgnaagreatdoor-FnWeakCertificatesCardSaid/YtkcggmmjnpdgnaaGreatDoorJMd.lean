/- Models of the functions, printed by program off their code. Plain Lean. -/
import Derived.Test.YtkcggmmjnpdgnaaGreatDoorJLM
set_option linter.all false
namespace Gv
noncomputable section
def aFS (a:List Int):Option ((List Int) × Bool):=
 some (a,true)
def xD (b:(List aY)) (c:List Int) (a:Int):Option ((List Int × Int) ⊕ (List Int ⊕ ((List Int) × Bool))):=
 if (decide (a < (b.length:Int))) then (ob (ix b a) fun e=>
 ob (yO e) fun d=>
 if (!d.2) then (some (.inr (.inr ([],false)))) else (ob (rE c ([d.1]:List Int)) fun f=>
 some (.inl (f,wr (a+1))))) else (some (.inr (.inl c)))
def yP (b:(List aY)):Option ((List Int) × Bool):=
 ob (loop (fun (s:(List Int × Int))=>xD b s.1 s.2) ([],0)) fun r=>match r with|.inl r=>aFS r|.inr r=>some r
def aGH (a:Bool):Option Bool:=
 some a
def aHX (c:UInt8):Option Bool:=
 if (decide (48<=(c.toNat:Int))) then (aGH (decide ((c.toNat:Int)<=57))) else (aGH false)
def aHs (a:Bool):Option Bool:=
 some a
def aFj (a:aY):Option Bool:=
 if (decide (1<=(a.length:Int))) then (aHs (decide ((a.length:Int)<=10))) else (aHs false)
def aCI (a:Int) (b:Bool):Option (Int ⊕ (Unit ⊕ Bool)):=
 if b then (some (.inr (.inr false))) else (some (.inl (wr (a+1))))
def tI (b:aY) (a:Int) (c:Bool):Option (Int ⊕ (Unit ⊕ Bool)):=
 if (!c) then (if (a == 0) then (aCI a true) else (ob (ix b a) fun d=>
 ob (aHX d) fun e=>
 aCI a (!e))) else (aCI a false)
def aAA (a:aY) (b:Int):Option (Int ⊕ (Unit ⊕ Bool)):=
 if (decide (b < (a.length:Int))) then (ob (ix a b) fun c45=>
 if (decide (97<=(c45.toNat:Int))) then (tI a b (decide ((c45.toNat:Int)<=122))) else (tI a b false)) else (some (.inr (.inl ())))
def aHt (b:aY):Option Bool:=
 ob (loop (fun (s:Int)=>aAA b s) 0) fun r=>match r with|.inl r=>aFj b|.inr r=>some r
def aCp (a:Bool):Option Bool:=
 some a
def aBS (a:aY):Option Bool:=
 ob (aHt a) fun b=>
 if b then (aCp (!(a == ([116,97,117]:aY)))) else (aCp false)
def aHu (a:Bool):Option Bool:=
 some a
def vU (n low b:Int):Option Bool:=
 if (decide (low<=n)) then (aHu (decide (n<=b))) else (aHu false)
def aJy (n:Int):Option Bool:=
 ob (vU n 0 63) fun b=>
 some b
def aEt (n:Int):Option Bool:=
 ob (aJy n) fun b=>
 some (!b)
def nX:Option Int:=
 some (-1)
def eT (b:(List Int)) (a:Int):Option (Int ⊕ (Unit ⊕ Int)):=
 if (decide (a < (b.length:Int))) then (ob (ix b a) fun c=>
 ob (aEt c) fun d=>
 if d then (some (.inr (.inr a))) else (some (.inl (wr (a+1))))) else (some (.inr (.inl ())))
def gZ (b:(List Int)):Option Int:=
 ob (loop (fun (s:Int)=>eT b s) 0) fun r=>match r with|.inl r=>nX|.inr r=>some r
def iV (a:(List Int)):Option Bool:=
 ob (gZ a) fun b=>
 some (decide (0<=b))
def aFk (a:(List Int)):Option Bool:=
 ob (iV a) fun b=>
 some (!b)
def aHv (a:aY) (b:List aY):Option aY:=
 ob (aMV b a) fun c=>
 some c
def aCJ (c:(List Int)) (b:List aY) (a:Int):Option ((List aY × Int) ⊕ (List aY)):=
 if (decide (a < (c.length:Int))) then (ob (ix c a) fun d=>
 ob (aFQ d) fun e=>
 ob (ix b a) fun g=>
 ob (st b a (e:aY)) fun f=>
 some (.inl (f,wr (a+1)))) else (some (.inr b))
def aHw (a:(List Int)) (b:aY):Option aY:=
 ob (mkz (a.length:Int) ([]:aY)) fun c=>
 ob (loop (fun (s:(List aY × Int))=>aCJ a s.1 s.2) (c,0)) fun r=>aHv b r
def aAW (a:aY) (b:(List Int)) (c:Bool):Option (aY × Bool):=
 if c then (some (([]:aY),false)) else (if ((b.length:Int) == 0) then (some (a,true)) else (ob (cat a ([40]:aY)) fun d=>
 ob (aHw b ([44]:aY)) fun e=>
 ob (cat d e) fun f=>
 ob (cat f ([41]:aY)) fun g=>
 some (g,true)))
def aFT (b:aY) (a:(List Int)):Option (aY × Bool):=
 if (b == ([116,97,117]:aY)) then (some (([116,97,117]:aY),(a.length:Int) == 0)) else (ob (aBS b) fun c=>
 if (!c) then (aAW b a true) else (if (decide (2 < (a.length:Int))) then (aAW b a true) else (ob (aFk a) fun d=>
 aAW b a (!d))))
def eW (a:Bool):Option Bool:=
 some a
def eM (a b:aY):Option Bool:=
 if (decide ((b.length:Int)<=(a.length:Int))) then (ob (slc a (wr ((a.length:Int) - (b.length:Int))) (a.length:Int)) fun c=>
 eW (c == b)) else (eW false)
def kQ (a b:aY):Option aY:=
 ob (eM a b) fun c=>
 if c then (ob (slc a 0 (wr ((a.length:Int) - (b.length:Int)))) fun d=>
 some d) else (some a)
def qM (a b:aY):Option aY:=
 ob (kQ a b) fun c=>
 some c
def oY (a:(aY × aY × Bool)) (b:List Int) (c:Bool):Option (aY × (List Int) × Bool):=
 if c then (some (([]:aY),[],false)) else (some (a.1,b,true))
def mK (d:aY) (a:(aY × aY × Bool)) (b:List Int):Option (aY × (List Int) × Bool):=
 ob (aFT a.1 b) fun c=>
 if (!c.2) then (oY a b true) else (oY a b (!(c.1 == d)))
def vV (b:aY):Option (aY × (List Int) × Bool):=
 ob (l_Cut b ([40]:aY)) fun a=>
 if a.2.2 then (ob (qM a.2.1 ([41]:aY)) fun d=>
 ob (aIW d ([44]:aY)) fun e=>
 ob (yP e) fun c=>
 if (!c.2) then (some (([]:aY),[],false)) else (mK b a c.1)) else (mK b a [])
def aEb (a:aY):Option Bool:=
 ob (vV a) fun b=>
 some b.2.2
def aBT (a:(List UInt8)):Option Bool:=
 some (decide (1048576 < (a.length:Int)))
def aFU (a:(List UInt8)):Option (Int × Int):=
 some (0,0)
def aJa:Option Int:=
 some (-1)
def aDO (b:(List aY)) (c:aY) (a:Int):Option (Int ⊕ (Unit ⊕ Int)):=
 if (decide (a < (b.length:Int))) then (ob (ix b a) fun d=>
 if (d == c) then (some (.inr (.inr a))) else (some (.inl (wr (a+1))))) else (some (.inr (.inl ())))
def aBU (b:(List aY)) (c:aY):Option Int:=
 ob (loop (fun (s:Int)=>aDO b c s) 0) fun r=>match r with|.inl r=>aJa|.inr r=>some r
def aGI (a:List aY):Option (List aY):=
 some a
def xE (a:Int) (b:List aY):Option ((List aY × Int) ⊕ (List aY)):=
 some (.inl (b,wr (a+1)))
def aAX (c:Int) (d:aY) (a:Int) (b:List aY):Option ((List aY × Int) ⊕ (List aY)):=
 ob (ix b a) fun f=>
 ob (st b a (d:aY)) fun e=>
 xE c e
def aAY (c:Int) (b:List aY) (a:Int):Option ((List aY × Int) ⊕ (List aY)):=
 if (decide (c < a)) then (ob (ix b (wr (a - 1))) fun d=>
 ob (ix b a) fun f=>
 ob (st b a (d:aY)) fun e=>
 some (.inl (e,wr (a - 1)))) else (some (.inr b))
def aAZ (c:List aY) (d:Int) (e:aY) (a:Int):Option ((List aY × Int) ⊕ (List aY)):=
 ob (rE c ([([]:aY)]:List aY)) fun b=>
 ob (loop (fun (s:(List aY × Int))=>aAY a s.1 s.2) (b,wr ((b.length:Int) - 1))) fun r=>aAX d e a r
def xF (a:Int) (b:Bool):Option (Int ⊕ Int):=
 if b then (some (.inl (wr (a+1)))) else (some (.inr a))
def xG (b:List aY) (c:aY) (a:Int):Option (Int ⊕ Int):=
 if (decide (a < (b.length:Int))) then (ob (ix b a) fun d=>
 xF a (ltB d c)) else (xF a false)
def tL (d:(List aY)) (a:List aY) (b:Int):Option ((List aY × Int) ⊕ (List aY)):=
 if (decide (b < (d.length:Int))) then (ob (ix d b) fun c=>
 ob (aBU a c) fun e=>
 if (decide (0<=e)) then (xE b a) else (ob (loop (fun (s:Int)=>xG a c s) 1) fun r=>aAZ a b c r)) else (some (.inr a))
def aFV (a:(List aY)):Option (List aY):=
 ob (loop (fun (s:(List aY × Int))=>tL a s.1 s.2) (([([116,97,117]:aY)]:List aY),0)) fun r=>aGI r
def aEc (a b:Edge):Option Bool:=
 if (a.F != b.F) then (some (decide (a.F < b.F))) else (if (a.B != b.B) then (some (decide (a.B < b.B))) else (some (decide (a.To < b.To))))
def aCK (e:Edge) (b:Int) (c:List Edge):Option (List Edge):=
 ob (ix c b) fun f=>
 ob (st c b (⟨e.F,e.B,e.To⟩:Edge)) fun d=>
 some d
def aCL (d:Int) (b:List Edge) (a:Int):Option ((List Edge × Int) ⊕ (List Edge)):=
 if (decide (d < a)) then (ob (ix b (wr (a - 1))) fun c=>
 ob (ix b a) fun f=>
 ob (st b a (⟨c.F,c.B,c.To⟩:Edge)) fun e=>
 some (.inl (e,wr (a - 1)))) else (some (.inr b))
def aAB (a:(List Edge)) (e:Edge) (b:Int) (f:Bool):Option (List Edge):=
 if f then (some a) else (ob (rE a ([⟨0,0,0⟩]:List Edge)) fun c=>
 ob (loop (fun (s:(List Edge × Int))=>aCL b s.1 s.2) (c,wr ((c.length:Int) - 1))) fun r=>aCK e b r)
def aCM (b:(List Edge)) (e:Edge) (a:Int):Option (List Edge):=
 if (decide (0 < a)) then (ob (ix b (wr (a - 1))) fun d=>
 aAB b e a (decide ((d:Edge)=e))) else (aAB b e a false)
def aAC (a:Int) (b:Bool):Option (Int ⊕ Int):=
 if b then (some (.inl (wr (a - 1)))) else (some (.inr a))
def aAD (b:(List Edge)) (e:Edge) (a:Int):Option (Int ⊕ Int):=
 if (decide (0 < a)) then (ob (ix b (wr (a - 1))) fun d=>
 ob (aEc e d) fun f=>
 aAC a f) else (aAC a false)
def aHx (a:(List Edge)) (e:Edge):Option (List Edge):=
 ob (loop (fun (s:Int)=>aAD a e s) (a.length:Int)) fun r=>aCM a e r
def aDP (a b:Int) (c:(List aY)) (d:List Edge):Option cB:=
 some ⟨a,b,c,d⟩
def xH (e:(List aY)) (c:(List Edge)) (f:(List aY)) (d:List Edge) (a:Int):Option ((List Edge × Int) ⊕ (List Edge)):=
 if (decide (a < (c.length:Int))) then (ob (ix c a) fun b=>
 ob (ix e b.B) fun g=>
 ob (aBU f g) fun h=>
 ob (aHx d ⟨b.F,h,b.To⟩) fun i=>
 some (.inl (i,wr (a+1)))) else (some (.inr d))
def rZ (c d:Int) (a:(List aY)) (e:(List Edge)):Option cB:=
 ob (aFV a) fun b=>
 ob (loop (fun (s:(List Edge × Int))=>xH a e b s.1 s.2) (([]:List Edge),0)) fun r=>aDP c d b r
def yQ (a:Bool):Option Bool:=
 some a
def vW (e:Edge) (p:(List Int)):Option Bool:=
 if (e.B == 0) then (ob (ix p e.F) fun c=>
 ob (ix p e.To) fun d=>
 yQ (c == d)) else (yQ false)
def aDQ (a:List Int):Option (List Int):=
 some a
def aBa (a:Int) (b:List Int):Option ((List Int × Int) ⊕ (List Int)):=
 some (.inl (b,wr (a+1)))
def qN (c:(List Bool)) (b:List Int) (a:Int):Option ((List Int × Int) ⊕ (List Int)):=
 if (decide (a < (c.length:Int))) then (ob (ix c a) fun d=>
 if d then (ob (rE b ([a]:List Int)) fun e=>
 aBa a e) else (aBa a b)) else (some (.inr b))
def aFW (a:(List Bool)):Option (List Int):=
 ob (loop (fun (s:(List Int × Int))=>qN a s.1 s.2) (([]:List Int),0)) fun r=>aDQ r
def uA (a:List Bool):Option (List Bool):=
 some a
def aDq (a:List Bool) (b:Bool):Option ((List Bool × Bool) ⊕ (List Bool)):=
 some (.inl (a,b))
def zW (a:List Bool) (b:Bool):Option ((List Bool × Bool) ⊕ (List Bool)):=
 aDq a b
def nH (a:Int) (b:List Bool) (c:Bool):Option ((List Bool × Bool × Int) ⊕ (List Bool × Bool)):=
 some (.inl (b,c,wr (a+1)))
def uB (b:List Bool) (c:Bool) (a:Int) (d:Bool):Option ((List Bool × Bool × Int) ⊕ (List Bool × Bool)):=
 if (!d) then (ob (st b a (false:Bool)) fun e=>
 nH a e true) else (nH a b c)
def lH (a:Int) (b:Bool):Option ((Bool × Int) ⊕ Bool):=
 some (.inl (b,wr (a+1)))
def lI (t:cB) (p:(List Int)) (f:List Bool) (g:Int) (d:Bool) (a:Int):Option ((Bool × Int) ⊕ Bool):=
 if (decide (a < (t.E.length:Int))) then (ob (ix t.E a) fun b=>
 if d then (lH a true) else (if (b.F == g) then (ob (vW b p) fun h=>
 if h then (ob (ix f b.To) fun i=>
 lH a i) else (lH a false)) else (lH a false))) else (some (.inr d))
def nI (t:cB) (p:(List Int)) (a:List Bool) (c:Bool) (b:Int):Option ((List Bool × Bool × Int) ⊕ (List Bool × Bool)):=
 if (decide (b < t.N)) then (ob (ix a b) fun f=>
 if (!f) then (nH b a c) else (ob (loop (fun (s:(Bool × Int))=>lI t p a b s.1 s.2) (false,0)) fun r=>uB a c b r)) else (some (.inr (a,c)))
def pU (t:cB) (p:(List Int)) (a:List Bool) (e:Bool):Option ((List Bool × Bool) ⊕ (List Bool)):=
 if e then (ob (loop (fun (s:(List Bool × Bool × Int))=>nI t p s.1 s.2.1 s.2.2) (a,false,0)) fun r=>zW r.1 r.2) else (some (.inr a))
def sA (t:cB) (p:(List Int)) (c:List Bool):Option (List Bool):=
 ob (loop (fun (s:(List Bool × Bool))=>pU t p s.1 s.2) (c,true)) fun r=>uA r
def jX (t:cB) (b:List Bool) (a:Int):Option ((List Bool × Int) ⊕ (List Bool)):=
 if (decide (a < t.N)) then (ob (ix b a) fun e=>
 ob (st b a (true:Bool)) fun d=>
 some (.inl (d,wr (a+1)))) else (some (.inr b))
def xI (t:cB) (p:(List Int)):Option (List Bool):=
 ob (mkz t.N (false:Bool)) fun c=>
 ob (loop (fun (s:(List Bool × Int))=>jX t s.1 s.2) (c,0)) fun r=>sA t p r
def aJb (a b:Int):Option Int:=
 if (decide (b < a)) then (some a) else (some b)
def aBb (a:Int):Option Int:=
 some a
def sB (p:(List Int)) (c a:Int):Option ((Int × Int) ⊕ Int):=
 if (decide (a < (p.length:Int))) then (ob (ix p a) fun d=>
 ob (aJb c (wr (d+1))) fun e=>
 some (.inl (e,wr (a+1)))) else (some (.inr c))
def aAE (p:(List Int)):Option Int:=
 ob (loop (fun (s:(Int × Int))=>sB p s.1 s.2) (0,0)) fun r=>aBb r
def oN (t:cB) (p:(List Int)) (c:List Edge):Option cB:=
 ob (ix p t.I) fun d=>
 ob (aAE p) fun e=>
 ob (rZ e d t.L c) fun f=>
 some f
def aBV (t:cB) (p:(List Int)) (c:List Edge):Option cB:=
 oN t p c
def jY (p b:(List Int)) (c:List Edge) (a:Int):Option ((List Edge × Int) ⊕ (List Edge)):=
 if (decide (a < (b.length:Int))) then (ob (ix b a) fun f=>
 ob (ix p f) fun d=>
 ob (rE c ([⟨d,0,d⟩]:List Edge)) fun g=>
 some (.inl (g,wr (a+1)))) else (some (.inr c))
def xJ (t:cB) (p:(List Int)) (d:Bool) (c:List Edge):Option cB:=
 if d then (ob (xI t p) fun e=>
 ob (aFW e) fun f=>
 ob (loop (fun (s:(List Edge × Int))=>jY p f s.1 s.2) (c,0)) fun r=>aBV t p r) else (oN t p c)
def sC (a:Int) (b:List Edge):Option ((List Edge × Int) ⊕ (List Edge)):=
 some (.inl (b,wr (a+1)))
def jZ (t:cB) (p:(List Int)) (d:List Edge) (a:Int):Option ((List Edge × Int) ⊕ (List Edge)):=
 if (decide (a < (t.E.length:Int))) then (ob (ix t.E a) fun b=>
 ob (vW b p) fun f=>
 if (!f) then (ob (ix p b.F) fun g=>
 ob (ix p b.To) fun h=>
 ob (rE d ([⟨g,b.B,h⟩]:List Edge)) fun i=>
 sC a i) else (sC a d)) else (some (.inr d))
def rG (t:cB) (p:(List Int)) (c:Bool):Option cB:=
 ob (loop (fun (s:(List Edge × Int))=>jZ t p s.1 s.2) (([]:List Edge),0)) fun r=>xJ t p c r
def aIo:Option Int:=
 some (-1)
def aCq (b:(List Int)) (n a:Int):Option (Int ⊕ (Unit ⊕ Int)):=
 if (decide (a < (b.length:Int))) then (ob (ix b a) fun d=>
 if (d == n) then (some (.inr (.inr a))) else (some (.inl (wr (a+1))))) else (some (.inr (.inl ())))
def aAp (b:(List Int)) (n:Int):Option Int:=
 ob (loop (fun (s:Int)=>aCq b n s) 0) fun r=>match r with|.inl r=>aIo|.inr r=>some r
def aJc (a:(List Int)) (b:Int) (c:List aY) (d:List Edge):Option cB:=
 some ⟨(a.length:Int),b,c,d⟩
def tM (a:Int) (b:List Edge):Option ((List Edge × Int) ⊕ (List Edge)):=
 some (.inl (b,wr (a+1)))
def xK (a:List Edge) (b:Int) (c:Edge) (d e:Int) (f:Bool):Option ((List Edge × Int) ⊕ (List Edge)):=
 if f then (ob (rE a ([⟨d,c.B,e⟩]:List Edge)) fun g=>
 tM b g) else (tM b a)
def xL (t:cB) (g:(List Int)) (c:List Edge) (a:Int):Option ((List Edge × Int) ⊕ (List Edge)):=
 if (decide (a < (t.E.length:Int))) then (ob (ix t.E a) fun b=>
 ob (aAp g b.F) fun d=>
 ob (aAp g b.To) fun e=>
 if (decide (0<=d)) then (xK c a b d e (decide (0<=e))) else (xK c a b d e false)) else (some (.inr c))
def aEd (t:cB) (b:(List Int)):Option cB:=
 ob (aAp b t.I) fun c=>
 ob (rE ([]:List aY) t.L) fun d=>
 ob (loop (fun (s:(List Edge × Int))=>xL t b s.1 s.2) (([]:List Edge),0)) fun r=>aJc b c d r
def aIp (a:List Int):Option (List Int):=
 some a
def yR (a:Int) (b:List Int):Option ((List Int × Int) ⊕ (List Int)):=
 some (.inl (b,wr (a+1)))
def yS (t:cB) (d:List Bool) (b:List Int) (a:Int):Option ((List Int × Int) ⊕ (List Int)):=
 if (decide (a < t.N)) then (ob (ix d a) fun e=>
 if e then (ob (rE b ([a]:List Int)) fun f=>
 yR a f) else (yR a b)) else (some (.inr b))
def yT (t:cB) (b:List Bool):Option (List Int):=
 ob (loop (fun (s:(List Int × Int))=>yS t b s.1 s.2) (([]:List Int),0)) fun r=>aIp r
def aFC (a:List Bool) (b:Bool):Option ((List Bool × Bool) ⊕ (List Bool)):=
 some (.inl (a,b))
def aFD (a:List Bool) (b:Bool):Option ((List Bool × Bool) ⊕ (List Bool)):=
 aFC a b
def rH (a:Int) (b:List Bool) (c:Bool):Option ((List Bool × Bool × Int) ⊕ (List Bool × Bool)):=
 some (.inl (b,c,wr (a+1)))
def rI (t:cB) (a:List Bool) (e:Bool) (b:Int) (f:Bool):Option ((List Bool × Bool × Int) ⊕ (List Bool × Bool)):=
 if f then (ob (ix t.E b) fun c=>
 ob (ix a c.To) fun h=>
 ob (st a c.To (true:Bool)) fun g=>
 rH b g true) else (rH b a e)
def yU (t:cB) (a:List Bool) (d:Bool) (c:Int):Option ((List Bool × Bool × Int) ⊕ (List Bool × Bool)):=
 if (decide (c < (t.E.length:Int))) then (ob (ix t.E c) fun e=>
 ob (ix a e.F) fun f=>
 if f then (ob (ix a e.To) fun g=>
 rI t a d c (!g)) else (rI t a d c false)) else (some (.inr (a,d)))
def aEu (t:cB) (a:List Bool) (d:Bool):Option ((List Bool × Bool) ⊕ (List Bool)):=
 if d then (ob (loop (fun (s:(List Bool × Bool × Int))=>yU t s.1 s.2.1 s.2.2) (a,false,0)) fun r=>aFD r.1 r.2) else (some (.inr a))
def aBW (t:cB):Option (List Int):=
 ob (mkz t.N (false:Bool)) fun b=>
 ob (ix b t.I) fun e=>
 ob (st b t.I (true:Bool)) fun c=>
 ob (loop (fun (s:(List Bool × Bool))=>aEu t s.1 s.2) (c,true)) fun r=>yT t r
def aDR:Option Bool:=
 some true
def aBc (a b:(List Int)) (c:Int):Option (Int ⊕ (Unit ⊕ Bool)):=
 if (decide (c < (a.length:Int))) then (ob (ix a c) fun f=>
 ob (ix b c) fun g=>
 if (f != g) then (some (.inr (.inr false))) else (some (.inl (wr (c+1))))) else (some (.inr (.inl ())))
def aAF (a b:(List Int)):Option Bool:=
 if ((a.length:Int) != (b.length:Int)) then (some false) else (ob (loop (fun (s:Int)=>aBc a b s) 0) fun r=>match r with|.inl r=>aDR|.inr r=>some r)
def aCr (a:List Bool):Option (List Bool):=
 some a
def aFE (a:List Bool) (b:Bool):Option ((List Bool × Bool) ⊕ (List Bool)):=
 some (.inl (a,b))
def aCs (a:List Bool) (b:Bool):Option ((List Bool × Bool) ⊕ (List Bool)):=
 aFE a b
def uL (a:Int) (b:List Bool) (c:Bool):Option ((List Bool × Bool × Int) ⊕ (List Bool × Bool)):=
 some (.inl (b,c,wr (a+1)))
def oG (a:List Bool) (d:Bool) (b:Int) (c:Edge) (e:Bool):Option ((List Bool × Bool × Int) ⊕ (List Bool × Bool)):=
 if e then (ob (ix a c.To) fun g=>
 ob (st a c.To (true:Bool)) fun f=>
 uL b f true) else (uL b a d)
def rJ (t:cB) (p:(List Int)) (a:List Bool) (d:Bool) (c:Int):Option ((List Bool × Bool × Int) ⊕ (List Bool × Bool)):=
 if (decide (c < (t.E.length:Int))) then (ob (ix t.E c) fun b=>
 ob (ix a b.F) fun g=>
 if g then (ob (ix a b.To) fun h=>
 if (!h) then (ob (vW b p) fun i=>
 oG a d c b i) else (oG a d c b false)) else (oG a d c b false)) else (some (.inr (a,d)))
def uM (t:cB) (p:(List Int)) (a:List Bool) (e:Bool):Option ((List Bool × Bool) ⊕ (List Bool)):=
 if e then (ob (loop (fun (s:(List Bool × Bool × Int))=>rJ t p s.1 s.2.1 s.2.2) (a,false,0)) fun r=>aCs r.1 r.2) else (some (.inr a))
def aBX (t:cB) (p:(List Int)) (k:Int):Option (List Bool):=
 ob (mkz t.N (false:Bool)) fun c=>
 ob (ix c k) fun g=>
 ob (st c k (true:Bool)) fun e=>
 ob (loop (fun (s:(List Bool × Bool))=>uM t p s.1 s.2) (e,true)) fun r=>aCr r
def aCN (a:List Int):Option (List Int):=
 some a
def aCO (n:Int) (a:List Int) (c:Bool):Option (List Int):=
 if (!c) then (ob (rE a ([n]:List Int)) fun d=>
 aCN d) else (aCN a)
def vX (b:(List Int)) (a:Int) (c:List Int) (d:Bool):Option ((List Int × Bool × Int) ⊕ (List Int × Bool)):=
 ob (ix b a) fun e=>
 ob (rE c ([e]:List Int)) fun f=>
 some (.inl (f,d,wr (a+1)))
def aAG (a:(List Int)) (n:Int) (c:List Int) (e:Bool) (b:Int) (f:Bool):Option ((List Int × Bool × Int) ⊕ (List Int × Bool)):=
 if f then (ob (ix a b) fun g=>
 if (decide (n < g)) then (ob (rE c ([n]:List Int)) fun h=>
 vX a b h true) else (vX a b c true)) else (vX a b c e)
def vY (a:(List Int)) (n:Int) (e:List Int) (b:Bool) (c:Int):Option ((List Int × Bool × Int) ⊕ (List Int × Bool)):=
 if (decide (c < (a.length:Int))) then (if (!b) then (ob (ix a c) fun f=>
 aAG a n e b c (decide (n<=f))) else (aAG a n e b c false)) else (some (.inr (e,b)))
def aFX (c:(List Int)) (n:Int):Option (List Int):=
 ob (loop (fun (s:(List Int × Bool × Int))=>vY c n s.1 s.2.1 s.2.2) (([]:List Int),false,0)) fun r=>aCO n r.1 r.2
def aBd (a:List Int):Option (List Int):=
 some a
def sD (a:Int) (b:List Int):Option ((List Int × Int) ⊕ (List Int)):=
 some (.inl (b,wr (a+1)))
def oZ (p:(List Int)) (b:List Int) (c:Int) (d:Edge) (e:Bool):Option ((List Int × Int) ⊕ (List Int)):=
 if e then (ob (ix p d.To) fun f=>
 ob (aFX b (wr ((wr (d.B * (p.length:Int)))+f))) fun g=>
 sD c g) else (sD c b)
def mL (t:cB) (p:(List Int)) (f:(List Bool)) (d:List Int) (a:Int):Option ((List Int × Int) ⊕ (List Int)):=
 if (decide (a < (t.E.length:Int))) then (ob (ix t.E a) fun b=>
 ob (ix f b.F) fun g=>
 if g then (ob (vW b p) fun h=>
 oZ p d a b (!h)) else (oZ p d a b false)) else (some (.inr d))
def aCP (t:cB) (p:(List Int)) (k:Int):Option (List Int):=
 ob (aBX t p k) fun d=>
 ob (loop (fun (s:(List Int × Int))=>mL t p d s.1 s.2) (([]:List Int),0)) fun r=>aBd r
def aBe (a:List Int):Option (List Int):=
 some a
def aEv (a:Int) (b:List Int) (c:Int):Option ((List Int × Int × Int) ⊕ (List Int)):=
 some (.inl (b,c,wr (a+1)))
def aBf (a:List Int) (b c d:Int):Option ((List Int × Int × Int) ⊕ (List Int)):=
 ob (rE a ([d]:List Int)) fun e=>
 aEv b e c
def aBg (b:List Int) (a c d:Int):Option ((List Int × Int × Int) ⊕ (List Int)):=
 if (decide (d < 0)) then (aBf b c (wr (a+1)) a) else (aBf b c a d)
def aBh (a b:Int):Option ((Int × Int) ⊕ Int):=
 some (.inl (b,wr (a+1)))
def aBi (b:List Int) (c a:Int) (d:Bool):Option ((Int × Int) ⊕ Int):=
 if d then (ob (ix b a) fun e=>
 aBh a e) else (aBh a c)
def aBj (p:(List Int)) (d:List (List Int)) (e:List Int) (f b a:Int) (g:Bool):Option ((Int × Int) ⊕ Int):=
 if g then (ob (ix p a) fun h=>
 ob (ix p f) fun i=>
 if (h == i) then (ob (ix d a) fun j=>
 ob (ix d f) fun k=>
 ob (aAF j k) fun l=>
 aBi e b a l) else (aBi e b a false)) else (some (.inr b))
def aHy (p:(List Int)) (e:List (List Int)) (f:List Int) (a b c:Int):Option ((Int × Int) ⊕ Int):=
 if (decide (c < a)) then (aBj p e f a b c (decide (b < 0))) else (aBj p e f a b c false)
def aHz (p:(List Int)) (d:List (List Int)) (a:List Int) (e b:Int):Option ((List Int × Int × Int) ⊕ (List Int)):=
 if (decide (b < (p.length:Int))) then (ob (loop (fun (s:(Int × Int))=>aHy p d a b s.1 s.2) ((-1),0)) fun r=>aBg a e b r) else (some (.inr a))
def uC (p:(List Int)) (b:List (List Int)):Option (List Int):=
 ob (loop (fun (s:(List Int × Int × Int))=>aHz p b s.1 s.2.1 s.2.2) (([]:List Int),0,0)) fun r=>aBe r
def pV (a:List (List Int)) (b:Int) (c:List Int):Option ((List (List Int) × Int) ⊕ (List (List Int))):=
 ob (rE a ([c]:List (List Int))) fun d=>
 some (.inl (d,wr (b+1)))
def pW (a:List (List Int)) (b:Int) (c:(List Int)) (d:Bool):Option ((List (List Int) × Int) ⊕ (List (List Int))):=
 if d then (ob (rE c ([(-1)]:List Int)) fun e=>
 pV a b e) else (pV a b c)
def lJ (t:cB) (p:(List Int)) (f:Bool) (g:(List Bool)) (b:List (List Int)) (a:Int):Option ((List (List Int) × Int) ⊕ (List (List Int))):=
 if (decide (a < t.N)) then (ob (aCP t p a) fun d=>
 if f then (ob (ix g a) fun h=>
 pW b a d h) else (pW b a d false)) else (some (.inr b))
def aCQ (t:cB) (p:(List Int)) (c:Bool):Option (List Int):=
 ob (xI t p) fun d=>
 ob (loop (fun (s:(List (List Int) × Int))=>lJ t p c d s.1 s.2) (([]:List (List Int)),0)) fun r=>uC p r
def aBk (t:cB) (d:Bool) (a:List Int):Option ((List Int) ⊕ (List Int)):=
 ob (aCQ t a d) fun b=>
 ob (aAF b a) fun e=>
 if e then (some (.inr a)) else (some (.inl b))
def aFY (t:cB) (b:Bool):Option (List Int):=
 ob (mkz t.N (0:Int)) fun c=>
 ob (loop (fun (s:List Int)=>aBk t b s) c) fun r=>some r
def aBY (t:cB) (b:Bool):Option cB:=
 ob (aBW t) fun d=>
 ob (aEd t d) fun c=>
 ob (aFY c b) fun e=>
 ob (rG c e b) fun f=>
 some f
def aCR (a:List Edge):Option (List Edge):=
 some a
def aCS (a:Int) (b:List Edge):Option ((List Edge × Int) ⊕ (List Edge)):=
 some (.inl (b,wr (a+1)))
def aCT (t:cB) (k:Int) (b:List Edge) (a:Int):Option ((List Edge × Int) ⊕ (List Edge)):=
 if (decide (a < (t.E.length:Int))) then (ob (ix t.E a) fun d=>
 if (d.F == k) then (ob (rE b ([d]:List Edge)) fun f=>
 aCS a f) else (aCS a b)) else (some (.inr b))
def aHA (t:cB) (k:Int):Option (List Edge):=
 ob (loop (fun (s:(List Edge × Int))=>aCT t k s.1 s.2) (([]:List Edge),0)) fun r=>aCR r
def aHB (a:List Int):Option (List Int):=
 some a
def vZ (a:Int) (b:List Int) (c:Int):Option ((List Int × Int × Int) ⊕ (List Int)):=
 some (.inl (b,c,wr (a+1)))
def wA (a:List Int) (b c d:Int):Option ((List Int × Int × Int) ⊕ (List Int)):=
 ob (rE a ([d]:List Int)) fun e=>
 vZ b e c
def sE (b:List Int) (a c d:Int):Option ((List Int × Int × Int) ⊕ (List Int)):=
 if (decide (d < 0)) then (wA b c (wr (a+1)) a) else (wA b c a d)
def wB (a b:Int):Option ((Int × Int) ⊕ Int):=
 some (.inl (b,wr (a+1)))
def aBl (b:List Int) (c a:Int) (d:Bool):Option ((Int × Int) ⊕ Int):=
 if d then (ob (ix b a) fun e=>
 wB a e) else (wB a c)
def wC (c:List (List Bool)) (d:List Int) (e b a:Int) (f:Bool):Option ((Int × Int) ⊕ Int):=
 if f then (ob (ix c e) fun g=>
 ob (ix g a) fun h=>
 if h then (ob (ix c a) fun i=>
 ob (ix i e) fun j=>
 aBl d b a j) else (aBl d b a false)) else (some (.inr b))
def sF (d:List (List Bool)) (e:List Int) (a b c:Int):Option ((Int × Int) ⊕ Int):=
 if (decide (c < a)) then (wC d e a b c (decide (b < 0))) else (wC d e a b c false)
def jB (t:cB) (d:List (List Bool)) (a:List Int) (e b:Int):Option ((List Int × Int × Int) ⊕ (List Int)):=
 if (decide (b < t.N)) then (ob (loop (fun (s:(Int × Int))=>sF d a b s.1 s.2) ((-1),0)) fun r=>sE a e b r) else (some (.inr a))
def zX (t:cB) (b:List (List Bool)):Option (List Int):=
 ob (loop (fun (s:(List Int × Int × Int))=>jB t b s.1 s.2.1 s.2.2) (([]:List Int),0,0)) fun r=>aHB r
def nJ (t:cB) (d:List Int) (c:List (List Bool)) (a:Int):Option ((List (List Bool) × Int) ⊕ (List (List Bool))):=
 if (decide (a < t.N)) then (ob (aBX t d a) fun e=>
 ob (rE c ([e]:List (List Bool))) fun f=>
 some (.inl (f,wr (a+1)))) else (some (.inr c))
def aAH (t:cB):Option (List Int):=
 ob (mkz t.N (0:Int)) fun b=>
 ob (loop (fun (s:(List (List Bool) × Int))=>nJ t b s.1 s.2) (([]:List (List Bool)),0)) fun r=>zX t r
def aFZ (t:cB):Option cB:=
 ob (rE ([]:List aY) t.L) fun b=>
 ob (rE ([]:List Edge) t.E) fun c=>
 some ⟨t.N,t.I,b,c⟩
def aIE (a:Bool):Option Bool:=
 some a
def zY (n low b:Int):Option Bool:=
 if (decide (low<=n)) then (aIE (decide (n<=b))) else (aIE false)
def aJd (a:aY):Option Int:=
 some (a.length:Int)
def aDS (b:aY) (a:Int):Option (Int ⊕ (Unit ⊕ Int)):=
 if (decide (a < (b.length:Int))) then (ob (ix b a) fun c=>
 if ((c.toNat:Int) == 40) then (some (.inr (.inr a))) else (some (.inl (wr (a+1))))) else (some (.inr (.inl ())))
def aEe (b:aY):Option Int:=
 ob (loop (fun (s:Int)=>aDS b s) 0) fun r=>match r with|.inl r=>aJd b|.inr r=>some r
def aFF (a:Bool):Option Bool:=
 some a
def aEw (c:UInt8):Option Bool:=
 if (decide (97<=(c.toNat:Int))) then (aFF (decide ((c.toNat:Int)<=122))) else (aFF false)
def aCt (a:Bool):Option Bool:=
 some a
def aEx (c:UInt8):Option Bool:=
 if (decide (48<=(c.toNat:Int))) then (aCt (decide ((c.toNat:Int)<=57))) else (aCt false)
def aBm:Option Bool:=
 some true
def aBn (a:Int) (b:Bool):Option (Int ⊕ (Unit ⊕ Bool)):=
 if b then (some (.inr (.inr false))) else (some (.inl (wr (a+1))))
def aBo (b:aY) (a:Int):Option (Int ⊕ (Unit ⊕ Bool)):=
 if (decide (a < (b.length:Int))) then (ob (ix b a) fun c=>
 ob (aEw c) fun d=>
 if (!d) then (ob (aEx c) fun e=>
 aBn a (!e)) else (aBn a false)) else (some (.inr (.inl ())))
def tN (b:aY) (c:Bool):Option Bool:=
 if c then (some false) else (ob (loop (fun (s:Int)=>aBo b s) 0) fun r=>match r with|.inl r=>aBm|.inr r=>some r)
def aEf (a:aY):Option Bool:=
 if (a == ([]:aY)) then (tN a true) else (if (decide (10 < (a.length:Int))) then (tN a true) else (ob (ix a 0) fun b=>
 ob (aEw b) fun c=>
 tN a (!c)))
def wD (a:Bool):Option Bool:=
 some a
def aCU (a:aY):Option Bool:=
 ob (aEf a) fun b=>
 if b then (wD (!(a == ([116,97,117]:aY)))) else (wD false)
def yV (a:aY) (b:List aY) (c:Int):Option (List aY):=
 ob (slc a c (a.length:Int)) fun d=>
 ob (rE b ([d]:List aY)) fun e=>
 some e
def uN (a:Int) (b:List aY) (c:Int):Option ((List aY × Int × Int) ⊕ (List aY × Int)):=
 some (.inl (b,c,wr (a+1)))
def aCu (b:aY) (e:UInt8) (c:List aY) (d a:Int):Option ((List aY × Int × Int) ⊕ (List aY × Int)):=
 if (decide (a < (b.length:Int))) then (ob (ix b a) fun f=>
 if ((f.toNat:Int) == (e.toNat:Int)) then (ob (slc b d a) fun g=>
 ob (rE c ([g]:List aY)) fun h=>
 uN a h (wr (a+1))) else (uN a c d)) else (some (.inr (c,d)))
def aEy (a:aY) (c:UInt8):Option (List aY):=
 ob (loop (fun (s:(List aY × Int × Int))=>aCu a c s.1 s.2.1 s.2.2) (([]:List aY),0,0)) fun r=>yV a r.1 r.2
def aBp (a:Int):Option (Int × Bool):=
 some (a,true)
def wE (b a:Int):Option (Int × Bool):=
 if (b == 1) then (aBp (wr (0 - a))) else (aBp a)
def sG (b:aY) (c a:Int):Option ((Int × Int) ⊕ (Int ⊕ (Int × Bool))):=
 if (decide (a < (b.length:Int))) then (ob (ix b a) fun c45=>
 ob (aEx c45) fun d=>
 if (!d) then (some (.inr (.inr (0,false)))) else (some (.inl (wr ((wr (10 * c))+(wr ((c45 - (48:UInt8)).toNat:Int))),wr (a+1))))) else (some (.inr (.inl c)))
def mM (c:aY) (b:Int) (d:Bool):Option (Int × Bool):=
 if d then (some (0,false)) else (ob (loop (fun (s:(Int × Int))=>sG c s.1 s.2) (0,b)) fun r=>match r with|.inl r=>wE b r|.inr r=>some r)
def sH (a:aY) (b:Int):Option (Int × Bool):=
 if ((a.length:Int) == b) then (mM a b true) else (if (decide (18 < wr ((a.length:Int) - b))) then (mM a b true) else (ob (ix a b) fun c=>
 if ((c.toNat:Int) == 48) then (mM a b (decide (1 < (a.length:Int)))) else (mM a b false)))
def sI (a:aY) (b:Bool):Option (Int × Bool):=
 if b then (sH a 1) else (sH a 0)
def aAI (a:aY):Option (Int × Bool):=
 if (decide (0 < (a.length:Int))) then (ob (ix a 0) fun b=>
 sI a ((b.toNat:Int) == 45)) else (sI a false)
def wF (a:List Int):Option ((List Int) × Bool):=
 some (a,decide ((a.length:Int)<=2))
def wG (a:List Int) (b:Int) (c:(Int × Bool)) (d:Bool):Option ((List Int × Int) ⊕ (List Int ⊕ ((List Int) × Bool))):=
 if d then (some (.inr (.inr ([],false)))) else (ob (rE a ([c.1]:List Int)) fun e=>
 some (.inl (e,wr (b+1))))
def wH (d:(List aY)) (c:List Int) (a:Int):Option ((List Int × Int) ⊕ (List Int ⊕ ((List Int) × Bool))):=
 if (decide (a < (d.length:Int))) then (ob (ix d a) fun e=>
 ob (aAI e) fun b=>
 if (!b.2) then (wG c a b true) else (ob (zY b.1 0 63) fun f=>
 wG c a b (!f))) else (some (.inr (.inl c)))
def sJ (b:aY) (c:Int) (d:Bool):Option ((List Int) × Bool):=
 if d then (some ([],false)) else (ob (slc b (wr (c+1)) (wr ((b.length:Int) - 1))) fun e=>
 ob (aEy e (44:UInt8)) fun f=>
 ob (loop (fun (s:(List Int × Int))=>wH f s.1 s.2) (([]:List Int),0)) fun r=>match r with|.inl r=>wF r|.inr r=>some r)
def aFl (a:aY):Option ((List Int) × Bool):=
 ob (aEe a) fun b=>
 if (b == (a.length:Int)) then (ob (aEf a) fun c=>
 some (([]:List Int),c)) else (ob (slc a 0 b) fun d=>
 ob (aCU d) fun e=>
 if (!e) then (sJ a b true) else (ob (ix a (wr ((a.length:Int) - 1))) fun f=>
 sJ a b ((f.toNat:Int) != 41)))
def aEz (a:aY):Option Bool:=
 ob (aFl a) fun b=>
 some b.2
def aCv:Option Bool:=
 some true
def rK (a:Int) (b:Bool):Option (Int ⊕ (Unit ⊕ Bool)):=
 if b then (some (.inr (.inr false))) else (some (.inl (wr (a+1))))
def yW (b:(List aY)) (a:Int):Option (Int ⊕ (Unit ⊕ Bool)):=
 if (decide (a < (b.length:Int))) then (ob (ix b a) fun c=>
 ob (aEz c) fun d=>
 if (!d) then (rK a true) else (if (c == ([116,97,117]:aY)) then (rK a true) else (if (decide (1 < a)) then (ob (ix b (wr (a - 1))) fun e=>
 rK a (!ltB e c)) else (rK a false)))) else (some (.inr (.inl ())))
def uO (b:(List aY)) (c:Bool):Option Bool:=
 if c then (some false) else (ob (loop (fun (s:Int)=>yW b s) 1) fun r=>match r with|.inl r=>aCv|.inr r=>some r)
def aEA (a:(List aY)):Option Bool:=
 if ((a.length:Int) == 0) then (uO a true) else (if (decide (12 < (a.length:Int))) then (uO a true) else (ob (ix a 0) fun b=>
 uO a (!(b == ([116,97,117]:aY)))))
def aGJ:Option Bool:=
 some true
def aEB (a:Int) (b:Bool):Option (Int ⊕ (Unit ⊕ Bool)):=
 if b then (some (.inr (.inr false))) else (some (.inl (wr (a+1))))
def aBZ (t:cB) (a:Int) (c:Edge) (d:Bool):Option (Int ⊕ (Unit ⊕ Bool)):=
 if d then (some (.inr (.inr false))) else (if (decide (0 < a)) then (ob (ix t.E (wr (a - 1))) fun e=>
 ob (aEc e c) fun f=>
 aEB a (!f)) else (aEB a false))
def aEC (t:cB) (c:Int):Option (Int ⊕ (Unit ⊕ Bool)):=
 if (decide (c < (t.E.length:Int))) then (ob (ix t.E c) fun b=>
 ob (zY b.F 0 (wr (t.N - 1))) fun d=>
 if (!d) then (aBZ t c b true) else (ob (zY b.To 0 (wr (t.N - 1))) fun e=>
 if (!e) then (aBZ t c b true) else (ob (zY b.B 0 (wr ((t.L.length:Int) - 1))) fun f=>
 aBZ t c b (!f)))) else (some (.inr (.inl ())))
def aAq (t:cB) (c:Bool):Option Bool:=
 if c then (some false) else (ob (loop (fun (s:Int)=>aEC t s) 0) fun r=>match r with|.inl r=>aGJ|.inr r=>some r)
def vH (t:cB):Option Bool:=
 ob (zY t.N 1 40) fun b=>
 if (!b) then (aAq t true) else (ob (zY t.I 0 (wr (t.N - 1))) fun c=>
 if (!c) then (aAq t true) else (ob (aEA t.L) fun d=>
 if (!d) then (aAq t true) else (aAq t (decide (300 < (t.E.length:Int))))))
def yX (a b:cB) (e:List aY) (f:List Edge):Option cB:=
 ob (rZ (wr (a.N+b.N)) a.I e f) fun g=>
 some g
def uP (a b:cB) (g:List Edge) (d:Int):Option ((List Edge × Int) ⊕ (List Edge)):=
 if (decide (d < (b.E.length:Int))) then (ob (ix b.E d) fun e=>
 ob (rE g ([⟨wr (e.F+a.N),wr (e.B+(a.L.length:Int)),wr (e.To+a.N)⟩]:List Edge)) fun h=>
 some (.inl (h,wr (d+1)))) else (some (.inr g))
def aAr (a b:cB):Option cB:=
 ob (rE ([]:List aY) a.L) fun e=>
 ob (rE e b.L) fun f=>
 ob (rE ([]:List Edge) a.E) fun g=>
 ob (loop (fun (s:(List Edge × Int))=>uP a b s.1 s.2) (g,0)) fun r=>yX a b f r
def aDT (a:List Int):Option (List Int):=
 some a
def aBq (a:Int) (b:List Int):Option ((List Int × Int) ⊕ (List Int)):=
 some (.inl (b,wr (a+1)))
def qO (t:cB) (p:(List Int)) (k:Int) (b:List Int) (a:Int):Option ((List Int × Int) ⊕ (List Int)):=
 if (decide (a < (t.E.length:Int))) then (ob (ix t.E a) fun c=>
 if (c.F == k) then (ob (ix p c.To) fun g=>
 ob (aFX b (wr ((wr (c.B * (p.length:Int)))+g))) fun h=>
 aBq a h) else (aBq a b)) else (some (.inr b))
def aGa (t:cB) (p:(List Int)) (k:Int):Option (List Int):=
 ob (loop (fun (s:(List Int × Int))=>qO t p k s.1 s.2) (([]:List Int),0)) fun r=>aDT r
def aED (a:List Int):Option (List Int):=
 some a
def aBr (a:Int) (b:List Int) (c:Int):Option ((List Int × Int × Int) ⊕ (List Int)):=
 some (.inl (b,c,wr (a+1)))
def aBs (a:List Int) (b c d:Int):Option ((List Int × Int × Int) ⊕ (List Int)):=
 ob (rE a ([d]:List Int)) fun e=>
 aBr b e c
def aBt (b:List Int) (a c d:Int):Option ((List Int × Int × Int) ⊕ (List Int)):=
 if (decide (d < 0)) then (aBs b c (wr (a+1)) a) else (aBs b c a d)
def sK (a b:Int):Option ((Int × Int) ⊕ Int):=
 some (.inl (b,wr (a+1)))
def sL (b:List Int) (c a:Int) (d:Bool):Option ((Int × Int) ⊕ Int):=
 if d then (ob (ix b a) fun e=>
 sK a e) else (sK a c)
def pA (p:(List Int)) (d:List (List Int)) (e:List Int) (f b a:Int) (g:Bool):Option ((Int × Int) ⊕ Int):=
 if g then (ob (ix p a) fun h=>
 ob (ix p f) fun i=>
 if (h == i) then (ob (ix d a) fun j=>
 ob (ix d f) fun k=>
 ob (aAF j k) fun l=>
 sL e b a l) else (sL e b a false)) else (some (.inr b))
def pB (p:(List Int)) (e:List (List Int)) (f:List Int) (a b c:Int):Option ((Int × Int) ⊕ Int):=
 if (decide (c < a)) then (pA p e f a b c (decide (b < 0))) else (pA p e f a b c false)
def mN (p:(List Int)) (d:List (List Int)) (a:List Int) (e b:Int):Option ((List Int × Int × Int) ⊕ (List Int)):=
 if (decide (b < (p.length:Int))) then (ob (loop (fun (s:(Int × Int))=>pB p d a b s.1 s.2) ((-1),0)) fun r=>aBt a e b r) else (some (.inr a))
def nK (p:(List Int)) (b:List (List Int)):Option (List Int):=
 ob (loop (fun (s:(List Int × Int × Int))=>mN p b s.1 s.2.1 s.2.2) (([]:List Int),0,0)) fun r=>aED r
def lK (t:cB) (p:(List Int)) (c:List (List Int)) (a:Int):Option ((List (List Int) × Int) ⊕ (List (List Int))):=
 if (decide (a < t.N)) then (ob (aGa t p a) fun e=>
 ob (rE c ([e]:List (List Int))) fun f=>
 some (.inl (f,wr (a+1)))) else (some (.inr c))
def aAJ (t:cB) (p:(List Int)):Option (List Int):=
 ob (loop (fun (s:(List (List Int) × Int))=>lK t p s.1 s.2) (([]:List (List Int)),0)) fun r=>nK p r
def pC (t:cB) (a:List Int) (b:Int):Option ((List Int × Int) ⊕ ((List Int) × Int)):=
 ob (aAJ t a) fun c=>
 ob (aAF c a) fun e=>
 if e then (some (.inr (a,b))) else (some (.inl (c,wr (b+1))))
def aCV (t:cB):Option ((List Int) × Int):=
 ob (mkz t.N (0:Int)) fun b=>
 ob (loop (fun (s:(List Int × Int))=>pC t s.1 s.2) (b,0)) fun r=>some r
def aCa (t:cB):Option (List Int):=
 ob (aCV t) fun b=>
 some b.1
def aCw (a:List Int):Option (List Int):=
 some a
def oH (t:cB) (a:Int) (b:List Int):Option ((Int × List Int) ⊕ (List Int)):=
 if (decide (0 < a)) then (ob (aAJ t b) fun d=>
 some (.inl (wr (a - 1),d))) else (some (.inr b))
def aCb (t:cB) (n:Int):Option (List Int):=
 ob (mkz t.N (0:Int)) fun c=>
 ob (loop (fun (s:(Int × List Int))=>oH t s.1 s.2) (n,c)) fun r=>aCw r
def zZ (a:List (List Int)):Option (List (List Int)):=
 some a
def aAa (a:Int) (b:List (List Int)):Option ((List (List Int) × Int) ⊕ (List (List Int))):=
 some (.inl (b,wr (a+1)))
def uD (a:Int) (b:List (List Int)):Option ((List (List Int) × Int) ⊕ (List (List Int))):=
 aAa a b
def pX (a:Int) (b:List (List Int)):Option ((List (List Int) × Int) ⊕ (List (List Int))):=
 some (.inl (b,wr (a+1)))
def lL (a b:cB) (p:(List Int)) (f:Int) (d:List (List Int)) (c:Int):Option ((List (List Int) × Int) ⊕ (List (List Int))):=
 if (decide (c < b.N)) then (ob (ix p f) fun i=>
 ob (ix p (wr (a.N+c))) fun j=>
 if (i == j) then (ob (rE d ([([f,c]:List Int)]:List (List Int))) fun k=>
 pX c k) else (pX c d)) else (some (.inr d))
def lM (a b:cB) (p:(List Int)) (e:List (List Int)) (c:Int):Option ((List (List Int) × Int) ⊕ (List (List Int))):=
 if (decide (c < a.N)) then (ob (loop (fun (s:(List (List Int) × Int))=>lL a b p c s.1 s.2) (e,0)) fun r=>uD c r) else (some (.inr e))
def xM (a b:cB) (p:(List Int)):Option (List (List Int)):=
 ob (loop (fun (s:(List (List Int) × Int))=>lM a b p s.1 s.2) (([]:List (List Int)),0)) fun r=>zZ r
def aGb (a:(List Int)):Option (List Int):=
 ob (rE ([]:List Int) a) fun b=>
 some b
def aCx (a:List Bool):Option (List Bool):=
 some a
def yY (a:Int) (b:List Bool):Option ((List Bool × Int) ⊕ (List Bool)):=
 some (.inl (b,wr (a+1)))
def uQ (a:Int) (b:List Bool):Option ((List Bool × Int) ⊕ (List Bool)):=
 yY a b
def uR (a:Int) (b:List Bool):Option ((List Bool × Int) ⊕ (List Bool)):=
 some (.inl (b,wr (a+1)))
def uS (a:Int) (b:List Bool):Option ((List Bool × Int) ⊕ (List Bool)):=
 uR a b
def uT (a:Int) (b:List Bool):Option ((List Bool × Int) ⊕ (List Bool)):=
 some (.inl (b,wr (a+1)))
def iL (n e d:Int) (b:List Bool) (a:Int):Option ((List Bool × Int) ⊕ (List Bool)):=
 if (decide (a < n)) then (ob (ix b (wr ((wr (e * n))+a))) fun f=>
 if f then (ob (ix b (wr ((wr (d * n))+a))) fun h=>
 ob (st b (wr ((wr (d * n))+a)) (true:Bool)) fun g=>
 uT a g) else (uT a b)) else (some (.inr b))
def iM (n d:Int) (b:List Bool) (a:Int):Option ((List Bool × Int) ⊕ (List Bool)):=
 if (decide (a < n)) then (ob (ix b (wr ((wr (a * n))+d))) fun e=>
 if (!e) then (uR a b) else (ob (loop (fun (s:(List Bool × Int))=>iL n d a s.1 s.2) (b,0)) fun r=>uS a r)) else (some (.inr b))
def iN (n:Int) (c:List Bool) (a:Int):Option ((List Bool × Int) ⊕ (List Bool)):=
 if (decide (a < n)) then (ob (loop (fun (s:(List Bool × Int))=>iM n a s.1 s.2) (c,0)) fun r=>uQ a r) else (some (.inr c))
def sM (n:Int) (b:List Bool):Option (List Bool):=
 ob (loop (fun (s:(List Bool × Int))=>iN n s.1 s.2) (b,0)) fun r=>aCx r
def gS (n:Int) (c:List Bool) (a:Int):Option ((List Bool × Int) ⊕ (List Bool)):=
 if (decide (a < n)) then (ob (ix c (wr ((wr (a * n))+a))) fun e=>
 ob (st c (wr ((wr (a * n))+a)) (true:Bool)) fun d=>
 some (.inl (d,wr (a+1)))) else (some (.inr c))
def aAs (n:Int) (m:(List Bool)):Option (List Bool):=
 ob (loop (fun (s:(List Bool × Int))=>gS n s.1 s.2) (m,0)) fun r=>sM n r
def uU (t:cB) (b:List Bool):Option (List Bool):=
 ob (aAs t.N b) fun c=>
 some c
def uV (a:Int) (b:List Bool):Option ((List Bool × Int) ⊕ (List Bool)):=
 some (.inl (b,wr (a+1)))
def iO (t:cB) (c:List Bool) (d:Int):Option ((List Bool × Int) ⊕ (List Bool)):=
 if (decide (d < (t.E.length:Int))) then (ob (ix t.E d) fun a=>
 if (a.B == 0) then (ob (ix c (wr ((wr (a.F * t.N))+a.To))) fun f=>
 ob (st c (wr ((wr (a.F * t.N))+a.To)) (true:Bool)) fun e=>
 uV d e) else (uV d c)) else (some (.inr c))
def tO (t:cB):Option (List Bool):=
 ob (mkz (wr (t.N * t.N)) (false:Bool)) fun b=>
 ob (loop (fun (s:(List Bool × Int))=>iO t s.1 s.2) (b,0)) fun r=>uU t r
def aDU (a:List Bool):Option (List Bool):=
 some a
def jF (t:cB) (d:(List Bool)) (e:Int) (b:List Bool) (a:Int):Option ((List Bool × Int) ⊕ (List Bool)):=
 if (decide (a < t.N)) then (ob (ix d (wr ((wr (e * t.N))+a))) fun f=>
 ob (ix b a) fun h=>
 ob (st b a (f:Bool)) fun g=>
 some (.inl (g,wr (a+1)))) else (some (.inr b))
def aDV (a:List Bool):Option (List Bool):=
 some a
def qP (a:Int) (b:List Bool):Option ((List Bool × Int) ⊕ (List Bool)):=
 some (.inl (b,wr (a+1)))
def xN (a:Int) (b:List Bool):Option ((List Bool × Int) ⊕ (List Bool)):=
 qP a b
def xO (a:Int) (b:List Bool):Option ((List Bool × Int) ⊕ (List Bool)):=
 some (.inl (b,wr (a+1)))
def jG (t:cB) (d:(List Bool)) (e:Edge) (b:List Bool) (a:Int):Option ((List Bool × Int) ⊕ (List Bool)):=
 if (decide (a < t.N)) then (ob (ix d (wr ((wr (e.To * t.N))+a))) fun f=>
 if f then (ob (ix b a) fun h=>
 ob (st b a (true:Bool)) fun g=>
 xO a g) else (xO a b)) else (some (.inr b))
def qQ (t:cB) (d:(List Bool)) (a:List Bool) (b:Int) (e:Edge) (f:Bool):Option ((List Bool × Int) ⊕ (List Bool)):=
 if f then (qP b a) else (ob (loop (fun (s:(List Bool × Int))=>jG t d e s.1 s.2) (a,0)) fun r=>xN b r)
def jH (t:cB) (d:(List Bool)) (f g:Int) (e:List Bool) (b:Int):Option ((List Bool × Int) ⊕ (List Bool)):=
 if (decide (b < (t.E.length:Int))) then (ob (ix t.E b) fun c=>
 if (c.B != g) then (qQ t d e b c true) else (ob (ix d (wr ((wr (f * t.N))+c.F))) fun h=>
 qQ t d e b c (!h))) else (some (.inr e))
def aAK (t:cB) (c:(List Bool)) (d e:Int):Option (List Bool):=
 ob (mkz t.N (false:Bool)) fun f=>
 if (e == 0) then (ob (loop (fun (s:(List Bool × Int))=>jF t c d s.1 s.2) (f,0)) fun r=>aDU r) else (ob (loop (fun (s:(List Bool × Int))=>jH t c d e s.1 s.2) (f,0)) fun r=>aDV r)
def xP (t:cB) (b:List aY) (c:List Edge):Option cB:=
 some ⟨t.N,t.I,b,c⟩
def xQ (a:Int) (b:List Edge):Option ((List Edge × Int) ⊕ (List Edge)):=
 some (.inl (b,wr (a+1)))
def sO (a:Int) (b:List Edge):Option ((List Edge × Int) ⊕ (List Edge)):=
 xQ a b
def xR (a:Int) (b:List Edge):Option ((List Edge × Int) ⊕ (List Edge)):=
 some (.inl (b,wr (a+1)))
def sP (a:Int) (b:List Edge):Option ((List Edge × Int) ⊕ (List Edge)):=
 xR a b
def sQ (a:Int) (b:List Edge):Option ((List Edge × Int) ⊕ (List Edge)):=
 some (.inl (b,wr (a+1)))
def lY (t:cB) (d e:Int) (f:(List Bool)) (b:List Edge) (a:Int):Option ((List Edge × Int) ⊕ (List Edge)):=
 if (decide (a < t.N)) then (ob (ix f a) fun g=>
 if g then (ob (rE b ([⟨d,e,a⟩]:List Edge)) fun h=>
 sQ a h) else (sQ a b)) else (some (.inr b))
def lZ (t:cB) (e:(List Bool)) (c:Int) (d:List Edge) (a:Int):Option ((List Edge × Int) ⊕ (List Edge)):=
 if (decide (a < (t.L.length:Int))) then (ob (aAK t e c a) fun f=>
 ob (loop (fun (s:(List Edge × Int))=>lY t c a f s.1 s.2) (d,0)) fun r=>sP a r) else (some (.inr d))
def mA (t:cB) (d:(List Bool)) (c:List Edge) (a:Int):Option ((List Edge × Int) ⊕ (List Edge)):=
 if (decide (a < t.N)) then (ob (loop (fun (s:(List Edge × Int))=>lZ t d a s.1 s.2) (c,0)) fun r=>sO a r) else (some (.inr c))
def vI (t:cB) (b:List aY):Option cB:=
 ob (tO t) fun c=>
 ob (loop (fun (s:(List Edge × Int))=>mA t c s.1 s.2) (([]:List Edge),0)) fun r=>xP t b r
def yZ (t:cB):Option cB:=
 ob (rE ([]:List aY) t.L) fun b=>
 vI t b
def aHY (t:cB):Option (List Int):=
 ob (yZ t) fun b=>
 ob (aCa b) fun c=>
 some c
def aCy (a:List (List Int)):Option (List (List Int)):=
 some a
def aCz (a:Int) (b:List (List Int)):Option ((List (List Int) × Int) ⊕ (List (List Int))):=
 some (.inl (b,wr (a+1)))
def zD (a:Int) (b:List (List Int)):Option ((List (List Int) × Int) ⊕ (List (List Int))):=
 aCz a b
def zE (a:Int) (b:List (List Int)):Option ((List (List Int) × Int) ⊕ (List (List Int))):=
 some (.inl (b,wr (a+1)))
def rL (a b:cB) (e:(List Int)) (f:Int) (d:List (List Int)) (c:Int):Option ((List (List Int) × Int) ⊕ (List (List Int))):=
 if (decide (c < b.N)) then (ob (ix e f) fun i=>
 ob (ix e (wr (a.N+c))) fun j=>
 if (i == j) then (ob (rE d ([([f,c]:List Int)]:List (List Int))) fun k=>
 zE c k) else (zE c d)) else (some (.inr d))
def rM (a b:cB) (g:(List Int)) (e:List (List Int)) (c:Int):Option ((List (List Int) × Int) ⊕ (List (List Int))):=
 if (decide (c < a.N)) then (ob (loop (fun (s:(List (List Int) × Int))=>rL a b g c s.1 s.2) (e,0)) fun r=>zD c r) else (some (.inr e))
def aCc (a b:cB):Option (List (List Int)):=
 ob (aAr a b) fun e=>
 ob (aHY e) fun f=>
 ob (loop (fun (s:(List (List Int) × Int))=>rM a b f s.1 s.2) (([]:List (List Int)),0)) fun r=>aCy r
def oO (d:(List UInt8)) (b c a:Int):Option (Int × Int × Int):=
 if (decide (wr (b+1)<=(d.length:Int))) then (some (a,wr (b+1),gG ((gG ((gG (c * 6364136223846793005))+(gG a)))+1442695040888963407))) else (ob (shU (gG ((gG ((gG (c * 6364136223846793005))+(gG a)))+1442695040888963407)) 40) fun e=>
 some (wr (anU e 255),wr (b+1),gG ((gG ((gG (c * 6364136223846793005))+(gG a)))+1442695040888963407)))
def uW (a:(List UInt8)) (b c:Int):Option (Int × Int × Int):=
 if (decide (b < (a.length:Int))) then (ob (ix a b) fun d=>
 oO a b c (wr (d.toNat:Int))) else (oO a b c 0)
def oP (n b c d:Int):Option (Int × Int × Int):=
 ob (rm b n) fun e=>
 some (e,c,d)
def bR (d:(List UInt8)) (e f n:Int):Option (Int × Int × Int):=
 if (decide (n<=1)) then (some (0,e,f)) else (ob (uW d e f) fun a=>
 if (decide (200 < n)) then (ob (uW d a.2.1 a.2.2) fun c=>
 oP n (wr ((wr (a.1 * 256))+c.1)) c.2.1 c.2.2) else (oP n a.1 a.2.1 a.2.2))
def eI (b:(List UInt8)) (c d n:Int):Option (Bool × Int × Int):=
 ob (bR b c d n) fun a=>
 some (a.1 == 0,a.2.1,a.2.2)
def qR (a b:Int) (c:List aY):Option ((List aY) × Int × Int):=
 some (c,a,b)
def qS (a:List aY) (b c:Int):Option ((List aY) × Int × Int):=
 if ((a.length:Int) == 1) then (ob (rE a ([([97]:aY)]:List aY)) fun d=>
 qR b c d) else (qR b c a)
def kW (a b c:Int) (d:List aY):Option ((Int × Int × List aY × Int) ⊕ (List aY × Int × Int)):=
 some (.inl (b,c,d,wr (a+1)))
def mU (b:List aY) (a c d:Int) (e:Bool):Option ((Int × Int × List aY × Int) ⊕ (List aY × Int × Int)):=
 if e then (ob (ix ([([97]:aY),([98]:aY),([99]:aY),([103,101,116,40,48,41]:aY),([103,101,116,40,49,41]:aY)]:List aY) a) fun f=>
 ob (rE b ([f]:List aY)) fun g=>
 kW a c d g) else (kW a c d b)
def mV (f:(List UInt8)) (d e:Int) (b:List aY) (c:Int):Option ((Int × Int × List aY × Int) ⊕ (List aY × Int × Int)):=
 if (decide (c < (([([97]:aY),([98]:aY),([99]:aY),([103,101,116,40,48,41]:aY),([103,101,116,40,49,41]:aY)]:List aY).length:Int))) then (ob (eI f d e 2) fun a=>
 if a.1 then (mU b c a.2.1 a.2.2 (decide ((b.length:Int) < 4))) else (mU b c a.2.1 a.2.2 false)) else (some (.inr (b,d,e)))
def wI (b:(List UInt8)) (c d:Int):Option ((List aY) × Int × Int):=
 ob (loop (fun (s:(Int × Int × List aY × Int))=>mV b s.1 s.2.1 s.2.2.1 s.2.2.2) (c,d,([([116,97,117]:aY)]:List aY),0)) fun r=>qS r.1 r.2.1 r.2.2
def eU (c:(List UInt8)) (d e:Int) (b:(List Int)):Option (Int × Int × Int):=
 ob (bR c d e (b.length:Int)) fun a=>
 ob (ix b a.1) fun f=>
 some (f,a.2.1,a.2.2)
def sS (d:(List UInt8)) (b c:(Int × Int × Int)) (e:((List aY) × Int × Int)) (f g:Int) (h:List Edge):Option (cB × Int × Int):=
 ob (bR d f g (wr ((wr (1+b.1))+c.1))) fun a=>
 ob (rZ (wr ((wr (1+b.1))+c.1)) a.1 e.1 h) fun i=>
 some (i,a.2.1,a.2.2)
def wJ (a:(List UInt8)) (c d:(Int × Int × Int)) (e:((List aY) × Int × Int)) (j k:Int) (i:List Edge):Option (cB × Int × Int):=
 ob (eI a j k 3) fun b=>
 if b.1 then (ob (bR a b.2.1 b.2.2 (wr ((wr (1+c.1))+d.1))) fun f=>
 ob (bR a f.2.1 f.2.2 (e.1.length:Int)) fun g=>
 ob (bR a g.2.1 g.2.2 (wr ((wr (1+c.1))+d.1))) fun h=>
 ob (rE i ([⟨f.1,g.1,h.1⟩]:List Edge)) fun l=>
 sS a c d e h.2.1 h.2.2 l) else (sS a c d e b.2.1 b.2.2 i)
def aBu (a b c:Int) (d:List Edge):Option ((Int × Int × List Edge × Int) ⊕ (Int × Int × List Edge)):=
 some (.inl (b,c,d,wr (a - 1)))
def wK (a b c:Int) (d:List Edge):Option ((Int × Int × List Edge × Int) ⊕ (Int × Int × List Edge)):=
 aBu a b c d
def wL (a b c:Int) (d:List Edge):Option ((Int × Int × List Edge × Int) ⊕ (Int × Int × List Edge)):=
 some (.inl (b,c,d,wr (a+1)))
def wM (c:(List UInt8)) (d:(Int × Int × Int)) (e f:Int) (g:List Edge) (b:Int) (h:List Int):Option ((Int × Int × List Edge × Int) ⊕ (Int × Int × List Edge)):=
 ob (eU c e f h) fun a=>
 ob (rE g ([⟨b,d.1,a.1⟩]:List Edge)) fun i=>
 wL b a.2.1 a.2.2 i
def wN (a:Int) (b:List Int):Option ((List Int × Int) ⊕ (List Int)):=
 some (.inl (b,wr (a+1)))
def mO (c d:(Int × Int × Int)) (e:List Int) (f:(Int × Int × Int)) (b:List Int) (a:Int):Option ((List Int × Int) ⊕ (List Int)):=
 if (decide (a < wr ((wr (1+c.1))+d.1))) then (ob (ix e a) fun g=>
 if (g == f.1) then (ob (rE b ([a]:List Int)) fun h=>
 wN a h) else (wN a b)) else (some (.inr b))
def sT (h:(List UInt8)) (e f:(Int × Int × Int)) (g:List Int) (i j k:(Int × Int × Int)) (b c:Int) (d:List Edge) (a:Int):Option ((Int × Int × List Edge × Int) ⊕ (Int × Int × List Edge)):=
 if (decide (a < wr ((wr (1+e.1))+f.1))) then (ob (ix g a) fun l=>
 if (l != i.1) then (wL a b c d) else (ob (loop (fun (s:(List Int × Int))=>mO e f g k s.1 s.2) (([]:List Int),0)) fun r=>wM h j b c d a r)) else (some (.inr (b,c,d)))
def pY (a:(List UInt8)) (b k:(Int × Int × Int)) (l:((List aY) × Int × Int)) (m:List Int) (g h:Int) (i:List Edge) (j:Int):Option ((Int × Int × List Edge × Int) ⊕ (Int × Int × List Edge)):=
 if (decide (0 < j)) then (ob (bR a g h (wr (1+b.1))) fun c=>
 ob (bR a c.2.1 c.2.2 (l.1.length:Int)) fun d=>
 ob (bR a d.2.1 d.2.2 (wr (1+b.1))) fun e=>
 ob (loop (fun (s:(Int × Int × List Edge × Int))=>sT a b k m c d e s.1 s.2.1 s.2.2.1 s.2.2.2) (e.2.1,e.2.2,i,0)) fun r=>wK j r.1 r.2.1 r.2.2) else (some (.inr (g,h,i)))
def uE (a:(List UInt8)) (b e:(Int × Int × Int)) (f:((List aY) × Int × Int)) (g h:Int) (i:List Int):Option (cB × Int × Int):=
 ob (bR a g h (wr (2+(wr (2 * (wr (1+b.1))))))) fun c=>
 ob (loop (fun (s:(Int × Int × List Edge × Int))=>pY a b e f i s.1 s.2.1 s.2.2.1 s.2.2.2) (c.2.1,c.2.2,([]:List Edge),c.1)) fun r=>wJ a b e f r.1 r.2.1 r.2.2
def pZ (a b c:Int) (d:List Int):Option ((Int × Int × List Int × Int) ⊕ (Int × Int × List Int)):=
 some (.inl (b,c,d,wr (a+1)))
def qA (g:(List UInt8)) (b h:(Int × Int × Int)) (c d:Int) (e:List Int) (a:Int):Option ((Int × Int × List Int × Int) ⊕ (Int × Int × List Int)):=
 if (decide (a < wr ((wr (1+b.1))+h.1))) then (if (decide (a < wr (1+b.1))) then (ob (rE e ([a]:List Int)) fun i=>
 pZ a c d i) else (ob (bR g c d (wr (1+b.1))) fun f=>
 ob (rE e ([f.1]:List Int)) fun j=>
 pZ a f.2.1 f.2.2 j)) else (some (.inr (c,d,e)))
def aCW (a:(List UInt8)) (f g:Int):Option (cB × Int × Int):=
 ob (bR a f g 4) fun b=>
 ob (bR a b.2.1 b.2.2 (wr (7 - (wr (1+b.1))))) fun c=>
 ob (wI a c.2.1 c.2.2) fun d=>
 ob (loop (fun (s:(Int × Int × List Int × Int))=>qA a b c s.1 s.2.1 s.2.2.1 s.2.2.2) (d.2.1,d.2.2,([]:List Int),0)) fun r=>uE a b c d r.1 r.2.1 r.2.2
def rT (d:(List UInt8)) (b c a:Int):Option (Int × Int × Int):=
 if (decide (wr (b+1)<=(d.length:Int))) then (some (a,wr (b+1),gG ((gG ((gG (c * 6364136223846793005))+(gG a)))+1442695040888963407))) else (ob (shU (gG ((gG ((gG (c * 6364136223846793005))+(gG a)))+1442695040888963407)) 40) fun e=>
 some (wr (anU e 255),wr (b+1),gG ((gG ((gG (c * 6364136223846793005))+(gG a)))+1442695040888963407)))
def oQ (a:(List UInt8)) (b c:Int):Option (Int × Int × Int):=
 if (decide (b < (a.length:Int))) then (ob (ix a b) fun d=>
 rT a b c (wr (d.toNat:Int))) else (rT a b c 0)
def rU (a:(List UInt8)) (n c d e:Int):Option (Int × (List UInt8) × Int × Int):=
 ob (rm c n) fun f=>
 some (f,a,d,e)
def aGc (b:(List UInt8)) (e f n:Int):Option (Int × (List UInt8) × Int × Int):=
 if (decide (n<=1)) then (some (0,b,e,f)) else (ob (oQ b e f) fun a=>
 if (decide (200 < n)) then (ob (oQ b a.2.1 a.2.2) fun d=>
 rU b n (wr ((wr (a.1 * 256))+d.1)) d.2.1 d.2.2) else (rU b n a.1 a.2.1 a.2.2))
def wO (a:(cB × Int × Int)) (b:List Edge) (c d:Int):Option (cB × Int × Int):=
 ob (rZ a.1.N a.1.I a.1.L b) fun e=>
 some (e,c,d)
def sU (c:(List UInt8)) (d:(cB × Int × Int)) (e f:Int) (g:List Edge) (h:Int):Option ((Int × Int × List Edge × Int) ⊕ (List Edge × Int × Int)):=
 if (decide (0 < h)) then (ob (bR c e f d.1.N) fun a=>
 ob (bR c a.2.1 a.2.2 d.1.N) fun b=>
 ob (rE g ([⟨a.1,0,b.1⟩]:List Edge)) fun i=>
 some (.inl (b.2.1,b.2.2,i,wr (h - 1)))) else (some (.inr (g,e,f)))
def wP (c:(List UInt8)) (d:(cB × Int × Int)) (e f:Int) (g:List Edge):Option (cB × Int × Int):=
 ob (bR c e f 3) fun a=>
 ob (loop (fun (s:(Int × Int × List Edge × Int))=>sU c d s.1 s.2.1 s.2.2.1 s.2.2.2) (a.2.1,a.2.2,g,a.1)) fun r=>wO d r.1 r.2.1 r.2.2
def sV (b:List Edge) (c:Int) (a:Edge) (d e f:Int):Option ((Int × Int × List Edge × Int) ⊕ (Int × Int × List Edge)):=
 ob (rE b ([⟨a.F,f,a.To⟩]:List Edge)) fun g=>
 some (.inl (d,e,g,wr (c+1)))
def sW (h:(List UInt8)) (e:(cB × Int × Int)) (f g:Int) (c:List Edge) (b:Int):Option ((Int × Int × List Edge × Int) ⊕ (Int × Int × List Edge)):=
 if (decide (b < (e.1.E.length:Int))) then (ob (ix e.1.E b) fun d=>
 ob (eI h f g 3) fun a=>
 if a.1 then (sV c b d a.2.1 a.2.2 0) else (sV c b d a.2.1 a.2.2 d.B)) else (some (.inr (f,g,c)))
def wQ (b:(List UInt8)) (d e:Int):Option (cB × Int × Int):=
 ob (aCW b d e) fun a=>
 ob (loop (fun (s:(Int × Int × List Edge × Int))=>sW b a s.1 s.2.1 s.2.2.1 s.2.2.2) (a.2.1,a.2.2,([]:List Edge),0)) fun r=>wP b a r.1 r.2.1 r.2.2
def rV (n b c d:Int):Option (Int × Int × Int):=
 ob (rm b n) fun e=>
 some (e,c,d)
def dS (d:(List UInt8)) (e f n:Int):Option (Int × Int × Int):=
 if (decide (n<=1)) then (some (0,e,f)) else (ob (oQ d e f) fun a=>
 if (decide (200 < n)) then (ob (oQ d a.2.1 a.2.2) fun c=>
 rV n (wr ((wr (a.1 * 256))+c.1)) c.2.1 c.2.2) else (rV n a.1 a.2.1 a.2.2))
def aGS (b:(List UInt8)) (c d n:Int):Option (Bool × (List UInt8) × Int × Int):=
 ob (dS b c d n) fun a=>
 some (a.1 == 0,b,a.2.1,a.2.2)
def sX (t:cB) (b:Int) (c:List Edge) (d e:Int):Option (cB × Int × Int):=
 ob (rZ (wr (t.N+b)) t.I t.L c) fun f=>
 some (f,d,e)
def xS (a b c:Int) (d:List Edge):Option ((Int × Int × List Edge × Int) ⊕ (List Edge × Int × Int)):=
 some (.inl (b,c,d,wr (a+1)))
def sY (a b c:Int) (d:List Edge):Option ((Int × Int × List Edge × Int) ⊕ (List Edge × Int × Int)):=
 xS a b c d
def oR (a:Int) (b:List Edge) (c:Int) (d:Edge) (e f g:Int):Option ((Int × Int × List Edge × Int) ⊕ (Int × Int × List Edge)):=
 ob (rE b ([⟨a,d.B,g⟩]:List Edge)) fun h=>
 some (.inl (e,f,h,wr (c+1)))
def mB (t:cB) (b:Int) (c:List Edge) (d:Int) (a:Edge) (e f:Int) (h:Bool):Option ((Int × Int × List Edge × Int) ⊕ (Int × Int × List Edge)):=
 if h then (oR b c d a e f t.N) else (oR b c d a e f a.To)
def kA (j:(List UInt8)) (t:cB) (k:(Int × Int × Int)) (l g:Int) (i:(List Edge)) (c d:Int) (e:List Edge) (b:Int):Option ((Int × Int × List Edge × Int) ⊕ (Int × Int × List Edge)):=
 if (decide (b < (i.length:Int))) then (ob (ix i b) fun f=>
 if (decide (0 < l)) then (ob (rm (wr (t.N+k.1)) t.N) fun m=>
 if (m == f.To) then (ob (eI j c d 2) fun h=>
 mB t g e b f h.2.1 h.2.2 h.1) else (mB t g e b f c d false)) else (mB t g e b f c d false)) else (some (.inr (c,d,e)))
def oS (d:(List UInt8)) (t:cB) (e:(Int × Int × Int)) (f g h:Int) (i:List Edge) (c j:Int):Option ((Int × Int × List Edge × Int) ⊕ (List Edge × Int × Int)):=
 ob (aHA t j) fun k=>
 ob (loop (fun (s:(Int × Int × List Edge × Int))=>kA d t e f c k s.1 s.2.1 s.2.2.1 s.2.2.2) (g,h,i,0)) fun r=>sY c r.1 r.2.1 r.2.2
def kB (h:(List UInt8)) (t:cB) (c:(Int × Int × Int)) (d e f:Int) (g:List Edge) (a:Int):Option ((Int × Int × List Edge × Int) ⊕ (List Edge × Int × Int)):=
 if (decide (a < wr (t.N+d))) then (if (decide (t.N<=a)) then (ob (rm (wr (a+c.1)) t.N) fun i=>
 oS h t c d e f g a i) else (oS h t c d e f g a a)) else (some (.inr (g,e,f)))
def mC (d:(List UInt8)) (t:cB) (e:(Int × Int × Int)) (f g c:Int):Option (cB × Int × Int):=
 ob (loop (fun (s:(Int × Int × List Edge × Int))=>kB d t e c s.1 s.2.1 s.2.2.1 s.2.2.2) (f,g,([]:List Edge),0)) fun r=>sX t c r.1 r.2.1 r.2.2
def uX (b:(List UInt8)) (e f:Int) (t:cB):Option (cB × Int × Int):=
 ob (bR b e f t.N) fun a=>
 if (decide (t.N < 7)) then (ob (bR b a.2.1 a.2.2 3) fun d=>
 mC b t a d.2.1 d.2.2 d.1) else (mC b t a a.2.1 a.2.2 0)
def nL (b:(List UInt8)) (c d n:Int):Option (Bool × Int × Int):=
 ob (dS b c d n) fun a=>
 some (a.1 == 0,a.2.1,a.2.2)
def mW (c:(List UInt8)) (d e:Int) (b:(List Int)):Option (Int × Int × Int):=
 ob (dS c d e (b.length:Int)) fun a=>
 ob (ix b a.1) fun f=>
 some (f,a.2.1,a.2.2)
def aFG (c:(List UInt8)) (d e:Int) (b:(List aY)):Option (aY × Int × Int):=
 ob (dS c d e (b.length:Int)) fun a=>
 ob (ix b a.1) fun f=>
 some (f,a.2.1,a.2.2)
def hJ (a:(List UInt8)) (b c:Int) (d:List aY) (e:List Edge) (f g:Int):Option (cB × (List UInt8) × Int × Int):=
 some (⟨b,c,d,e⟩,a,f,g)
def aMj (c:(List UInt8)) (n o:Int) (t:cB):Option (cB × (List UInt8) × Int × Int):=
 ob (aFZ t) fun a=>
 ob (nL c n o 8) fun d=>
 if (!d.1) then (some (a,c,d.2.1,d.2.2)) else (ob (dS c d.2.1 d.2.2 8) fun b=>
 if (b.1 == 0) then (ob (mW c b.2.1 b.2.2 ([0,(-1),41,40,wr (a.N - 1)]:List Int)) fun g=>
 hJ c g.1 a.I a.L a.E g.2.1 g.2.2) else (if (b.1 == 1) then (ob (mW c b.2.1 b.2.2 ([(-1),a.N]:List Int)) fun h=>
 hJ c a.N h.1 a.L a.E h.2.1 h.2.2) else (if (b.1 == 2) then (ob (ix a.L 0) fun x=>
 ob (st a.L 0 (([97]:aY):aY)) fun q=>
 hJ c a.N a.I q a.E b.2.1 b.2.2) else (if (b.1 == 3) then (ob (aFG c b.2.1 b.2.2 ([([116,97,117]:aY),([97]:aY),([122,122]:aY),([65]:aY),([]:aY)]:List aY)) fun i=>
 ob (rE a.L ([i.1]:List aY)) fun r=>
 hJ c a.N a.I r a.E i.2.1 i.2.2) else (if (b.1 == 4) then (if (decide (0 < (a.E.length:Int))) then (ob (ix a.E 0) fun s=>
 ob (rE a.E ([s]:List Edge)) fun u=>
 hJ c a.N a.I a.L u b.2.1 b.2.2) else (hJ c a.N a.I a.L a.E b.2.1 b.2.2)) else (if (b.1 == 5) then (if (decide (0 < (a.E.length:Int))) then (ob (dS c b.2.1 b.2.2 (a.E.length:Int)) fun e=>
 ob (mW c e.2.1 e.2.2 ([(-1),(a.L.length:Int),0]:List Int)) fun j=>
 ob (ix a.E e.1) fun l=>
 ob (st a.E e.1 (⟨l.F,j.1,l.To⟩:Edge)) fun v=>
 hJ c a.N a.I a.L v j.2.1 j.2.2) else (hJ c a.N a.I a.L a.E b.2.1 b.2.2)) else (if (b.1 == 6) then (if (decide (0 < (a.E.length:Int))) then (ob (dS c b.2.1 b.2.2 (a.E.length:Int)) fun f=>
 ob (mW c f.2.1 f.2.2 ([(-1),a.N,0]:List Int)) fun k=>
 ob (ix a.E f.1) fun m=>
 ob (st a.E f.1 (⟨m.F,m.B,k.1⟩:Edge)) fun w=>
 hJ c a.N a.I a.L w k.2.1 k.2.2) else (hJ c a.N a.I a.L a.E b.2.1 b.2.2)) else (if (b.1 == 7) then (hJ c a.N a.I ([]:List aY) a.E b.2.1 b.2.2) else (hJ c a.N a.I a.L a.E b.2.1 b.2.2)))))))))
def gE (c:(List UInt8)) (d e:Int) (b:(List aY)):Option (aY × Int × Int):=
 ob (bR c d e (b.length:Int)) fun a=>
 ob (ix b a.1) fun f=>
 some (f,a.2.1,a.2.2)
def eH (a b:Int) (c:List aY) (d:List Edge) (e f:Int):Option (cB × Int × Int):=
 some (⟨a,b,c,d⟩,e,f)
def qT (c:(List UInt8)) (n o:Int) (t:cB):Option (cB × Int × Int):=
 ob (aFZ t) fun a=>
 ob (eI c n o 8) fun d=>
 if (!d.1) then (some (a,d.2.1,d.2.2)) else (ob (bR c d.2.1 d.2.2 8) fun b=>
 if (b.1 == 0) then (ob (eU c b.2.1 b.2.2 ([0,(-1),41,40,wr (a.N - 1)]:List Int)) fun g=>
 eH g.1 a.I a.L a.E g.2.1 g.2.2) else (if (b.1 == 1) then (ob (eU c b.2.1 b.2.2 ([(-1),a.N]:List Int)) fun h=>
 eH a.N h.1 a.L a.E h.2.1 h.2.2) else (if (b.1 == 2) then (ob (ix a.L 0) fun x=>
 ob (st a.L 0 (([97]:aY):aY)) fun q=>
 eH a.N a.I q a.E b.2.1 b.2.2) else (if (b.1 == 3) then (ob (gE c b.2.1 b.2.2 ([([116,97,117]:aY),([97]:aY),([122,122]:aY),([65]:aY),([]:aY)]:List aY)) fun i=>
 ob (rE a.L ([i.1]:List aY)) fun r=>
 eH a.N a.I r a.E i.2.1 i.2.2) else (if (b.1 == 4) then (if (decide (0 < (a.E.length:Int))) then (ob (ix a.E 0) fun s=>
 ob (rE a.E ([s]:List Edge)) fun u=>
 eH a.N a.I a.L u b.2.1 b.2.2) else (eH a.N a.I a.L a.E b.2.1 b.2.2)) else (if (b.1 == 5) then (if (decide (0 < (a.E.length:Int))) then (ob (bR c b.2.1 b.2.2 (a.E.length:Int)) fun e=>
 ob (eU c e.2.1 e.2.2 ([(-1),(a.L.length:Int),0]:List Int)) fun j=>
 ob (ix a.E e.1) fun l=>
 ob (st a.E e.1 (⟨l.F,j.1,l.To⟩:Edge)) fun v=>
 eH a.N a.I a.L v j.2.1 j.2.2) else (eH a.N a.I a.L a.E b.2.1 b.2.2)) else (if (b.1 == 6) then (if (decide (0 < (a.E.length:Int))) then (ob (bR c b.2.1 b.2.2 (a.E.length:Int)) fun f=>
 ob (eU c f.2.1 f.2.2 ([(-1),a.N,0]:List Int)) fun k=>
 ob (ix a.E f.1) fun m=>
 ob (st a.E f.1 (⟨m.F,m.B,k.1⟩:Edge)) fun w=>
 eH a.N a.I a.L w k.2.1 k.2.2) else (eH a.N a.I a.L a.E b.2.1 b.2.2)) else (if (b.1 == 7) then (eH a.N a.I ([]:List aY) a.E b.2.1 b.2.2) else (eH a.N a.I a.L a.E b.2.1 b.2.2)))))))))
def qB (c:(List UInt8)) (d:(cB × Int × Int)) (e f:Int) (g:List aY) (h i:Int) (j:List Edge):Option (cB × cB × Int × Int):=
 ob (qT c h i d.1) fun a=>
 ob (qT c a.2.1 a.2.2 ⟨e,f,g,j⟩) fun b=>
 some (a.1,b.1,b.2.1,b.2.2)
def qC (c:(List UInt8)) (d:(cB × Int × Int)) (e f:Int) (g:List aY) (a:List Edge) (h i:Int) (j:Bool):Option (cB × cB × Int × Int):=
 if j then (ob (bR c h i (a.length:Int)) fun b=>
 ob (slc a 0 b.1) fun k=>
 ob (slc a (wr (b.1+1)) (a.length:Int)) fun l=>
 ob (rE k l) fun m=>
 qB c d e f g b.2.1 b.2.2 m) else (qB c d e f g h i a)
def qD (b:(List UInt8)) (d:(cB × Int × Int)) (h i e f:Int) (g:List aY) (c:List Edge):Option (cB × cB × Int × Int):=
 ob (eI b h i 5) fun a=>
 if a.1 then (qC b d e f g c a.2.1 a.2.2 (decide (0 < (c.length:Int)))) else (qC b d e f g c a.2.1 a.2.2 false)
def nM (c:(List UInt8)) (d:(cB × Int × Int)) (a e:Int) (f:List aY) (g:List Edge) (h i:Int) (j:Bool):Option (cB × cB × Int × Int):=
 if j then (ob (rE ([]:List Edge) g) fun k=>
 ob (rE k ([⟨a,0,e⟩]:List Edge)) fun l=>
 ob (rZ (wr (a+1)) a f l) fun b=>
 qD c d h i b.N b.I b.L b.E) else (qD c d h i a e f g)
def jI (b:(List UInt8)) (d:(cB × Int × Int)) (h i c e:Int) (f:List aY) (g:List Edge):Option (cB × cB × Int × Int):=
 ob (eI b h i 4) fun a=>
 if a.1 then (nM b d c e f g a.2.1 a.2.2 (decide (c < 40))) else (nM b d c e f g a.2.1 a.2.2 false)
def qE (c:(List UInt8)) (b e:(cB × Int × Int)) (a:(Int × Int × Int)) (j:Bool):Option (cB × cB × Int × Int):=
 if j then (ob (eI c a.2.1 a.2.2 2) fun h=>
 ob (aBY b.1 h.1) fun f=>
 jI c b h.2.1 h.2.2 f.N f.I f.L f.E) else (if (a.1 == 2) then (ob (uX c a.2.1 a.2.2 b.1) fun d=>
 jI c b d.2.1 d.2.2 d.1.N d.1.I d.1.L d.1.E) else (if (a.1 == 3) then (ob (aAH b.1) fun k=>
 ob (eI c a.2.1 a.2.2 2) fun i=>
 ob (rG b.1 k i.1) fun g=>
 jI c b i.2.1 i.2.2 g.N g.I g.L g.E) else (jI c b a.2.1 a.2.2 e.1.N e.1.I e.1.L e.1.E)))
def xT (a:(List UInt8)) (e f:Int):Option (cB × cB × Int × Int):=
 ob (wQ a e f) fun c=>
 ob (wQ a c.2.1 c.2.2) fun d=>
 ob (bR a d.2.1 d.2.2 6) fun b=>
 if (b.1 == 0) then (qE a c d b (b.1 == 0)) else (qE a c d b (b.1 == 1))
def aGK (c:(List UInt8)) (d e:Int) (b:(List Int)):Option ((List Int) × Int × Int):=
 ob (nL c d e 2) fun a=>
 if a.1 then (ob (slc b 0 1) fun f=>
 some (f,a.2.1,a.2.2)) else (ob (aGb b) fun g=>
 ob (rE g ([0]:List Int)) fun h=>
 some (h,a.2.1,a.2.2))
def qU (a:List (List Int)) (b c:Int):Option ((List (List Int)) × Int × Int):=
 some (a,b,c)
def vJ (f:(List UInt8)) (a b:cB) (d:(List (List Int))) (l m:Int) (p:Bool):Option ((List (List Int)) × Int × Int):=
 if p then (some (d,l,m)) else (ob (dS f l m (d.length:Int)) fun e=>
 ob (dS f e.2.1 e.2.2 4) fun c=>
 if (c.1 == 0) then (ob (slc d 0 e.1) fun q=>
 ob (slc d (wr (e.1+1)) (d.length:Int)) fun r=>
 ob (rE q r) fun s=>
 some (s,c.2.1,c.2.2)) else (if (c.1 == 1) then (ob (dS f c.2.1 c.2.2 a.N) fun g=>
 ob (dS f g.2.1 g.2.2 b.N) fun h=>
 ob (ix d e.1) fun x=>
 ob (st d e.1 (([g.1,h.1]:List Int):(List Int))) fun t=>
 qU t h.2.1 h.2.2) else (if (c.1 == 2) then (ob (dS f c.2.1 c.2.2 8) fun i=>
 ob (dS f i.2.1 i.2.2 8) fun j=>
 ob (rE d ([([i.1,j.1]:List Int)]:List (List Int))) fun u=>
 some (u,j.2.1,j.2.2)) else (if (c.1 == 3) then (ob (ix d e.1) fun v=>
 ob (aGK f c.2.1 c.2.2 v) fun k=>
 ob (st d e.1 (k.1:(List Int))) fun w=>
 qU w k.2.1 k.2.2) else (qU d c.2.1 c.2.2)))))
def vK (c:(List UInt8)) (a b:cB) (h i:Int) (j:List Int):Option ((List (List Int)) × Int × Int):=
 ob (xM a b j) fun f=>
 if ((f.length:Int) == 0) then (vJ c a b f h i true) else (ob (dS c h i 3) fun g=>
 vJ c a b f g.2.1 g.2.2 (decide (0 < g.1)))
def vL (d:(List UInt8)) (h i:Int) (a b:cB) (k:Bool):Option ((List (List Int)) × Int × Int):=
 if k then (some (([([0,0]:List Int)]:List (List Int)),h,i)) else (ob (aAr a b) fun j=>
 ob (aCa j) fun l=>
 ob (nL d h i 4) fun c=>
 if c.1 then (ob (dS d c.2.1 c.2.2 3) fun g=>
 ob (aCb j g.1) fun m=>
 vK d a b g.2.1 g.2.2 m) else (vK d a b c.2.1 c.2.2 l))
def aEE (e:(List UInt8)) (f g:Int) (a b:cB):Option ((List (List Int)) × Int × Int):=
 ob (vH a) fun h=>
 if (!h) then (vL e f g a b true) else (ob (vH b) fun i=>
 vL e f g a b (!i))
def aAb (a:(List UInt8)) (b:List (List Int)) (c d:Int):Option ((List (List Int)) × (List UInt8) × Int × Int):=
 some (b,a,c,d)
def aAc (a b c:Int) (d:List (List Int)):Option ((Int × Int × List (List Int) × Int) ⊕ (List (List Int) × Int × Int)):=
 some (.inl (b,c,d,wr (a+1)))
def aGT (g:(List UInt8)) (d:(List (List Int))) (e f:Int) (c:List (List Int)) (b:Int):Option ((Int × Int × List (List Int) × Int) ⊕ (List (List Int) × Int × Int)):=
 if (decide (b < (d.length:Int))) then (ob (nL g e f 12) fun a=>
 if (!a.1) then (ob (ix d b) fun h=>
 ob (rE c ([h]:List (List Int))) fun i=>
 aAc b a.2.1 a.2.2 i) else (aAc b a.2.1 a.2.2 c)) else (some (.inr (c,e,f)))
def aAd (c:(List UInt8)) (g h:Int) (a b:cB) (k:Bool):Option ((List (List Int)) × (List UInt8) × Int × Int):=
 if k then (some (([([0,0]:List Int)]:List (List Int)),c,g,h)) else (ob (nL c g h 5) fun d=>
 if d.1 then (ob (aEE c d.2.1 d.2.2 a b) fun e=>
 some (e.1,c,e.2.1,e.2.2)) else (ob (aCc a b) fun l=>
 ob (loop (fun (s:(Int × Int × List (List Int) × Int))=>aGT c l s.1 s.2.1 s.2.2.1 s.2.2.2) (d.2.1,d.2.2,([]:List (List Int)),0)) fun r=>aAb c r.1 r.2.1 r.2.2))
def aJe (e:(List UInt8)) (f g:Int) (a b:cB):Option ((List (List Int)) × (List UInt8) × Int × Int):=
 ob (vH a) fun h=>
 if (!h) then (aAd e f g a b true) else (ob (vH b) fun i=>
 aAd e f g a b (!i))
def qF (c:(List UInt8)) (d e:Int) (b:(List Int)):Option ((List Int) × Int × Int):=
 ob (eI c d e 2) fun a=>
 if a.1 then (ob (slc b 0 1) fun f=>
 some (f,a.2.1,a.2.2)) else (ob (aGb b) fun g=>
 ob (rE g ([0]:List Int)) fun h=>
 some (h,a.2.1,a.2.2))
def mP (a:List (List Int)) (b c:Int):Option ((List (List Int)) × Int × Int):=
 some (a,b,c)
def kC (f:(List UInt8)) (a b:cB) (d:(List (List Int))) (l m:Int) (p:Bool):Option ((List (List Int)) × Int × Int):=
 if p then (some (d,l,m)) else (ob (bR f l m (d.length:Int)) fun e=>
 ob (bR f e.2.1 e.2.2 4) fun c=>
 if (c.1 == 0) then (ob (slc d 0 e.1) fun q=>
 ob (slc d (wr (e.1+1)) (d.length:Int)) fun r=>
 ob (rE q r) fun s=>
 some (s,c.2.1,c.2.2)) else (if (c.1 == 1) then (ob (bR f c.2.1 c.2.2 a.N) fun g=>
 ob (bR f g.2.1 g.2.2 b.N) fun h=>
 ob (ix d e.1) fun x=>
 ob (st d e.1 (([g.1,h.1]:List Int):(List Int))) fun t=>
 mP t h.2.1 h.2.2) else (if (c.1 == 2) then (ob (bR f c.2.1 c.2.2 8) fun i=>
 ob (bR f i.2.1 i.2.2 8) fun j=>
 ob (rE d ([([i.1,j.1]:List Int)]:List (List Int))) fun u=>
 some (u,j.2.1,j.2.2)) else (if (c.1 == 3) then (ob (ix d e.1) fun v=>
 ob (qF f c.2.1 c.2.2 v) fun k=>
 ob (st d e.1 (k.1:(List Int))) fun w=>
 mP w k.2.1 k.2.2) else (mP d c.2.1 c.2.2)))))
def kD (c:(List UInt8)) (a b:cB) (h i:Int) (j:List Int):Option ((List (List Int)) × Int × Int):=
 ob (xM a b j) fun f=>
 if ((f.length:Int) == 0) then (kC c a b f h i true) else (ob (bR c h i 3) fun g=>
 kC c a b f g.2.1 g.2.2 (decide (0 < g.1)))
def mQ (d:(List UInt8)) (h i:Int) (a b:cB) (k:Bool):Option ((List (List Int)) × Int × Int):=
 if k then (some (([([0,0]:List Int)]:List (List Int)),h,i)) else (ob (aAr a b) fun j=>
 ob (aCa j) fun l=>
 ob (eI d h i 4) fun c=>
 if c.1 then (ob (bR d c.2.1 c.2.2 3) fun g=>
 ob (aCb j g.1) fun m=>
 kD d a b g.2.1 g.2.2 m) else (kD d a b c.2.1 c.2.2 l))
def mX (e:(List UInt8)) (f g:Int) (a b:cB):Option ((List (List Int)) × Int × Int):=
 ob (vH a) fun h=>
 if (!h) then (mQ e f g a b true) else (ob (vH b) fun i=>
 mQ e f g a b (!i))
def pD (a:List (List Int)) (b c:Int):Option ((List (List Int)) × Int × Int):=
 some (a,b,c)
def pE (a b c:Int) (d:List (List Int)):Option ((Int × Int × List (List Int) × Int) ⊕ (List (List Int) × Int × Int)):=
 some (.inl (b,c,d,wr (a+1)))
def gL (g:(List UInt8)) (d:(List (List Int))) (e f:Int) (c:List (List Int)) (b:Int):Option ((Int × Int × List (List Int) × Int) ⊕ (List (List Int) × Int × Int)):=
 if (decide (b < (d.length:Int))) then (ob (eI g e f 12) fun a=>
 if (!a.1) then (ob (ix d b) fun h=>
 ob (rE c ([h]:List (List Int))) fun i=>
 pE b a.2.1 a.2.2 i) else (pE b a.2.1 a.2.2 c)) else (some (.inr (c,e,f)))
def iI (d:(List UInt8)) (g h:Int) (a b:cB) (k:Bool):Option ((List (List Int)) × Int × Int):=
 if k then (some (([([0,0]:List Int)]:List (List Int)),g,h)) else (ob (eI d g h 5) fun c=>
 if c.1 then (ob (mX d c.2.1 c.2.2 a b) fun e=>
 some (e.1,e.2.1,e.2.2)) else (ob (aCc a b) fun l=>
 ob (loop (fun (s:(Int × Int × List (List Int) × Int))=>gL d l s.1 s.2.1 s.2.2.1 s.2.2.2) (c.2.1,c.2.2,([]:List (List Int)),0)) fun r=>pD r.1 r.2.1 r.2.2))
def qG (e:(List UInt8)) (f g:Int) (a b:cB):Option ((List (List Int)) × Int × Int):=
 ob (vH a) fun h=>
 if (!h) then (iI e f g a b true) else (ob (vH b) fun i=>
 iI e f g a b (!i))
def wR (b:(List UInt8)):Option (cB × cB × (List (List Int))):=
 ob (aFU b) fun c=>
 ob (xT b c.1 c.2) fun a=>
 ob (qG b a.2.2.1 a.2.2.2 a.1 a.2.1) fun d=>
 some (a.1,a.2.1,d.1)
def jC (t:cB) (k:Int):Option Bool:=
 ob (vU k 0 (wr (t.N - 1))) fun c=>
 some c
def aJf (i many:Int):Option Bool:=
 ob (vU i 0 (wr (many - 1))) fun b=>
 some b
def pF (a:Int):Option Bool:=
 some (a != a)
def eX (a y:Int):Option Int:=
 ob (pF a) fun d=>
 ob (pF y) fun c=>
 if d then (if c then (some 0) else (some (-1))) else (if c then (some 1) else (if (decide (a < y)) then (some (-1)) else (if (decide (y < a)) then (some 1) else (some 0))))
def aCd:Option Int:=
 some 0
def kE (b:(List Int)) (a:Int):Option (Int ⊕ (Unit ⊕ Int)):=
 if (decide (a < (b.length:Int))) then (ob (ix b a) fun c=>
 if (c != 0) then (some (.inr (.inr c))) else (some (.inl (wr (a+1))))) else (some (.inr (.inl ())))
def zF (b:(List Int)):Option Int:=
 ob (loop (fun (s:Int)=>kE b s) 0) fun r=>match r with|.inl r=>aCd|.inr r=>some r
def wS (a b:Edge):Option Int:=
 ob (eX a.F b.F) fun e=>
 ob (eX a.B b.B) fun f=>
 ob (eX a.To b.To) fun g=>
 ob (zF ([e,f,g]:List Int)) fun h=>
 some h
def aCA:Option Bool:=
 some true
def oI (a:Int) (b:Bool):Option (Int ⊕ (Unit ⊕ Bool)):=
 if b then (some (.inr (.inr false))) else (some (.inl (wr (a+1))))
def zH (t:cB) (a:Int):Option (Int ⊕ (Unit ⊕ Bool)):=
 if (decide (a < (t.E.length:Int))) then (ob (ix t.E a) fun c=>
 ob (jC t c.F) fun d=>
 if (!d) then (oI a true) else (ob (jC t c.To) fun e=>
 if (!e) then (oI a true) else (ob (aJf c.B (t.L.length:Int)) fun f=>
 if (!f) then (oI a true) else (if (decide (0 < a)) then (ob (ix t.E (wr (a - 1))) fun g=>
 ob (wS g c) fun h=>
 oI a (decide (0<=h))) else (oI a false))))) else (some (.inr (.inl ())))
def zJ (t:cB):Option Bool:=
 ob (loop (fun (s:Int)=>zH t s) 0) fun r=>match r with|.inl r=>aCA|.inr r=>some r
def rN (a:Int) (b:Bool):Option (Int ⊕ (Unit ⊕ Bool)):=
 if b then (some (.inr (.inr false))) else (some (.inl (wr (a+1))))
def zN (t:cB) (a:Int):Option (Int ⊕ (Unit ⊕ Bool)):=
 if (decide (a < (t.L.length:Int))) then (ob (ix t.L a) fun b=>
 ob (aEb b) fun e=>
 if (!e) then (rN a true) else (if ((b == ([116,97,117]:aY)) != (a == 0)) then (rN a true) else (if (decide (1 < a)) then (ob (ix t.L (wr (a - 1))) fun d=>
 rN a (ltB b d||b == d)) else (rN a false)))) else (some (.inr (.inl ())))
def rO (t:cB) (c:Bool):Option Bool:=
 if c then (some false) else (ob (loop (fun (s:Int)=>zN t s) 0) fun r=>match r with|.inl r=>zJ t|.inr r=>some r)
def aAt (t:cB):Option Bool:=
 ob (vU t.N 1 40) fun b=>
 if (!b) then (rO t true) else (ob (jC t t.I) fun c=>
 if (!c) then (rO t true) else (ob (vU (t.L.length:Int) 1 12) fun d=>
 if (!d) then (rO t true) else (rO t (decide (300 < (t.E.length:Int))))))
def jO (a b:(List Int)):Option Int:=
 if (decide ((a.length:Int) < (b.length:Int))) then (some (-1)) else (some 0)
def eD (b c:(List Int)) (a:Int):Option (Int ⊕ (Unit ⊕ Int)):=
 if (decide (a < (b.length:Int))) then (ob (ix b a) fun e=>
 if (decide ((c.length:Int)<=a)) then (some (.inr (.inr 1))) else (ob (ix c a) fun f=>
 ob (eX e f) fun d=>
 if (d != 0) then (some (.inr (.inr d))) else (some (.inl (wr (a+1)))))) else (some (.inr (.inl ())))
def fV (b c:(List Int)):Option Int:=
 ob (loop (fun (s:Int)=>eD b c s) 0) fun r=>match r with|.inl r=>jO b c|.inr r=>some r
def aDW (a:(List ((Int × Int) × Bool))):Option ((List ((Int × Int) × Bool)) × Bool):=
 some (a,true)
def kX (b:(List ((Int × Int) × Bool))) (c:Int) (a:(List Int)) (d:Bool):Option (((List ((Int × Int) × Bool)) × Int) ⊕ ((List ((Int × Int) × Bool)) ⊕ ((List ((Int × Int) × Bool)) × Bool))):=
 if d then (some (.inr (.inr ([],false)))) else (ob (ix a 0) fun e=>
 ob (ix a 1) fun f=>
 ob (some (aFA b ⟨e,f⟩ true)) fun g=>
 some (.inl (g,wr (c+1))))
def xU (a b:cB) (f:(List (List Int))) (e:(List ((Int × Int) × Bool))) (c:Int):Option (((List ((Int × Int) × Bool)) × Int) ⊕ ((List ((Int × Int) × Bool)) ⊕ ((List ((Int × Int) × Bool)) × Bool))):=
 if (decide (c < (f.length:Int))) then (ob (ix f c) fun d=>
 if ((d.length:Int) != 2) then (kX e c d true) else (ob (ix d 0) fun i=>
 ob (jC a i) fun j=>
 if (!j) then (kX e c d true) else (ob (ix d 1) fun k=>
 ob (jC b k) fun l=>
 if (!l) then (kX e c d true) else (if (decide (0 < c)) then (ob (ix f (wr (c - 1))) fun m=>
 ob (fV m d) fun n=>
 kX e c d (decide (0<=n))) else (kX e c d false))))) else (some (.inr (.inl e)))
def aEg (a b:cB) (f:(List (List Int))):Option ((List ((Int × Int) × Bool)) × Bool):=
 ob (loop (fun (s:((List ((Int × Int) × Bool)) × Int))=>xU a b f s.1 s.2) (([]:(List ((Int × Int) × Bool))),0)) fun r=>match r with|.inl r=>aDW r|.inr r=>some r
def aBv (a:List Edge):Option (List Edge):=
 some a
def aBw (a:Int) (b:List Edge):Option ((List Edge × Int) ⊕ (List Edge)):=
 some (.inl (b,wr (a+1)))
def aBx (t:cB) (k:Int) (b:List Edge) (a:Int):Option ((List Edge × Int) ⊕ (List Edge)):=
 if (decide (a < (t.E.length:Int))) then (ob (ix t.E a) fun d=>
 if (d.F == k) then (ob (rE b ([d]:List Edge)) fun f=>
 aBw a f) else (aBw a b)) else (some (.inr b))
def aEh (t:cB) (k:Int):Option (List Edge):=
 ob (loop (fun (s:(List Edge × Int))=>aBx t k s.1 s.2) ([],0)) fun r=>aBv r
def hO:Option Int:=
 some (-1)
def fR (b:(List Int)) (c a:Int):Option (Int ⊕ (Unit ⊕ Int)):=
 if (decide (a < (b.length:Int))) then (ob (ix b a) fun d=>
 if (c == d) then (some (.inr (.inr a))) else (some (.inl (wr (a+1))))) else (some (.inr (.inl ())))
def gI (b:(List Int)) (c:Int):Option Int:=
 ob (loop (fun (s:Int)=>fR b c s) 0) fun r=>match r with|.inl r=>hO|.inr r=>some r
def eN (a:(List Int)) (b:Int):Option Bool:=
 ob (gI a b) fun c=>
 some (decide (0<=c))
def gM (a:(List Int)):Option (List Int):=
 some a
def gN (a:Int):Option (Int ⊕ (Unit ⊕ (List Int))):=
 some (.inl (wr (a+1)))
def fB (a:List Int) (b:Int):Option (Int ⊕ (Unit ⊕ (List Int))):=
 ob (slc a b (a.length:Int)) fun c=>
 ob (ovw a b (List.replicate c.length (0:Int))) fun d=>
 ob (slc d 0 b) fun e=>
 some (.inr (.inr e))
def fC (a:Int) (b:List Int) (c:Int):Option ((List Int × Int × Int) ⊕ (List Int × Int)):=
 some (.inl (b,c,wr (a+1)))
def fD (e:Int) (d b:List Int) (c a:Int):Option ((List Int × Int × Int) ⊕ (List Int × Int)):=
 if (decide (a < (d.length:Int))) then (ob (ix d a) fun i=>
 ob (ix b (e+a)) fun f=>
 ob (ix d (wr (a - 1))) fun j=>
 ob (ix b (e+(wr (a - 1)))) fun g=>
 if (f != g) then (ob (ix b c) fun k=>
 ob (st b c (f:Int)) fun h=>
 fC a h (wr (c+1))) else (fC a b c)) else (some (.inr (b,c)))
def fE (b:(List Int)) (a:Int):Option (Int ⊕ (Unit ⊕ (List Int))):=
 if (decide (a < (b.length:Int))) then (ob (ix b a) fun d=>
 ob (ix b (wr (a - 1))) fun e=>
 if (d == e) then (ob (slc b a (b.length:Int)) fun f=>
 ob (loop (fun (s:(List Int × Int × Int))=>fD a f s.1 s.2.1 s.2.2) (b,a,1)) fun r=>fB r.1 r.2) else (gN a)) else (some (.inr (.inl ())))
def fW (a:(List Int)):Option (List Int):=
 if (decide ((a.length:Int) < 2)) then (some a) else (ob (loop (fun (s:Int)=>fE a s) 1) fun r=>match r with|.inl r=>gM a|.inr r=>some r)
def nN (a:List Int):Option (List Int):=
 ob (aEa a) fun b=>
 ob (fW b) fun c=>
 some c
def nO (a:Int) (b:List Int):Option ((List Int × Int) ⊕ (List Int)):=
 some (.inl (b,wr (a+1)))
def nP (a:List Int) (b:Int) (c:Edge) (d:Bool):Option ((List Int × Int) ⊕ (List Int)):=
 if d then (ob (rE a ([c.To]:List Int)) fun e=>
 nO b e) else (nO b a)
def gT (t:cB) (e:(List Int)) (f:aY) (d:List Int) (a:Int):Option ((List Int × Int) ⊕ (List Int)):=
 if (decide (a < (t.E.length:Int))) then (ob (ix t.E a) fun b=>
 ob (ix t.L b.B) fun g=>
 if (g == f) then (ob (eN e b.F) fun h=>
 nP d a b h) else (nP d a b false)) else (some (.inr d))
def mI (t:cB) (b:(List Int)) (c:aY):Option (List Int):=
 ob (loop (fun (s:(List Int × Int))=>gT t b c s.1 s.2) ([],0)) fun r=>nN r
def gJ (a:(List Int)):Option (List Int):=
 ob (rE ([]:List Int) a) fun b=>
 some b
def mY (a:List Int):Option (List Int):=
 ob (aEa a) fun b=>
 some b
def qV (a:Int) (b:List Int):Option ((List Int × Int) ⊕ (List Int)):=
 some (.inl (b,wr (a+1)))
def mZ (a:Int) (b:List Int):Option ((List Int × Int) ⊕ (List Int)):=
 qV a b
def nA (a:Int) (b:List Int):Option ((List Int × Int) ⊕ (List Int)):=
 some (.inl (b,wr (a+1)))
def gF (c:(List Int)) (a:List Int) (b:Int):Option ((List Int × Int) ⊕ (List Int)):=
 if (decide (b < (c.length:Int))) then (ob (ix c b) fun d=>
 ob (eN a d) fun e=>
 if (!e) then (ob (rE a ([d]:List Int)) fun f=>
 nA b f) else (nA b a)) else (some (.inr a))
def iZ (t:cB) (a:List Int) (b:Int):Option ((List Int × Int) ⊕ (List Int)):=
 if (decide (b < (a.length:Int))) then (ob (ix a b) fun d=>
 ob (mI t ([d]:List Int) ([116,97,117]:aY)) fun e=>
 ob (loop (fun (s:(List Int × Int))=>gF e s.1 s.2) (a,0)) fun r=>mZ b r) else (some (.inr a))
def mR (t:cB) (b:(List Int)):Option (List Int):=
 ob (gJ b) fun c=>
 ob (loop (fun (s:(List Int × Int))=>iZ t s.1 s.2) (c,0)) fun r=>mY r
def rP (t:cB) (b:(List Int)) (c:aY):Option (List Int):=
 ob (mI t b c) fun d=>
 ob (mR t d) fun e=>
 some e
def kY (t:cB) (k:Int) (b:aY):Option (List Int):=
 ob (mR t ([k]:List Int)) fun c=>
 if (b == ([116,97,117]:aY)) then (some c) else (ob (rP t c b) fun e=>
 some e)
def hX:Option Bool:=
 some true
def fS (b c:(List Int)) (a:Int):Option (Int ⊕ (Unit ⊕ Bool)):=
 if (decide (a < (b.length:Int))) then (ob (ix b a) fun d=>
 ob (ix c a) fun e=>
 if (d != e) then (some (.inr (.inr false))) else (some (.inl (wr (a+1))))) else (some (.inr (.inl ())))
def gK (b c:(List Int)):Option Bool:=
 if ((b.length:Int) != (c.length:Int)) then (some false) else (ob (loop (fun (s:Int)=>fS b c s) 0) fun r=>match r with|.inl r=>hX|.inr r=>some r)
def sZ (p:(List Int)) (b c:cB):Option Bool:=
 ob (gK p ([b.I,c.I]:List Int)) fun d=>
 some d
def fG:Option Int:=
 some (-1)
def bZ (b:(List (List Int))) (c d:cB) (a:Int):Option (Int ⊕ (Unit ⊕ Int)):=
 if (decide (a < (b.length:Int))) then (ob (ix b a) fun e=>
 ob (sZ e c d) fun f=>
 if f then (some (.inr (.inr a))) else (some (.inl (wr (a+1))))) else (some (.inr (.inl ())))
def eO (b:(List (List Int))) (c d:cB):Option Int:=
 ob (loop (fun (s:Int)=>bZ b c d s) 0) fun r=>match r with|.inl r=>fG|.inr r=>some r
def dF (a:(List (List Int))) (b c:cB):Option Bool:=
 ob (eO a b c) fun d=>
 some (decide (0<=d))
def xV (a y:Int) (c:(List ((Int × Int) × Bool))):Option Bool:=
 some ((aGz c ⟨a,y⟩).getD false)
def aDX (a e f:Int) (g:(List aY)) (h:(List Edge)) (i j:Int) (k:(List aY)) (l:(List Edge)) (b:(List ((Int × Int) × Bool))) (p:Int):Option Bool:=
 ob (xV p a b) fun d=>
 some d
def fK:Option Int:=
 some (-1)
def dG (b:(List Int)) (c d:Int) (e:(List aY)) (f:(List Edge)) (g h:Int) (i:(List aY)) (j:(List Edge)) (k:(List ((Int × Int) × Bool))) (l a:Int):Option (Int ⊕ (Unit ⊕ Int)):=
 if (decide (a < (b.length:Int))) then (ob (ix b a) fun m=>
 ob (aDX m c d e f g h i j k l) fun n=>
 if n then (some (.inr (.inr a))) else (some (.inl (wr (a+1))))) else (some (.inr (.inl ())))
def fZ (b:(List Int)) (c d:Int) (e:(List aY)) (f:(List Edge)) (g h:Int) (i:(List aY)) (j:(List Edge)) (k:(List ((Int × Int) × Bool))) (l:Int):Option Int:=
 ob (loop (fun (s:Int)=>dG b c d e f g h i j k l s) 0) fun r=>match r with|.inl r=>fK|.inr r=>some r
def eE (a:(List Int)) (b c:Int) (d:(List aY)) (e:(List Edge)) (f g:Int) (h:(List aY)) (i:(List Edge)) (j:(List ((Int × Int) × Bool))) (k:Int):Option Bool:=
 ob (fZ a b c d e f g h i j k) fun l=>
 some (decide (0<=l))
def xW (b a:cB) (c:(List ((Int × Int) × Bool))) (i y:Int) (e:aY) (f:Int):Option Bool:=
 ob (kY a y e) fun g=>
 ob (eE g b.N b.I b.L b.E a.N a.I a.L a.E c f) fun h=>
 some h
def oD:Option Bool:=
 some true
def gO (a b:cB) (f:(List ((Int × Int) × Bool))) (g y:Int) (d:(List Edge)) (c:Int):Option (Int ⊕ (Unit ⊕ Bool)):=
 if (decide (c < (d.length:Int))) then (ob (ix d c) fun e=>
 ob (ix a.L e.B) fun i=>
 ob (xW ⟨a.N,a.I,a.L,a.E⟩ ⟨b.N,b.I,b.L,b.E⟩ f g y i e.To) fun j=>
 if (!j) then (some (.inr (.inr false))) else (some (.inl (wr (c+1))))) else (some (.inr (.inl ())))
def lF (b d:cB) (e:(List ((Int × Int) × Bool))) (c y:Int):Option Bool:=
 ob (aEh b c) fun g=>
 ob (loop (fun (s:Int)=>gO b d e c y g s) 0) fun r=>match r with|.inl r=>oD|.inr r=>some r
def qW (a b:cB):Option Unit:=
 some ()
def qX (a y e f:Int) (g:(List aY)) (h:(List Edge)) (i j:Int) (k:(List aY)) (l:(List Edge)) (c:(List ((Int × Int) × Bool))):Option Bool:=
 ob (xV y a c) fun d=>
 some d
def aAe (a m n:Int) (o:(List aY)) (q:(List Edge)) (r s:Int) (t:(List aY)) (u:(List Edge)) (b c:Int) (d:(List aY)) (e:(List Edge)) (f g:Int) (h:(List aY)) (i:(List Edge)) (j:(List ((Int × Int) × Bool))) (p:Int):Option Bool:=
 ob (qX p a b c d e f g h i j) fun l=>
 some l
def fL:Option Int:=
 some (-1)
def dH (b:(List Int)) (c d:Int) (e:(List aY)) (f:(List Edge)) (g h:Int) (i:(List aY)) (j:(List Edge)) (k l:Int) (m:(List aY)) (n:(List Edge)) (o p:Int) (q:(List aY)) (r:(List Edge)) (s:(List ((Int × Int) × Bool))) (t a:Int):Option (Int ⊕ (Unit ⊕ Int)):=
 if (decide (a < (b.length:Int))) then (ob (ix b a) fun u=>
 ob (aAe u c d e f g h i j k l m n o p q r s t) fun v=>
 if v then (some (.inr (.inr a))) else (some (.inl (wr (a+1))))) else (some (.inr (.inl ())))
def gA (b:(List Int)) (c d:Int) (e:(List aY)) (f:(List Edge)) (g h:Int) (i:(List aY)) (j:(List Edge)) (k l:Int) (m:(List aY)) (n:(List Edge)) (o p:Int) (q:(List aY)) (t:(List Edge)) (u:(List ((Int × Int) × Bool))) (v:Int):Option Int:=
 ob (loop (fun (s:Int)=>dH b c d e f g h i j k l m n o p q t u v s) 0) fun r=>match r with|.inl r=>fL|.inr r=>some r
def eF (a:(List Int)) (b c:Int) (d:(List aY)) (e:(List Edge)) (f g:Int) (h:(List aY)) (i:(List Edge)) (j k:Int) (l:(List aY)) (m:(List Edge)) (n o:Int) (p:(List aY)) (q:(List Edge)) (r:(List ((Int × Int) × Bool))) (s:Int):Option Bool:=
 ob (gA a b c d e f g h i j k l m n o p q r s) fun t=>
 some (decide (0<=t))
def xX (b a:cB) (c d:Int) (e:(List aY)) (f:(List Edge)) (g h:Int) (i:(List aY)) (j:(List Edge)) (k:(List ((Int × Int) × Bool))) (q y:Int) (m:aY) (n:Int):Option Bool:=
 ob (kY a y m) fun o=>
 ob (eF o b.N b.I b.L b.E a.N a.I a.L a.E c d e f g h i j k n) fun p=>
 some p
def lS:Option Bool:=
 some true
def fP (a b:cB) (f g:Int) (h:(List aY)) (i:(List Edge)) (j k:Int) (l:(List aY)) (m:(List Edge)) (n:(List ((Int × Int) × Bool))) (o y:Int) (d:(List Edge)) (c:Int):Option (Int ⊕ (Unit ⊕ Bool)):=
 if (decide (c < (d.length:Int))) then (ob (ix d c) fun e=>
 ob (ix a.L e.B) fun q=>
 ob (xX ⟨a.N,a.I,a.L,a.E⟩ ⟨b.N,b.I,b.L,b.E⟩ f g h i j k l m n o y q e.To) fun r=>
 if (!r) then (some (.inr (.inr false))) else (some (.inl (wr (c+1))))) else (some (.inr (.inl ())))
def iS (b d:cB) (e f:Int) (g:(List aY)) (h:(List Edge)) (i j:Int) (k:(List aY)) (l:(List Edge)) (m:(List ((Int × Int) × Bool))) (c y:Int):Option Bool:=
 ob (aEh b c) fun o=>
 ob (loop (fun (s:Int)=>fP b d e f g h i j k l m c y o s) 0) fun r=>match r with|.inl r=>lS|.inr r=>some r
def rW (a:(List ((Int × Int) × Bool))):Option (Bool × (List ((Int × Int) × Bool))):=
 some (true,a)
def rX (a:Bool):Option Bool:=
 if a then (some false) else (some true)
def nY (a b:cB) (d:(List ((Int × Int) × Bool))) (c:(Int × Int)):Option Bool:=
 ob (lF ⟨a.N,a.I,a.L,a.E⟩ ⟨b.N,b.I,b.L,b.E⟩ d c.1 c.2) fun e=>
 if (!e) then (rX true) else (ob (qW ⟨a.N,a.I,a.L,a.E⟩ ⟨b.N,b.I,b.L,b.E⟩) fun g=>
 ob (iS ⟨b.N,b.I,b.L,b.E⟩ ⟨a.N,a.I,a.L,a.E⟩ a.N a.I a.L a.E b.N b.I b.L b.E d c.2 c.1) fun f=>
 rX (!f))
def tA (b c:cB) (a:(List ((Int × Int) × Bool))):Option (Bool × (List ((Int × Int) × Bool))):=
 ob (mfil (nY b c a) (List.map Prod.fst a)) fun d=>
 if (decide (d.length=(List.map Prod.fst a).length)) then (rW a) else (some (false,a))
def aHZ (a b:cB) (f:(List (List Int))):Option Bool:=
 ob (aEg a b f) fun e=>
 if e.2 then (ob (tA a b e.1) fun g=>
 some g.1) else (some false)
def xY (a:Bool):Option Bool:=
 some a
def tB (a b:cB) (e:(List (List Int))) (f:Bool):Option Bool:=
 if f then (some false) else (ob (dF e a b) fun g=>
 if g then (ob (aHZ a b e) fun h=>
 xY h) else (xY false))
def uY (a b:cB) (e:(List (List Int))):Option Bool:=
 ob (aAt a) fun f=>
 if (!f) then (tB a b e true) else (ob (aAt b) fun g=>
 tB a b e (!g))
def tP (a b:cB) (e:(List (List Int))):Option Bool:=
 ob (uY a b e) fun f=>
 some f
def nR (a b:(List Int)):Option Int:=
 if (decide ((a.length:Int) < (b.length:Int))) then (some (-1)) else (if (decide ((b.length:Int) < (a.length:Int))) then (some 1) else (some 0))
def lN (a b:(List Int)) (c:Int) (h:Bool):Option (Int ⊕ (Unit ⊕ Int)):=
 if h then (ob (ix a c) fun d=>
 ob (ix b c) fun e=>
 if (decide (d < e)) then (some (.inr (.inr (-1)))) else (if (decide (e < d)) then (some (.inr (.inr 1))) else (some (.inl (wr (c+1)))))) else (some (.inr (.inl ())))
def jJ (a b:(List Int)) (c:Int):Option (Int ⊕ (Unit ⊕ Int)):=
 if (decide (c < (a.length:Int))) then (lN a b c (decide (c < (b.length:Int)))) else (lN a b c false)
def qY (a b:(List Int)):Option Int:=
 ob (loop (fun (s:Int)=>jJ a b s) 0) fun r=>match r with|.inl r=>nR a b|.inr r=>some r
def aCB:Option Bool:=
 some true
def uZ (a:Int) (b:Bool):Option (Int ⊕ (Unit ⊕ Bool)):=
 if b then (some (.inr (.inr false))) else (some (.inl (wr (a+1))))
def oJ (b:(List (List Int))) (a:Int) (c:Bool):Option (Int ⊕ (Unit ⊕ Bool)):=
 if c then (some (.inr (.inr false))) else (if (decide (0 < a)) then (ob (ix b (wr (a - 1))) fun d=>
 ob (ix b a) fun e=>
 ob (qY d e) fun f=>
 uZ a (decide (0<=f))) else (uZ a false))
def rQ (c:(List (List Int))) (a b d:Int):Option (Int ⊕ (Unit ⊕ Bool)):=
 if (decide (d < (c.length:Int))) then (ob (ix c d) fun e=>
 if ((e.length:Int) != 2) then (oJ c d true) else (ob (ix e 0) fun h=>
 ob (zY h 0 (wr (a - 1))) fun i=>
 if (!i) then (oJ c d true) else (ob (ix e 1) fun j=>
 ob (zY j 0 (wr (b - 1))) fun k=>
 oJ c d (!k)))) else (some (.inr (.inl ())))
def aEF (d:(List (List Int))) (a b:Int):Option Bool:=
 ob (loop (fun (s:Int)=>rQ d a b s) 0) fun r=>match r with|.inl r=>aCB|.inr r=>some r
def aAf:Option Bool:=
 some false
def uF (a:Int) (b:Bool):Option (Int ⊕ (Unit ⊕ Bool)):=
 if b then (some (.inr (.inr true))) else (some (.inl (wr (a+1))))
def nS (b:(List (List Int))) (d y a:Int):Option (Int ⊕ (Unit ⊕ Bool)):=
 if (decide (a < (b.length:Int))) then (ob (ix b a) fun c=>
 ob (ix c 0) fun f=>
 if (f == d) then (ob (ix c 1) fun g=>
 uF a (g == y)) else (uF a false)) else (some (.inr (.inl ())))
def tQ (b:(List (List Int))) (c y:Int):Option Bool:=
 ob (loop (fun (s:Int)=>nS b c y s) 0) fun r=>match r with|.inl r=>aAf|.inr r=>some r
def aFm:Option Bool:=
 some true
def aAL (a:Int):Option (Int ⊕ (Unit ⊕ Bool)):=
 some (.inl (wr (a+1)))
def aCX (a:Int) (b:Bool):Option (Int ⊕ (Unit ⊕ Bool)):=
 if (!b) then (some (.inr (.inr false))) else (aAL a)
def aAM (a:Int) (b:Bool):Option ((Bool × Int) ⊕ Bool):=
 some (.inl (b,wr (a+1)))
def aAN (b:(List (List Int))) (e:Bool) (c:Edge) (f:(List Bool)) (d:Bool) (a:Int) (g:Bool):Option ((Bool × Int) ⊕ Bool):=
 if g then (ob (ix f a) fun h=>
 if (!h) then (aAM a d) else (if e then (ob (tQ b a c.To) fun i=>
 aAM a i) else (ob (tQ b c.To a) fun j=>
 aAM a j))) else (some (.inr d))
def aAO (b:cB) (d:(List (List Int))) (e:Bool) (f:Edge) (g:(List Bool)) (a:Bool) (c:Int):Option ((Bool × Int) ⊕ Bool):=
 if (decide (c < b.N)) then (aAN d e f g a c (!a)) else (aAN d e f g a c false)
def tJ (a b:cB) (h:(List Bool)) (i y:Int) (k:(List (List Int))) (l:Bool) (c:Int):Option (Int ⊕ (Unit ⊕ Bool)):=
 if (decide (c < (a.E.length:Int))) then (ob (ix a.E c) fun f=>
 if (f.F != i) then (aAL c) else (ob (ix a.L f.B) fun m=>
 ob (aBU b.L m) fun g=>
 if (decide (g < 0)) then (some (.inr (.inr false))) else (ob (aAK b h y g) fun n=>
 ob (loop (fun (s:(Bool × Int))=>aAO b k l f n s.1 s.2) (false,0)) fun r=>aCX c r))) else (some (.inr (.inl ())))
def aGd (a b:cB) (f:(List Bool)) (g y:Int) (i:(List (List Int))) (j:Bool):Option Bool:=
 ob (loop (fun (s:Int)=>tJ a b f g y i j s) 0) fun r=>match r with|.inl r=>aFm|.inr r=>some r
def vM:Option Bool:=
 some true
def qZ (a:Int) (b:Bool):Option (Int ⊕ (Unit ⊕ Bool)):=
 if b then (some (.inr (.inr false))) else (some (.inl (wr (a+1))))
def jA (a b:cB) (c:(List (List Int))) (j k:(List Bool)) (d:Int):Option (Int ⊕ (Unit ⊕ Bool)):=
 if (decide (d < (c.length:Int))) then (ob (ix c d) fun g=>
 ob (ix g 0) fun h=>
 ob (ix g 1) fun i=>
 ob (aGd a b k h i c false) fun l=>
 if (!l) then (qZ d true) else (ob (aGd b a j i h c true) fun m=>
 qZ d (!m))) else (some (.inr (.inl ())))
def nB (a b:cB) (f:(List (List Int))) (g:Bool):Option Bool:=
 if g then (some false) else (ob (tO a) fun h=>
 ob (tO b) fun i=>
 ob (loop (fun (s:Int)=>jA a b f h i s) 0) fun r=>match r with|.inl r=>vM|.inr r=>some r)
def wT (a b:cB) (e:(List (List Int))):Option Bool:=
 ob (aEF e a.N b.N) fun f=>
 if (!f) then (nB a b e true) else (ob (tQ e a.I b.I) fun g=>
 nB a b e (!g))
def zO (a:Bool):Option Bool:=
 some a
def aCe (a b:cB) (e:(List (List Int))):Option Bool:=
 ob (vH a) fun f=>
 if f then (ob (vH b) fun g=>
 if g then (ob (wT a b e) fun h=>
 zO h) else (zO false)) else (zO false)
def tC (a:aY):Option aY:=
 ob (aEe a) fun b=>
 ob (slc a 0 b) fun c=>
 some c
def vA (a:Bool):Option Int:=
 if a then (some 2) else (some 1)
def oK (a:Int) (b:Bool):Option Int:=
 if b then (some 0) else (if (a == 2) then (vA (a == 2)) else (vA (a == 3)))
def tR (a:Int):Option Int:=
 if (a == 0) then (oK a (a == 0)) else (if (a == 1) then (oK a (a == 1)) else (oK a (a == 6)))
def nZ (b:(aY × Int × Int)) (a:(Int × Int × Int)):Option (aY × Int × Int):=
 some (b.1,a.2.1,a.2.2)
def tD (c:(List UInt8)) (e f:Int) (g:(List aY)):Option (aY × Int × Int):=
 ob (gE c e f g) fun b=>
 ob (bR c b.2.1 b.2.2 8) fun a=>
 if (a.1 == 0) then (some (([]:aY),a.2.1,a.2.2)) else (if (a.1 == 1) then (if (!(b.1 == ([116,97,117]:aY))) then (ob (tC b.1) fun h=>
 ob (cat h ([42]:aY)) fun i=>
 some (i,a.2.1,a.2.2)) else (nZ b a)) else (if (a.1 == 2) then (ob (gE c a.2.1 a.2.2 ([([]:aY),([116,97,117]:aY),([97,42]:aY),([98]:aY),([99,40,49,41]:aY),([115,101,110,100,40,49,44,50,41]:aY),([122,122]:aY)]:List aY)) fun d=>
 some (d.1,d.2.1,d.2.2)) else (nZ b a)))
def xZ (a:List dD) (b c:Int):Option ((List dD) × Int × Int):=
 some (a,b,c)
def kF (f:(List UInt8)->Int->Int->(List aY)->Int->Option ((List dD) × Int × Int)) (g:(List UInt8)) (h:(List aY)) (i b c:Int) (d:List dD) (e:Int):Option ((Int × Int × List dD × Int) ⊕ (List dD × Int × Int)):=
 if (decide (0 < e)) then (ob (f g b c h (wr (i - 1))) fun a=>
 ob (rE d a.1) fun j=>
 some (.inl (a.2.1,a.2.2,j,wr (e - 1)))) else (some (.inr (d,b,c)))
def oT (c:(List UInt8)->Int->Int->(List aY)->Int->Option ((List dD) × Int × Int)) (d:(List UInt8)) (e:(List aY)) (f b g h:Int) (i:aY) (j:Bool):Option ((List dD) × Int × Int):=
 ob (tR b) fun k=>
 ob (loop (fun (s:(Int × Int × List dD × Int))=>kF c d e f s.1 s.2.1 s.2.2.1 s.2.2.2) (g,h,([⟨b,0,i,j⟩]:List dD),k)) fun r=>xZ r.1 r.2.1 r.2.2
def kG (e:(List UInt8)->Int->Int->(List aY)->Int->Option ((List dD) × Int × Int)) (a:(List UInt8)) (b:(List aY)) (f g h i:Int) (j:Bool):Option ((List dD) × Int × Int):=
 if j then (ob (tD a g h b) fun c=>
 ob (eI a c.2.1 c.2.2 6) fun d=>
 oT e a b f i d.2.1 d.2.2 c.1 d.1) else (oT e a b f i g h ([]:aY) false)
def oU (b:(List UInt8)->Int->Int->(List aY)->Int->Option ((List dD) × Int × Int)) (c:(List UInt8)) (d:(List aY)) (e f g a:Int):Option ((List dD) × Int × Int):=
 if (a == 4) then (kG b c d e f g a true) else (kG b c d e f g a (a == 5))
def nT (e:(List UInt8)->Int->Int->(List aY)->Int->Option ((List dD) × Int × Int)) (b:(List UInt8)) (g h:Int) (f:(List aY)) (c:Int):Option ((List dD) × Int × Int):=
 ob (eU b g h ([0,1,2,3,4,4,5,5]:List Int)) fun a=>
 if (c == 0) then (ob (bR b a.2.1 a.2.2 2) fun d=>
 oU e b f c d.2.1 d.2.2 d.1) else (oU e b f c a.2.1 a.2.2 a.1)
def gU:Nat->(List UInt8)->Int->Int->(List aY)->Int->Option ((List dD) × Int × Int)
 |0=>fun _ _ _ _ _=>none
 |n+1=>nT (gU n)
def aFH (a:(List UInt8)) (b c:Int) (d:(List aY)) (e:Int):Option ((List dD) × Int × Int):=
 gU 100000 a b c d e
def aFn (c:(List UInt8)) (d e:Int) (f:(List aY)):Option ((List dD) × Int × Int):=
 ob (bR c d e 3) fun a=>
 ob (aFH c a.2.1 a.2.2 f (wr (1+a.1))) fun b=>
 some (b.1,b.2.1,b.2.2)
def aCf (a:(List UInt8)) (t:cB):Option (List dD):=
 ob (aFU a) fun b=>
 ob (aFn a b.1 b.2 t.L) fun d=>
 some d.1
def jP (a:Bool):Option Int:=
 if a then (some 1) else (some 0)
def pG (n:dD) (b:Bool):Option Int:=
 if b then (some 2) else (if (n.Kind == 4) then (jP (n.Kind == 4)) else (if (n.Kind == 5) then (jP (n.Kind == 5)) else (if (n.Kind == 7) then (jP (n.Kind == 7)) else (jP (n.Kind == 8)))))
def lO (n:dD):Option Int:=
 if (n.Kind == 2) then (pG n (n.Kind == 2)) else (pG n (n.Kind == 3))
def aDY (a:Int):Option Bool:=
 some (a == 0)
def jK (c:(List dD)) (a b:Int):Option ((Int × Int) ⊕ (Int ⊕ Bool)):=
 if (decide (b < (c.length:Int))) then (ob (ix c b) fun d=>
 if (a == 0) then (some (.inr (.inr false))) else (ob (lO d) fun e=>
 some (.inl (wr (a+(wr (e - 1))),wr (b+1))))) else (some (.inr (.inl a)))
def aGe (b:(List dD)):Option Bool:=
 ob (loop (fun (s:(Int × Int))=>jK b s.1 s.2) (1,0)) fun r=>match r with|.inl r=>aDY r|.inr r=>some r
def mS (a:Bool):Option Bool:=
 some a
def nC (n:dD):Option Bool:=
 if (n.Kind == 4) then (mS true) else (mS (n.Kind == 5))
def hY (a b:aY):Option (aY × Bool):=
 ob (eM a b) fun c=>
 if (!c) then (some (a,false)) else (ob (slc a 0 (wr ((a.length:Int) - (b.length:Int)))) fun d=>
 some (d,true))
def lG (b c:aY):Option (aY × Bool):=
 ob (hY b c) fun a=>
 some (a.1,a.2)
def pH (a:Bool):Option Bool:=
 some a
def aAP (a:aY):Option Bool:=
 ob (lG a ([42]:aY)) fun b=>
 if (a == ([]:aY)) then (pH true) else (ob (aEb a) fun c=>
 if c then (pH true) else (if b.2 then (ob (aBS b.1) fun d=>
 pH d) else (pH false)))
def mD (a:Bool):Option Bool:=
 some a
def qH (n:dD):Option Bool:=
 ob (nC n) fun b=>
 if b then (ob (aAP n.B) fun c=>
 some c) else (if (n.B == ([]:aY)) then (mD (!n.Not)) else (mD false))
def iJ (a:Bool):Option Bool:=
 some a
def nU (n:dD):Option Bool:=
 ob (vU n.Kind 0 5) fun b=>
 if (!b) then (iJ true) else (if (n.Variable != 0) then (iJ true) else (ob (qH n) fun c=>
 iJ (!c)))
def eP:Option Int:=
 some (-1)
def cX (b:(List dD)) (a:Int):Option (Int ⊕ (Unit ⊕ Int)):=
 if (decide (a < (b.length:Int))) then (ob (ix b a) fun c=>
 ob (nU c) fun d=>
 if d then (some (.inr (.inr a))) else (some (.inl (wr (a+1))))) else (some (.inr (.inl ())))
def eY (b:(List dD)):Option Int:=
 ob (loop (fun (s:Int)=>cX b s) 0) fun r=>match r with|.inl r=>eP|.inr r=>some r
def eQ (a:(List dD)):Option Bool:=
 ob (eY a) fun b=>
 some (decide (0<=b))
def uG (a:(List dD)) (b:Bool):Option Bool:=
 if b then (some false) else (ob (eQ a) fun c=>
 some (!c))
def aBy (a:(List dD)):Option Bool:=
 ob (vU (a.length:Int) 1 200) fun b=>
 if (!b) then (uG a true) else (ob (aGe a) fun c=>
 uG a (!c))
def aAg (k:Int) (p:cB):Option Bool:=
 ob (jC p k) fun c=>
 some (!c)
def fM:Option Int:=
 some (-1)
def fN (b:(List Int)) (c:cB) (a:Int):Option (Int ⊕ (Unit ⊕ Int)):=
 if (decide (a < (b.length:Int))) then (ob (ix b a) fun d=>
 ob (aAg d c) fun e=>
 if e then (some (.inr (.inr a))) else (some (.inl (wr (a+1))))) else (some (.inr (.inl ())))
def gB (b:(List Int)) (c:cB):Option Int:=
 ob (loop (fun (s:Int)=>fN b c s) 0) fun r=>match r with|.inl r=>fM|.inr r=>some r
def eG (a:(List Int)) (b:cB):Option Bool:=
 ob (gB a b) fun c=>
 some (decide (0<=c))
def aDZ (t:cB) (b:(List Int)):Option Int:=
 ob (aAt t) fun c=>
 if (!c) then (some 1) else (ob (eG b t) fun d=>
 if d then (some 2) else (some 0))
def aFo (a:(List dD)) (t:cB) (c:(List Int)):Option Int:=
 ob (aBy a) fun d=>
 if (!d) then (some 1) else (ob (aDZ t c) fun e=>
 some e)
def yA (a:dD) (b:List (Tr dD)) (c:List dD):Option ((Tr dD) × (List dD)):=
 some ((Tr.mk a b),c)
def kH (e:(List dD)->Option ((Tr dD) × (List dD))) (f:Int) (a:List (Tr dD)) (b:List dD) (c:Int):Option ((List (Tr dD) × List dD × Int) ⊕ (List (Tr dD) × List dD)):=
 if (decide (c < f)) then (ob (e b) fun d=>
 ob (rE a ([d.1]:List (Tr dD))) fun g=>
 some (.inl (g,d.2,wr (c+1)))) else (some (.inr (a,b)))
def jL (d:(List dD)->Option ((Tr dD) × (List dD))) (a:(List dD)):Option ((Tr dD) × (List dD)):=
 ob (ix a 0) fun b=>
 ob (slc a 1 (a.length:Int)) fun e=>
 ob (lO b) fun f=>
 ob (loop (fun (s:(List (Tr dD) × List dD × Int))=>kH d f s.1 s.2.1 s.2.2) ([],e,0)) fun r=>yA b r.1 r.2
def jM:Nat->(List dD)->Option ((Tr dD) × (List dD))
 |0=>fun _=>none
 |n+1=>jL (jM n)
def aFI (a:(List dD)):Option ((Tr dD) × (List dD)):=
 jM 100000 a
def aCY (a:(List dD)):Option (Tr dD):=
 ob (aFI a) fun b=>
 some b.1
def aCZ (a:aY):Option aY:=
 ob (vV a) fun b=>
 some b.1
def kZ (n:dD) (b:Bool):Option Bool:=
 some (b != n.Not)
def pI (n:dD) (b:aY):Option Bool:=
 ob (lG n.B ([42]:aY)) fun c=>
 if (n.B == ([]:aY)) then (kZ n true) else (if (n.B == b) then (kZ n true) else (if c.2 then (ob (aCZ b) fun d=>
 kZ n (d == c.1)) else (kZ n false)))
def iE (a:List Bool):Option (List Bool):=
 some a
def iF (a:List Bool) (b:Int):Option ((List Bool × Int) ⊕ (List Bool)):=
 if (decide (b < (a.length:Int))) then (ob (slc a b (a.length:Int)) fun d=>
 ob (slc a 0 b) fun c=>
 ob (ovw a b (List.take (Nat.min c.length d.length) c)) fun e=>
 some (.inl (e,wr (b+((Nat.min c.length d.length):Int))))) else (some (.inr a))
def iG (a:(List Bool)) (c:(Int × Int)):Option (List Bool):=
 ob (mkz (wr c.2) (false:Bool)) fun b=>
 ob (ovw b 0 (List.take (Nat.min a.length b.length) a)) fun d=>
 ob (loop (fun (s:(List Bool × Int))=>iF s.1 s.2) (d,((Nat.min a.length b.length):Int))) fun r=>iE r
def fX (a:(List Bool)) (b:(Int × Int)) (c:Bool):Option (List Bool):=
 if c then (none) else (iG a b)
def iH (b:(List Bool)) (c:Int):Option (List Bool):=
 ob (l_Mul (gG (b.length:Int)) (gG c)) fun a=>
 if (decide (0 < a.1)) then (fX b a true) else (fX b a (decide (9223372036854775807 < a.2)))
def fQ (b:(List Bool)) (a:Int):Option (List Bool):=
 if (decide (a < 0)) then (none) else (iH b a)
def vN (a:List Bool):Option (List Bool):=
 some a
def rA (a:Int) (b:List Bool):Option ((List Bool × Int) ⊕ (List Bool)):=
 some (.inl (b,wr (a+1)))
def rB (n:dD) (a:List Bool) (b:Int) (c:Edge) (e:Bool):Option ((List Bool × Int) ⊕ (List Bool)):=
 if e then (ob (ix a c.F) fun g=>
 ob (st a c.F (n.Kind == 4:Bool)) fun f=>
 rA b f) else (rA b a)
def lA (t:cB) (n:dD) (f:(List Bool)) (e:List Bool) (b:Int):Option ((List Bool × Int) ⊕ (List Bool)):=
 if (decide (b < (t.E.length:Int))) then (ob (ix t.E b) fun c=>
 ob (ix t.L c.B) fun g=>
 ob (pI n g) fun h=>
 if h then (ob (ix f c.To) fun i=>
 rB n e b c (i == (n.Kind == 4))) else (rB n e b c false)) else (some (.inr e))
def wU (t:cB) (n:dD) (c:(List Bool)):Option (List Bool):=
 ob (fQ ([n.Kind == 5]:List Bool) t.N) fun d=>
 ob (loop (fun (s:(List Bool × Int))=>lA t n c s.1 s.2) (d,0)) fun r=>vN r
def mE (a:List Bool):Option (List Bool):=
 some a
def jQ (a:Int) (b:List Bool):Option ((List Bool × Int) ⊕ (List Bool)):=
 some (.inl (b,wr (a+1)))
def pJ (a:Int) (b:List Bool):Option ((List Bool × Int) ⊕ (List Bool)):=
 jQ a b
def pK (a:Int) (b:List Bool):Option ((List Bool × Int) ⊕ (List Bool)):=
 jQ a b
def dX (d:(Tr dD)) (c:List (List Bool)) (e:(List Bool)) (b:List Bool) (a:Int):Option ((List Bool × Int) ⊕ (List Bool)):=
 if (decide (a < (e.length:Int))) then (if (d.val.Kind == 2) then (ob (ix c 0) fun f=>
 ob (ix f a) fun g=>
 if g then (ob (ix c 1) fun h=>
 ob (ix h a) fun i=>
 ob (ix b a) fun r=>
 ob (st b a (i:Bool)) fun j=>
 pJ a j) else (ob (ix b a) fun s=>
 ob (st b a (false:Bool)) fun k=>
 pJ a k)) else (if (d.val.Kind == 3) then (ob (ix c 0) fun l=>
 ob (ix l a) fun m=>
 if m then (ob (ix b a) fun t=>
 ob (st b a (true:Bool)) fun n=>
 pK a n) else (ob (ix c 1) fun o=>
 ob (ix o a) fun p=>
 ob (ix b a) fun u=>
 ob (st b a (p:Bool)) fun q=>
 pK a q)) else (jQ a b))) else (some (.inr b))
def jR (a:(Tr dD)) (t:cB) (c:List (List Bool)):Option (List Bool):=
 ob (nC a.val) fun e=>
 if e then (ob (ix c 0) fun f=>
 ob (wU t a.val f) fun g=>
 some g) else (ob (fQ ([a.val.Kind == 0]:List Bool) t.N) fun d=>
 ob (loop (fun (s:(List Bool × Int))=>dX a c d s.1 s.2) (d,0)) fun r=>mE r)
def iK (e:(Tr dD)->cB->Option (List Bool)) (t:cB) (b:List (List Bool)) (c:List (Tr dD)) (d a:Int):Option ((List (List Bool) × List (Tr dD) × Int × Int) ⊕ (List (List Bool))):=
 if (decide (a < d)) then (ob (ix c a) fun g=>
 ob (e g t) fun h=>
 ob (rE b ([h]:List (List Bool))) fun i=>
 some (.inl (i,c,d,wr (a+1)))) else (some (.inr b))
def iA (c:(Tr dD)->cB->Option (List Bool)) (a:(Tr dD)) (t:cB):Option (List Bool):=
 ob (loop (fun (s:(List (List Bool) × List (Tr dD) × Int × Int))=>iK c t s.1 s.2.1 s.2.2.1 s.2.2.2) ([],a.kids,(a.kids.length:Int),0)) fun r=>jR a t r
def iB:Nat->(Tr dD)->cB->Option (List Bool)
 |0=>fun _ _=>none
 |n+1=>iA (iB n)
def aDr (a:(Tr dD)) (t:cB):Option (List Bool):=
 iB 100000 a t
def fY (a:(List aY)):Option (List aY):=
 ob (rE ([]:List aY) a) fun b=>
 some b
def tS (t:cB) (b:List aY) (c:List Edge):Option cB:=
 some ⟨t.N,t.I,b,c⟩
def tT (a:Int) (b:List Edge):Option ((List Edge × Int) ⊕ (List Edge)):=
 some (.inl (b,wr (a+1)))
def pL (a:Int) (b:List Edge):Option ((List Edge × Int) ⊕ (List Edge)):=
 tT a b
def tU (a:Int) (b:List Edge):Option ((List Edge × Int) ⊕ (List Edge)):=
 some (.inl (b,wr (a+1)))
def pM (a:Int) (b:List Edge):Option ((List Edge × Int) ⊕ (List Edge)):=
 tU a b
def mF (d e:Int) (b:(List Int)) (c:List Edge) (a:Int):Option ((List Edge × Int) ⊕ (List Edge)):=
 if (decide (a < (b.length:Int))) then (ob (ix b a) fun f=>
 ob (rE c ([⟨d,e,f⟩]:List Edge)) fun g=>
 some (.inl (g,wr (a+1)))) else (some (.inr c))
def mG (t:cB) (c:Int) (d:List Edge) (a:Int):Option ((List Edge × Int) ⊕ (List Edge)):=
 if (decide (a < (t.L.length:Int))) then (ob (ix t.L a) fun e=>
 ob (kY t c e) fun f=>
 ob (loop (fun (s:(List Edge × Int))=>mF c a f s.1 s.2) (d,0)) fun r=>pM a r) else (some (.inr d))
def jS (t:cB) (c:List Edge) (a:Int):Option ((List Edge × Int) ⊕ (List Edge)):=
 if (decide (a < t.N)) then (ob (loop (fun (s:(List Edge × Int))=>mG t a s.1 s.2) (c,0)) fun r=>pL a r) else (some (.inr c))
def tV (t:cB) (b:List aY):Option cB:=
 ob (loop (fun (s:(List Edge × Int))=>jS t s.1 s.2) ([],0)) fun r=>tS t b r
def uH (t:cB):Option cB:=
 ob (fY t.L) fun b=>
 tV t b
def oL (a:(List dD)) (t:cB) (c:Int):Option (Bool × Int):=
 ob (aFo a t ([c]:List Int)) fun d=>
 if (d != 0) then (some (false,d)) else (ob (aCY a) fun e=>
 ob (uH t) fun f=>
 ob (aDr e f) fun g=>
 ob (ix g c) fun h=>
 some (h,0))
def kI (a:Bool):Option Bool:=
 some a
def fI (e f:(List UInt8)) (g:Bool):Option Bool:=
 if g then (some true) else (ob (wR e) fun a=>
 ob (tP a.1 a.2.1 a.2.2) fun h=>
 if (!h) then (ob (aCe a.1 a.2.1 a.2.2) fun i=>
 some (!i)) else (ob (aCf f a.1) fun b=>
 ob (oL b a.1 a.1.I) fun c=>
 ob (oL b a.2.1 a.2.1.I) fun d=>
 if (c.2 == 0) then (if (d.2 == 0) then (kI (c.1 == d.1)) else (kI false)) else (kI false)))
def rC (a b:(List UInt8)):Option Bool:=
 ob (aBT a) fun c=>
 if c then (fI a b true) else (ob (aBT b) fun d=>
 fI a b d)
end
end Gv
