/- Models of the functions, printed by program off their code. Plain Lean. -/
import Derived.Test.YtkgakibhmcbflaaGreatDoorJLM
set_option linter.all false
namespace Gv
noncomputable section
def tO (a:List Int):Option ((List Int) × Bool):=
 some (a,true)
def mG (b:(List bI)) (c:List Int) (a:Int):Option ((List Int × Int) ⊕ (List Int ⊕ ((List Int) × Bool))):=
 if (decide (a < (b.length:Int))) then (ob (ix b a) fun e=>
 ob (uP e) fun d=>
 if (!d.2) then (some (.inr (.inr ([],false)))) else (ob (sI c ([d.1]:List Int)) fun f=>
 some (.inl (f,wr (a+1))))) else (some (.inr (.inl c)))
def uQ (b:(List bI)):Option ((List Int) × Bool):=
 ob (loop (fun (s:(List Int × Int))=>mG b s.1 s.2) ([],0)) fun r=>match r with|.inl r=>tO r|.inr r=>some r
def aAG (a:Bool):Option Bool:=
 some a
def aDD (c:UInt8):Option Bool:=
 if (decide (48≤(c.toNat:Int))) then (aAG (decide ((c.toNat:Int)≤57))) else (aAG false)
def aBB (a:Bool):Option Bool:=
 some a
def zZ (a:bI):Option Bool:=
 if (decide (1≤(a.length:Int))) then (aBB (decide ((a.length:Int)≤10))) else (aBB false)
def wJ (a:Int) (b:Bool):Option (Int ⊕ (Unit ⊕ Bool)):=
 if b then (some (.inr (.inr false))) else (some (.inl (wr (a+1))))
def qE (b:bI) (a:Int) (c:Bool):Option (Int ⊕ (Unit ⊕ Bool)):=
 if (!c) then (if (a == 0) then (wJ a true) else (ob (ix b a) fun d=>
 ob (aDD d) fun e=>
 wJ a (!e))) else (wJ a false)
def sO (a:bI) (b:Int):Option (Int ⊕ (Unit ⊕ Bool)):=
 if (decide (b < (a.length:Int))) then (ob (ix a b) fun c=>
 if (decide (97≤(c.toNat:Int))) then (qE a b (decide ((c.toNat:Int)≤122))) else (qE a b false)) else (some (.inr (.inl ())))
def aCV (b:bI):Option Bool:=
 ob (loop (fun (s:Int)=>sO b s) 0) fun r=>match r with|.inl r=>zZ b|.inr r=>some r
def uR (a:Bool):Option Bool:=
 some a
def aBi (a:bI):Option Bool:=
 ob (aCV a) fun b=>
 if b then (uR (!(a == ([116,97,117]:bI)))) else (uR false)
def aBC (a:Bool):Option Bool:=
 some a
def uS (n low b:Int):Option Bool:=
 if (decide (low≤n)) then (aBC (decide (n≤b))) else (aBC false)
def aDE (n:Int):Option Bool:=
 ob (uS n 0 63) fun b=>
 some b
def xB (n:Int):Option Bool:=
 ob (aDE n) fun b=>
 some (!b)
def fU:Option Int:=
 some (-1)
def dR (b:(List Int)) (a:Int):Option (Int ⊕ (Unit ⊕ Int)):=
 if (decide (a < (b.length:Int))) then (ob (ix b a) fun c=>
 ob (xB c) fun d=>
 if d then (some (.inr (.inr a))) else (some (.inl (wr (a+1))))) else (some (.inr (.inl ())))
def gS (b:(List Int)):Option Int:=
 ob (loop (fun (s:Int)=>dR b s) 0) fun r=>match r with|.inl r=>fU|.inr r=>some r
def fV (a:(List Int)):Option Bool:=
 ob (gS a) fun b=>
 some (decide (0≤b))
def aAa (a:(List Int)):Option Bool:=
 ob (fV a) fun b=>
 some (!b)
def aAb (a:bI) (b:List bI):Option bI:=
 ob (aJy b a) fun c=>
 some c
def wK (c:(List Int)) (b:List bI) (a:Int):Option ((List bI × Int) ⊕ (List bI)):=
 if (decide (a < (c.length:Int))) then (ob (ix c a) fun d=>
 ob (aCa d) fun e=>
 ob (ix b a) fun g=>
 ob (st b a (e:bI)) fun f=>
 some (.inl (f,wr (a+1)))) else (some (.inr b))
def aCW (a:(List Int)) (b:bI):Option bI:=
 ob (mkz (a.length:Int) ([]:bI)) fun c=>
 ob (loop (fun (s:(List bI × Int))=>wK a s.1 s.2) (c,0)) fun r=>aAb b r
def tP (a:bI) (b:(List Int)) (c:Bool):Option (bI × Bool):=
 if c then (some (([]:bI),false)) else (if ((b.length:Int) == 0) then (some (a,true)) else (ob (cat a ([40]:bI)) fun d=>
 ob (aCW b ([44]:bI)) fun e=>
 ob (cat d e) fun f=>
 ob (cat f ([41]:bI)) fun g=>
 some (g,true)))
def aCc (b:bI) (a:(List Int)):Option (bI × Bool):=
 if (b == ([116,97,117]:bI)) then (some (([116,97,117]:bI),(a.length:Int) == 0)) else (ob (aBi b) fun c=>
 if (!c) then (tP b a true) else (if (decide (2 < (a.length:Int))) then (tP b a true) else (ob (aAa a) fun d=>
 tP b a (!d))))
def fA (a:Bool):Option Bool:=
 some a
def gW (a b:bI):Option Bool:=
 if (decide ((b.length:Int)≤(a.length:Int))) then (ob (slc a (wr ((a.length:Int) - (b.length:Int))) (a.length:Int)) fun c=>
 fA (c == b)) else (fA false)
def gT (a b:bI):Option bI:=
 ob (gW a b) fun c=>
 if c then (ob (slc a 0 (wr ((a.length:Int) - (b.length:Int)))) fun d=>
 some d) else (some a)
def lC (a b:bI):Option bI:=
 ob (gT a b) fun c=>
 some c
def pC (a:(bI × bI × Bool)) (b:List Int) (c:Bool):Option (bI × (List Int) × Bool):=
 if c then (some (([]:bI),[],false)) else (some (a.1,b,true))
def pD (d:bI) (a:(bI × bI × Bool)) (b:List Int):Option (bI × (List Int) × Bool):=
 ob (aCc a.1 b) fun c=>
 if (!c.2) then (pC a b true) else (pC a b (!(c.1 == d)))
def aBD (b:bI):Option (bI × (List Int) × Bool):=
 ob (l_Cut b ([40]:bI)) fun a=>
 if a.2.2 then (ob (lC a.2.1 ([41]:bI)) fun d=>
 ob (aEY d ([44]:bI)) fun e=>
 ob (uQ e) fun c=>
 if (!c.2) then (some (([]:bI),[],false)) else (pD b a c.1)) else (pD b a [])
def aCd (a:bI):Option Bool:=
 ob (aBD a) fun b=>
 some b.2.2
def aAc (a:Bool):Option Bool:=
 some a
def aCX (a b:(List UInt8)):Option Bool:=
 if (decide (1048576 < (a.length:Int))) then (aAc true) else (aAc (decide (1048576 < (b.length:Int))))
def aAW (a:(List UInt8)):Option (Int × Int):=
 some (0,0)
def aAH:Option Int:=
 some (-1)
def tQ (b:(List bI)) (c:bI) (a:Int):Option (Int ⊕ (Unit ⊕ Int)):=
 if (decide (a < (b.length:Int))) then (ob (ix b a) fun d=>
 if (d == c) then (some (.inr (.inr a))) else (some (.inl (wr (a+1))))) else (some (.inr (.inl ())))
def yL (b:(List bI)) (c:bI):Option Int:=
 ob (loop (fun (s:Int)=>tQ b c s) 0) fun r=>match r with|.inl r=>aAH|.inr r=>some r
def aAI (a:List bI):Option (List bI):=
 some a
def oD (a:Int) (b:List bI):Option ((List bI × Int) ⊕ (List bI)):=
 some (.inl (b,wr (a+1)))
def tR (c:Int) (d:bI) (a:Int) (b:List bI):Option ((List bI × Int) ⊕ (List bI)):=
 ob (ix b a) fun f=>
 ob (st b a (d:bI)) fun e=>
 oD c e
def oE (c:Int) (b:List bI) (a:Int):Option ((List bI × Int) ⊕ (List bI)):=
 if (decide (c < a)) then (ob (ix b (wr (a - 1))) fun d=>
 ob (ix b a) fun f=>
 ob (st b a (d:bI)) fun e=>
 some (.inl (e,wr (a - 1)))) else (some (.inr b))
def tS (c:List bI) (d:Int) (e:bI) (a:Int):Option ((List bI × Int) ⊕ (List bI)):=
 ob (sI c ([([]:bI)]:List bI)) fun b=>
 ob (loop (fun (s:(List bI × Int))=>oE a s.1 s.2) (b,wr ((b.length:Int) - 1))) fun r=>tR d e a r
def qI (a:Int) (b:Bool):Option (Int ⊕ Int):=
 if b then (some (.inl (wr (a+1)))) else (some (.inr a))
def jX (b:List bI) (c:bI) (a:Int):Option (Int ⊕ Int):=
 if (decide (a < (b.length:Int))) then (ob (ix b a) fun d=>
 qI a (zW d c)) else (qI a false)
def iH (d:(List bI)) (a:List bI) (b:Int):Option ((List bI × Int) ⊕ (List bI)):=
 if (decide (b < (d.length:Int))) then (ob (ix d b) fun c=>
 ob (yL a c) fun e=>
 if (decide (0≤e)) then (oD b a) else (ob (loop (fun (s:Int)=>jX a c s) 1) fun r=>tS a b c r)) else (some (.inr a))
def yM (a:(List bI)):Option (List bI):=
 ob (loop (fun (s:(List bI × Int))=>iH a s.1 s.2) (([([116,97,117]:bI)]:List bI),0)) fun r=>aAI r
def aCe (a b:Edge):Option Bool:=
 if (a.F != b.F) then (some (decide (a.F < b.F))) else (if (a.B != b.B) then (some (decide (a.B < b.B))) else (some (decide (a.To < b.To))))
def aAd (e:Edge) (b:Int) (c:List Edge):Option (List Edge):=
 ob (ix c b) fun f=>
 ob (st c b (⟨e.F,e.B,e.To⟩:Edge)) fun d=>
 some d
def wL (d:Int) (b:List Edge) (a:Int):Option ((List Edge × Int) ⊕ (List Edge)):=
 if (decide (d < a)) then (ob (ix b (wr (a - 1))) fun c=>
 ob (ix b a) fun f=>
 ob (st b a (⟨c.F,c.B,c.To⟩:Edge)) fun e=>
 some (.inl (e,wr (a - 1)))) else (some (.inr b))
def wM (a:(List Edge)) (e:Edge) (b:Int) (f:Bool):Option (List Edge):=
 if f then (some a) else (ob (sI a ([⟨0,0,0⟩]:List Edge)) fun c=>
 ob (loop (fun (s:(List Edge × Int))=>wL b s.1 s.2) (c,wr ((c.length:Int) - 1))) fun r=>aAd e b r)
def aAe (b:(List Edge)) (e:Edge) (a:Int):Option (List Edge):=
 if (decide (0 < a)) then (ob (ix b (wr (a - 1))) fun d=>
 wM b e a (decide ((d:Edge)=e))) else (wM b e a false)
def wN (a:Int) (b:Bool):Option (Int ⊕ Int):=
 if b then (some (.inl (wr (a - 1)))) else (some (.inr a))
def sP (b:(List Edge)) (e:Edge) (a:Int):Option (Int ⊕ Int):=
 if (decide (0 < a)) then (ob (ix b (wr (a - 1))) fun d=>
 ob (aCe e d) fun f=>
 wN a f) else (wN a false)
def aCY (a:(List Edge)) (e:Edge):Option (List Edge):=
 ob (loop (fun (s:Int)=>sP a e s) (a.length:Int)) fun r=>aAe a e r
def aAJ (a b:Int) (c:(List bI)) (d:List Edge):Option cD:=
 some ⟨a,b,c,d⟩
def jY (e:(List bI)) (c:(List Edge)) (f:(List bI)) (d:List Edge) (a:Int):Option ((List Edge × Int) ⊕ (List Edge)):=
 if (decide (a < (c.length:Int))) then (ob (ix c a) fun b=>
 ob (ix e b.B) fun g=>
 ob (yL f g) fun h=>
 ob (aCY d ⟨b.F,h,b.To⟩) fun i=>
 some (.inl (i,wr (a+1)))) else (some (.inr d))
def kS (c d:Int) (a:(List bI)) (e:(List Edge)):Option cD:=
 ob (yM a) fun b=>
 ob (loop (fun (s:(List Edge × Int))=>jY a e b s.1 s.2) (([]:List Edge),0)) fun r=>aAJ c d b r
def aAf (a:List Edge):Option (List Edge):=
 some a
def aAg (a:Int) (b:List Edge):Option ((List Edge × Int) ⊕ (List Edge)):=
 some (.inl (b,wr (a+1)))
def wO (t:cD) (k:Int) (b:List Edge) (a:Int):Option ((List Edge × Int) ⊕ (List Edge)):=
 if (decide (a < (t.E.length:Int))) then (ob (ix t.E a) fun d=>
 if (d.F == k) then (ob (sI b ([d]:List Edge)) fun f=>
 aAg a f) else (aAg a b)) else (some (.inr b))
def aCZ (t:cD) (k:Int):Option (List Edge):=
 ob (loop (fun (s:(List Edge × Int))=>wO t k s.1 s.2) (([]:List Edge),0)) fun r=>aAf r
def aAK:Option Bool:=
 some true
def tT (a b:(List Int)) (c:Int):Option (Int ⊕ (Unit ⊕ Bool)):=
 if (decide (c < (a.length:Int))) then (ob (ix a c) fun f=>
 ob (ix b c) fun g=>
 if (f != g) then (some (.inr (.inr false))) else (some (.inl (wr (c+1))))) else (some (.inr (.inl ())))
def wP (a b:(List Int)):Option Bool:=
 if ((a.length:Int) != (b.length:Int)) then (some false) else (ob (loop (fun (s:Int)=>tT a b s) 0) fun r=>match r with|.inl r=>aAK|.inr r=>some r)
def uT (a:Bool):Option Bool:=
 some a
def sQ (e:Edge) (p:(List Int)):Option Bool:=
 if (e.B == 0) then (ob (ix p e.F) fun c=>
 ob (ix p e.To) fun d=>
 uT (c == d)) else (uT false)
def qS (a:List Bool):Option (List Bool):=
 some a
def aAs (a:List Bool) (b:Bool):Option ((List Bool × Bool) ⊕ (List Bool)):=
 some (.inl (a,b))
def vH (a:List Bool) (b:Bool):Option ((List Bool × Bool) ⊕ (List Bool)):=
 aAs a b
def lN (a:Int) (b:List Bool) (c:Bool):Option ((List Bool × Bool × Int) ⊕ (List Bool × Bool)):=
 some (.inl (b,c,wr (a+1)))
def qT (b:List Bool) (c:Bool) (a:Int) (d:Bool):Option ((List Bool × Bool × Int) ⊕ (List Bool × Bool)):=
 if (!d) then (ob (st b a (false:Bool)) fun e=>
 lN a e true) else (lN a b c)
def kK (a:Int) (b:Bool):Option ((Bool × Int) ⊕ Bool):=
 some (.inl (b,wr (a+1)))
def jE (t:cD) (p:(List Int)) (f:List Bool) (g:Int) (d:Bool) (a:Int):Option ((Bool × Int) ⊕ Bool):=
 if (decide (a < (t.E.length:Int))) then (ob (ix t.E a) fun b=>
 if d then (kK a true) else (if (b.F == g) then (ob (sQ b p) fun h=>
 if h then (ob (ix f b.To) fun i=>
 kK a i) else (kK a false)) else (kK a false))) else (some (.inr d))
def kL (t:cD) (p:(List Int)) (a:List Bool) (c:Bool) (b:Int):Option ((List Bool × Bool × Int) ⊕ (List Bool × Bool)):=
 if (decide (b < t.N)) then (ob (ix a b) fun f=>
 if (!f) then (lN b a c) else (ob (loop (fun (s:(Bool × Int))=>jE t p a b s.1 s.2) (false,0)) fun r=>qT a c b r)) else (some (.inr (a,c)))
def lO (t:cD) (p:(List Int)) (a:List Bool) (e:Bool):Option ((List Bool × Bool) ⊕ (List Bool)):=
 if e then (ob (loop (fun (s:(List Bool × Bool × Int))=>kL t p s.1 s.2.1 s.2.2) (a,false,0)) fun r=>vH r.1 r.2) else (some (.inr a))
def pE (t:cD) (p:(List Int)) (c:List Bool):Option (List Bool):=
 ob (loop (fun (s:(List Bool × Bool))=>lO t p s.1 s.2) (c,true)) fun r=>qS r
def iI (t:cD) (b:List Bool) (a:Int):Option ((List Bool × Int) ⊕ (List Bool)):=
 if (decide (a < t.N)) then (ob (ix b a) fun e=>
 ob (st b a (true:Bool)) fun d=>
 some (.inl (d,wr (a+1)))) else (some (.inr b))
def tU (t:cD) (p:(List Int)):Option (List Bool):=
 ob (mkz t.N (false:Bool)) fun c=>
 ob (loop (fun (s:(List Bool × Int))=>iI t s.1 s.2) (c,0)) fun r=>pE t p r
def yZ (a:List Bool):Option (List Bool):=
 some a
def aBP (a:List Bool) (b:Bool):Option ((List Bool × Bool) ⊕ (List Bool)):=
 some (.inl (a,b))
def zD (a:List Bool) (b:Bool):Option ((List Bool × Bool) ⊕ (List Bool)):=
 aBP a b
def rP (a:Int) (b:List Bool) (c:Bool):Option ((List Bool × Bool × Int) ⊕ (List Bool × Bool)):=
 some (.inl (b,c,wr (a+1)))
def mB (a:List Bool) (d:Bool) (b:Int) (c:Edge) (e:Bool):Option ((List Bool × Bool × Int) ⊕ (List Bool × Bool)):=
 if e then (ob (ix a c.To) fun g=>
 ob (st a c.To (true:Bool)) fun f=>
 rP b f true) else (rP b a d)
def mC (t:cD) (p:(List Int)) (a:List Bool) (d:Bool) (c:Int):Option ((List Bool × Bool × Int) ⊕ (List Bool × Bool)):=
 if (decide (c < (t.E.length:Int))) then (ob (ix t.E c) fun b=>
 ob (ix a b.F) fun g=>
 if g then (ob (ix a b.To) fun h=>
 if (!h) then (ob (sQ b p) fun i=>
 mB a d c b i) else (mB a d c b false)) else (mB a d c b false)) else (some (.inr (a,d)))
def oN (t:cD) (p:(List Int)) (a:List Bool) (e:Bool):Option ((List Bool × Bool) ⊕ (List Bool)):=
 if e then (ob (loop (fun (s:(List Bool × Bool × Int))=>mC t p s.1 s.2.1 s.2.2) (a,false,0)) fun r=>zD r.1 r.2) else (some (.inr a))
def aBj (t:cD) (p:(List Int)) (k:Int):Option (List Bool):=
 ob (mkz t.N (false:Bool)) fun c=>
 ob (ix c k) fun g=>
 ob (st c k (true:Bool)) fun e=>
 ob (loop (fun (s:(List Bool × Bool))=>oN t p s.1 s.2) (e,true)) fun r=>yZ r
def aAh (a:List Int):Option (List Int):=
 some a
def aAi (n:Int) (a:List Int) (c:Bool):Option (List Int):=
 if (!c) then (ob (sI a ([n]:List Int)) fun d=>
 aAh d) else (aAh a)
def sS (b:(List Int)) (a:Int) (c:List Int) (d:Bool):Option ((List Int × Bool × Int) ⊕ (List Int × Bool)):=
 ob (ix b a) fun e=>
 ob (sI c ([e]:List Int)) fun f=>
 some (.inl (f,d,wr (a+1)))
def wQ (a:(List Int)) (n:Int) (c:List Int) (e:Bool) (b:Int) (f:Bool):Option ((List Int × Bool × Int) ⊕ (List Int × Bool)):=
 if f then (ob (ix a b) fun g=>
 if (decide (n < g)) then (ob (sI c ([n]:List Int)) fun h=>
 sS a b h true) else (sS a b c true)) else (sS a b c e)
def qF (a:(List Int)) (n:Int) (e:List Int) (b:Bool) (c:Int):Option ((List Int × Bool × Int) ⊕ (List Int × Bool)):=
 if (decide (c < (a.length:Int))) then (if (!b) then (ob (ix a c) fun f=>
 wQ a n e b c (decide (n≤f))) else (wQ a n e b c false)) else (some (.inr (e,b)))
def aCf (c:(List Int)) (n:Int):Option (List Int):=
 ob (loop (fun (s:(List Int × Bool × Int))=>qF c n s.1 s.2.1 s.2.2) (([]:List Int),false,0)) fun r=>aAi n r.1 r.2
def xC (a:List Int):Option (List Int):=
 some a
def pF (a:Int) (b:List Int):Option ((List Int × Int) ⊕ (List Int)):=
 some (.inl (b,wr (a+1)))
def mT (p:(List Int)) (b:List Int) (c:Int) (d:Edge) (e:Bool):Option ((List Int × Int) ⊕ (List Int)):=
 if e then (ob (ix p d.To) fun f=>
 ob (aCf b (wr ((wr (d.B * (p.length:Int)))+f))) fun g=>
 pF c g) else (pF c b)
def jZ (t:cD) (p:(List Int)) (f:(List Bool)) (d:List Int) (a:Int):Option ((List Int × Int) ⊕ (List Int)):=
 if (decide (a < (t.E.length:Int))) then (ob (ix t.E a) fun b=>
 ob (ix f b.F) fun g=>
 if g then (ob (sQ b p) fun h=>
 mT p d a b (!h)) else (mT p d a b false)) else (some (.inr d))
def aAj (t:cD) (p:(List Int)) (k:Int):Option (List Int):=
 ob (aBj t p k) fun d=>
 ob (loop (fun (s:(List Int × Int))=>jZ t p d s.1 s.2) (([]:List Int),0)) fun r=>xC r
def xD (a:List Int):Option (List Int):=
 some a
def aBk (a:Int) (b:List Int) (c:Int):Option ((List Int × Int × Int) ⊕ (List Int)):=
 some (.inl (b,c,wr (a+1)))
def xE (a:List Int) (b c d:Int):Option ((List Int × Int × Int) ⊕ (List Int)):=
 ob (sI a ([d]:List Int)) fun e=>
 aBk b e c
def xF (b:List Int) (a c d:Int):Option ((List Int × Int × Int) ⊕ (List Int)):=
 if (decide (d < 0)) then (xE b c (wr (a+1)) a) else (xE b c a d)
def xG (a b:Int):Option ((Int × Int) ⊕ Int):=
 some (.inl (b,wr (a+1)))
def xH (b:List Int) (c a:Int) (d:Bool):Option ((Int × Int) ⊕ Int):=
 if d then (ob (ix b a) fun e=>
 xG a e) else (xG a c)
def xI (p:(List Int)) (d:List (List Int)) (e:List Int) (f b a:Int) (g:Bool):Option ((Int × Int) ⊕ Int):=
 if g then (ob (ix p a) fun h=>
 ob (ix p f) fun i=>
 if (h == i) then (ob (ix d a) fun j=>
 ob (ix d f) fun k=>
 ob (wP j k) fun l=>
 xH e b a l) else (xH e b a false)) else (some (.inr b))
def aBl (p:(List Int)) (e:List (List Int)) (f:List Int) (a b c:Int):Option ((Int × Int) ⊕ Int):=
 if (decide (c < a)) then (xI p e f a b c (decide (b < 0))) else (xI p e f a b c false)
def aBm (p:(List Int)) (d:List (List Int)) (a:List Int) (e b:Int):Option ((List Int × Int × Int) ⊕ (List Int)):=
 if (decide (b < (p.length:Int))) then (ob (loop (fun (s:(Int × Int))=>aBl p d a b s.1 s.2) ((-1),0)) fun r=>xF a e b r) else (some (.inr a))
def qU (p:(List Int)) (b:List (List Int)):Option (List Int):=
 ob (loop (fun (s:(List Int × Int × Int))=>aBm p b s.1 s.2.1 s.2.2) (([]:List Int),0,0)) fun r=>xD r
def nN (a:List (List Int)) (b:Int) (c:List Int):Option ((List (List Int) × Int) ⊕ (List (List Int))):=
 ob (sI a ([c]:List (List Int))) fun d=>
 some (.inl (d,wr (b+1)))
def nO (a:List (List Int)) (b:Int) (c:(List Int)) (d:Bool):Option ((List (List Int) × Int) ⊕ (List (List Int))):=
 if d then (ob (sI c ([(-1)]:List Int)) fun e=>
 nN a b e) else (nN a b c)
def jF (t:cD) (p:(List Int)) (f:Bool) (g:(List Bool)) (b:List (List Int)) (a:Int):Option ((List (List Int) × Int) ⊕ (List (List Int))):=
 if (decide (a < t.N)) then (ob (aAj t p a) fun d=>
 if f then (ob (ix g a) fun h=>
 nO b a d h) else (nO b a d false)) else (some (.inr b))
def aAk (t:cD) (p:(List Int)) (c:Bool):Option (List Int):=
 ob (tU t p) fun d=>
 ob (loop (fun (s:(List (List Int) × Int))=>jF t p c d s.1 s.2) (([]:List (List Int)),0)) fun r=>qU p r
def tV (t:cD) (d:Bool) (a:List Int):Option ((List Int) ⊕ (List Int)):=
 ob (aAk t a d) fun b=>
 ob (wP b a) fun e=>
 if e then (some (.inr a)) else (some (.inl b))
def aAX (t:cD) (b:Bool):Option (List Int):=
 ob (mkz t.N (0:Int)) fun c=>
 ob (loop (fun (s:List Int)=>tV t b s) c) fun r=>some r
def zF:Option Int:=
 some (-1)
def rQ (b:(List Int)) (n a:Int):Option (Int ⊕ (Unit ⊕ Int)):=
 if (decide (a < (b.length:Int))) then (ob (ix b a) fun d=>
 if (d == n) then (some (.inr (.inr a))) else (some (.inl (wr (a+1))))) else (some (.inr (.inl ())))
def vY (b:(List Int)) (n:Int):Option Int:=
 ob (loop (fun (s:Int)=>rQ b n s) 0) fun r=>match r with|.inl r=>zF|.inr r=>some r
def aAL (a:(List Int)) (b:Int) (c:List bI) (d:List Edge):Option cD:=
 some ⟨(a.length:Int),b,c,d⟩
def qJ (a:Int) (b:List Edge):Option ((List Edge × Int) ⊕ (List Edge)):=
 some (.inl (b,wr (a+1)))
def qK (a:List Edge) (b:Int) (c:Edge) (d e:Int) (f:Bool):Option ((List Edge × Int) ⊕ (List Edge)):=
 if f then (ob (sI a ([⟨d,c.B,e⟩]:List Edge)) fun g=>
 qJ b g) else (qJ b a)
def qL (t:cD) (g:(List Int)) (c:List Edge) (a:Int):Option ((List Edge × Int) ⊕ (List Edge)):=
 if (decide (a < (t.E.length:Int))) then (ob (ix t.E a) fun b=>
 ob (vY g b.F) fun d=>
 ob (vY g b.To) fun e=>
 if (decide (0≤d)) then (qK c a b d e (decide (0≤e))) else (qK c a b d e false)) else (some (.inr c))
def yN (t:cD) (b:(List Int)):Option cD:=
 ob (vY b t.I) fun c=>
 ob (sI ([]:List bI) t.L) fun d=>
 ob (loop (fun (s:(List Edge × Int))=>qL t b s.1 s.2) (([]:List Edge),0)) fun r=>aAL b c d r
def zH (a:List Int):Option (List Int):=
 some a
def uU (a:Int) (b:List Int):Option ((List Int × Int) ⊕ (List Int)):=
 some (.inl (b,wr (a+1)))
def rR (t:cD) (d:List Bool) (b:List Int) (a:Int):Option ((List Int × Int) ⊕ (List Int)):=
 if (decide (a < t.N)) then (ob (ix d a) fun e=>
 if e then (ob (sI b ([a]:List Int)) fun f=>
 uU a f) else (uU a b)) else (some (.inr b))
def uV (t:cD) (b:List Bool):Option (List Int):=
 ob (loop (fun (s:(List Int × Int))=>rR t b s.1 s.2) (([]:List Int),0)) fun r=>zH r
def aBQ (a:List Bool) (b:Bool):Option ((List Bool × Bool) ⊕ (List Bool)):=
 some (.inl (a,b))
def zJ (a:List Bool) (b:Bool):Option ((List Bool × Bool) ⊕ (List Bool)):=
 aBQ a b
def oO (a:Int) (b:List Bool) (c:Bool):Option ((List Bool × Bool × Int) ⊕ (List Bool × Bool)):=
 some (.inl (b,c,wr (a+1)))
def oP (t:cD) (a:List Bool) (e:Bool) (b:Int) (f:Bool):Option ((List Bool × Bool × Int) ⊕ (List Bool × Bool)):=
 if f then (ob (ix t.E b) fun c=>
 ob (ix a c.To) fun h=>
 ob (st a c.To (true:Bool)) fun g=>
 oO b g true) else (oO b a e)
def rS (t:cD) (a:List Bool) (d:Bool) (c:Int):Option ((List Bool × Bool × Int) ⊕ (List Bool × Bool)):=
 if (decide (c < (t.E.length:Int))) then (ob (ix t.E c) fun e=>
 ob (ix a e.F) fun f=>
 if f then (ob (ix a e.To) fun g=>
 oP t a d c (!g)) else (oP t a d c false)) else (some (.inr (a,d)))
def xJ (t:cD) (a:List Bool) (d:Bool):Option ((List Bool × Bool) ⊕ (List Bool)):=
 if d then (ob (loop (fun (s:(List Bool × Bool × Int))=>rS t s.1 s.2.1 s.2.2) (a,false,0)) fun r=>zJ r.1 r.2) else (some (.inr a))
def vZ (t:cD):Option (List Int):=
 ob (mkz t.N (false:Bool)) fun b=>
 ob (ix b t.I) fun e=>
 ob (st b t.I (true:Bool)) fun c=>
 ob (loop (fun (s:(List Bool × Bool))=>xJ t s.1 s.2) (c,true)) fun r=>uV t r
def aAM (a:List Int):Option (List Int):=
 some a
def xK (a:Int) (b:List Int):Option ((List Int × Int) ⊕ (List Int)):=
 some (.inl (b,wr (a+1)))
def lW (c:(List Bool)) (b:List Int) (a:Int):Option ((List Int × Int) ⊕ (List Int)):=
 if (decide (a < (c.length:Int))) then (ob (ix c a) fun d=>
 if d then (ob (sI b ([a]:List Int)) fun e=>
 xK a e) else (xK a b)) else (some (.inr b))
def aCg (a:(List Bool)):Option (List Int):=
 ob (loop (fun (s:(List Int × Int))=>lW a s.1 s.2) (([]:List Int),0)) fun r=>aAM r
def aFb (a b:Int):Option Int:=
 if (decide (b < a)) then (some a) else (some b)
def xL (a:Int):Option Int:=
 some a
def mU (p:(List Int)) (c a:Int):Option ((Int × Int) ⊕ Int):=
 if (decide (a < (p.length:Int))) then (ob (ix p a) fun d=>
 ob (aFb c (wr (d+1))) fun e=>
 some (.inl (e,wr (a+1)))) else (some (.inr c))
def qG (p:(List Int)):Option Int:=
 ob (loop (fun (s:(Int × Int))=>mU p s.1 s.2) (0,0)) fun r=>xL r
def mH (t:cD) (p:(List Int)) (c:List Edge):Option cD:=
 ob (ix p t.I) fun d=>
 ob (qG p) fun e=>
 ob (kS e d t.L c) fun f=>
 some f
def pG (t:cD) (p:(List Int)) (c:List Edge):Option cD:=
 mH t p c
def iJ (p b:(List Int)) (c:List Edge) (a:Int):Option ((List Edge × Int) ⊕ (List Edge)):=
 if (decide (a < (b.length:Int))) then (ob (ix b a) fun f=>
 ob (ix p f) fun d=>
 ob (sI c ([⟨d,0,d⟩]:List Edge)) fun g=>
 some (.inl (g,wr (a+1)))) else (some (.inr c))
def pH (t:cD) (p:(List Int)) (d:Bool) (c:List Edge):Option cD:=
 if d then (ob (tU t p) fun e=>
 ob (aCg e) fun f=>
 ob (loop (fun (s:(List Edge × Int))=>iJ p f s.1 s.2) (c,0)) fun r=>pG t p r) else (mH t p c)
def pI (a:Int) (b:List Edge):Option ((List Edge × Int) ⊕ (List Edge)):=
 some (.inl (b,wr (a+1)))
def iK (t:cD) (p:(List Int)) (d:List Edge) (a:Int):Option ((List Edge × Int) ⊕ (List Edge)):=
 if (decide (a < (t.E.length:Int))) then (ob (ix t.E a) fun b=>
 ob (sQ b p) fun f=>
 if (!f) then (ob (ix p b.F) fun g=>
 ob (ix p b.To) fun h=>
 ob (sI d ([⟨g,b.B,h⟩]:List Edge)) fun i=>
 pI a i) else (pI a d)) else (some (.inr d))
def uW (t:cD) (p:(List Int)) (c:Bool):Option cD:=
 ob (loop (fun (s:(List Edge × Int))=>iK t p s.1 s.2) (([]:List Edge),0)) fun r=>pH t p c r
def aBn (t:cD) (b:Bool):Option cD:=
 ob (vZ t) fun d=>
 ob (yN t d) fun c=>
 ob (aAX c b) fun e=>
 ob (uW c e b) fun f=>
 some f
def aAN (a:List Int):Option (List Int):=
 some a
def xM (a:Int) (b:List Int):Option ((List Int × Int) ⊕ (List Int)):=
 some (.inl (b,wr (a+1)))
def lX (t:cD) (p:(List Int)) (k:Int) (b:List Int) (a:Int):Option ((List Int × Int) ⊕ (List Int)):=
 if (decide (a < (t.E.length:Int))) then (ob (ix t.E a) fun c=>
 if (c.F == k) then (ob (ix p c.To) fun g=>
 ob (aCf b (wr ((wr (c.B * (p.length:Int)))+g))) fun h=>
 xM a h) else (xM a b)) else (some (.inr b))
def aCh (t:cD) (p:(List Int)) (k:Int):Option (List Int):=
 ob (loop (fun (s:(List Int × Int))=>lX t p k s.1 s.2) (([]:List Int),0)) fun r=>aAN r
def xN (a:List Int):Option (List Int):=
 some a
def xO (a:Int) (b:List Int) (c:Int):Option ((List Int × Int × Int) ⊕ (List Int)):=
 some (.inl (b,c,wr (a+1)))
def sT (a:List Int) (b c d:Int):Option ((List Int × Int × Int) ⊕ (List Int)):=
 ob (sI a ([d]:List Int)) fun e=>
 xO b e c
def sU (b:List Int) (a c d:Int):Option ((List Int × Int × Int) ⊕ (List Int)):=
 if (decide (d < 0)) then (sT b c (wr (a+1)) a) else (sT b c a d)
def pJ (a b:Int):Option ((Int × Int) ⊕ Int):=
 some (.inl (b,wr (a+1)))
def mV (b:List Int) (c a:Int) (d:Bool):Option ((Int × Int) ⊕ Int):=
 if d then (ob (ix b a) fun e=>
 pJ a e) else (pJ a c)
def mW (p:(List Int)) (d:List (List Int)) (e:List Int) (f b a:Int) (g:Bool):Option ((Int × Int) ⊕ Int):=
 if g then (ob (ix p a) fun h=>
 ob (ix p f) fun i=>
 if (h == i) then (ob (ix d a) fun j=>
 ob (ix d f) fun k=>
 ob (wP j k) fun l=>
 mV e b a l) else (mV e b a false)) else (some (.inr b))
def lD (p:(List Int)) (e:List (List Int)) (f:List Int) (a b c:Int):Option ((Int × Int) ⊕ Int):=
 if (decide (c < a)) then (mW p e f a b c (decide (b < 0))) else (mW p e f a b c false)
def kA (p:(List Int)) (d:List (List Int)) (a:List Int) (e b:Int):Option ((List Int × Int × Int) ⊕ (List Int)):=
 if (decide (b < (p.length:Int))) then (ob (loop (fun (s:(Int × Int))=>lD p d a b s.1 s.2) ((-1),0)) fun r=>sU a e b r) else (some (.inr a))
def lP (p:(List Int)) (b:List (List Int)):Option (List Int):=
 ob (loop (fun (s:(List Int × Int × Int))=>kA p b s.1 s.2.1 s.2.2) (([]:List Int),0,0)) fun r=>xN r
def jG (t:cD) (p:(List Int)) (c:List (List Int)) (a:Int):Option ((List (List Int) × Int) ⊕ (List (List Int))):=
 if (decide (a < t.N)) then (ob (aCh t p a) fun e=>
 ob (sI c ([e]:List (List Int))) fun f=>
 some (.inl (f,wr (a+1)))) else (some (.inr c))
def wR (t:cD) (p:(List Int)):Option (List Int):=
 ob (loop (fun (s:(List (List Int) × Int))=>jG t p s.1 s.2) (([]:List (List Int)),0)) fun r=>lP p r
def lE (t:cD) (a:List Int) (b:Int):Option ((List Int × Int) ⊕ ((List Int) × Int)):=
 ob (wR t a) fun c=>
 ob (wP c a) fun e=>
 if e then (some (.inr (a,b))) else (some (.inl (c,wr (b+1))))
def aAl (t:cD):Option ((List Int) × Int):=
 ob (mkz t.N (0:Int)) fun b=>
 ob (loop (fun (s:(List Int × Int))=>lE t s.1 s.2) (b,0)) fun r=>some r
def aAY (t:cD):Option (List Int):=
 ob (aAl t) fun b=>
 some b.1
def pK (t:cD) (p:(List Int)) (c:List Edge):Option cD:=
 ob (ix p t.I) fun d=>
 ob (qG p) fun e=>
 ob (kS e d t.L c) fun f=>
 some f
def mI (t:cD) (p:(List Int)) (e:List Edge) (a:Int):Option ((List Edge × Int) ⊕ (List Edge)):=
 if (decide (a < (t.E.length:Int))) then (ob (ix t.E a) fun b=>
 ob (ix p b.F) fun f=>
 ob (ix p b.To) fun g=>
 ob (sI e ([⟨f,b.B,g⟩]:List Edge)) fun h=>
 some (.inl (h,wr (a+1)))) else (some (.inr e))
def rT (t:cD) (p:(List Int)):Option cD:=
 ob (loop (fun (s:(List Edge × Int))=>mI t p s.1 s.2) (([]:List Edge),0)) fun r=>pK t p r
def aBo (t:cD):Option cD:=
 ob (vZ t) fun c=>
 ob (yN t c) fun b=>
 ob (aAY b) fun d=>
 ob (rT b d) fun e=>
 some e
def mJ (d:(List UInt8)) (b c a:Int):Option (Int × Int × Int):=
 if (decide (wr (b+1)≤(d.length:Int))) then (some (a,wr (b+1),qC ((qC ((qC (c * 6364136223846793005))+(qC a)))+1442695040888963407))) else (ob (shU (qC ((qC ((qC (c * 6364136223846793005))+(qC a)))+1442695040888963407)) 40) fun e=>
 some (wr (anU e 255),wr (b+1),qC ((qC ((qC (c * 6364136223846793005))+(qC a)))+1442695040888963407)))
def rU (a:(List UInt8)) (b c:Int):Option (Int × Int × Int):=
 if (decide (b < (a.length:Int))) then (ob (ix a b) fun d=>
 mJ a b c (wr (d.toNat:Int))) else (mJ a b c 0)
def mK (n b c d:Int):Option (Int × Int × Int):=
 ob (rm b n) fun e=>
 some (e,c,d)
def cL (d:(List UInt8)) (e f n:Int):Option (Int × Int × Int):=
 if (decide (n≤1)) then (some (0,e,f)) else (ob (rU d e f) fun a=>
 if (decide (200 < n)) then (ob (rU d a.2.1 a.2.2) fun c=>
 mK n (wr ((wr (a.1 * 256))+c.1)) c.2.1 c.2.2) else (mK n a.1 a.2.1 a.2.2))
def jH (b:(List UInt8)) (c d n:Int):Option (Bool × Int × Int):=
 ob (cL b c d n) fun a=>
 some (a.1 == 0,a.2.1,a.2.2)
def oF (a b:Int) (c:List bI):Option ((List bI) × Int × Int):=
 some (c,a,b)
def oG (a:List bI) (b c:Int):Option ((List bI) × Int × Int):=
 if ((a.length:Int) == 1) then (ob (sI a ([([97]:bI)]:List bI)) fun d=>
 oF b c d) else (oF b c a)
def kB (a b c:Int) (d:List bI):Option ((Int × Int × List bI × Int) ⊕ (List bI × Int × Int)):=
 some (.inl (b,c,d,wr (a+1)))
def lI (b:List bI) (a c d:Int) (e:Bool):Option ((Int × Int × List bI × Int) ⊕ (List bI × Int × Int)):=
 if e then (ob (ix ([([97]:bI),([98]:bI),([99]:bI),([103,101,116,40,48,41]:bI),([103,101,116,40,49,41]:bI)]:List bI) a) fun f=>
 ob (sI b ([f]:List bI)) fun g=>
 kB a c d g) else (kB a c d b)
def kC (f:(List UInt8)) (d e:Int) (b:List bI) (c:Int):Option ((Int × Int × List bI × Int) ⊕ (List bI × Int × Int)):=
 if (decide (c < (([([97]:bI),([98]:bI),([99]:bI),([103,101,116,40,48,41]:bI),([103,101,116,40,49,41]:bI)]:List bI).length:Int))) then (ob (jH f d e 2) fun a=>
 if a.1 then (lI b c a.2.1 a.2.2 (decide ((b.length:Int) < 4))) else (lI b c a.2.1 a.2.2 false)) else (some (.inr (b,d,e)))
def sV (b:(List UInt8)) (c d:Int):Option ((List bI) × Int × Int):=
 ob (loop (fun (s:(Int × Int × List bI × Int))=>kC b s.1 s.2.1 s.2.2.1 s.2.2.2) (c,d,([([116,97,117]:bI)]:List bI),0)) fun r=>oG r.1 r.2.1 r.2.2
def sW (c:(List UInt8)) (d e:Int) (b:(List Int)):Option (Int × Int × Int):=
 ob (cL c d e (b.length:Int)) fun a=>
 ob (ix b a.1) fun f=>
 some (f,a.2.1,a.2.2)
def pL (d:(List UInt8)) (b c:(Int × Int × Int)) (e:((List bI) × Int × Int)) (f g:Int) (h:List Edge):Option (cD × Int × Int):=
 ob (cL d f g (wr ((wr (1+b.1))+c.1))) fun a=>
 ob (kS (wr ((wr (1+b.1))+c.1)) a.1 e.1 h) fun i=>
 some (i,a.2.1,a.2.2)
def sX (a:(List UInt8)) (c d:(Int × Int × Int)) (e:((List bI) × Int × Int)) (j k:Int) (i:List Edge):Option (cD × Int × Int):=
 ob (jH a j k 3) fun b=>
 if b.1 then (ob (cL a b.2.1 b.2.2 (wr ((wr (1+c.1))+d.1))) fun f=>
 ob (cL a f.2.1 f.2.2 (e.1.length:Int)) fun g=>
 ob (cL a g.2.1 g.2.2 (wr ((wr (1+c.1))+d.1))) fun h=>
 ob (sI i ([⟨f.1,g.1,h.1⟩]:List Edge)) fun l=>
 pL a c d e h.2.1 h.2.2 l) else (pL a c d e b.2.1 b.2.2 i)
def xP (a b c:Int) (d:List Edge):Option ((Int × Int × List Edge × Int) ⊕ (Int × Int × List Edge)):=
 some (.inl (b,c,d,wr (a - 1)))
def sY (a b c:Int) (d:List Edge):Option ((Int × Int × List Edge × Int) ⊕ (Int × Int × List Edge)):=
 xP a b c d
def sZ (a b c:Int) (d:List Edge):Option ((Int × Int × List Edge × Int) ⊕ (Int × Int × List Edge)):=
 some (.inl (b,c,d,wr (a+1)))
def tA (c:(List UInt8)) (d:(Int × Int × Int)) (e f:Int) (g:List Edge) (b:Int) (h:List Int):Option ((Int × Int × List Edge × Int) ⊕ (Int × Int × List Edge)):=
 ob (sW c e f h) fun a=>
 ob (sI g ([⟨b,d.1,a.1⟩]:List Edge)) fun i=>
 sZ b a.2.1 a.2.2 i
def tB (a:Int) (b:List Int):Option ((List Int × Int) ⊕ (List Int)):=
 some (.inl (b,wr (a+1)))
def kD (c d:(Int × Int × Int)) (e:List Int) (f:(Int × Int × Int)) (b:List Int) (a:Int):Option ((List Int × Int) ⊕ (List Int)):=
 if (decide (a < wr ((wr (1+c.1))+d.1))) then (ob (ix e a) fun g=>
 if (g == f.1) then (ob (sI b ([a]:List Int)) fun h=>
 tB a h) else (tB a b)) else (some (.inr b))
def mX (h:(List UInt8)) (e f:(Int × Int × Int)) (g:List Int) (i j k:(Int × Int × Int)) (b c:Int) (d:List Edge) (a:Int):Option ((Int × Int × List Edge × Int) ⊕ (Int × Int × List Edge)):=
 if (decide (a < wr ((wr (1+e.1))+f.1))) then (ob (ix g a) fun l=>
 if (l != i.1) then (sZ a b c d) else (ob (loop (fun (s:(List Int × Int))=>kD e f g k s.1 s.2) (([]:List Int),0)) fun r=>tA h j b c d a r)) else (some (.inr (b,c,d)))
def lQ (a:(List UInt8)) (b k:(Int × Int × Int)) (l:((List bI) × Int × Int)) (m:List Int) (g h:Int) (i:List Edge) (j:Int):Option ((Int × Int × List Edge × Int) ⊕ (Int × Int × List Edge)):=
 if (decide (0 < j)) then (ob (cL a g h (wr (1+b.1))) fun c=>
 ob (cL a c.2.1 c.2.2 (l.1.length:Int)) fun d=>
 ob (cL a d.2.1 d.2.2 (wr (1+b.1))) fun e=>
 ob (loop (fun (s:(Int × Int × List Edge × Int))=>mX a b k m c d e s.1 s.2.1 s.2.2.1 s.2.2.2) (e.2.1,e.2.2,i,0)) fun r=>sY j r.1 r.2.1 r.2.2) else (some (.inr (g,h,i)))
def qV (a:(List UInt8)) (b e:(Int × Int × Int)) (f:((List bI) × Int × Int)) (g h:Int) (i:List Int):Option (cD × Int × Int):=
 ob (cL a g h (wr (2+(wr (2 * (wr (1+b.1))))))) fun c=>
 ob (loop (fun (s:(Int × Int × List Edge × Int))=>lQ a b e f i s.1 s.2.1 s.2.2.1 s.2.2.2) (c.2.1,c.2.2,([]:List Edge),c.1)) fun r=>sX a b e f r.1 r.2.1 r.2.2
def nP (a b c:Int) (d:List Int):Option ((Int × Int × List Int × Int) ⊕ (Int × Int × List Int)):=
 some (.inl (b,c,d,wr (a+1)))
def lR (g:(List UInt8)) (b h:(Int × Int × Int)) (c d:Int) (e:List Int) (a:Int):Option ((Int × Int × List Int × Int) ⊕ (Int × Int × List Int)):=
 if (decide (a < wr ((wr (1+b.1))+h.1))) then (if (decide (a < wr (1+b.1))) then (ob (sI e ([a]:List Int)) fun i=>
 nP a c d i) else (ob (cL g c d (wr (1+b.1))) fun f=>
 ob (sI e ([f.1]:List Int)) fun j=>
 nP a f.2.1 f.2.2 j)) else (some (.inr (c,d,e)))
def aAm (a:(List UInt8)) (f g:Int):Option (cD × Int × Int):=
 ob (cL a f g 4) fun b=>
 ob (cL a b.2.1 b.2.2 (wr (7 - (wr (1+b.1))))) fun c=>
 ob (sV a c.2.1 c.2.2) fun d=>
 ob (loop (fun (s:(Int × Int × List Int × Int))=>lR a b c s.1 s.2.1 s.2.2.1 s.2.2.2) (d.2.1,d.2.2,([]:List Int),0)) fun r=>qV a b c d r.1 r.2.1 r.2.2
def tC (a:(cD × Int × Int)) (b:List Edge) (c d:Int):Option (cD × Int × Int):=
 ob (kS a.1.N a.1.I a.1.L b) fun e=>
 some (e,c,d)
def mY (c:(List UInt8)) (d:(cD × Int × Int)) (e f:Int) (g:List Edge) (h:Int):Option ((Int × Int × List Edge × Int) ⊕ (List Edge × Int × Int)):=
 if (decide (0 < h)) then (ob (cL c e f d.1.N) fun a=>
 ob (cL c a.2.1 a.2.2 d.1.N) fun b=>
 ob (sI g ([⟨a.1,0,b.1⟩]:List Edge)) fun i=>
 some (.inl (b.2.1,b.2.2,i,wr (h - 1)))) else (some (.inr (g,e,f)))
def tD (c:(List UInt8)) (d:(cD × Int × Int)) (e f:Int) (g:List Edge):Option (cD × Int × Int):=
 ob (cL c e f 3) fun a=>
 ob (loop (fun (s:(Int × Int × List Edge × Int))=>mY c d s.1 s.2.1 s.2.2.1 s.2.2.2) (a.2.1,a.2.2,g,a.1)) fun r=>tC d r.1 r.2.1 r.2.2
def pM (b:List Edge) (c:Int) (a:Edge) (d e f:Int):Option ((Int × Int × List Edge × Int) ⊕ (Int × Int × List Edge)):=
 ob (sI b ([⟨a.F,f,a.To⟩]:List Edge)) fun g=>
 some (.inl (d,e,g,wr (c+1)))
def mZ (h:(List UInt8)) (e:(cD × Int × Int)) (f g:Int) (c:List Edge) (b:Int):Option ((Int × Int × List Edge × Int) ⊕ (Int × Int × List Edge)):=
 if (decide (b < (e.1.E.length:Int))) then (ob (ix e.1.E b) fun d=>
 ob (jH h f g 3) fun a=>
 if a.1 then (pM c b d a.2.1 a.2.2 0) else (pM c b d a.2.1 a.2.2 d.B)) else (some (.inr (f,g,c)))
def qH (b:(List UInt8)) (d e:Int):Option (cD × Int × Int):=
 ob (aAm b d e) fun a=>
 ob (loop (fun (s:(Int × Int × List Edge × Int))=>mZ b a s.1 s.2.1 s.2.2.1 s.2.2.2) (a.2.1,a.2.2,([]:List Edge),0)) fun r=>tD b a r.1 r.2.1 r.2.2
def pN (t:cD) (b:Int) (c:List Edge) (d e:Int):Option (cD × Int × Int):=
 ob (kS (wr (t.N+b)) t.I t.L c) fun f=>
 some (f,d,e)
def tW (a b c:Int) (d:List Edge):Option ((Int × Int × List Edge × Int) ⊕ (List Edge × Int × Int)):=
 some (.inl (b,c,d,wr (a+1)))
def pO (a b c:Int) (d:List Edge):Option ((Int × Int × List Edge × Int) ⊕ (List Edge × Int × Int)):=
 tW a b c d
def mM (a:Int) (b:List Edge) (c:Int) (d:Edge) (e f g:Int):Option ((Int × Int × List Edge × Int) ⊕ (Int × Int × List Edge)):=
 ob (sI b ([⟨a,d.B,g⟩]:List Edge)) fun h=>
 some (.inl (e,f,h,wr (c+1)))
def kT (t:cD) (b:Int) (c:List Edge) (d:Int) (a:Edge) (e f:Int) (h:Bool):Option ((Int × Int × List Edge × Int) ⊕ (Int × Int × List Edge)):=
 if h then (mM b c d a e f t.N) else (mM b c d a e f a.To)
def iL (j:(List UInt8)) (t:cD) (k:(Int × Int × Int)) (l g:Int) (i:(List Edge)) (c d:Int) (e:List Edge) (b:Int):Option ((Int × Int × List Edge × Int) ⊕ (Int × Int × List Edge)):=
 if (decide (b < (i.length:Int))) then (ob (ix i b) fun f=>
 if (decide (0 < l)) then (ob (rm (wr (t.N+k.1)) t.N) fun m=>
 if (m == f.To) then (ob (jH j c d 2) fun h=>
 kT t g e b f h.2.1 h.2.2 h.1) else (kT t g e b f c d false)) else (kT t g e b f c d false)) else (some (.inr (c,d,e)))
def mO (d:(List UInt8)) (t:cD) (e:(Int × Int × Int)) (f g h:Int) (i:List Edge) (c j:Int):Option ((Int × Int × List Edge × Int) ⊕ (List Edge × Int × Int)):=
 ob (aCZ t j) fun k=>
 ob (loop (fun (s:(Int × Int × List Edge × Int))=>iL d t e f c k s.1 s.2.1 s.2.2.1 s.2.2.2) (g,h,i,0)) fun r=>pO c r.1 r.2.1 r.2.2
def iM (h:(List UInt8)) (t:cD) (c:(Int × Int × Int)) (d e f:Int) (g:List Edge) (a:Int):Option ((Int × Int × List Edge × Int) ⊕ (List Edge × Int × Int)):=
 if (decide (a < wr (t.N+d))) then (if (decide (t.N≤a)) then (ob (rm (wr (a+c.1)) t.N) fun i=>
 mO h t c d e f g a i) else (mO h t c d e f g a a)) else (some (.inr (g,e,f)))
def kU (d:(List UInt8)) (t:cD) (e:(Int × Int × Int)) (f g c:Int):Option (cD × Int × Int):=
 ob (loop (fun (s:(Int × Int × List Edge × Int))=>iM d t e c s.1 s.2.1 s.2.2.1 s.2.2.2) (f,g,([]:List Edge),0)) fun r=>pN t c r.1 r.2.1 r.2.2
def uX (b:(List UInt8)) (e f:Int) (t:cD):Option (cD × Int × Int):=
 ob (cL b e f t.N) fun a=>
 if (decide (t.N < 7)) then (ob (cL b a.2.1 a.2.2 3) fun d=>
 kU b t a d.2.1 d.2.2 d.1) else (kU b t a a.2.1 a.2.2 0)
def wA (a:(cD × Int × Int)) (b c:Int) (d:List bI) (e:List Edge):Option (cD × cD):=
 some (a.1,⟨b,c,d,e⟩)
def tE (c:(List UInt8)) (a d:(cD × Int × Int)) (b:(Int × Int × Int)) (k:Bool):Option (cD × cD):=
 if k then (ob (uX c b.2.1 b.2.2 a.1) fun e=>
 wA a e.1.N e.1.I e.1.L e.1.E) else (if (b.1 == 2) then (ob (jH c b.2.1 b.2.2 2) fun l=>
 ob (aBn a.1 l.1) fun f=>
 wA a f.N f.I f.L f.E) else (if (b.1 == 3) then (ob (aBo a.1) fun g=>
 wA a g.N g.I g.L g.E) else (if (b.1 == 4) then (ob (sI ([]:List Edge) a.1.E) fun m=>
 ob (cL c b.2.1 b.2.2 a.1.N) fun i=>
 ob (cL c i.2.1 i.2.2 (a.1.L.length:Int)) fun j=>
 ob (cL c j.2.1 j.2.2 a.1.N) fun n=>
 ob (sI m ([⟨i.1,j.1,n.1⟩]:List Edge)) fun o=>
 ob (kS a.1.N a.1.I a.1.L o) fun h=>
 wA a h.N h.I h.L h.E) else (wA a d.1.N d.1.I d.1.L d.1.E))))
def aFc (a:(List UInt8)):Option (cD × cD):=
 ob (aAW a) fun e=>
 ob (qH a e.1 e.2) fun c=>
 ob (qH a c.2.1 c.2.2) fun d=>
 ob (cL a d.2.1 d.2.2 6) fun b=>
 if (b.1 == 0) then (tE a c d b (b.1 == 0)) else (tE a c d b (b.1 == 1))
def aCi (a:(List UInt8)) (k n:Int) (d:Bool):Option Int:=
 if d then (some 0) else (ob (ix a k) fun e=>
 ob (rm (wr (e.toNat:Int)) n) fun f=>
 some f)
def aHi (a:(List UInt8)) (k n:Int):Option Int:=
 if (decide (n≤1)) then (aCi a k n true) else (aCi a k n (decide ((a.length:Int)≤k)))
def jV (t:cD) (k:Int):Option Bool:=
 ob (uS k 0 (wr (t.N - 1))) fun c=>
 some c
def aFd (i many:Int):Option Bool:=
 ob (uS i 0 (wr (many - 1))) fun b=>
 some b
def jQ (a:Int):Option Bool:=
 some (a != a)
def dU (a y:Int):Option Int:=
 ob (jQ a) fun d=>
 ob (jQ y) fun c=>
 if d then (if c then (some 0) else (some (-1))) else (if c then (some 1) else (if (decide (a < y)) then (some (-1)) else (if (decide (y < a)) then (some 1) else (some 0))))
def pP:Option Int:=
 some 0
def gU (b:(List Int)) (a:Int):Option (Int ⊕ (Unit ⊕ Int)):=
 if (decide (a < (b.length:Int))) then (ob (ix b a) fun c=>
 if (c != 0) then (some (.inr (.inr c))) else (some (.inl (wr (a+1))))) else (some (.inr (.inl ())))
def uY (b:(List Int)):Option Int:=
 ob (loop (fun (s:Int)=>gU b s) 0) fun r=>match r with|.inl r=>pP|.inr r=>some r
def tF (a b:Edge):Option Int:=
 ob (dU a.F b.F) fun e=>
 ob (dU a.B b.B) fun f=>
 ob (dU a.To b.To) fun g=>
 ob (uY ([e,f,g]:List Int)) fun h=>
 some h
def zN:Option Bool:=
 some true
def mD (a:Int) (b:Bool):Option (Int ⊕ (Unit ⊕ Bool)):=
 if b then (some (.inr (.inr false))) else (some (.inl (wr (a+1))))
def rV (t:cD) (a:Int):Option (Int ⊕ (Unit ⊕ Bool)):=
 if (decide (a < (t.E.length:Int))) then (ob (ix t.E a) fun c=>
 ob (jV t c.F) fun d=>
 if (!d) then (mD a true) else (ob (jV t c.To) fun e=>
 if (!e) then (mD a true) else (ob (aFd c.B (t.L.length:Int)) fun f=>
 if (!f) then (mD a true) else (if (decide (0 < a)) then (ob (ix t.E (wr (a - 1))) fun g=>
 ob (tF g c) fun h=>
 mD a (decide (0≤h))) else (mD a false))))) else (some (.inr (.inl ())))
def uZ (t:cD):Option Bool:=
 ob (loop (fun (s:Int)=>rV t s) 0) fun r=>match r with|.inl r=>zN|.inr r=>some r
def oQ (a:Int) (b:Bool):Option (Int ⊕ (Unit ⊕ Bool)):=
 if b then (some (.inr (.inr false))) else (some (.inl (wr (a+1))))
def rW (t:cD) (a:Int):Option (Int ⊕ (Unit ⊕ Bool)):=
 if (decide (a < (t.L.length:Int))) then (ob (ix t.L a) fun b=>
 ob (aCd b) fun e=>
 if (!e) then (oQ a true) else (if ((b == ([116,97,117]:bI)) != (a == 0)) then (oQ a true) else (if (decide (1 < a)) then (ob (ix t.L (wr (a - 1))) fun d=>
 oQ a (zW b d||b == d)) else (oQ a false)))) else (some (.inr (.inl ())))
def oR (t:cD) (c:Bool):Option Bool:=
 if c then (some false) else (ob (loop (fun (s:Int)=>rW t s) 0) fun r=>match r with|.inl r=>uZ t|.inr r=>some r)
def oS (t:cD):Option Bool:=
 ob (uS t.N 1 40) fun b=>
 if (!b) then (oR t true) else (ob (jV t t.I) fun c=>
 if (!c) then (oR t true) else (ob (uS (t.L.length:Int) 1 12) fun d=>
 if (!d) then (oR t true) else (oR t (decide (300 < (t.E.length:Int))))))
def aCj (a:Int):Option Bool:=
 ob (uS a 0 2) fun b=>
 some b
def lT (a:Int) (b:Bool):Option Int:=
 if b then (some 1) else (ob (aCj a) fun c=>
 if (!c) then (some 2) else (some 0))
def mP (a b:cD) (c:Int):Option Int:=
 ob (oS a) fun f=>
 if (!f) then (lT c true) else (ob (oS b) fun g=>
 lT c (!g))
def xQ (a:List Edge):Option (List Edge):=
 some a
def xR (a:Int) (b:List Edge):Option ((List Edge × Int) ⊕ (List Edge)):=
 some (.inl (b,wr (a+1)))
def tX (t:cD) (k:Int) (b:List Edge) (a:Int):Option ((List Edge × Int) ⊕ (List Edge)):=
 if (decide (a < (t.E.length:Int))) then (ob (ix t.E a) fun d=>
 if (d.F == k) then (ob (sI b ([d]:List Edge)) fun f=>
 xR a f) else (xR a b)) else (some (.inr b))
def tY (t:cD) (k:Int):Option (List Edge):=
 ob (loop (fun (s:(List Edge × Int))=>tX t k s.1 s.2) ([],0)) fun r=>xQ r
def vI (a b:bI):Option Int:=
 if (a == b) then (some 0) else (if (a == ([116,97,117]:bI)) then (some (-1)) else (if (b == ([116,97,117]:bI)) then (some 1) else (ob (aIJ a b) fun e=>
 some e)))
def fW (a:(List bI)):Option (List bI):=
 some a
def fX (a:Int):Option (Int ⊕ (Unit ⊕ (List bI))):=
 some (.inl (wr (a+1)))
def eS (a:List bI) (b:Int):Option (Int ⊕ (Unit ⊕ (List bI))):=
 ob (slc a b (a.length:Int)) fun c=>
 ob (ovw a b (List.replicate c.length ([]:bI))) fun d=>
 ob (slc d 0 b) fun e=>
 some (.inr (.inr e))
def eT (a:Int) (b:List bI) (c:Int):Option ((List bI × Int × Int) ⊕ (List bI × Int)):=
 some (.inl (b,c,wr (a+1)))
def dS (e:Int) (d b:List bI) (c a:Int):Option ((List bI × Int × Int) ⊕ (List bI × Int)):=
 if (decide (a < (d.length:Int))) then (ob (ix d a) fun i=>
 ob (ix b (e+a)) fun f=>
 ob (ix d (wr (a - 1))) fun j=>
 ob (ix b (e+(wr (a - 1)))) fun g=>
 if (!(f == g)) then (ob (ix b c) fun k=>
 ob (st b c (f:bI)) fun h=>
 eT a h (wr (c+1))) else (eT a b c)) else (some (.inr (b,c)))
def dT (b:(List bI)) (a:Int):Option (Int ⊕ (Unit ⊕ (List bI))):=
 if (decide (a < (b.length:Int))) then (ob (ix b a) fun d=>
 ob (ix b (wr (a - 1))) fun e=>
 if (d == e) then (ob (slc b a (b.length:Int)) fun f=>
 ob (loop (fun (s:(List bI × Int × Int))=>dS a f s.1 s.2.1 s.2.2) (b,a,1)) fun r=>eS r.1 r.2) else (fX a)) else (some (.inr (.inl ())))
def eI (a:(List bI)):Option (List bI):=
 if (decide ((a.length:Int) < 2)) then (some a) else (ob (loop (fun (s:Int)=>dT a s) 1) fun r=>match r with|.inl r=>fW a|.inr r=>some r)
def lF (a:List bI):Option (List bI):=
 ob (yJ a) fun b=>
 ob (eI b) fun c=>
 some c
def iF (t:cD) (b:(List Edge)) (c:List bI) (a:Int):Option ((List bI × Int) ⊕ (List bI)):=
 if (decide (a < (b.length:Int))) then (ob (ix b a) fun e=>
 ob (ix t.L e.B) fun f=>
 ob (sI c ([f]:List bI)) fun g=>
 some (.inl (g,wr (a+1)))) else (some (.inr c))
def gD (t:cD) (k:Int):Option (List bI):=
 ob (tY t k) fun c=>
 ob (loop (fun (s:(List bI × Int))=>iF t c s.1 s.2) ([],0)) fun r=>lF r
def gX:Option Int:=
 some (-1)
def eN (b:(List Int)) (c a:Int):Option (Int ⊕ (Unit ⊕ Int)):=
 if (decide (a < (b.length:Int))) then (ob (ix b a) fun d=>
 if (c == d) then (some (.inr (.inr a))) else (some (.inl (wr (a+1))))) else (some (.inr (.inl ())))
def gG (b:(List Int)) (c:Int):Option Int:=
 ob (loop (fun (s:Int)=>eN b c s) 0) fun r=>match r with|.inl r=>gX|.inr r=>some r
def eO (a:(List Int)) (b:Int):Option Bool:=
 ob (gG a b) fun c=>
 some (decide (0≤c))
def gK (a:(List Int)):Option (List Int):=
 some a
def gL (a:Int):Option (Int ⊕ (Unit ⊕ (List Int))):=
 some (.inl (wr (a+1)))
def fE (a:List Int) (b:Int):Option (Int ⊕ (Unit ⊕ (List Int))):=
 ob (slc a b (a.length:Int)) fun c=>
 ob (ovw a b (List.replicate c.length (0:Int))) fun d=>
 ob (slc d 0 b) fun e=>
 some (.inr (.inr e))
def fF (a:Int) (b:List Int) (c:Int):Option ((List Int × Int × Int) ⊕ (List Int × Int)):=
 some (.inl (b,c,wr (a+1)))
def eB (e:Int) (d b:List Int) (c a:Int):Option ((List Int × Int × Int) ⊕ (List Int × Int)):=
 if (decide (a < (d.length:Int))) then (ob (ix d a) fun i=>
 ob (ix b (e+a)) fun f=>
 ob (ix d (wr (a - 1))) fun j=>
 ob (ix b (e+(wr (a - 1)))) fun g=>
 if (f != g) then (ob (ix b c) fun k=>
 ob (st b c (f:Int)) fun h=>
 fF a h (wr (c+1))) else (fF a b c)) else (some (.inr (b,c)))
def eC (b:(List Int)) (a:Int):Option (Int ⊕ (Unit ⊕ (List Int))):=
 if (decide (a < (b.length:Int))) then (ob (ix b a) fun d=>
 ob (ix b (wr (a - 1))) fun e=>
 if (d == e) then (ob (slc b a (b.length:Int)) fun f=>
 ob (loop (fun (s:(List Int × Int × Int))=>eB a f s.1 s.2.1 s.2.2) (b,a,1)) fun r=>fE r.1 r.2) else (gL a)) else (some (.inr (.inl ())))
def eU (a:(List Int)):Option (List Int):=
 if (decide ((a.length:Int) < 2)) then (some a) else (ob (loop (fun (s:Int)=>eC a s) 1) fun r=>match r with|.inl r=>gK a|.inr r=>some r)
def nR (a:List Int):Option (List Int):=
 ob (yK a) fun b=>
 ob (eU b) fun c=>
 some c
def nS (a:Int) (b:List Int):Option ((List Int × Int) ⊕ (List Int)):=
 some (.inl (b,wr (a+1)))
def nT (a:List Int) (b:Int) (c:Edge) (d:Bool):Option ((List Int × Int) ⊕ (List Int)):=
 if d then (ob (sI a ([c.To]:List Int)) fun e=>
 nS b e) else (nS b a)
def jI (t:cD) (e:(List Int)) (f:bI) (d:List Int) (a:Int):Option ((List Int × Int) ⊕ (List Int)):=
 if (decide (a < (t.E.length:Int))) then (ob (ix t.E a) fun b=>
 ob (ix t.L b.B) fun g=>
 if (g == f) then (ob (eO e b.F) fun h=>
 nT d a b h) else (nT d a b false)) else (some (.inr d))
def kX (t:cD) (b:(List Int)) (c:bI):Option (List Int):=
 ob (loop (fun (s:(List Int × Int))=>jI t b c s.1 s.2) ([],0)) fun r=>nR r
def jA (a:(List Int)):Option (List Int):=
 ob (sI ([]:List Int) a) fun b=>
 some b
def oH (a:List Int):Option (List Int):=
 ob (yK a) fun b=>
 some b
def sE (a:Int) (b:List Int):Option ((List Int × Int) ⊕ (List Int)):=
 some (.inl (b,wr (a+1)))
def oI (a:Int) (b:List Int):Option ((List Int × Int) ⊕ (List Int)):=
 sE a b
def oJ (a:Int) (b:List Int):Option ((List Int × Int) ⊕ (List Int)):=
 some (.inl (b,wr (a+1)))
def kE (c:(List Int)) (a:List Int) (b:Int):Option ((List Int × Int) ⊕ (List Int)):=
 if (decide (b < (c.length:Int))) then (ob (ix c b) fun d=>
 ob (eO a d) fun e=>
 if (!e) then (ob (sI a ([d]:List Int)) fun f=>
 oJ b f) else (oJ b a)) else (some (.inr a))
def lJ (t:cD) (a:List Int) (b:Int):Option ((List Int × Int) ⊕ (List Int)):=
 if (decide (b < (a.length:Int))) then (ob (ix a b) fun d=>
 ob (kX t ([d]:List Int) ([116,97,117]:bI)) fun e=>
 ob (loop (fun (s:(List Int × Int))=>kE e s.1 s.2) (a,0)) fun r=>oI b r) else (some (.inr a))
def pQ (t:cD) (b:(List Int)):Option (List Int):=
 ob (jA b) fun c=>
 ob (loop (fun (s:(List Int × Int))=>lJ t s.1 s.2) (c,0)) fun r=>oH r
def vA (t:cD) (b:(List Int)) (c:bI):Option (List Int):=
 ob (kX t b c) fun d=>
 ob (pQ t d) fun e=>
 some e
def tZ (t:cD) (k:Int) (b:bI):Option (List Int):=
 ob (pQ t ([k]:List Int)) fun c=>
 if (b == ([116,97,117]:bI)) then (some c) else (ob (vA t c b) fun e=>
 some e)
def gM:Option Bool:=
 some true
def eD (b c:(List bI)) (a:Int):Option (Int ⊕ (Unit ⊕ Bool)):=
 if (decide (a < (b.length:Int))) then (ob (ix b a) fun d=>
 ob (ix c a) fun e=>
 if (!(d == e)) then (some (.inr (.inr false))) else (some (.inl (wr (a+1))))) else (some (.inr (.inl ())))
def dV (b c:(List bI)):Option Bool:=
 if ((b.length:Int) != (c.length:Int)) then (some false) else (ob (loop (fun (s:Int)=>eD b c s) 0) fun r=>match r with|.inl r=>gM|.inr r=>some r)
def nU (a y:Int) (c:(List ((Int × Int) × Bool))):Option Bool:=
 some ((kZ c ⟨a,y⟩).getD false)
def aAO (a e f:Int) (g:(List bI)) (h:(List Edge)) (i j:Int) (k:(List bI)) (l:(List Edge)) (b:(List ((Int × Int) × Bool))) (p:Int):Option Bool:=
 ob (nU p a b) fun d=>
 some d
def fK:Option Int:=
 some (-1)
def dJ (b:(List Int)) (c d:Int) (e:(List bI)) (f:(List Edge)) (g h:Int) (i:(List bI)) (j:(List Edge)) (k:(List ((Int × Int) × Bool))) (l a:Int):Option (Int ⊕ (Unit ⊕ Int)):=
 if (decide (a < (b.length:Int))) then (ob (ix b a) fun m=>
 ob (aAO m c d e f g h i j k l) fun n=>
 if n then (some (.inr (.inr a))) else (some (.inl (wr (a+1))))) else (some (.inr (.inl ())))
def fY (b:(List Int)) (c d:Int) (e:(List bI)) (f:(List Edge)) (g h:Int) (i:(List bI)) (j:(List Edge)) (k:(List ((Int × Int) × Bool))) (l:Int):Option Int:=
 ob (loop (fun (s:Int)=>dJ b c d e f g h i j k l s) 0) fun r=>match r with|.inl r=>fK|.inr r=>some r
def eF (a:(List Int)) (b c:Int) (d:(List bI)) (e:(List Edge)) (f g:Int) (h:(List bI)) (i:(List Edge)) (j:(List ((Int × Int) × Bool))) (k:Int):Option Bool:=
 ob (fY a b c d e f g h i j k) fun l=>
 some (decide (0≤l))
def uA (b a:cD) (c:(List ((Int × Int) × Bool))) (i y:Int) (e:bI) (f:Int):Option Bool:=
 ob (tZ a y e) fun g=>
 ob (eF g b.N b.I b.L b.E a.N a.I a.L a.E c f) fun h=>
 some h
def lY:Option Bool:=
 some true
def iN (a b:cD) (f:(List ((Int × Int) × Bool))) (g y:Int) (d:(List Edge)) (c:Int):Option (Int ⊕ (Unit ⊕ Bool)):=
 if (decide (c < (d.length:Int))) then (ob (ix d c) fun e=>
 ob (ix a.L e.B) fun i=>
 ob (uA ⟨a.N,a.I,a.L,a.E⟩ ⟨b.N,b.I,b.L,b.E⟩ f g y i e.To) fun j=>
 if (!j) then (some (.inr (.inr false))) else (some (.inl (wr (c+1))))) else (some (.inr (.inl ())))
def kI (b d:cD) (e:(List ((Int × Int) × Bool))) (c y:Int):Option Bool:=
 ob (tY b c) fun g=>
 ob (loop (fun (s:Int)=>iN b d e c y g s) 0) fun r=>match r with|.inl r=>lY|.inr r=>some r
def zO (a e f:Int) (g:(List bI)) (h:(List Edge)) (i j:Int) (k:(List bI)) (l:(List Edge)) (b:(List ((Int × Int) × Bool))) (p:Int):Option Bool:=
 ob (nU p a b) fun d=>
 some d
def fL:Option Int:=
 some (-1)
def dK (b:(List Int)) (c d:Int) (e:(List bI)) (f:(List Edge)) (g h:Int) (i:(List bI)) (j:(List Edge)) (k:(List ((Int × Int) × Bool))) (l a:Int):Option (Int ⊕ (Unit ⊕ Int)):=
 if (decide (a < (b.length:Int))) then (ob (ix b a) fun m=>
 ob (zO m c d e f g h i j k l) fun n=>
 if n then (some (.inr (.inr a))) else (some (.inl (wr (a+1))))) else (some (.inr (.inl ())))
def fZ (b:(List Int)) (c d:Int) (e:(List bI)) (f:(List Edge)) (g h:Int) (i:(List bI)) (j:(List Edge)) (k:(List ((Int × Int) × Bool))) (l:Int):Option Int:=
 ob (loop (fun (s:Int)=>dK b c d e f g h i j k l s) 0) fun r=>match r with|.inl r=>fL|.inr r=>some r
def eG (a:(List Int)) (b c:Int) (d:(List bI)) (e:(List Edge)) (f g:Int) (h:(List bI)) (i:(List Edge)) (j:(List ((Int × Int) × Bool))) (k:Int):Option Bool:=
 ob (fZ a b c d e f g h i j k) fun l=>
 some (decide (0≤l))
def rX (b a:cD) (c:(List ((Int × Int) × Bool))) (i y:Int) (e:bI) (f:Int):Option Bool:=
 ob (kX a ([y]:List Int) e) fun g=>
 ob (eG g b.N b.I b.L b.E a.N a.I a.L a.E c f) fun h=>
 some h
def kN:Option Bool:=
 some true
def gH (a b:cD) (f:(List ((Int × Int) × Bool))) (g y:Int) (d:(List Edge)) (c:Int):Option (Int ⊕ (Unit ⊕ Bool)):=
 if (decide (c < (d.length:Int))) then (ob (ix d c) fun e=>
 ob (ix a.L e.B) fun i=>
 ob (rX ⟨a.N,a.I,a.L,a.E⟩ ⟨b.N,b.I,b.L,b.E⟩ f g y i e.To) fun j=>
 if (!j) then (some (.inr (.inr false))) else (some (.inl (wr (c+1))))) else (some (.inr (.inl ())))
def iO (b d:cD) (e:(List ((Int × Int) × Bool))) (c y:Int):Option Bool:=
 ob (tY b c) fun g=>
 ob (loop (fun (s:Int)=>gH b d e c y g s) 0) fun r=>match r with|.inl r=>kN|.inr r=>some r
def gC (a b:cD) (c:(List ((Int × Int) × Bool))) (f d y:Int) (g:Bool):Option Bool:=
 if g then (some false) else (if (f == 2) then (ob (kI ⟨a.N,a.I,a.L,a.E⟩ ⟨b.N,b.I,b.L,b.E⟩ c d y) fun h=>
 some h) else (ob (iO ⟨a.N,a.I,a.L,a.E⟩ ⟨b.N,b.I,b.L,b.E⟩ c d y) fun i=>
 some i))
def fI (a b:cD) (f:(List ((Int × Int) × Bool))) (c d y:Int):Option Bool:=
 if (c == 1) then (ob (gD a d) fun g=>
 ob (gD b y) fun h=>
 ob (dV g h) fun i=>
 gC a b f c d y (!i)) else (gC a b f c d y false)
def vJ (a:Int) (b:(List ((Int × Int) × Bool))) (c:Int):Option (((List ((Int × Int) × Bool)) × Int × Int) ⊕ ((List ((Int × Int) × Bool)) × Int)):=
 some (.inl (b,c,wr (a+1)))
def vK (a:(List ((Int × Int) × Bool))) (d b:Int) (c:(List ((Int × Int) × Bool))):Option (((List ((Int × Int) × Bool)) × Int × Int) ⊕ ((List ((Int × Int) × Bool)) × Int)):=
 if ((c.length:Int) == (a.length:Int)) then (some (.inr (a,b))) else (vJ d c b)
def gA (a b:cD) (f:Int) (g:(List ((Int × Int) × Bool))) (e:(Int × Int)):Option Bool:=
 ob (fI ⟨a.N,a.I,a.L,a.E⟩ ⟨b.N,b.I,b.L,b.E⟩ g f e.1 e.2) fun h=>
 if h then (some true) else (some false)
def nV (a b:cD) (f:Int) (c:(List ((Int × Int) × Bool))) (g h:Int):Option (((List ((Int × Int) × Bool)) × Int × Int) ⊕ ((List ((Int × Int) × Bool)) × Int)):=
 ob (aEK (gA a b f c) (List.map Prod.fst c)) fun i=>
 ob (some (aAy ([]:(List ((Int × Int) × Bool))) true i)) fun j=>
 vK c g h j
def lS (a b:cD) (f:Int) (g:(List ((Int × Int) × Bool))) (h c:Int) (i:Bool):Option (((List ((Int × Int) × Bool)) × Int × Int) ⊕ ((List ((Int × Int) × Bool)) × Int)):=
 if i then (nV a b f g c c) else (nV a b f g c h)
def nW (a b:cD) (g:Int) (e:(List ((Int × Int) × Bool))) (f h:Int):Option (((List ((Int × Int) × Bool)) × Int × Int) ⊕ ((List ((Int × Int) × Bool)) × Int)):=
 if (decide (f < 0)) then (lS a b g e f h (!((kZ e ⟨a.I,b.I⟩).getD false))) else (lS a b g e f h false)
def qW (a b:cD) (e:Int) (f:(List ((Int × Int) × Bool))):Option ((List ((Int × Int) × Bool)) × Int):=
 ob (loop (fun (s:((List ((Int × Int) × Bool)) × Int × Int))=>nW a b e s.1 s.2.1 s.2.2) (f,(-1),0)) fun r=>some r
def vL (a:Int) (b:(List ((Int × Int) × Bool))):Option (((List ((Int × Int) × Bool)) × Int) ⊕ (List ((Int × Int) × Bool))):=
 some (.inl (b,wr (a+1)))
def qX (a:Int) (b:(List ((Int × Int) × Bool))):Option (((List ((Int × Int) × Bool)) × Int) ⊕ (List ((Int × Int) × Bool))):=
 vL a b
def pR (a:Int) (b:(List ((Int × Int) × Bool))):Option (((List ((Int × Int) × Bool)) × Int) ⊕ (List ((Int × Int) × Bool))):=
 some (.inl (b,wr (a+1)))
def mQ (c:Int) (b:(List ((Int × Int) × Bool))) (a:Int) (d:Bool):Option (((List ((Int × Int) × Bool)) × Int) ⊕ (List ((Int × Int) × Bool))):=
 if d then (ob (some (uN b ⟨c,a⟩ true)) fun e=>
 pR a e) else (pR a b)
def jS (a b:cD) (h d:Int) (e:(List ((Int × Int) × Bool))) (c:Int):Option (((List ((Int × Int) × Bool)) × Int) ⊕ (List ((Int × Int) × Bool))):=
 if (decide (c < b.N)) then (if (h != 1) then (mQ d e c true) else (ob (gD a d) fun i=>
 ob (gD b c) fun j=>
 ob (dV i j) fun k=>
 mQ d e c k)) else (some (.inr e))
def jT (a b:cD) (g:Int) (e:(List ((Int × Int) × Bool))) (c:Int):Option (((List ((Int × Int) × Bool)) × Int) ⊕ (List ((Int × Int) × Bool))):=
 if (decide (c < a.N)) then (ob (loop (fun (s:((List ((Int × Int) × Bool)) × Int))=>jS a b g c s.1 s.2) (e,0)) fun r=>qX c r) else (some (.inr e))
def uB (a b:cD) (e:Int):Option ((List ((Int × Int) × Bool)) × Int):=
 ob (loop (fun (s:((List ((Int × Int) × Bool)) × Int))=>jT a b e s.1 s.2) (([]:(List ((Int × Int) × Bool))),0)) fun r=>qW a b e r
def aBE (a b:cD) (e:Int):Option Bool:=
 ob (uB a b e) fun f=>
 some (decide (f.2 < 0))
def jB (a b:cD) (e:Int):Option (Bool × Int):=
 ob (mP a b e) fun f=>
 if (f != 0) then (some (false,f)) else (ob (aBE a b e) fun g=>
 some (g,0))
def dL (a b:(List Int)):Option Int:=
 if (decide ((a.length:Int) < (b.length:Int))) then (some (-1)) else (some 0)
def bR (b c:(List Int)) (a:Int):Option (Int ⊕ (Unit ⊕ Int)):=
 if (decide (a < (b.length:Int))) then (ob (ix b a) fun e=>
 if (decide ((c.length:Int)≤a)) then (some (.inr (.inr 1))) else (ob (ix c a) fun f=>
 ob (dU e f) fun d=>
 if (d != 0) then (some (.inr (.inr d))) else (some (.inl (wr (a+1)))))) else (some (.inr (.inl ())))
def dW (b c:(List Int)):Option Int:=
 ob (loop (fun (s:Int)=>bR b c s) 0) fun r=>match r with|.inl r=>dL b c|.inr r=>some r
def lK (a:(List ((Int × Int) × Bool))) (b:List (List Int)):Option ((List (List Int)) × (List ((Int × Int) × Bool))):=
 ob (vX b) fun c=>
 some (c,a)
def xS (a:(List ((Int × Int) × Bool))):Option ((List (List Int)) × (List ((Int × Int) × Bool))):=
 ob (mapp (fun (k43:(Int × Int))=>([k43.1,k43.2]:List Int)) (List.map Prod.fst a)) fun b=>
 lK a b
def pS (a b:cD) (e:Int):Option ((List (List Int)) × Int):=
 ob (mP a b e) fun f=>
 if (f != 0) then (some ([],f)) else (ob (uB a b e) fun g=>
 if (decide (0≤g.2)) then (some ([],3)) else (ob (xS g.1) fun h=>
 some (h.1,0)))
def sF (a b:cD) (p:(List Int)):Option Bool:=
 ob (ix p a.I) fun f=>
 ob (ix p (wr (a.N+b.I))) fun g=>
 some (f == g)
def zQ (a:List Arc):Option (List Arc):=
 some a
def rY (t:cD) (d:List Arc) (b:Int):Option ((List Arc × Int) ⊕ (List Arc)):=
 if (decide (b < (t.E.length:Int))) then (ob (ix t.E b) fun c=>
 ob (ix t.L c.B) fun e=>
 ob (sI d ([⟨c.F,e,c.To⟩]:List Arc)) fun f=>
 some (.inl (f,wr (b+1)))) else (some (.inr d))
def yO (t:cD):Option (List Arc):=
 ob (loop (fun (s:(List Arc × Int))=>rY t s.1 s.2) ([],0)) fun r=>zQ r
def eV (a:(List Edge)):Option (List Edge):=
 some a
def eW (a:Int):Option (Int ⊕ (Unit ⊕ (List Edge))):=
 some (.inl (wr (a+1)))
def eX (a:List Edge) (b:Int):Option (Int ⊕ (Unit ⊕ (List Edge))):=
 ob (slc a b (a.length:Int)) fun c=>
 ob (ovw a b (List.replicate c.length (⟨0,0,0⟩:Edge))) fun d=>
 ob (slc d 0 b) fun e=>
 some (.inr (.inr e))
def eY (a:Int) (b:List Edge) (c:Int):Option ((List Edge × Int × Int) ⊕ (List Edge × Int)):=
 some (.inl (b,c,wr (a+1)))
def gN (f:Int) (e b:List Edge) (c a:Int):Option ((List Edge × Int × Int) ⊕ (List Edge × Int)):=
 if (decide (a < (e.length:Int))) then (ob (ix e a) fun i=>
 ob (ix b (f+a)) fun d=>
 ob (ix e (wr (a - 1))) fun j=>
 ob (ix b (f+(wr (a - 1)))) fun g=>
 if (!decide ((d:Edge)=g)) then (ob (ix b c) fun k=>
 ob (st b c (⟨d.F,d.B,d.To⟩:Edge)) fun h=>
 eY a h (wr (c+1))) else (eY a b c)) else (some (.inr (b,c)))
def dF (b:(List Edge)) (a:Int):Option (Int ⊕ (Unit ⊕ (List Edge))):=
 if (decide (a < (b.length:Int))) then (ob (ix b a) fun d=>
 ob (ix b (wr (a - 1))) fun e=>
 if (decide ((d:Edge)=e)) then (ob (slc b a (b.length:Int)) fun f=>
 ob (loop (fun (s:(List Edge × Int × Int))=>gN a f s.1 s.2.1 s.2.2) (b,a,1)) fun r=>eX r.1 r.2) else (eW a)) else (some (.inr (.inl ())))
def eH (a:(List Edge)):Option (List Edge):=
 if (decide ((a.length:Int) < 2)) then (some a) else (ob (loop (fun (s:Int)=>dF a s) 1) fun r=>match r with|.inl r=>eV a|.inr r=>some r)
def gO:Option Int:=
 some (-1)
def eE (b:(List bI)) (c:bI) (a:Int):Option (Int ⊕ (Unit ⊕ Int)):=
 if (decide (a < (b.length:Int))) then (ob (ix b a) fun d=>
 if (c == d) then (some (.inr (.inr a))) else (some (.inl (wr (a+1))))) else (some (.inr (.inl ())))
def fS (b:(List bI)) (c:bI):Option Int:=
 ob (loop (fun (s:Int)=>eE b c s) 0) fun r=>match r with|.inl r=>gO|.inr r=>some r
def aDa (a b:Int) (c:(List bI)) (d:List Edge):Option cD:=
 ob (aBh d) fun e=>
 ob (eH e) fun f=>
 some ⟨a,b,c,f⟩
def aCk (c:(List Arc)) (e:(List bI)) (d:List Edge) (a:Int):Option ((List Edge × Int) ⊕ (List Edge)):=
 if (decide (a < (c.length:Int))) then (ob (ix c a) fun b=>
 ob (fS e b.label) fun f=>
 ob (sI d ([⟨b.from_,f,b.to_⟩]:List Edge)) fun g=>
 some (.inl (g,wr (a+1)))) else (some (.inr d))
def i_lts (b c:Int) (d:(List bI)) (e:(List Arc)):Option cD:=
 ob (sI ([([116,97,117]:bI)]:List bI) d) fun f=>
 ob (yJ f) fun g=>
 ob (eI g) fun a=>
 ob (loop (fun (s:(List Edge × Int))=>aCk e a s.1 s.2) ([],0)) fun r=>aDa b c a r
def gE (a:List bI):Option (List bI):=
 some a
def bZ (b:(List (List bI))) (c:List bI) (a:Int):Option ((List bI × Int) ⊕ (List bI)):=
 if (decide (a < (b.length:Int))) then (ob (ix b a) fun d=>
 ob (sI c d) fun e=>
 some (.inl (e,wr (a+1)))) else (some (.inr c))
def fB (a:(List (List bI))) (b:Int):Option (List bI):=
 ob (aDA [] b) fun c=>
 ob (loop (fun (s:(List bI × Int))=>bZ a s.1 s.2) (c,0)) fun r=>gE r
def fC (a b:Int):Option ((Int × Int) ⊕ Int):=
 some (.inl (b,wr (a+1)))
def bW (c:(List (List bI))) (a b:Int):Option ((Int × Int) ⊕ Int):=
 if (decide (b < (c.length:Int))) then (ob (ix c b) fun d=>
 if (decide (wr (a+(d.length:Int)) < 0)) then (none) else (fC b (wr (a+(d.length:Int))))) else (some (.inr a))
def fQ (a:(List (List bI))):Option (List bI):=
 ob (loop (fun (s:(Int × Int))=>bW a s.1 s.2) (0,0)) fun r=>fB a r
def aBp (a b:cD) (e:List Arc):Option cD:=
 ob (fQ ([a.L,b.L]:List (List bI))) fun f=>
 ob (i_lts (wr (a.N+b.N)) a.I f e) fun g=>
 some g
def wB (a:cD) (e:(List Arc)) (f:List Arc) (b:Int):Option ((List Arc × Int) ⊕ (List Arc)):=
 if (decide (b < (e.length:Int))) then (ob (ix e b) fun c=>
 ob (sI f ([⟨wr (c.from_+a.N),c.label,wr (c.to_+a.N)⟩]:List Arc)) fun g=>
 some (.inl (g,wr (b+1)))) else (some (.inr f))
def aFe (a b:cD):Option cD:=
 ob (yO a) fun e=>
 ob (yO b) fun f=>
 ob (loop (fun (s:(List Arc × Int))=>wB a f s.1 s.2) (e,0)) fun r=>aBp a b r
def vM (a:(List (List Int))):Option (List Int):=
 ob (ix a (wr ((a.length:Int) - 1))) fun b=>
 some b
def aFf (n:Int):Option (List Int):=
 ob (mkz n (0:Int)) fun b=>
 some b
def aBF (a:List Int):Option (List Int):=
 some a
def aAn (b:List Int) (a:Int) (c:(List (Int × Int))) (d:Int):Option (((List (Int × Int)) × List Int × Int) ⊕ (List Int)):=
 ob (ix b a) fun f=>
 ob (st b a (d:Int)) fun e=>
 some (.inl (c,e,wr (a+1)))
def oK (e:(List Int)) (a:(List (Int × Int))) (c:List Int) (b:Int):Option (((List (Int × Int)) × List Int × Int) ⊕ (List Int)):=
 if (decide (b < (e.length:Int))) then (ob (ix e b) fun d=>
 if (!((kZ a d).isSome)) then (ob (some (uN a d (a.length:Int))) fun f=>
 aAn c b f (a.length:Int)) else (aAn c b a ((kZ a d).getD 0))) else (some (.inr c))
def aDb (a:(List Int)):Option (List Int):=
 ob (mkz (a.length:Int) (0:Int)) fun b=>
 ob (loop (fun (s:((List (Int × Int)) × List Int × Int))=>oK a s.1 s.2.1 s.2.2) (([]:(List (Int × Int))),b,0)) fun r=>aBF r
def gY:Option Bool:=
 some true
def eP (b c:(List Int)) (a:Int):Option (Int ⊕ (Unit ⊕ Bool)):=
 if (decide (a < (b.length:Int))) then (ob (ix b a) fun d=>
 ob (ix c a) fun e=>
 if (d != e) then (some (.inr (.inr false))) else (some (.inl (wr (a+1))))) else (some (.inr (.inl ())))
def fJ (b c:(List Int)):Option Bool:=
 if ((b.length:Int) != (c.length:Int)) then (some false) else (ob (loop (fun (s:Int)=>eP b c s) 0) fun r=>match r with|.inl r=>gY|.inr r=>some r)
def vN (k p:(List Int)):Option Bool:=
 ob (fJ k p) fun c=>
 some c
def fG:Option Int:=
 some (-1)
def cR (b:(List (List Int))) (c:(List Int)) (a:Int):Option (Int ⊕ (Unit ⊕ Int)):=
 if (decide (a < (b.length:Int))) then (ob (ix b a) fun d=>
 ob (vN d c) fun e=>
 if e then (some (.inr (.inr a))) else (some (.inl (wr (a+1))))) else (some (.inr (.inl ())))
def eQ (b:(List (List Int))) (c:(List Int)):Option Int:=
 ob (loop (fun (s:Int)=>cR b c s) 0) fun r=>match r with|.inl r=>fG|.inr r=>some r
def qY (a:List Int):Option (List Int):=
 ob (aDb a) fun b=>
 some b
def qZ (a:List Int) (b c:Int):Option ((List Int × Int) ⊕ (List Int)):=
 ob (sI a ([c]:List Int)) fun d=>
 some (.inl (d,wr (b+1)))
def jJ (b:(List (List Int))) (c:List Int) (a:Int):Option ((List Int × Int) ⊕ (List Int)):=
 if (decide (a < (b.length:Int))) then (ob (ix b a) fun e=>
 ob (slc b 0 a) fun f=>
 ob (eQ f e) fun d=>
 if (decide (d < 0)) then (qZ c a a) else (qZ c a d)) else (some (.inr c))
def xT (a:(List (List Int))):Option (List Int):=
 ob (loop (fun (s:(List Int × Int))=>jJ a s.1 s.2) ([],0)) fun r=>qY r
def rA (a:List (List Int)):Option (List Int):=
 ob (xT a) fun b=>
 some b
def vO (a:Int) (b:Nat) (c:List (List Int)):Option ((List (List Int) × Nat × Int) ⊕ (List (List Int))):=
 some (.inl (c,b,wr (a+1)))
def jK (c b:List (List Int)) (d:Nat) (a:Int):Option ((List (List Int) × Nat × Int) ⊕ (List (List Int))):=
 if (decide (a < (c.length:Int))) then (ob (ix c a) fun e=>
 ob (tkN d a) fun f=>
 ob (yK e) fun g=>
 ob (ix b a) fun h=>
 ob (eU g) fun i=>
 ob (sI h i) fun j=>
 ob (st b a j) fun k=>
 vO a f k) else (some (.inr b))
def rB (a b:List (List Int)):Option (List Int):=
 ob (loop (fun (s:(List (List Int) × Nat × Int))=>jK b s.1 s.2.1 s.2.2) (a,0,0)) fun r=>rA r
def vP (a:Int) (b:List (List Int)):Option ((List (List Int) × Int) ⊕ (List (List Int))):=
 some (.inl (b,wr (a+1)))
def jL (t:cD) (p:(List Int)) (c:List (List Int)) (d:Int):Option ((List (List Int) × Int) ⊕ (List (List Int))):=
 if (decide (d < (t.E.length:Int))) then (ob (ix t.E d) fun a=>
 ob (ix c a.F) fun f=>
 ob (ix p a.To) fun g=>
 ob (sI f ([wr ((wr (a.B * t.N))+g)]:List Int)) fun h=>
 ob (st c a.F h) fun i=>
 vP d i) else (some (.inr c))
def rC (t:cD) (p:(List Int)) (c:List (List Int)):Option (List Int):=
 ob (mkz t.N ([]:(List Int))) fun d=>
 ob (loop (fun (s:(List (List Int) × Int))=>jL t p s.1 s.2) (d,0)) fun r=>rB c r
def jM (p:(List Int)) (b:List (List Int)) (a:Int):Option ((List (List Int) × Int) ⊕ (List (List Int))):=
 if (decide (a < (p.length:Int))) then (ob (ix p a) fun d=>
 ob (ix b a) fun f=>
 ob (st b a ([d]:List Int)) fun e=>
 some (.inl (e,wr (a+1)))) else (some (.inr b))
def xU (t:cD) (p:(List Int)):Option (List Int):=
 ob (mkz t.N ([]:(List Int))) fun c=>
 ob (loop (fun (s:(List (List Int) × Int))=>jM p s.1 s.2) (c,0)) fun r=>rC t p r
def wS (d:cD) (a:List (List Int)):Option ((List (List Int)) ⊕ (List (List Int))):=
 ob (ix a (wr ((a.length:Int) - 1))) fun b=>
 ob (xU d b) fun c=>
 ob (fJ b c) fun e=>
 if e then (some (.inr a)) else (ob (sI a ([c]:List (List Int))) fun f=>
 some (.inl f))
def aFg (n:Int) (b:cD):Option (List (List Int)):=
 ob (aFf n) fun c=>
 ob (loop (fun (s:List (List Int))=>wS b s) ([c]:List (List Int))) fun r=>some r
def uC (t:cD):Option (List Int):=
 ob (aFg t.N t) fun b=>
 ob (vM b) fun c=>
 some c
def aJD (a b:cD):Option (List Int):=
 ob (aFe a b) fun c=>
 ob (uC ⟨c.N,c.I,c.L,c.E⟩) fun f=>
 some f
def vB (a b:cD) (e:Bool):Option (Bool × Int):=
 if e then (some (false,1)) else (ob (aJD a b) fun f=>
 ob (sF a b f) fun g=>
 some (g,0))
def aCv (a b:cD):Option (Bool × Int):=
 ob (oS a) fun e=>
 if (!e) then (vB a b true) else (ob (oS b) fun f=>
 vB a b (!f))
def pT (a b:cD):Option (Bool × Int):=
 ob (aCv a b) fun c=>
 some (c.1,c.2)
def aAP (a:(List ((Int × Int) × Bool))):Option ((List ((Int × Int) × Bool)) × Bool):=
 some (a,true)
def kF (b:(List ((Int × Int) × Bool))) (c:Int) (a:(List Int)) (d:Bool):Option (((List ((Int × Int) × Bool)) × Int) ⊕ ((List ((Int × Int) × Bool)) ⊕ ((List ((Int × Int) × Bool)) × Bool))):=
 if d then (some (.inr (.inr ([],false)))) else (ob (ix a 0) fun e=>
 ob (ix a 1) fun f=>
 ob (some (uN b ⟨e,f⟩ true)) fun g=>
 some (.inl (g,wr (c+1))))
def qM (a b:cD) (f:(List (List Int))) (e:(List ((Int × Int) × Bool))) (c:Int):Option (((List ((Int × Int) × Bool)) × Int) ⊕ ((List ((Int × Int) × Bool)) ⊕ ((List ((Int × Int) × Bool)) × Bool))):=
 if (decide (c < (f.length:Int))) then (ob (ix f c) fun d=>
 if ((d.length:Int) != 2) then (kF e c d true) else (ob (ix d 0) fun i=>
 ob (jV a i) fun j=>
 if (!j) then (kF e c d true) else (ob (ix d 1) fun k=>
 ob (jV b k) fun l=>
 if (!l) then (kF e c d true) else (if (decide (0 < c)) then (ob (ix f (wr (c - 1))) fun m=>
 ob (dW m d) fun n=>
 kF e c d (decide (0≤n))) else (kF e c d false))))) else (some (.inr (.inl e)))
def aAZ (a b:cD) (f:(List (List Int))):Option ((List ((Int × Int) × Bool)) × Bool):=
 ob (loop (fun (s:((List ((Int × Int) × Bool)) × Int))=>qM a b f s.1 s.2) (([]:(List ((Int × Int) × Bool))),0)) fun r=>match r with|.inl r=>aAP r|.inr r=>some r
def oW (a y:Int) (c:(List ((Int × Int) × Bool))):Option Bool:=
 some ((kZ c ⟨a,y⟩).getD false)
def aAt (a e f:Int) (g:(List bI)) (h:(List Edge)) (i j:Int) (k:(List bI)) (l:(List Edge)) (b:(List ((Int × Int) × Bool))) (p:Int):Option Bool:=
 ob (oW p a b) fun d=>
 some d
def fM:Option Int:=
 some (-1)
def hJ (b:(List Int)) (c d:Int) (e:(List bI)) (f:(List Edge)) (g h:Int) (i:(List bI)) (j:(List Edge)) (k:(List ((Int × Int) × Bool))) (l a:Int):Option (Int ⊕ (Unit ⊕ Int)):=
 if (decide (a < (b.length:Int))) then (ob (ix b a) fun m=>
 ob (aAt m c d e f g h i j k l) fun n=>
 if n then (some (.inr (.inr a))) else (some (.inl (wr (a+1))))) else (some (.inr (.inl ())))
def iS (b:(List Int)) (c d:Int) (e:(List bI)) (f:(List Edge)) (g h:Int) (i:(List bI)) (j:(List Edge)) (k:(List ((Int × Int) × Bool))) (l:Int):Option Int:=
 ob (loop (fun (s:Int)=>hJ b c d e f g h i j k l s) 0) fun r=>match r with|.inl r=>fM|.inr r=>some r
def hQ (a:(List Int)) (b c:Int) (d:(List bI)) (e:(List Edge)) (f g:Int) (h:(List bI)) (i:(List Edge)) (j:(List ((Int × Int) × Bool))) (k:Int):Option Bool:=
 ob (iS a b c d e f g h i j k) fun l=>
 some (decide (0≤l))
def aCw (b a:cD) (c:(List ((Int × Int) × Bool))) (i y:Int) (e:bI) (f:Int):Option Bool:=
 ob (tZ a y e) fun g=>
 ob (hQ g b.N b.I b.L b.E a.N a.I a.L a.E c f) fun h=>
 some h
def kO:Option Bool:=
 some true
def nK (a b:cD) (f:(List ((Int × Int) × Bool))) (g y:Int) (d:(List Edge)) (c:Int):Option (Int ⊕ (Unit ⊕ Bool)):=
 if (decide (c < (d.length:Int))) then (ob (ix d c) fun e=>
 ob (ix a.L e.B) fun i=>
 ob (aCw ⟨a.N,a.I,a.L,a.E⟩ ⟨b.N,b.I,b.L,b.E⟩ f g y i e.To) fun j=>
 if (!j) then (some (.inr (.inr false))) else (some (.inl (wr (c+1))))) else (some (.inr (.inl ())))
def qN (b d:cD) (e:(List ((Int × Int) × Bool))) (c y:Int):Option Bool:=
 ob (tY b c) fun g=>
 ob (loop (fun (s:Int)=>nK b d e c y g s) 0) fun r=>match r with|.inl r=>kO|.inr r=>some r
def yP (a e f:Int) (g:(List bI)) (h:(List Edge)) (i j:Int) (k:(List bI)) (l:(List Edge)) (b:(List ((Int × Int) × Bool))) (p:Int):Option Bool:=
 ob (oW p a b) fun d=>
 some d
def fN:Option Int:=
 some (-1)
def hX (b:(List Int)) (c d:Int) (e:(List bI)) (f:(List Edge)) (g h:Int) (i:(List bI)) (j:(List Edge)) (k:(List ((Int × Int) × Bool))) (l a:Int):Option (Int ⊕ (Unit ⊕ Int)):=
 if (decide (a < (b.length:Int))) then (ob (ix b a) fun m=>
 ob (yP m c d e f g h i j k l) fun n=>
 if n then (some (.inr (.inr a))) else (some (.inl (wr (a+1))))) else (some (.inr (.inl ())))
def iT (b:(List Int)) (c d:Int) (e:(List bI)) (f:(List Edge)) (g h:Int) (i:(List bI)) (j:(List Edge)) (k:(List ((Int × Int) × Bool))) (l:Int):Option Int:=
 ob (loop (fun (s:Int)=>hX b c d e f g h i j k l s) 0) fun r=>match r with|.inl r=>fN|.inr r=>some r
def hY (a:(List Int)) (b c:Int) (d:(List bI)) (e:(List Edge)) (f g:Int) (h:(List bI)) (i:(List Edge)) (j:(List ((Int × Int) × Bool))) (k:Int):Option Bool:=
 ob (iT a b c d e f g h i j k) fun l=>
 some (decide (0≤l))
def aBR (b a:cD) (c:(List ((Int × Int) × Bool))) (i y:Int) (e:bI) (f:Int):Option Bool:=
 ob (kX a ([y]:List Int) e) fun g=>
 ob (hY g b.N b.I b.L b.E a.N a.I a.L a.E c f) fun h=>
 some h
def kP:Option Bool:=
 some true
def nL (a b:cD) (f:(List ((Int × Int) × Bool))) (g y:Int) (d:(List Edge)) (c:Int):Option (Int ⊕ (Unit ⊕ Bool)):=
 if (decide (c < (d.length:Int))) then (ob (ix d c) fun e=>
 ob (ix a.L e.B) fun i=>
 ob (aBR ⟨a.N,a.I,a.L,a.E⟩ ⟨b.N,b.I,b.L,b.E⟩ f g y i e.To) fun j=>
 if (!j) then (some (.inr (.inr false))) else (some (.inl (wr (c+1))))) else (some (.inr (.inl ())))
def qO (b d:cD) (e:(List ((Int × Int) × Bool))) (c y:Int):Option Bool:=
 ob (tY b c) fun g=>
 ob (loop (fun (s:Int)=>nL b d e c y g s) 0) fun r=>match r with|.inl r=>kP|.inr r=>some r
def kG (a b:cD) (c:(List ((Int × Int) × Bool))) (f d y:Int) (g:Bool):Option Bool:=
 if g then (some false) else (if (f == 2) then (ob (qN ⟨a.N,a.I,a.L,a.E⟩ ⟨b.N,b.I,b.L,b.E⟩ c d y) fun h=>
 some h) else (ob (qO ⟨a.N,a.I,a.L,a.E⟩ ⟨b.N,b.I,b.L,b.E⟩ c d y) fun i=>
 some i))
def lL (a b:cD) (f:(List ((Int × Int) × Bool))) (c d y:Int):Option Bool:=
 if (c == 1) then (ob (gD a d) fun g=>
 ob (gD b y) fun h=>
 ob (dV g h) fun i=>
 kG a b f c d y (!i)) else (kG a b f c d y false)
def oX:Option Bool:=
 some true
def lU (a b:cD) (f:Int) (g:((List ((Int × Int) × Bool)) × Bool)) (e:(Int × Int)):Option Bool:=
 ob (lL ⟨a.N,a.I,a.L,a.E⟩ ⟨b.N,b.I,b.L,b.E⟩ g.1 f e.1 e.2) fun h=>
 if (!h) then (some false) else (some true)
def kJ (a b:cD) (f:Int) (g:(List (List Int))) (h:Bool):Option Bool:=
 if h then (some false) else (ob (aAZ a b g) fun c=>
 if c.2 then (if (!((kZ c.1 ⟨a.I,b.I⟩).getD false)) then (some false) else (ob (aEK (lU a b f c) (List.map Prod.fst c.1)) fun i=>
 if (decide (i.length=(List.map Prod.fst c.1).length)) then (oX) else (some false))) else (some false))
def kV (a b:cD) (e:Int) (f:(List (List Int))):Option Bool:=
 ob (oS a) fun g=>
 if (!g) then (kJ a b e f true) else (ob (oS b) fun h=>
 if (!h) then (kJ a b e f true) else (ob (aCj e) fun i=>
 kJ a b e f (!i)))
def vC (a b:cD) (e:List bI) (f:List Edge):Option cD:=
 ob (kS (wr (a.N+b.N)) a.I e f) fun g=>
 some g
def oT (a b:cD) (g:List Edge) (d:Int):Option ((List Edge × Int) ⊕ (List Edge)):=
 if (decide (d < (b.E.length:Int))) then (ob (ix b.E d) fun e=>
 ob (sI g ([⟨wr (e.F+a.N),wr (e.B+(a.L.length:Int)),wr (e.To+a.N)⟩]:List Edge)) fun h=>
 some (.inl (h,wr (d+1)))) else (some (.inr g))
def aBq (a b:cD):Option cD:=
 ob (sI ([]:List bI) a.L) fun e=>
 ob (sI e b.L) fun f=>
 ob (sI ([]:List Edge) a.E) fun g=>
 ob (loop (fun (s:(List Edge × Int))=>oT a b s.1 s.2) (g,0)) fun r=>vC a b f r
def zU (a:List Int):Option (List Int):=
 some a
def kY (t:cD) (a:Int) (b:List Int):Option ((Int × List Int) ⊕ (List Int)):=
 if (decide (0 < a)) then (ob (wR t b) fun d=>
 some (.inl (wr (a - 1),d))) else (some (.inr b))
def aBr (t:cD) (n:Int):Option (List Int):=
 ob (mkz t.N (0:Int)) fun c=>
 ob (loop (fun (s:(Int × List Int))=>kY t s.1 s.2) (n,c)) fun r=>zU r
def vQ (a:List (List Int)):Option (List (List Int)):=
 some a
def vR (a:Int) (b:List (List Int)):Option ((List (List Int) × Int) ⊕ (List (List Int))):=
 some (.inl (b,wr (a+1)))
def rD (a:Int) (b:List (List Int)):Option ((List (List Int) × Int) ⊕ (List (List Int))):=
 vR a b
def nX (a:Int) (b:List (List Int)):Option ((List (List Int) × Int) ⊕ (List (List Int))):=
 some (.inl (b,wr (a+1)))
def jN (a b:cD) (p:(List Int)) (f:Int) (d:List (List Int)) (c:Int):Option ((List (List Int) × Int) ⊕ (List (List Int))):=
 if (decide (c < b.N)) then (ob (ix p f) fun i=>
 ob (ix p (wr (a.N+c))) fun j=>
 if (i == j) then (ob (sI d ([([f,c]:List Int)]:List (List Int))) fun k=>
 nX c k) else (nX c d)) else (some (.inr d))
def jO (a b:cD) (p:(List Int)) (e:List (List Int)) (c:Int):Option ((List (List Int) × Int) ⊕ (List (List Int))):=
 if (decide (c < a.N)) then (ob (loop (fun (s:(List (List Int) × Int))=>jN a b p c s.1 s.2) (e,0)) fun r=>rD c r) else (some (.inr e))
def xV (a b:cD) (p:(List Int)):Option (List (List Int)):=
 ob (loop (fun (s:(List (List Int) × Int))=>jO a b p s.1 s.2) (([]:List (List Int)),0)) fun r=>vQ r
def nY (a b:(List Int)):Option Int:=
 if (decide ((a.length:Int) < (b.length:Int))) then (some (-1)) else (if (decide ((b.length:Int) < (a.length:Int))) then (some 1) else (some 0))
def nZ (a b:(List Int)) (c:Int) (h:Bool):Option (Int ⊕ (Unit ⊕ Int)):=
 if h then (ob (ix a c) fun d=>
 ob (ix b c) fun e=>
 if (decide (d < e)) then (some (.inr (.inr (-1)))) else (if (decide (e < d)) then (some (.inr (.inr 1))) else (some (.inl (wr (c+1)))))) else (some (.inr (.inl ())))
def rE (a b:(List Int)) (c:Int):Option (Int ⊕ (Unit ⊕ Int)):=
 if (decide (c < (a.length:Int))) then (nZ a b c (decide (c < (b.length:Int)))) else (nZ a b c false)
def xW (a b:(List Int)):Option Int:=
 ob (loop (fun (s:Int)=>rE a b s) 0) fun r=>match r with|.inl r=>nY a b|.inr r=>some r
def tG (a:List (List Int)):Option (List (List Int)):=
 some a
def pU (b:(List Int)) (a:List (List Int)) (c:Bool):Option (List (List Int)):=
 if (!c) then (ob (sI a ([b]:List (List Int))) fun d=>
 tG d) else (tG a)
def nA (a:Int) (b:(List Int)) (c:List (List Int)) (d:Bool):Option ((List (List Int) × Bool × Int) ⊕ (List (List Int) × Bool)):=
 ob (sI c ([b]:List (List Int))) fun e=>
 some (.inl (e,d,wr (a+1)))
def pV (d:(List Int)) (a:List (List Int)) (e:Bool) (b:Int) (c:(List Int)) (f:Int) (g:Bool):Option ((List (List Int) × Bool × Int) ⊕ (List (List Int) × Bool)):=
 if g then (if (decide (0 < f)) then (ob (sI a ([d]:List (List Int))) fun h=>
 nA b c h true) else (nA b c a true)) else (nA b c a e)
def kH (rows:(List (List Int))) (c:(List Int)) (d:List (List Int)) (a:Bool) (b:Int):Option ((List (List Int) × Bool × Int) ⊕ (List (List Int) × Bool)):=
 if (decide (b < (rows.length:Int))) then (ob (ix rows b) fun e=>
 ob (xW e c) fun f=>
 if (!a) then (pV c d a b e f (decide (0≤f))) else (pV c d a b e f false)) else (some (.inr (d,a)))
def aAo (rows:(List (List Int))) (a:(List Int)):Option (List (List Int)):=
 ob (loop (fun (s:(List (List Int) × Bool × Int))=>kH rows a s.1 s.2.1 s.2.2) (([]:List (List Int)),false,0)) fun r=>pU a r.1 r.2
def xX (a:List (List Int)):Option (List (List Int)):=
 some a
def uD (c:(List UInt8)) (a b:cD) (i j:Int) (f:List (List Int)):Option (List (List Int)):=
 ob (jH c i j 4) fun d=>
 if d.1 then (ob (cL c d.2.1 d.2.2 a.N) fun e=>
 ob (cL c e.2.1 e.2.2 b.N) fun k=>
 ob (aAo f ([e.1,k.1]:List Int)) fun l=>
 xX l) else (xX f)
def xY (a b c:Int) (d:List (List Int)):Option ((Int × Int × List (List Int) × Int) ⊕ (Int × Int × List (List Int))):=
 some (.inl (b,c,d,wr (a+1)))
def lZ (g:(List UInt8)) (d:(List (List Int))) (e f:Int) (c:List (List Int)) (b:Int):Option ((Int × Int × List (List Int) × Int) ⊕ (Int × Int × List (List Int))):=
 if (decide (b < (d.length:Int))) then (ob (jH g e f 9) fun a=>
 if (!a.1) then (ob (ix d b) fun h=>
 ob (sI c ([h]:List (List Int))) fun i=>
 xY b a.2.1 a.2.2 i) else (xY b a.2.1 a.2.2 c)) else (some (.inr (e,f,c)))
def uE (d:(List UInt8)) (a b:cD) (g h:Int) (i:List Int):Option (List (List Int)):=
 ob (xV a b i) fun j=>
 ob (loop (fun (s:(Int × Int × List (List Int) × Int))=>lZ d j s.1 s.2.1 s.2.2.1 s.2.2.2) (g,h,([]:List (List Int)),0)) fun r=>uD d a b r.1 r.2.1 r.2.2
def xZ (d:(List UInt8)) (a b:cD) (h:(Int × Int)) (i:cD) (j:List Int):Option (List (List Int)):=
 ob (jH d h.1 h.2 4) fun c=>
 if c.1 then (ob (cL d c.2.1 c.2.2 3) fun e=>
 ob (aBr i e.1) fun k=>
 uE d a b e.2.1 e.2.2 k) else (uE d a b c.2.1 c.2.2 j)
def aBa (d:(List UInt8)) (a b:cD) (weak:Bool):Option (List (List Int)):=
 ob (aAW d) fun g=>
 ob (aBq a b) fun c=>
 ob (aAY c) fun h=>
 if weak then (ob (aAX c false) fun i=>
 xZ d a b g c i) else (xZ d a b g c h)
def aBG:Option Bool:=
 some false
def wT (a:Int) (b:Bool):Option (Int ⊕ (Unit ⊕ Bool)):=
 if b then (some (.inr (.inr true))) else (some (.inl (wr (a+1))))
def wU (rows:(List (List Int))) (c y a:Int):Option (Int ⊕ (Unit ⊕ Bool)):=
 if (decide (a < (rows.length:Int))) then (ob (ix rows a) fun b=>
 if ((b.length:Int) == 2) then (ob (ix b 0) fun e=>
 if (e == c) then (ob (ix b 1) fun f=>
 wT a (f == y)) else (wT a false)) else (wT a false)) else (some (.inr (.inl ())))
def aDc (rows:(List (List Int))) (b y:Int):Option Bool:=
 ob (loop (fun (s:Int)=>wU rows b y s) 0) fun r=>match r with|.inl r=>aBG|.inr r=>some r
def nB (a:(Bool × Int)):Option Bool:=
 some a.1
def fR (d:((List (List Int)) × Int)) (b:(List (List Int))) (a:Int):Option (Int ⊕ (Unit ⊕ Bool)):=
 if (decide (a < (b.length:Int))) then (ob (ix b a) fun c=>
 ob (ix c 0) fun e=>
 ob (ix c 1) fun f=>
 ob (aDc d.1 e f) fun g=>
 if (!g) then (some (.inr (.inr false))) else (some (.inl (wr (a+1))))) else (some (.inr (.inl ())))
def bV (d:(List UInt8)) (a:(cD × cD)) (e:Int) (f:(Bool × Int)) (g:((List (List Int)) × Int)) (h:Bool):Option Bool:=
 if h then (some false) else (ob (aBa d ⟨a.1.N,a.1.I,a.1.L,a.1.E⟩ ⟨a.2.N,a.2.I,a.2.L,a.2.E⟩ false) fun c=>
 ob (kV a.1 a.2 e c) fun i=>
 if (!i) then (some true) else (ob (loop (fun (s:Int)=>fR g c s) 0) fun r=>match r with|.inl r=>nB f|.inr r=>some r))
def dD (e:(List UInt8)) (a:(cD × cD)) (d:Int) (b:(Bool × Int)) (c:((List (List Int)) × Int)) (f h g i:(Bool × Int)) (j:Bool):Option Bool:=
 if j then (some false) else (if ((c.2 == 0) != b.1) then (bV e a d b c true) else (if b.1 then (ob (kV a.1 a.2 d c.1) fun k=>
 if (!k) then (bV e a d b c true) else (if i.1 then (if (!h.1) then (bV e a d b c true) else (if h.1 then (if (!f.1) then (bV e a d b c true) else (if f.1 then (bV e a d b c (!g.1)) else (bV e a d b c false))) else (if f.1 then (bV e a d b c (!g.1)) else (bV e a d b c false)))) else (if h.1 then (if (!f.1) then (bV e a d b c true) else (if f.1 then (bV e a d b c (!g.1)) else (bV e a d b c false))) else (if f.1 then (bV e a d b c (!g.1)) else (bV e a d b c false))))) else (if i.1 then (if (!h.1) then (bV e a d b c true) else (if h.1 then (if (!f.1) then (bV e a d b c true) else (if f.1 then (bV e a d b c (!g.1)) else (bV e a d b c false))) else (if f.1 then (bV e a d b c (!g.1)) else (bV e a d b c false)))) else (if h.1 then (if (!f.1) then (bV e a d b c true) else (if f.1 then (bV e a d b c (!g.1)) else (bV e a d b c false))) else (if f.1 then (bV e a d b c (!g.1)) else (bV e a d b c false))))))
def vS (j c:(List UInt8)):Option Bool:=
 ob (aCX j c) fun l=>
 if l then (some true) else (ob (aFc j) fun a=>
 ob (aHi c 40 3) fun b=>
 ob (jB a.1 a.2 b) fun d=>
 ob (pS a.1 a.2 b) fun i=>
 ob (jB a.1 a.2 0) fun e=>
 ob (jB a.1 a.2 1) fun f=>
 ob (jB a.1 a.2 2) fun g=>
 ob (pT a.1 a.2) fun h=>
 ob (jB a.1 a.1 b) fun k=>
 if (d.2 != 0) then (dD c a b d i e f g h true) else (if (e.2 != 0) then (dD c a b d i e f g h true) else (if (f.2 != 0) then (dD c a b d i e f g h true) else (if (g.2 != 0) then (dD c a b d i e f g h true) else (if (h.2 != 0) then (dD c a b d i e f g h true) else (if (k.2 != 0) then (dD c a b d i e f g h true) else (dD c a b d i e f g h (!k.1))))))))
end
end Gv
