/- Models of the functions, printed by program off their code. Plain Lean. -/
import Derived.Test.YtffnhnhfedmjcaaGreatDoorJLM
set_option linter.all false
namespace Gv
noncomputable section
def aGS (a:aH) (b:List aH):Option aH:=
 ob (aNU b a) fun c=>
 some c
def aCL (c:(List Int)) (b:List aH) (a:Int):Option ((List aH × Int) ⊕ (List aH)):=
 if (decide (a < (c.length:Int))) then (ob (ix c a) fun d=>
 ob (aFr d) fun e=>
 ob (ix b a) fun g=>
 ob (st b a (e:aH)) fun f=>
 some (.inl (f,wr (a+1)))) else (some (.inr b))
def aFv (a:(List Int)) (b:aH):Option aH:=
 ob (mkz (a.length:Int) ([]:aH)) fun c=>
 ob (loop (fun (s:(List aH × Int))=>aCL a s.1 s.2) (c,0)) fun r=>aGS b r
def aGb (a:Bool):Option Bool:=
 some a
def aHD (c:UInt8):Option Bool:=
 if (decide (48<=(c.toNat:Int))) then (aGb (decide ((c.toNat:Int)<=57))) else (aGb false)
def aGT (a:Bool):Option Bool:=
 some a
def aEM (a:aH):Option Bool:=
 if (decide (1<=(a.length:Int))) then (aGT (decide ((a.length:Int)<=10))) else (aGT false)
def aCM (a:Int) (b:Bool):Option (Int ⊕ (Unit ⊕ Bool)):=
 if b then (some (.inr (.inr false))) else (some (.inl (wr (a+1))))
def uS (b:aH) (a:Int) (c:Bool):Option (Int ⊕ (Unit ⊕ Bool)):=
 if (!c) then (if (a == 0) then (aCM a true) else (ob (ix b a) fun d=>
 ob (aHD d) fun e=>
 aCM a (!e))) else (aCM a false)
def aBe (a:aH) (b:Int):Option (Int ⊕ (Unit ⊕ Bool)):=
 if (decide (b < (a.length:Int))) then (ob (ix a b) fun c45=>
 if (decide (97<=(c45.toNat:Int))) then (uS a b (decide ((c45.toNat:Int)<=122))) else (uS a b false)) else (some (.inr (.inl ())))
def aGU (b:aH):Option Bool:=
 ob (loop (fun (s:Int)=>aBe b s) 0) fun r=>match r with|.inl r=>aEM b|.inr r=>some r
def aCB (a:Bool):Option Bool:=
 some a
def vA (a:aH):Option Bool:=
 ob (aGU a) fun b=>
 if b then (aCB (!(a == ([116,97,117]:aH)))) else (aCB false)
def aGV (a:Bool):Option Bool:=
 some a
def wA (n low b:Int):Option Bool:=
 if (decide (low<=n)) then (aGV (decide (n<=b))) else (aGV false)
def aJI (n:Int):Option Bool:=
 ob (wA n 0 63) fun b=>
 some b
def aEj (n:Int):Option Bool:=
 ob (aJI n) fun b=>
 some (!b)
def pI:Option Int:=
 some (-1)
def eX (b:(List Int)) (a:Int):Option (Int ⊕ (Unit ⊕ Int)):=
 if (decide (a < (b.length:Int))) then (ob (ix b a) fun c=>
 ob (aEj c) fun d=>
 if d then (some (.inr (.inr a))) else (some (.inl (wr (a+1))))) else (some (.inr (.inl ())))
def jE (b:(List Int)):Option Int:=
 ob (loop (fun (s:Int)=>eX b s) 0) fun r=>match r with|.inl r=>pI|.inr r=>some r
def lA (a:(List Int)):Option Bool:=
 ob (jE a) fun b=>
 some (decide (0<=b))
def aEN (a:(List Int)):Option Bool:=
 ob (lA a) fun b=>
 some (!b)
def aBC (a:aH) (b:(List Int)) (c:Bool):Option (aH × Bool):=
 if c then (some (([]:aH),false)) else (if ((b.length:Int) == 0) then (some (a,true)) else (ob (cat a ([40]:aH)) fun d=>
 ob (aFv b ([44]:aH)) fun e=>
 ob (cat d e) fun f=>
 ob (cat f ([41]:aH)) fun g=>
 some (g,true)))
def aCn (b:aH) (a:(List Int)):Option (aH × Bool):=
 if (b == ([116,97,117]:aH)) then (some (([116,97,117]:aH),(a.length:Int) == 0)) else (ob (vA b) fun c=>
 if (!c) then (aBC b a true) else (if (decide (2 < (a.length:Int))) then (aBC b a true) else (ob (aEN a) fun d=>
 aBC b a (!d))))
def aFw (a:List Int):Option ((List Int) × Bool):=
 some (a,true)
def yZ (b:(List aH)) (c:List Int) (a:Int):Option ((List Int × Int) ⊕ (List Int ⊕ ((List Int) × Bool))):=
 if (decide (a < (b.length:Int))) then (ob (ix b a) fun e=>
 ob (aAp e) fun d=>
 if (!d.2) then (some (.inr (.inr ([],false)))) else (ob (xQ c ([d.1]:List Int)) fun f=>
 some (.inl (f,wr (a+1))))) else (some (.inr (.inl c)))
def aAr (b:(List aH)):Option ((List Int) × Bool):=
 ob (loop (fun (s:(List Int × Int))=>yZ b s.1 s.2) ([],0)) fun r=>match r with|.inl r=>aFw r|.inr r=>some r
def iO (a:Bool):Option Bool:=
 some a
def jV (a b:aH):Option Bool:=
 if (decide ((b.length:Int)<=(a.length:Int))) then (ob (xT a (wr ((a.length:Int) - (b.length:Int))) (a.length:Int)) fun c=>
 iO (c == b)) else (iO false)
def mH (a b:aH):Option aH:=
 ob (jV a b) fun c=>
 if c then (ob (xT a 0 (wr ((a.length:Int) - (b.length:Int)))) fun d=>
 some d) else (some a)
def sC (a b:aH):Option aH:=
 ob (mH a b) fun c=>
 some c
def mM (a:(aH × aH × Bool)) (b:List Int) (c:Bool):Option (aH × (List Int) × Bool):=
 if c then (some (([]:aH),[],false)) else (some (a.1,b,true))
def lI (d:aH) (a:(aH × aH × Bool)) (b:List Int):Option (aH × (List Int) × Bool):=
 ob (aCn a.1 b) fun c=>
 if (!c.2) then (mM a b true) else (mM a b (!(c.1 == d)))
def mV (b:aH):Option (aH × (List Int) × Bool):=
 ob (aNf b ([40]:aH)) fun a=>
 if a.2.2 then (ob (sC a.2.1 ([41]:aH)) fun d=>
 ob (aFY d ([44]:aH)) fun e=>
 ob (aAr e) fun c=>
 if (!c.2) then (some (([]:aH),[],false)) else (lI b a c.1)) else (lI b a [])
def aDV (a:aH):Option Bool:=
 ob (mV a) fun b=>
 some b.2.2
def aEO (a:Bool):Option Bool:=
 some a
def aGW (a b:(List UInt8)):Option Bool:=
 if (decide (1048576 < (a.length:Int))) then (aEO true) else (aEO (decide (1048576 < (b.length:Int))))
def aJJ (a:(List UInt8)):Option (Int × Int):=
 some (0,0)
def aJc:Option Int:=
 some (-1)
def aDD (b:(List aH)) (c:aH) (a:Int):Option (Int ⊕ (Unit ⊕ Int)):=
 if (decide (a < (b.length:Int))) then (ob (ix b a) fun d=>
 if (d == c) then (some (.inr (.inr a))) else (some (.inl (wr (a+1))))) else (some (.inr (.inl ())))
def aDW (b:(List aH)) (c:aH):Option Int:=
 ob (loop (fun (s:Int)=>aDD b c s) 0) fun r=>match r with|.inl r=>aJc|.inr r=>some r
def aJd (a:List aH):Option (List aH):=
 some a
def zD (a:Int) (b:List aH):Option ((List aH × Int) ⊕ (List aH)):=
 some (.inl (b,wr (a+1)))
def aDE (c:Int) (d:aH) (a:Int) (b:List aH):Option ((List aH × Int) ⊕ (List aH)):=
 ob (ix b a) fun f=>
 ob (st b a (d:aH)) fun e=>
 zD c e
def aBD (c:Int) (b:List aH) (a:Int):Option ((List aH × Int) ⊕ (List aH)):=
 if (decide (c < a)) then (ob (ix b (wr (a - 1))) fun d=>
 ob (ix b a) fun f=>
 ob (st b a (d:aH)) fun e=>
 some (.inl (e,wr (a - 1)))) else (some (.inr b))
def aDF (c:List aH) (d:Int) (e:aH) (a:Int):Option ((List aH × Int) ⊕ (List aH)):=
 ob (xQ c ([([]:aH)]:List aH)) fun b=>
 ob (loop (fun (s:(List aH × Int))=>aBD a s.1 s.2) (b,wr ((b.length:Int) - 1))) fun r=>aDE d e a r
def aBE (a:Int) (b:Bool):Option (Int ⊕ Int):=
 if b then (some (.inl (wr (a+1)))) else (some (.inr a))
def zF (b:List aH) (c:aH) (a:Int):Option (Int ⊕ Int):=
 if (decide (a < (b.length:Int))) then (ob (ix b a) fun d=>
 aBE a (wV d c)) else (aBE a false)
def vB (d:(List aH)) (a:List aH) (b:Int):Option ((List aH × Int) ⊕ (List aH)):=
 if (decide (b < (d.length:Int))) then (ob (ix d b) fun c=>
 ob (aDW a c) fun e=>
 if (decide (0<=e)) then (zD b a) else (ob (loop (fun (s:Int)=>zF a c s) 1) fun r=>aDF a b c r)) else (some (.inr a))
def aFx (a:(List aH)):Option (List aH):=
 ob (loop (fun (s:(List aH × Int))=>vB a s.1 s.2) (([([116,97,117]:aH)]:List aH),0)) fun r=>aJd r
def aHE (a b:Edge):Option Bool:=
 if (a.F != b.F) then (some (decide (a.F < b.F))) else (if (a.B != b.B) then (some (decide (a.B < b.B))) else (some (decide (a.To < b.To))))
def aEP (e:Edge) (b:Int) (c:List Edge):Option (List Edge):=
 ob (ix c b) fun f=>
 ob (st c b (⟨e.F,e.B,e.To⟩:Edge)) fun d=>
 some d
def aCN (d:Int) (b:List Edge) (a:Int):Option ((List Edge × Int) ⊕ (List Edge)):=
 if (decide (d < a)) then (ob (ix b (wr (a - 1))) fun c=>
 ob (ix b a) fun f=>
 ob (st b a (⟨c.F,c.B,c.To⟩:Edge)) fun e=>
 some (.inl (e,wr (a - 1)))) else (some (.inr b))
def aBf (a:(List Edge)) (e:Edge) (b:Int) (f:Bool):Option (List Edge):=
 if f then (some a) else (ob (xQ a ([⟨0,0,0⟩]:List Edge)) fun c=>
 ob (loop (fun (s:(List Edge × Int))=>aCN b s.1 s.2) (c,wr ((c.length:Int) - 1))) fun r=>aEP e b r)
def aEQ (b:(List Edge)) (e:Edge) (a:Int):Option (List Edge):=
 if (decide (0 < a)) then (ob (ix b (wr (a - 1))) fun d=>
 aBf b e a (decide ((d:Edge)=e))) else (aBf b e a false)
def aCO (a:Int) (b:Bool):Option (Int ⊕ Int):=
 if b then (some (.inl (wr (a - 1)))) else (some (.inr a))
def aBg (b:(List Edge)) (e:Edge) (a:Int):Option (Int ⊕ Int):=
 if (decide (0 < a)) then (ob (ix b (wr (a - 1))) fun d=>
 ob (aHE e d) fun f=>
 aCO a f) else (aCO a false)
def aGX (a:(List Edge)) (e:Edge):Option (List Edge):=
 ob (loop (fun (s:Int)=>aBg a e s) (a.length:Int)) fun r=>aEQ a e r
def aJe (a b:Int) (c:(List aH)) (d:List Edge):Option bA:=
 some ⟨a,b,c,d⟩
def zH (e:(List aH)) (c:(List Edge)) (f:(List aH)) (d:List Edge) (a:Int):Option ((List Edge × Int) ⊕ (List Edge)):=
 if (decide (a < (c.length:Int))) then (ob (ix c a) fun b=>
 ob (ix e b.B) fun g=>
 ob (aDW f g) fun h=>
 ob (aGX d ⟨b.F,h,b.To⟩) fun i=>
 some (.inl (i,wr (a+1)))) else (some (.inr d))
def zJ (c d:Int) (a:(List aH)) (e:(List Edge)):Option bA:=
 ob (aFx a) fun b=>
 ob (loop (fun (s:(List Edge × Int))=>zH a e b s.1 s.2) (([]:List Edge),0)) fun r=>aJe c d b r
def aDG (t:bA) (b:List aH) (c:List Edge):Option bA:=
 ob (zJ t.N t.I b c) fun d=>
 some d
def vC (t:bA) (d:List aH) (e:List Edge) (b:Int):Option ((List aH × List Edge × Int) ⊕ (List aH × List Edge)):=
 if (decide (b < (t.E.length:Int))) then (ob (ix t.E b) fun c=>
 ob (ix t.L c.B) fun g=>
 ob (xQ d ([g]:List aH)) fun f=>
 ob (xQ e ([⟨c.F,wr ((f.length:Int) - 1),c.To⟩]:List Edge)) fun h=>
 some (.inl (f,h,wr (b+1)))) else (some (.inr (d,e)))
def aDX (t:bA):Option bA:=
 ob (loop (fun (s:(List aH × List Edge × Int))=>vC t s.1 s.2.1 s.2.2) (([([116,97,117]:aH)]:List aH),([]:List Edge),0)) fun r=>aDG t r.1 r.2
def aJf (a:List Int):Option (Bool × (List Int)):=
 some (true,a)
def aDH (b:List Int) (c a:Int):Option ((List Int × Int × Int) ⊕ (List Int)):=
 if (decide (c < a)) then (ob (ix b c) fun e=>
 ob (ix b a) fun f=>
 ob (st b c (f:Int)) fun d=>
 ob (ix d a) fun h=>
 ob (st d a (e:Int)) fun g=>
 some (.inl (g,wr (c+1),wr (a - 1)))) else (some (.inr b))
def aDI (a:(List Int)) (b c:Int):Option (Bool × (List Int)):=
 ob (ix a b) fun f=>
 ob (ix a c) fun g=>
 ob (st a b (g:Int)) fun d=>
 ob (ix d c) fun i=>
 ob (st d c (f:Int)) fun e=>
 ob (loop (fun (s:(List Int × Int × Int))=>aDH s.1 s.2.1 s.2.2) (e,wr (b+1),wr ((e.length:Int) - 1))) fun r=>aJf r
def aDJ (b:(List Int)) (c a:Int):Option (Int ⊕ Int):=
 ob (ix b a) fun d=>
 ob (ix b c) fun e=>
 if (decide (d < e)) then (some (.inl (wr (a - 1)))) else (some (.inr a))
def aDK (a:(List Int)) (b:Int):Option (Bool × (List Int)):=
 if (decide (b < 0)) then (some (false,a)) else (ob (loop (fun (s:Int)=>aDJ a b s) (wr ((a.length:Int) - 1))) fun r=>aDI a b r)
def aDL (a:Int) (b:Bool):Option (Int ⊕ Int):=
 if b then (some (.inl (wr (a - 1)))) else (some (.inr a))
def aDM (b:(List Int)) (a:Int):Option (Int ⊕ Int):=
 if (decide (0<=a)) then (ob (ix b a) fun c=>
 ob (ix b (wr (a+1))) fun d=>
 aDL a (decide (d < c))) else (aDL a false)
def aFy (a:(List Int)):Option (Bool × (List Int)):=
 ob (loop (fun (s:Int)=>aDM a s) (wr ((a.length:Int) - 2))) fun r=>aDK a r
def tW (d:(List UInt8)) (b c a:Int):Option (Int × Int × Int):=
 if (decide (wr (b+1)<=(d.length:Int))) then (some (a,wr (b+1),mK ((mK ((mK (c * 6364136223846793005))+(mK a)))+1442695040888963407))) else (ob (shU (mK ((mK ((mK (c * 6364136223846793005))+(mK a)))+1442695040888963407)) 40) fun e=>
 some (wr (anU e 255),wr (b+1),mK ((mK ((mK (c * 6364136223846793005))+(mK a)))+1442695040888963407)))
def wN (a:(List UInt8)) (b c:Int):Option (Int × Int × Int):=
 if (decide (b < (a.length:Int))) then (ob (ix a b) fun d=>
 tW a b c (wr (d.toNat:Int))) else (tW a b c 0)
def tX (n b c d:Int):Option (Int × Int × Int):=
 ob (rm b n) fun e=>
 some (e,c,d)
def gP (d:(List UInt8)) (e f n:Int):Option (Int × Int × Int):=
 if (decide (n<=1)) then (some (0,e,f)) else (ob (wN d e f) fun a=>
 if (decide (200 < n)) then (ob (wN d a.2.1 a.2.2) fun c=>
 tX n (wr ((wr (a.1 * 256))+c.1)) c.2.1 c.2.2) else (tX n a.1 a.2.1 a.2.2))
def aBF (c:(List UInt8)) (d e:Int) (b:(List Int)):Option (Int × Int × Int):=
 ob (gP c d e (b.length:Int)) fun a=>
 ob (ix b a.1) fun f=>
 some (f,a.2.1,a.2.2)
def aAh (d:(List UInt8)) (b c a:Int):Option (Int × Int × Int):=
 if (decide (wr (b+1)<=(d.length:Int))) then (some (a,wr (b+1),mK ((mK ((mK (c * 6364136223846793005))+(mK a)))+1442695040888963407))) else (ob (shU (mK ((mK ((mK (c * 6364136223846793005))+(mK a)))+1442695040888963407)) 40) fun e=>
 some (wr (anU e 255),wr (b+1),mK ((mK ((mK (c * 6364136223846793005))+(mK a)))+1442695040888963407)))
def pZ (a:(List UInt8)) (b c:Int):Option (Int × Int × Int):=
 if (decide (b < (a.length:Int))) then (ob (ix a b) fun d=>
 aAh a b c (wr (d.toNat:Int))) else (aAh a b c 0)
def aAi (n b c d:Int):Option (Int × Int × Int):=
 ob (rm b n) fun e=>
 some (e,c,d)
def lV (d:(List UInt8)) (e f n:Int):Option (Int × Int × Int):=
 if (decide (n<=1)) then (some (0,e,f)) else (ob (pZ d e f) fun a=>
 if (decide (200 < n)) then (ob (pZ d a.2.1 a.2.2) fun c=>
 aAi n (wr ((wr (a.1 * 256))+c.1)) c.2.1 c.2.2) else (aAi n a.1 a.2.1 a.2.2))
def aAj (a:(List UInt8)) (n c d e:Int):Option (Int × (List UInt8) × Int × Int):=
 ob (rm c n) fun f=>
 some (f,a,d,e)
def aFz (b:(List UInt8)) (e f n:Int):Option (Int × (List UInt8) × Int × Int):=
 if (decide (n<=1)) then (some (0,b,e,f)) else (ob (pZ b e f) fun a=>
 if (decide (200 < n)) then (ob (pZ b a.2.1 a.2.2) fun d=>
 aAj b n (wr ((wr (a.1 * 256))+d.1)) d.2.1 d.2.2) else (aAj b n a.1 a.2.1 a.2.2))
def aCo (a:(List UInt8)) (b c:Int) (d:List aH) (e:List Edge) (f g:Int):Option (bA × (List UInt8) × Int × Int):=
 ob (aDX ⟨b,c,d,e⟩) fun h=>
 some (h,a,f,g)
def aCp (c:(List UInt8)) (d:(Int × Int × Int)) (e f:Int) (g:List Edge):Option (bA × (List UInt8) × Int × Int):=
 ob (lV c e f (wr (1+d.1))) fun b=>
 ob (zJ (wr (1+d.1)) b.1 ([([116,97,117]:aH),([97]:aH),([103,101,116,40,48,41]:aH),([103,101,116,40,49,41]:aH),([112,117,116,40,48,41]:aH),([112,117,116,40,49,41]:aH)]:List aH) g) fun a=>
 aCo c a.N a.I a.L a.E b.2.1 b.2.2
def aFA (a:(List UInt8)) (e:(Int × Int × Int)) (f g:Int) (h:List Edge) (i:Int):Option ((Int × Int × List Edge × Int) ⊕ (Int × Int × List Edge)):=
 if (decide (0 < i)) then (ob (lV a f g (wr (1+e.1))) fun b=>
 ob (lV a b.2.1 b.2.2 6) fun c=>
 ob (lV a c.2.1 c.2.2 (wr (1+e.1))) fun d=>
 ob (xQ h ([⟨b.1,c.1,d.1⟩]:List Edge)) fun j=>
 some (.inl (d.2.1,d.2.2,j,wr (i - 1)))) else (some (.inr (f,g,h)))
def aHZ (a:(List UInt8)) (e f:Int):Option (bA × (List UInt8) × Int × Int):=
 ob (lV a e f 3) fun b=>
 ob (lV a b.2.1 b.2.2 5) fun c=>
 ob (loop (fun (s:(Int × Int × List Edge × Int))=>aFA a b s.1 s.2.1 s.2.2.1 s.2.2.2) (c.2.1,c.2.2,([]:List Edge),c.1)) fun r=>aCp a b r.1 r.2.1 r.2.2
def tK (a b:Int) (c:List aH) (d:List Edge) (e f:Int):Option (bA × Int × Int):=
 ob (aDX ⟨a,b,c,d⟩) fun g=>
 some (g,e,f)
def tL (d:(List UInt8)) (c:(Int × Int × Int)) (e f:Int) (g:List Edge):Option (bA × Int × Int):=
 ob (gP d e f (wr (1+c.1))) fun b=>
 ob (zJ (wr (1+c.1)) b.1 ([([116,97,117]:aH),([97]:aH),([103,101,116,40,48,41]:aH),([103,101,116,40,49,41]:aH),([112,117,116,40,48,41]:aH),([112,117,116,40,49,41]:aH)]:List aH) g) fun a=>
 tK a.N a.I a.L a.E b.2.1 b.2.2
def pJ (a:(List UInt8)) (e:(Int × Int × Int)) (f g:Int) (h:List Edge) (i:Int):Option ((Int × Int × List Edge × Int) ⊕ (Int × Int × List Edge)):=
 if (decide (0 < i)) then (ob (gP a f g (wr (1+e.1))) fun b=>
 ob (gP a b.2.1 b.2.2 6) fun c=>
 ob (gP a c.2.1 c.2.2 (wr (1+e.1))) fun d=>
 ob (xQ h ([⟨b.1,c.1,d.1⟩]:List Edge)) fun j=>
 some (.inl (d.2.1,d.2.2,j,wr (i - 1)))) else (some (.inr (f,g,h)))
def qA (a:(List UInt8)) (e f:Int):Option (bA × Int × Int):=
 ob (gP a e f 3) fun b=>
 ob (gP a b.2.1 b.2.2 5) fun c=>
 ob (loop (fun (s:(Int × Int × List Edge × Int))=>pJ a b s.1 s.2.1 s.2.2.1 s.2.2.2) (c.2.1,c.2.2,([]:List Edge),c.1)) fun r=>tL a b r.1 r.2.1 r.2.2
def aBG (b:(List UInt8)) (c d n:Int):Option (Bool × Int × Int):=
 ob (gP b c d n) fun a=>
 some (a.1 == 0,a.2.1,a.2.2)
def aER (a:List aH) (b c:Int):Option ((List aH) × Int × Int):=
 some (a,b,c)
def sD (a b c:Int) (d:List aH):Option ((Int × Int × List aH × Int) ⊕ (List aH × Int × Int)):=
 some (.inl (b,c,d,wr (a+1)))
def oV (b:List aH) (a c d:Int) (e:Bool):Option ((Int × Int × List aH × Int) ⊕ (List aH × Int × Int)):=
 if e then (ob (ix ([([97]:aH),([98]:aH),([103,101,116]:aH),([109,111,118,101]:aH),([112,97,105,114]:aH),([112,117,116]:aH)]:List aH) a) fun f=>
 ob (xQ b ([f]:List aH)) fun g=>
 sD a c d g) else (sD a c d b)
def lC (g:(List UInt8)) (h:Bool) (d e:Int) (b:List aH) (c:Int):Option ((Int × Int × List aH × Int) ⊕ (List aH × Int × Int)):=
 if (decide (c < (([([97]:aH),([98]:aH),([103,101,116]:aH),([109,111,118,101]:aH),([112,97,105,114]:aH),([112,117,116]:aH)]:List aH).length:Int))) then (if h then (ob (gP g d e 4) fun a=>
 if (decide (0 < a.1)) then (oV b c a.2.1 a.2.2 true) else (oV b c a.2.1 a.2.2 false)) else (ob (aBG g d e 4) fun f=>
 oV b c f.2.1 f.2.2 f.1)) else (some (.inr (b,d,e)))
def tY (b:(List UInt8)) (c d:Int) (e:Bool):Option ((List aH) × Int × Int):=
 ob (loop (fun (s:(Int × Int × List aH × Int))=>lC b e s.1 s.2.1 s.2.2.1 s.2.2.2) (c,d,([]:List aH),0)) fun r=>aER r.1 r.2.1 r.2.2
def tZ (c:(List UInt8)) (d:List bA) (e f:Int) (g:List bK):Option (aO × Int × Int):=
 ob (tY c e f true) fun a=>
 ob (tY c a.2.1 a.2.2 false) fun b=>
 some (⟨d,g,a.1,b.1⟩,b.2.1,b.2.2)
def uA (b:(List UInt8)) (c:List bA) (e f:Int) (d:List bK):Option (aO × Int × Int):=
 ob (gP b e f 5) fun a=>
 if (decide (0 < a.1)) then (ob (xQ d ([⟨([103,101,116]:aH),([112,117,116]:aH),([109,111,118,101]:aH)⟩]:List bK)) fun g=>
 tZ b c a.2.1 a.2.2 g) else (tZ b c a.2.1 a.2.2 d)
def aBH (b:(List UInt8)) (d e:Int) (c:List bA):Option (aO × Int × Int):=
 ob (aBG b d e 4) fun a=>
 if a.1 then (ob (xQ ([]:List bK) ([⟨([97]:aH),([97]:aH),([112,97,105,114]:aH)⟩]:List bK)) fun f=>
 uA b c a.2.1 a.2.2 f) else (uA b c a.2.1 a.2.2 [])
def xX (f:(List UInt8)) (b c:Int) (d:List bA) (e:Int):Option ((Int × Int × List bA × Int) ⊕ (Int × Int × List bA)):=
 if (decide (0 < e)) then (ob (qA f b c) fun a=>
 ob (xQ d ([⟨a.1.N,a.1.I,a.1.L,a.1.E⟩]:List bA)) fun g=>
 some (.inl (a.2.1,a.2.2,g,wr (e - 1)))) else (some (.inr (b,c,d)))
def aCP (a:(List UInt8)) (d e:Int):Option (aO × Int × Int):=
 ob (aBF a d e ([1,2,2,2,3,3,4]:List Int)) fun b=>
 ob (loop (fun (s:(Int × Int × List bA × Int))=>xX a s.1 s.2.1 s.2.2.1 s.2.2.2) (b.2.1,b.2.2,([]:List bA),b.1)) fun r=>aBH a r.1 r.2.1 r.2.2
def aBI (a:(aO × Int × Int)) (b:List bA) (c:List Int):Option (aO × (List Int)):=
 some (⟨b,a.1.Meetings,a.1.Allowed,a.1.Hidden⟩,c)
def aBJ (a:List Int) (b:Int):Option ((List Int × Int) ⊕ (List Int)):=
 if (decide (0 < b)) then (ob (aFy a) fun c=>
 some (.inl (c.2,wr (b - 1)))) else (some (.inr a))
def aBK (a:(List UInt8)) (b:(aO × Int × Int)) (c d:Int) (e:List bA) (f:List Int):Option (aO × (List Int)):=
 ob (gP a c d 6) fun g=>
 ob (loop (fun (s:(List Int × Int))=>aBJ s.1 s.2) (f,g.1)) fun r=>aBI b e r
def qF (c:List bA) (b:List Int) (a:Int):Option ((List Int × Int) ⊕ (List Int)):=
 if (decide (a < (c.length:Int))) then (ob (xQ b ([a]:List Int)) fun d=>
 some (.inl (d,wr (a+1)))) else (some (.inr b))
def uB (b:(List UInt8)) (c:(aO × Int × Int)) (d e:Int) (a:List bA):Option (aO × (List Int)):=
 ob (loop (fun (s:(List Int × Int))=>qF a s.1 s.2) (([]:List Int),0)) fun r=>aBK b c d e a r
def xY (b:(List UInt8)) (c:(aO × Int × Int)) (d e:Int) (a:List bA):Option (aO × (List Int)):=
 if (decide (3 < (a.length:Int))) then (ob (xT a 0 3) fun f=>
 uB b c d e f) else (uB b c d e a)
def xZ (e:(List UInt8)) (c d:Int) (b:List bA):Option ((Int × Int × List bA) ⊕ (Int × Int × List bA)):=
 if (decide ((b.length:Int) < 2)) then (ob (qA e c d) fun a=>
 ob (xQ b ([⟨a.1.N,a.1.I,a.1.L,a.1.E⟩]:List bA)) fun f=>
 some (.inl (a.2.1,a.2.2,f))) else (some (.inr (c,d,b)))
def aCQ (a:(List UInt8)):Option (aO × (List Int)):=
 ob (aJJ a) fun d=>
 ob (aCP a d.1 d.2) fun b=>
 ob (loop (fun (s:(Int × Int × List bA))=>xZ a s.1 s.2.1 s.2.2) (b.2.1,b.2.2,b.1.Parts)) fun r=>xY a b r.1 r.2.1 r.2.2
def aFB (a:(List UInt8)) (k n:Int) (d:Bool):Option Int:=
 if d then (some 0) else (ob (ix a k) fun e=>
 ob (rm (wr (e.toNat:Int)) n) fun f=>
 some f)
def aLC (a:(List UInt8)) (k n:Int):Option Int:=
 if (decide (n<=1)) then (aFB a k n true) else (aFB a k n (decide ((a.length:Int)<=k)))
def wO (t:bA) (k:Int):Option Bool:=
 ob (wA k 0 (wr (t.N - 1))) fun c=>
 some c
def aKP (i many:Int):Option Bool:=
 ob (wA i 0 (wr (many - 1))) fun b=>
 some b
def qG (a:Int):Option Bool:=
 some (a != a)
def fO (a y:Int):Option Int:=
 ob (qG a) fun d=>
 ob (qG y) fun c=>
 if d then (if c then (some 0) else (some (-1))) else (if c then (some 1) else (if (decide (a < y)) then (some (-1)) else (if (decide (y < a)) then (some 1) else (some 0))))
def aCq:Option Int:=
 some 0
def lW (b:(List Int)) (a:Int):Option (Int ⊕ (Unit ⊕ Int)):=
 if (decide (a < (b.length:Int))) then (ob (ix b a) fun c=>
 if (c != 0) then (some (.inr (.inr c))) else (some (.inl (wr (a+1))))) else (some (.inr (.inl ())))
def aAs (b:(List Int)):Option Int:=
 ob (loop (fun (s:Int)=>lW b s) 0) fun r=>match r with|.inl r=>aCq|.inr r=>some r
def yA (a b:Edge):Option Int:=
 ob (fO a.F b.F) fun e=>
 ob (fO a.B b.B) fun f=>
 ob (fO a.To b.To) fun g=>
 ob (aAs ([e,f,g]:List Int)) fun h=>
 some h
def aIa:Option Bool:=
 some true
def sX (a:Int) (b:Bool):Option (Int ⊕ (Unit ⊕ Bool)):=
 if b then (some (.inr (.inr false))) else (some (.inl (wr (a+1))))
def aAt (t:bA) (a:Int):Option (Int ⊕ (Unit ⊕ Bool)):=
 if (decide (a < (t.E.length:Int))) then (ob (ix t.E a) fun c=>
 ob (wO t c.F) fun d=>
 if (!d) then (sX a true) else (ob (wO t c.To) fun e=>
 if (!e) then (sX a true) else (ob (aKP c.B (t.L.length:Int)) fun f=>
 if (!f) then (sX a true) else (if (decide (0 < a)) then (ob (ix t.E (wr (a - 1))) fun g=>
 ob (yA g c) fun h=>
 sX a (decide (0<=h))) else (sX a false))))) else (some (.inr (.inl ())))
def aCC (t:bA):Option Bool:=
 ob (loop (fun (s:Int)=>aAt t s) 0) fun r=>match r with|.inl r=>aIa|.inr r=>some r
def wP (a:Int) (b:Bool):Option (Int ⊕ (Unit ⊕ Bool)):=
 if b then (some (.inr (.inr false))) else (some (.inl (wr (a+1))))
def aAu (t:bA) (a:Int):Option (Int ⊕ (Unit ⊕ Bool)):=
 if (decide (a < (t.L.length:Int))) then (ob (ix t.L a) fun b=>
 ob (aDV b) fun e=>
 if (!e) then (wP a true) else (if ((b == ([116,97,117]:aH)) != (a == 0)) then (wP a true) else (if (decide (1 < a)) then (ob (ix t.L (wr (a - 1))) fun d=>
 wP a (wV b d||b == d)) else (wP a false)))) else (some (.inr (.inl ())))
def sY (t:bA) (c:Bool):Option Bool:=
 if c then (some false) else (ob (loop (fun (s:Int)=>aAu t s) 0) fun r=>match r with|.inl r=>aCC t|.inr r=>some r)
def pC (t:bA):Option Bool:=
 ob (wA t.N 1 40) fun b=>
 if (!b) then (sY t true) else (ob (wO t t.I) fun c=>
 if (!c) then (sY t true) else (ob (wA (t.L.length:Int) 1 12) fun d=>
 if (!d) then (sY t true) else (sY t (decide (300 < (t.E.length:Int))))))
def aBL (t:bA):Option Bool:=
 ob (pC t) fun b=>
 some (!b)
def tM (a:aH):Option Bool:=
 some (!(a == a))
def rB (a y:aH):Option Int:=
 ob (tM a) fun d=>
 ob (tM y) fun c=>
 if d then (if c then (some 0) else (some (-1))) else (if c then (some 1) else (if (wV a y) then (some (-1)) else (if (!(wV a y||a == y)) then (some 1) else (some 0))))
def pK (a b:(List aH)):Option Int:=
 if (decide ((a.length:Int) < (b.length:Int))) then (some (-1)) else (some 0)
def eY (b c:(List aH)) (a:Int):Option (Int ⊕ (Unit ⊕ Int)):=
 if (decide (a < (b.length:Int))) then (ob (ix b a) fun e=>
 if (decide ((c.length:Int)<=a)) then (some (.inr (.inr 1))) else (ob (ix c a) fun f=>
 ob (rB e f) fun d=>
 if (d != 0) then (some (.inr (.inr d))) else (some (.inl (wr (a+1)))))) else (some (.inr (.inl ())))
def jF (b c:(List aH)):Option Int:=
 ob (loop (fun (s:Int)=>eY b c s) 0) fun r=>match r with|.inl r=>pK b c|.inr r=>some r
def oW (a b:bK):Option Int:=
 ob (jF ([a.Left,a.Right]:List aH) ([b.Left,b.Right]:List aH)) fun e=>
 some e
def vD (a:Bool):Option Bool:=
 some a
def aAH (o p:bK):Option Bool:=
 if (o.Left == p.Result) then (vD true) else (vD (o.Right == p.Result))
def kF:Option Int:=
 some (-1)
def cT (b:(List bK)) (c:bK) (a:Int):Option (Int ⊕ (Unit ⊕ Int)):=
 if (decide (a < (b.length:Int))) then (ob (ix b a) fun d=>
 ob (aAH d c) fun e=>
 if e then (some (.inr (.inr a))) else (some (.inl (wr (a+1))))) else (some (.inr (.inl ())))
def eJ (b:(List bK)) (c:bK):Option Int:=
 ob (loop (fun (s:Int)=>cT b c s) 0) fun r=>match r with|.inl r=>kF|.inr r=>some r
def dU (a:(List bK)) (b:bK):Option Bool:=
 ob (eJ a b) fun c=>
 some (decide (0<=c))
def aDh (a:(List bK)):Option Bool:=
 some (decide ((a.length:Int)<=6))
def kN (a:(List bK)) (b:Int) (c:bK) (d:Bool):Option (Int ⊕ (Unit ⊕ Bool)):=
 if d then (some (.inr (.inr false))) else (ob (dU a c) fun e=>
 if e then (some (.inr (.inr false))) else (some (.inl (wr (b+1)))))
def mW (c:(List bK)) (b:Int):Option (Int ⊕ (Unit ⊕ Bool)):=
 if (decide (b < (c.length:Int))) then (ob (ix c b) fun a=>
 ob (vA a.Left) fun d=>
 if (!d) then (kN c b a true) else (ob (vA a.Right) fun e=>
 if (!e) then (kN c b a true) else (ob (vA a.Result) fun f=>
 if (!f) then (kN c b a true) else (if (!(wV a.Left a.Right||a.Left == a.Right)) then (kN c b a true) else (if (decide (0 < b)) then (ob (ix c (wr (b - 1))) fun g=>
 ob (oW g a) fun h=>
 kN c b a (decide (0<=h))) else (kN c b a false)))))) else (some (.inr (.inl ())))
def vE (b:(List bK)):Option Bool:=
 ob (loop (fun (s:Int)=>mW b s) 0) fun r=>match r with|.inl r=>aDh b|.inr r=>some r
def aGc (a:(List aH)):Option Bool:=
 some (decide ((a.length:Int)<=12))
def aBM (a:Int) (b:Bool):Option (Int ⊕ (Unit ⊕ Bool)):=
 if b then (some (.inr (.inr false))) else (some (.inl (wr (a+1))))
def aBN (b:(List aH)) (a:Int):Option (Int ⊕ (Unit ⊕ Bool)):=
 if (decide (a < (b.length:Int))) then (ob (ix b a) fun c=>
 ob (vA c) fun e=>
 if (!e) then (aBM a true) else (if (decide (0 < a)) then (ob (ix b (wr (a - 1))) fun d=>
 aBM a (wV c d||c == d)) else (aBM a false))) else (some (.inr (.inl ())))
def zN (b:(List aH)):Option Bool:=
 ob (loop (fun (s:Int)=>aBN b s) 0) fun r=>match r with|.inl r=>aGc b|.inr r=>some r
def iT:Option Int:=
 some (-1)
def bW (b:(List bA)) (a:Int):Option (Int ⊕ (Unit ⊕ Int)):=
 if (decide (a < (b.length:Int))) then (ob (ix b a) fun c=>
 ob (aBL c) fun d=>
 if d then (some (.inr (.inr a))) else (some (.inl (wr (a+1))))) else (some (.inr (.inl ())))
def gD (b:(List bA)):Option Int:=
 ob (loop (fun (s:Int)=>bW b s) 0) fun r=>match r with|.inl r=>iT|.inr r=>some r
def fL (a:(List bA)):Option Bool:=
 ob (gD a) fun b=>
 some (decide (0<=b))
def sE (a:Bool):Option Bool:=
 some a
def sF (n:aO) (b:Bool):Option Bool:=
 if b then (some false) else (ob (vE n.Meetings) fun c=>
 if c then (ob (zN n.Allowed) fun d=>
 if d then (ob (zN n.Hidden) fun e=>
 sE e) else (sE false)) else (sE false))
def mN (n:aO):Option Bool:=
 ob (wA (n.Parts.length:Int) 1 4) fun b=>
 if (!b) then (sF n true) else (ob (fL n.Parts) fun c=>
 sF n c)
def aDi (a b:aH):Option Int:=
 if (a == b) then (some 0) else (if (a == ([116,97,117]:aH)) then (some (-1)) else (if (b == ([116,97,117]:aH)) then (some 1) else (ob (aNg a b) fun e=>
 some e)))
def mO (a:(List Edge)):Option (List Edge):=
 some a
def dV (a:Int):Option (Int ⊕ (Unit ⊕ (List Edge))):=
 some (.inl (wr (a+1)))
def fM (a:List Edge) (b:Int):Option (Int ⊕ (Unit ⊕ (List Edge))):=
 ob (xT a b (a.length:Int)) fun c=>
 ob (ovw a b (List.replicate c.length (⟨0,0,0⟩:Edge))) fun d=>
 ob (xT d 0 b) fun e=>
 some (.inr (.inr e))
def dW (a:Int) (b:List Edge) (c:Int):Option ((List Edge × Int × Int) ⊕ (List Edge × Int)):=
 some (.inl (b,c,wr (a+1)))
def dX (f:Int) (e b:List Edge) (c a:Int):Option ((List Edge × Int × Int) ⊕ (List Edge × Int)):=
 if (decide (a < (e.length:Int))) then (ob (ix e a) fun i=>
 ob (ix b (f+a)) fun d=>
 ob (ix e (wr (a - 1))) fun j=>
 ob (ix b (f+(wr (a - 1)))) fun g=>
 if (!decide ((d:Edge)=g)) then (ob (ix b c) fun k=>
 ob (st b c (⟨d.F,d.B,d.To⟩:Edge)) fun h=>
 dW a h (wr (c+1))) else (dW a b c)) else (some (.inr (b,c)))
def bX (b:(List Edge)) (a:Int):Option (Int ⊕ (Unit ⊕ (List Edge))):=
 if (decide (a < (b.length:Int))) then (ob (ix b a) fun d=>
 ob (ix b (wr (a - 1))) fun e=>
 if (decide ((d:Edge)=e)) then (ob (xT b a (b.length:Int)) fun f=>
 ob (loop (fun (s:(List Edge × Int × Int))=>dX a f s.1 s.2.1 s.2.2) (b,a,1)) fun r=>fM r.1 r.2) else (dV a)) else (some (.inr (.inl ())))
def bS (a:(List Edge)):Option (List Edge):=
 if (decide ((a.length:Int) < 2)) then (some a) else (ob (loop (fun (s:Int)=>bX a s) 1) fun r=>match r with|.inl r=>mO a|.inr r=>some r)
def pL (a:(List aH)):Option (List aH):=
 some a
def iD (a:Int):Option (Int ⊕ (Unit ⊕ (List aH))):=
 some (.inl (wr (a+1)))
def iE (a:List aH) (b:Int):Option (Int ⊕ (Unit ⊕ (List aH))):=
 ob (xT a b (a.length:Int)) fun c=>
 ob (ovw a b (List.replicate c.length ([]:aH))) fun d=>
 ob (xT d 0 b) fun e=>
 some (.inr (.inr e))
def eZ (a:Int) (b:List aH) (c:Int):Option ((List aH × Int × Int) ⊕ (List aH × Int)):=
 some (.inl (b,c,wr (a+1)))
def fA (e:Int) (d b:List aH) (c a:Int):Option ((List aH × Int × Int) ⊕ (List aH × Int)):=
 if (decide (a < (d.length:Int))) then (ob (ix d a) fun i=>
 ob (ix b (e+a)) fun f=>
 ob (ix d (wr (a - 1))) fun j=>
 ob (ix b (e+(wr (a - 1)))) fun g=>
 if (!(f == g)) then (ob (ix b c) fun k=>
 ob (st b c (f:aH)) fun h=>
 eZ a h (wr (c+1))) else (eZ a b c)) else (some (.inr (b,c)))
def fB (b:(List aH)) (a:Int):Option (Int ⊕ (Unit ⊕ (List aH))):=
 if (decide (a < (b.length:Int))) then (ob (ix b a) fun d=>
 ob (ix b (wr (a - 1))) fun e=>
 if (d == e) then (ob (xT b a (b.length:Int)) fun f=>
 ob (loop (fun (s:(List aH × Int × Int))=>fA a f s.1 s.2.1 s.2.2) (b,a,1)) fun r=>iE r.1 r.2) else (iD a)) else (some (.inr (.inl ())))
def gB (a:(List aH)):Option (List aH):=
 if (decide ((a.length:Int) < 2)) then (some a) else (ob (loop (fun (s:Int)=>fB a s) 1) fun r=>match r with|.inl r=>pL a|.inr r=>some r)
def qH:Option Int:=
 some (-1)
def iU (b:(List aH)) (c:aH) (a:Int):Option (Int ⊕ (Unit ⊕ Int)):=
 if (decide (a < (b.length:Int))) then (ob (ix b a) fun d=>
 if (c == d) then (some (.inr (.inr a))) else (some (.inl (wr (a+1))))) else (some (.inr (.inl ())))
def fG (b:(List aH)) (c:aH):Option Int:=
 ob (loop (fun (s:Int)=>iU b c s) 0) fun r=>match r with|.inl r=>qH|.inr r=>some r
def aGY (a b:Int) (c:(List aH)) (d:List Edge):Option bA:=
 ob (nP d) fun e=>
 ob (bS e) fun f=>
 some ⟨a,b,c,f⟩
def aCR (c:(List cO)) (e:(List aH)) (d:List Edge) (a:Int):Option ((List Edge × Int) ⊕ (List Edge)):=
 if (decide (a < (c.length:Int))) then (ob (ix c a) fun b=>
 ob (fG e b.label) fun f=>
 ob (xQ d ([⟨b.from_,f,b.to_⟩]:List Edge)) fun g=>
 some (.inl (g,wr (a+1)))) else (some (.inr d))
def aFC (b c:Int) (d:(List aH)) (e:(List cO)):Option bA:=
 ob (xQ ([([116,97,117]:aH)]:List aH) d) fun f=>
 ob (aCm f) fun g=>
 ob (gB g) fun a=>
 ob (loop (fun (s:(List Edge × Int))=>aCR e a s.1 s.2) ([],0)) fun r=>aGY b c a r
def aIb (a:List aH):Option (List aH):=
 some a
def aCD (b:(List cO)) (c:List aH) (a:Int):Option ((List aH × Int) ⊕ (List aH)):=
 if (decide (a < (b.length:Int))) then (ob (ix b a) fun d=>
 ob (xQ c ([d.label]:List aH)) fun e=>
 some (.inl (e,wr (a+1)))) else (some (.inr c))
def yB (a:(List cO)):Option (List aH):=
 ob (loop (fun (s:(List aH × Int))=>aCD a s.1 s.2) ([],0)) fun r=>aIb r
def rC (a:(List Int)):Option aH:=
 ob (aFv a ([44]:aH)) fun b=>
 some b
def aGd (a:List Edge):Option (List Edge):=
 some a
def aBO (a:Int) (b:List Edge):Option ((List Edge × Int) ⊕ (List Edge)):=
 some (.inl (b,wr (a+1)))
def aBP (t:bA) (k:Int) (b:List Edge) (a:Int):Option ((List Edge × Int) ⊕ (List Edge)):=
 if (decide (a < (t.E.length:Int))) then (ob (ix t.E a) fun d=>
 if (d.F == k) then (ob (xQ b ([d]:List Edge)) fun f=>
 aBO a f) else (aBO a b)) else (some (.inr b))
def nR (t:bA) (k:Int):Option (List Edge):=
 ob (loop (fun (s:(List Edge × Int))=>aBP t k s.1 s.2) ([],0)) fun r=>aGd r
def pP (a:Bool):Option Bool:=
 some a
def tN (m:bK) (p c:aH):Option Bool:=
 if (m.Left == (mnS p c)) then (pP (m.Right == (mxS p c))) else (pP false)
def jO:Option Int:=
 some (-1)
def cL (b:(List bK)) (c d:aH) (a:Int):Option (Int ⊕ (Unit ⊕ Int)):=
 if (decide (a < (b.length:Int))) then (ob (ix b a) fun e=>
 ob (tN e c d) fun f=>
 if f then (some (.inr (.inr a))) else (some (.inl (wr (a+1))))) else (some (.inr (.inl ())))
def cU (b:(List bK)) (c d:aH):Option Int:=
 ob (loop (fun (s:Int)=>cL b c d s) 0) fun r=>match r with|.inl r=>jO|.inr r=>some r
def zO (c:aNY) (a b:aH):Option (aH × Bool):=
 ob (cU c.Meetings a b) fun d=>
 if (decide (d < 0)) then (some (([]:aH),false)) else (ob (ix c.Meetings d) fun g=>
 some (g.Result,true))
def sG:Option Bool:=
 some true
def jW (b c:(List Int)) (a:Int):Option (Int ⊕ (Unit ⊕ Bool)):=
 if (decide (a < (b.length:Int))) then (ob (ix b a) fun d=>
 ob (ix c a) fun e=>
 if (d != e) then (some (.inr (.inr false))) else (some (.inl (wr (a+1))))) else (some (.inr (.inl ())))
def cR (b c:(List Int)):Option Bool:=
 if ((b.length:Int) != (c.length:Int)) then (some false) else (ob (loop (fun (s:Int)=>jW b c s) 0) fun r=>match r with|.inl r=>sG|.inr r=>some r)
def oX (b:(aH × (List Int) × Bool)) (c:(aH × Bool)) (d:Bool):Option (aH × Bool):=
 if d then (some (([]:aH),false)) else (ob (aCn c.1 b.2.1) fun a=>
 some (a.1,a.2))
def lX (n:aO) (a b:aH):Option (aH × Bool):=
 ob (mV a) fun c=>
 ob (mV b) fun e=>
 ob (zO ⟨[],[],n.Meetings,[],[]⟩ c.1 e.1) fun d=>
 if (!d.2) then (oX c d true) else (ob (cR c.2.1 e.2.1) fun i=>
 oX c d (!i))
def aNj (a:List Int):Option (List Int):=
 some a
def aCr (n:Int) (b:List Int) (a:Int):Option ((List Int × Int) ⊕ (List Int)):=
 if (decide (a < n)) then (ob (xQ b ([a]:List Int)) fun d=>
 some (.inl (d,wr (a+1)))) else (some (.inr b))
def aDj (n:Int):Option (List Int):=
 ob (loop (fun (s:(List Int × Int))=>aCr n s.1 s.2) ([],0)) fun r=>aNj r
def iV (a b:(List Int)):Option Int:=
 if (decide ((a.length:Int) < (b.length:Int))) then (some (-1)) else (some 0)
def cV (b c:(List Int)) (a:Int):Option (Int ⊕ (Unit ⊕ Int)):=
 if (decide (a < (b.length:Int))) then (ob (ix b a) fun e=>
 if (decide ((c.length:Int)<=a)) then (some (.inr (.inr 1))) else (ob (ix c a) fun f=>
 ob (fO e f) fun d=>
 if (d != 0) then (some (.inr (.inr d))) else (some (.inl (wr (a+1)))))) else (some (.inr (.inl ())))
def fH (b c:(List Int)):Option Int:=
 ob (loop (fun (s:Int)=>cV b c s) 0) fun r=>match r with|.inl r=>iV b c|.inr r=>some r
def sH:Option Int:=
 some (-1)
def jX (b:(List Int)) (c a:Int):Option (Int ⊕ (Unit ⊕ Int)):=
 if (decide (a < (b.length:Int))) then (ob (ix b a) fun d=>
 if (c == d) then (some (.inr (.inr a))) else (some (.inl (wr (a+1))))) else (some (.inr (.inl ())))
def bP (b:(List Int)) (c:Int):Option Int:=
 ob (loop (fun (s:Int)=>jX b c s) 0) fun r=>match r with|.inl r=>sH|.inr r=>some r
def wQ (k:Int) (p:(List Int)):Option Int:=
 ob (bP p k) fun c=>
 some c
def bO (a:(List aH)):Option (List aH):=
 ob (xQ ([]:List aH) a) fun b=>
 some b
def aAv (a:(List Int)) (b:Int) (c:List aH) (d:List Edge):Option bA:=
 ob (nP d) fun e=>
 some ⟨(a.length:Int),b,c,e⟩
def mI (a:Int) (b:List Edge):Option ((List Edge × Int) ⊕ (List Edge)):=
 some (.inl (b,wr (a+1)))
def oB (a:List Edge) (b:Int) (c:Edge) (d e:Int) (f:Bool):Option ((List Edge × Int) ⊕ (List Edge)):=
 if f then (ob (xQ a ([⟨d,c.B,e⟩]:List Edge)) fun g=>
 mI b g) else (mI b a)
def mJ (t:bA) (g:(List Int)) (c:List Edge) (a:Int):Option ((List Edge × Int) ⊕ (List Edge)):=
 if (decide (a < (t.E.length:Int))) then (ob (ix t.E a) fun b=>
 ob (wQ b.F g) fun d=>
 ob (wQ b.To g) fun e=>
 if (decide (0<=d)) then (oB c a b d e (decide (0<=e))) else (oB c a b d e false)) else (some (.inr c))
def aAw (t:bA) (a:(List Int)) (c:Int) (d:List aH):Option bA:=
 ob (loop (fun (s:(List Edge × Int))=>mJ t a s.1 s.2) ([],0)) fun r=>aAv a c d r
def vF (t:bA) (b:(List Int)):Option bA:=
 ob (wQ t.I b) fun c=>
 ob (bO t.L) fun d=>
 aAw t b c d
def oI (a:aH):Option aH:=
 ob (mV a) fun b=>
 some b.1
def cW (a:(List aH)) (b:aH):Option Bool:=
 ob (fG a b) fun c=>
 some (decide (0<=c))
def aAI (n:aO) (a:aH):Option (aH × Bool):=
 ob (oI a) fun c=>
 if (a == ([116,97,117]:aH)) then (some (([116,97,117]:aH),true)) else (ob (cW n.Allowed c) fun d=>
 if (!d) then (some (([]:aH),false)) else (ob (cW n.Hidden c) fun e=>
 if e then (some (([116,97,117]:aH),true)) else (some (a,true))))
def nS (a:Int) (b:List (List Int)) (c:(List (aH × Int))):Option (Int × (List (List Int)) × (List (aH × Int))):=
 some (a,b,c)
def dP (a:(List (List Int))) (b:(List (aH × Int))) (g:(List cO)) (d:(List Int)):Option (Int × (List (List Int)) × (List (aH × Int))):=
 ob (rC d) fun c=>
 if (!((aAl b c).isSome)) then (ob (some (aDA b c (a.length:Int))) fun e=>
 ob (xQ a ([d]:List (List Int))) fun f=>
 nS (a.length:Int) f e) else (nS ((aAl b c).getD 0) a b)
def bY (a:(List Int)):Option (List Int):=
 ob (xQ ([]:List Int) a) fun b=>
 some b
def kG (i k:Int) (p:(List Int)):Option (List Int):=
 ob (bY p) fun b=>
 ob (ix b i) fun f=>
 ob (st b i (k:Int)) fun e=>
 some e
def aAc (a:List (List Int)) (b:(List (aH × Int))) (c:List cO):Option ((List (List Int)) × (List (aH × Int)) × (List cO)):=
 some (a,b,c)
def kT (c:aH) (d:(List Int)) (e:(List (List Int))) (f:(List (aH × Int))) (b:(List cO)) (p:Int):Option ((List (List Int)) × (List (aH × Int)) × (List cO)):=
 ob (dP e f b d) fun a=>
 ob (xQ b ([⟨p,c,a.1⟩]:List cO)) fun h=>
 aAc a.2.1 a.2.2 h
def jK (f:aH) (g:(List Int)) (h:aO) (b:(List (List Int))) (c:(List (aH × Int))) (d:(List cO)) (i:Int):Option ((List (List Int)) × (List (aH × Int)) × (List cO)):=
 ob (aAI h f) fun e=>
 if e.2 then (ob (kT e.1 g b c d i) fun a=>
 some (a.1,a.2.1,a.2.2)) else (some (b,c,d))
def aAT (a:List (List Int)) (b:(List (aH × Int))) (c:List cO):Option ((List (List Int)) × (List (aH × Int)) × (List cO)):=
 some (a,b,c)
def vG (a:Int) (b:List (List Int)) (c:(List (aH × Int))) (d:List cO):Option ((Int × List (List Int) × (List (aH × Int)) × List cO) ⊕ (List (List Int) × (List (aH × Int)) × List cO)):=
 some (.inl (wr (a+1),b,c,d))
def vH (a:Int) (b:List (List Int)) (c:(List (aH × Int))) (d:List cO):Option ((Int × List (List Int) × (List (aH × Int)) × List cO) ⊕ (List (List Int) × (List (aH × Int)) × List cO)):=
 vG a b c d
def vI (a:Int) (b:List (List Int)) (c:(List (aH × Int))) (d:List cO):Option ((Int × List (List Int) × (List (aH × Int)) × List cO) ⊕ (List (List Int) × (List (aH × Int)) × List cO)):=
 some (.inl (wr (a+1),b,c,d))
def qI (a:Int) (b:List (List Int)) (c:(List (aH × Int))) (d:List cO):Option ((Int × List (List Int) × (List (aH × Int)) × List cO) ⊕ (List (List Int) × (List (aH × Int)) × List cO)):=
 vI a b c d
def vJ (a:Int) (b:List (List Int)) (c:(List (aH × Int))) (d:List cO):Option ((Int × List (List Int) × (List (aH × Int)) × List cO) ⊕ (List (List Int) × (List (aH × Int)) × List cO)):=
 some (.inl (wr (a+1),b,c,d))
def vK (a:Int) (b:List (List Int)) (c:(List (aH × Int))) (d:List cO):Option ((Int × List (List Int) × (List (aH × Int)) × List cO) ⊕ (List (List Int) × (List (aH × Int)) × List cO)):=
 vJ a b c d
def nT (a:Int) (b:List (List Int)) (c:(List (aH × Int))) (d:List cO):Option ((Int × List (List Int) × (List (aH × Int)) × List cO) ⊕ (List (List Int) × (List (aH × Int)) × List cO)):=
 some (.inl (wr (a+1),b,c,d))
def kH (n:aO) (l:(List Int)) (m:aO) (o p:Int) (q:Edge) (r:aH) (f:Int) (s:bA) (g:(List Edge)) (a:Int) (b:List (List Int)) (c:(List (aH × Int))) (d:List cO):Option ((Int × List (List Int) × (List (aH × Int)) × List cO) ⊕ (List (List Int) × (List (aH × Int)) × List cO)):=
 if (decide (a < (g.length:Int))) then (ob (ix g a) fun h=>
 ob (ix s.L h.B) fun t=>
 ob (lX n r t) fun i=>
 if i.2 then (ob (kG p q.To l) fun j=>
 ob (ix j f) fun v=>
 ob (st j f (h.To:Int)) fun u=>
 ob (jK i.1 u m b c d o) fun e=>
 nT a e.1 e.2.1 e.2.2) else (nT a b c d)) else (some (.inr (b,c,d)))
def jP (n:aO) (d:(List Int)) (i:aO) (j k:Int) (l:Edge) (m:aH) (a:Int) (e:List (List Int)) (f:(List (aH × Int))) (g:List cO):Option ((Int × List (List Int) × (List (aH × Int)) × List cO) ⊕ (List (List Int) × (List (aH × Int)) × List cO)):=
 if (decide (a < (n.Parts.length:Int))) then (ob (ix n.Parts a) fun h=>
 ob (ix d a) fun o=>
 ob (nR h o) fun p=>
 ob (loop (fun (s:(Int × List (List Int) × (List (aH × Int)) × List cO))=>kH n d i j k l m a h p s.1 s.2.1 s.2.2.1 s.2.2.2) (0,e,f,g)) fun r=>vK a r.1 r.2.1 r.2.2) else (some (.inr (e,f,g)))
def jQ (n:aO) (f:(List Int)) (g:aO) (h a:Int) (p:bA) (i:(List Edge)) (b:Int) (j:List (List Int)) (k:(List (aH × Int))) (l:List cO):Option ((Int × List (List Int) × (List (aH × Int)) × List cO) ⊕ (List (List Int) × (List (aH × Int)) × List cO)):=
 if (decide (b < (i.length:Int))) then (ob (ix i b) fun c=>
 ob (ix p.L c.B) fun m=>
 ob (kG a c.To f) fun q=>
 ob (jK m q g j k l h) fun d=>
 ob (loop (fun (s:(Int × List (List Int) × (List (aH × Int)) × List cO))=>jP n f g h a c m s.1 s.2.1 s.2.2.1 s.2.2.2) (wr (a+1),d.1,d.2.1,d.2.2)) fun r=>qI b r.1 r.2.1 r.2.2) else (some (.inr (j,k,l)))
def jR (n:aO) (d:(List Int)) (i:aO) (j a:Int) (e:List (List Int)) (f:(List (aH × Int))) (g:List cO):Option ((Int × List (List Int) × (List (aH × Int)) × List cO) ⊕ (List (List Int) × (List (aH × Int)) × List cO)):=
 if (decide (a < (n.Parts.length:Int))) then (ob (ix n.Parts a) fun h=>
 ob (ix d a) fun k=>
 ob (nR h k) fun l=>
 ob (loop (fun (s:(Int × List (List Int) × (List (aH × Int)) × List cO))=>jQ n d i j a h l s.1 s.2.1 s.2.2.1 s.2.2.2) (0,e,f,g)) fun r=>vH a r.1 r.2.1 r.2.2) else (some (.inr (e,f,g)))
def wB (n:aO) (c:(List Int)) (d:aO) (e:(List (List Int))) (f:(List (aH × Int))) (g:(List cO)) (h:Int):Option ((List (List Int)) × (List (aH × Int)) × (List cO)):=
 ob (loop (fun (s:(Int × List (List Int) × (List (aH × Int)) × List cO))=>jR n c d h s.1 s.2.1 s.2.2.1 s.2.2.2) (0,e,f,g)) fun r=>aAT r.1 r.2.1 r.2.2
def rD (b:(List Int)) (c:(List (List Int))) (d:(List (aH × Int))) (e:(List cO)) (f:Int) (p h:aO):Option (Bool × (List (List Int)) × (List (aH × Int)) × (List cO)):=
 ob (wB p b h c d e f) fun a=>
 some (true,a.1,a.2.1,a.2.2)
def pQ (e:List (List Int)) (a b:Int) (c:List aH) (d:List Edge):Option (bA × (List (List Int)) × Bool):=
 ob (pC ⟨a,b,c,d⟩) fun f=>
 some (⟨a,b,c,d⟩,e,f)
def mP (b:List (List Int)) (e:(List (aH × Int))) (c:List cO):Option (bA × (List (List Int)) × Bool):=
 ob (yB c) fun d=>
 ob (aFC (b.length:Int) 0 d c) fun a=>
 pQ b a.N a.I a.L a.E
def mQ (b:Int) (a:(Bool × (List (List Int)) × (List (aH × Int)) × (List cO))) (c:Bool):Option ((List (List Int) × (List (aH × Int)) × List cO × Int) ⊕ ((List (List Int) × (List (aH × Int)) × List cO) ⊕ (bA × (List (List Int)) × Bool))):=
 if c then (some (.inr (.inr (⟨0,0,[],[]⟩,[],false)))) else (some (.inl (a.2.1,a.2.2.1,a.2.2.2,wr (b+1))))
def dY (f g:aO) (b:List (List Int)) (d:(List (aH × Int))) (e:List cO) (a:Int):Option ((List (List Int) × (List (aH × Int)) × List cO × Int) ⊕ ((List (List Int) × (List (aH × Int)) × List cO) ⊕ (bA × (List (List Int)) × Bool))):=
 if (decide (a < (b.length:Int))) then (ob (ix b a) fun h=>
 ob (rD h b d e a f g) fun c=>
 if (!c.1) then (mQ a c true) else (mQ a c (decide (40 < (c.2.1.length:Int))))) else (some (.inr (.inl (b,d,e))))
def pM (c:(List Int)) (d e:aO):Option (bA × (List (List Int)) × Bool):=
 ob (dP [] ([]:(List (aH × Int))) [] c) fun b=>
 ob (loop (fun (s:(List (List Int) × (List (aH × Int)) × List cO × Int))=>dY d e s.1 s.2.1 s.2.2.1 s.2.2.2) (b.2.1,b.2.2,[],0)) fun r=>match r with|.inl r=>mP r.1 r.2.1 r.2.2|.inr r=>some r
def rE (a:(bA × (List (List Int)) × Bool)) (b:(List Int)) (c:List (List Int)):Option (bA × (List (List Int)) × Bool):=
 ob (vF a.1 b) fun d=>
 some (d,c,true)
def lE (d:(bA × (List (List Int)) × Bool)) (b:(List Int)) (c:List (List Int)) (a:Int):Option ((List (List Int) × Int) ⊕ (List (List Int))):=
 if (decide (a < (b.length:Int))) then (ob (ix b a) fun e=>
 ob (ix d.2.1 e) fun f=>
 ob (xQ c ([f]:List (List Int))) fun g=>
 some (.inl (g,wr (a+1)))) else (some (.inr c))
def rF (n d:aO) (e:List Int):Option (bA × (List (List Int)) × Bool):=
 ob (pM e n d) fun a=>
 if (!a.2.2) then (some (⟨0,0,[],[]⟩,[],false)) else (ob (aDj a.1.N) fun f=>
 ob (wM f a.2.1) fun b=>
 ob (loop (fun (s:(List (List Int) × Int))=>lE a b s.1 s.2) ([],0)) fun r=>rE a b r)
def nI (n:aO) (c:List Int) (a:Int):Option ((List Int × Int) ⊕ (List Int)):=
 if (decide (a < (n.Parts.length:Int))) then (ob (ix n.Parts a) fun d=>
 ob (xQ c ([d.I]:List Int)) fun e=>
 some (.inl (e,wr (a+1)))) else (some (.inr c))
def qJ (n b:aO):Option (bA × (List (List Int)) × Bool):=
 ob (loop (fun (s:(List Int × Int))=>nI n s.1 s.2) ([],0)) fun r=>rF n b r
def qB (n:aO):Option (bA × (List (List Int)) × Int):=
 ob (mN n) fun c=>
 if (!c) then (some (⟨0,0,[],[]⟩,[],1)) else (ob (qJ n n) fun b=>
 if (!b.2.2) then (some (⟨0,0,[],[]⟩,[],5)) else (some (b.1,b.2.1,0)))
def qK (a:(List Int)):Option (List Int):=
 some a
def iW (a:Int):Option (Int ⊕ (Unit ⊕ (List Int))):=
 some (.inl (wr (a+1)))
def iX (a:List Int) (b:Int):Option (Int ⊕ (Unit ⊕ (List Int))):=
 ob (xT a b (a.length:Int)) fun c=>
 ob (ovw a b (List.replicate c.length (0:Int))) fun d=>
 ob (xT d 0 b) fun e=>
 some (.inr (.inr e))
def fU (a:Int) (b:List Int) (c:Int):Option ((List Int × Int × Int) ⊕ (List Int × Int)):=
 some (.inl (b,c,wr (a+1)))
def fV (e:Int) (d b:List Int) (c a:Int):Option ((List Int × Int × Int) ⊕ (List Int × Int)):=
 if (decide (a < (d.length:Int))) then (ob (ix d a) fun i=>
 ob (ix b (e+a)) fun f=>
 ob (ix d (wr (a - 1))) fun j=>
 ob (ix b (e+(wr (a - 1)))) fun g=>
 if (f != g) then (ob (ix b c) fun k=>
 ob (st b c (f:Int)) fun h=>
 fU a h (wr (c+1))) else (fU a b c)) else (some (.inr (b,c)))
def fW (b:(List Int)) (a:Int):Option (Int ⊕ (Unit ⊕ (List Int))):=
 if (decide (a < (b.length:Int))) then (ob (ix b a) fun d=>
 ob (ix b (wr (a - 1))) fun e=>
 if (d == e) then (ob (xT b a (b.length:Int)) fun f=>
 ob (loop (fun (s:(List Int × Int × Int))=>fV a f s.1 s.2.1 s.2.2) (b,a,1)) fun r=>iX r.1 r.2) else (iW a)) else (some (.inr (.inl ())))
def dK (a:(List Int)):Option (List Int):=
 if (decide ((a.length:Int) < 2)) then (some a) else (ob (loop (fun (s:Int)=>fW a s) 1) fun r=>match r with|.inl r=>qK a|.inr r=>some r)
def aES (a:(List Int)):Option (List Int):=
 ob (bY a) fun b=>
 ob (tU b) fun c=>
 ob (dK c) fun d=>
 some d
def aDN (a:Bool):Option Bool:=
 some a
def aFD (a:(List Int)) (n:Int):Option Bool:=
 ob (aES a) fun c=>
 ob (aDj n) fun d=>
 ob (cR c d) fun e=>
 if e then (aDN ((a.length:Int) == n)) else (aDN false)
def sZ (a:Int):Option Bool:=
 ob (wA a 0 2) fun b=>
 some b
def cY (a:(List bK)):Option (List bK):=
 ob (xQ ([]:List bK) a) fun b=>
 some b
def qL (n:aO) (b:(List bA)):Option aO:=
 ob (cY n.Meetings) fun c=>
 ob (bO n.Allowed) fun d=>
 ob (bO n.Hidden) fun e=>
 some ⟨b,c,d,e⟩
def rG (a:Bool):Option Bool:=
 some a
def vL (m:bK) (p:aH):Option Bool:=
 if (m.Left == p) then (rG true) else (rG (m.Right == p))
def fC:Option Int:=
 some (-1)
def cM (b:(List bK)) (c:aH) (a:Int):Option (Int ⊕ (Unit ⊕ Int)):=
 if (decide (a < (b.length:Int))) then (ob (ix b a) fun d=>
 ob (vL d c) fun e=>
 if e then (some (.inr (.inr a))) else (some (.inl (wr (a+1))))) else (some (.inr (.inl ())))
def dZ (b:(List bK)) (c:aH):Option Int:=
 ob (loop (fun (s:Int)=>cM b c s) 0) fun r=>match r with|.inl r=>fC|.inr r=>some r
def fD (a:(List bK)) (b:aH):Option Bool:=
 ob (dZ a b) fun c=>
 some (decide (0<=c))
def rU (n:aO) (b:aH):Option Bool:=
 ob (fD n.Meetings b) fun c=>
 some c
def aIc (a:List cO):Option (List cO):=
 some a
def aAx (t:bA) (d:List cO) (b:Int):Option ((List cO × Int) ⊕ (List cO)):=
 if (decide (b < (t.E.length:Int))) then (ob (ix t.E b) fun c=>
 ob (ix t.L c.B) fun e=>
 ob (xQ d ([⟨c.F,e,c.To⟩]:List cO)) fun f=>
 some (.inl (f,wr (b+1)))) else (some (.inr d))
def yC (t:bA):Option (List cO):=
 ob (loop (fun (s:(List cO × Int))=>aAx t s.1 s.2) ([],0)) fun r=>aIc r
def zQ (t:bA):Option bA:=
 ob (yC t) fun b=>
 ob (yB b) fun c=>
 ob (aFC t.N t.I c b) fun d=>
 some d
def iQ (a:Bool):Option Bool:=
 some a
def kI (e:Edge) (p:bA) (b:aO):Option Bool:=
 ob (ix p.L e.B) fun f=>
 ob (oI f) fun c=>
 if (e.B == 0) then (iQ true) else (ob (cW b.Allowed c) fun g=>
 if g then (iQ true) else (ob (rU b c) fun h=>
 iQ h))
def aCs (t:bA) (b:List Edge):Option bA:=
 some ⟨t.N,t.I,t.L,b⟩
def uC (a:Int) (b:List Edge):Option ((List Edge × Int) ⊕ (List Edge)):=
 some (.inl (b,wr (a+1)))
def qC (t e:bA) (f:aO) (b:List Edge) (a:Int):Option ((List Edge × Int) ⊕ (List Edge)):=
 if (decide (a < (t.E.length:Int))) then (ob (ix t.E a) fun d=>
 ob (kI d e f) fun g=>
 if g then (ob (xQ b ([d]:List Edge)) fun h=>
 uC a h) else (uC a b)) else (some (.inr b))
def aAy (t b:bA) (c:aO):Option bA:=
 ob (loop (fun (s:(List Edge × Int))=>qC t b c s.1 s.2) ([],0)) fun r=>aCs t r
def iR (a:aH) (b:Bool):Option aH:=
 if b then (some ([116,97,117]:aH)) else (some a)
def iH (a:aH) (p:aO):Option aH:=
 ob (oI a) fun c=>
 ob (cW p.Allowed c) fun d=>
 if d then (ob (cW p.Hidden c) fun e=>
 if e then (ob (rU p c) fun f=>
 iR a (!f)) else (iR a false)) else (iR a false)
def aCt (t:bA) (b:List aH) (c:List cO):Option bA:=
 ob (aFC t.N t.I b c) fun d=>
 some d
def lY (d:aO) (e:(List cO)) (b:List cO) (a:Int):Option ((List cO × Int) ⊕ (List cO)):=
 if (decide (a < (e.length:Int))) then (ob (ix b a) fun c=>
 ob (iH c.label d) fun f=>
 ob (st b a (⟨c.from_,f,c.to_⟩:cO)) fun g=>
 some (.inl (g,wr (a+1)))) else (some (.inr b))
def zU (t:bA) (c:aO) (d:List aH):Option bA:=
 ob (yC t) fun b=>
 ob (loop (fun (s:(List cO × Int))=>lY c b s.1 s.2) (b,0)) fun r=>aCt t d r
def uD (t:bA) (d:aO) (c:List aH) (a:Int):Option ((List aH × Int) ⊕ (List aH)):=
 if (decide (a < (t.L.length:Int))) then (ob (ix t.L a) fun e=>
 ob (iH e d) fun f=>
 ob (xQ c ([f]:List aH)) fun g=>
 some (.inl (g,wr (a+1)))) else (some (.inr c))
def aCE (t:bA) (b:aO):Option bA:=
 ob (loop (fun (s:(List aH × Int))=>uD t b s.1 s.2) ([],0)) fun r=>zU t b r
def lZ (t:bA) (p:aO):Option bA:=
 ob (aAy t t p) fun c=>
 ob (aCE c p) fun d=>
 ob (zQ d) fun e=>
 some e
def wY (n:aO) (b:List bA):Option aO:=
 ob (qL n b) fun c=>
 some c
def gZ (n d:aO) (c:List bA) (a:Int):Option ((List bA × Int) ⊕ (List bA)):=
 if (decide (a < (n.Parts.length:Int))) then (ob (ix n.Parts a) fun e=>
 ob (lZ e d) fun f=>
 ob (xQ c ([f]:List bA)) fun g=>
 some (.inl (g,wr (a+1)))) else (some (.inr c))
def vM (n b:aO):Option aO:=
 ob (loop (fun (s:(List bA × Int))=>gZ n b s.1 s.2) ([],0)) fun r=>wY n r
def kJ (n:aO):Option aO:=
 ob (vM n n) fun b=>
 some b
def gU (a:(List Edge)):Option (List Edge):=
 ob (xQ ([]:List Edge) a) fun b=>
 some b
def aBh (t:bA):Option bA:=
 ob (bO t.L) fun b=>
 ob (gU t.E) fun c=>
 some ⟨t.N,t.I,b,c⟩
def pD (a:(List (List Int))):Option (List Int):=
 ob (ix a (wr ((a.length:Int) - 1))) fun b=>
 some b
def aFE (n:Int):Option (List Int):=
 ob (mkz n (0:Int)) fun b=>
 some b
def aKp (a:List Int):Option (List Int):=
 some a
def aCS (b:List Int) (a:Int) (c:(List (Int × Int))) (d:Int):Option (((List (Int × Int)) × List Int × Int) ⊕ (List Int)):=
 ob (ix b a) fun f=>
 ob (st b a (d:Int)) fun e=>
 some (.inl (c,e,wr (a+1)))
def uT (e:(List Int)) (a:(List (Int × Int))) (c:List Int) (b:Int):Option (((List (Int × Int)) × List Int × Int) ⊕ (List Int)):=
 if (decide (b < (e.length:Int))) then (ob (ix e b) fun d=>
 if (!((aAl a d).isSome)) then (ob (some (aDA a d (a.length:Int))) fun f=>
 aCS c b f (a.length:Int)) else (aCS c b a ((aAl a d).getD 0))) else (some (.inr c))
def aGZ (a:(List Int)):Option (List Int):=
 ob (mkz (a.length:Int) (0:Int)) fun b=>
 ob (loop (fun (s:((List (Int × Int)) × List Int × Int))=>uT a s.1 s.2.1 s.2.2) (([]:(List (Int × Int))),b,0)) fun r=>aKp r
def aDk (k p:(List Int)):Option Bool:=
 ob (cR k p) fun c=>
 some c
def nJ:Option Int:=
 some (-1)
def cP (b:(List (List Int))) (c:(List Int)) (a:Int):Option (Int ⊕ (Unit ⊕ Int)):=
 if (decide (a < (b.length:Int))) then (ob (ix b a) fun d=>
 ob (aDk d c) fun e=>
 if e then (some (.inr (.inr a))) else (some (.inl (wr (a+1))))) else (some (.inr (.inl ())))
def eR (b:(List (List Int))) (c:(List Int)):Option Int:=
 ob (loop (fun (s:Int)=>cP b c s) 0) fun r=>match r with|.inl r=>nJ|.inr r=>some r
def aDl (a:List Int):Option (List Int):=
 ob (aGZ a) fun b=>
 some b
def aAJ (a:List Int) (b c:Int):Option ((List Int × Int) ⊕ (List Int)):=
 ob (xQ a ([c]:List Int)) fun d=>
 some (.inl (d,wr (b+1)))
def mX (b:(List (List Int))) (c:List Int) (a:Int):Option ((List Int × Int) ⊕ (List Int)):=
 if (decide (a < (b.length:Int))) then (ob (ix b a) fun e=>
 ob (xT b 0 a) fun f=>
 ob (eR f e) fun d=>
 if (decide (d < 0)) then (aAJ c a a) else (aAJ c a d)) else (some (.inr c))
def zV (a:(List (List Int))):Option (List Int):=
 ob (loop (fun (s:(List Int × Int))=>mX a s.1 s.2) ([],0)) fun r=>aDl r
def wZ (a:Bool):Option Bool:=
 some a
def qM (e:Edge) (p:(List Int)):Option Bool:=
 if (e.B == 0) then (ob (ix p e.F) fun c=>
 ob (ix p e.To) fun d=>
 wZ (c == d)) else (wZ false)
def aId (t:bA) (b:List Edge):Option bA:=
 some ⟨t.N,t.I,t.L,b⟩
def aAz (a:Int) (b:List Edge):Option ((List Edge × Int) ⊕ (List Edge)):=
 some (.inl (b,wr (a+1)))
def wR (t:bA) (e:(List Int)) (b:List Edge) (a:Int):Option ((List Edge × Int) ⊕ (List Edge)):=
 if (decide (a < (t.E.length:Int))) then (ob (ix t.E a) fun d=>
 ob (qM d e) fun f=>
 if f then (ob (xQ b ([d]:List Edge)) fun g=>
 aAz a g) else (aAz a b)) else (some (.inr b))
def aGe (t:bA) (b:(List Int)):Option bA:=
 ob (loop (fun (s:(List Edge × Int))=>wR t b s.1 s.2) ([],0)) fun r=>aId t r
def rV (t:bA) (p:(List Int)):Option bA:=
 ob (aGe t p) fun c=>
 some c
def kB (a:List Bool):Option (List Bool):=
 some a
def kC (a:List Bool) (b:Int):Option ((List Bool × Int) ⊕ (List Bool)):=
 if (decide (b < (a.length:Int))) then (ob (xT a b (a.length:Int)) fun d=>
 ob (xT a 0 b) fun c=>
 ob (ovw a b (List.take (Nat.min c.length d.length) c)) fun e=>
 some (.inl (e,wr (b+((Nat.min c.length d.length):Int))))) else (some (.inr a))
def kD (a:(List Bool)) (c:(Int × Int)):Option (List Bool):=
 ob (mkz (wr c.2) (false:Bool)) fun b=>
 ob (ovw b 0 (List.take (Nat.min a.length b.length) a)) fun d=>
 ob (loop (fun (s:(List Bool × Int))=>kC s.1 s.2) (d,((Nat.min a.length b.length):Int))) fun r=>kB r
def gX (a:(List Bool)) (b:(Int × Int)) (c:Bool):Option (List Bool):=
 if c then (none) else (kD a b)
def kE (b:(List Bool)) (c:Int):Option (List Bool):=
 ob (aKj (mK (b.length:Int)) (mK c)) fun a=>
 if (decide (0 < a.1)) then (gX b a true) else (gX b a (decide (9223372036854775807 < a.2)))
def gH (b:(List Bool)) (a:Int):Option (List Bool):=
 if (decide (a < 0)) then (none) else (kE b a)
def xA (a:Bool):Option Bool:=
 some a
def qN (e:Edge) (p:(List Bool)):Option Bool:=
 if (e.B == 0) then (ob (ix p e.To) fun c=>
 xA c) else (xA false)
def mA:Option Int:=
 some (-1)
def dO (b:(List Edge)) (c:(List Bool)) (a:Int):Option (Int ⊕ (Unit ⊕ Int)):=
 if (decide (a < (b.length:Int))) then (ob (ix b a) fun d=>
 ob (qN d c) fun e=>
 if e then (some (.inr (.inr a))) else (some (.inl (wr (a+1))))) else (some (.inr (.inl ())))
def fR (b:(List Edge)) (c:(List Bool)):Option Int:=
 ob (loop (fun (s:Int)=>dO b c s) 0) fun r=>match r with|.inl r=>mA|.inr r=>some r
def eS (a:(List Edge)) (b:(List Bool)):Option Bool:=
 ob (fR a b) fun c=>
 some (decide (0<=c))
def aEk (a:List Bool):Option (List Bool):=
 some a
def aAU (a:List Bool) (b:Bool):Option ((List Bool × Bool) ⊕ (List Bool)):=
 some (.inl (a,b))
def aEl (a:List Bool) (b:Bool):Option ((List Bool × Bool) ⊕ (List Bool)):=
 aAU a b
def lP (a:Int) (b:List Bool) (c:Bool):Option ((List Bool × Bool × Int) ⊕ (List Bool × Bool)):=
 some (.inl (b,c,wr (a+1)))
def iY (b:List Bool) (c:Bool) (a:Int) (d:Bool):Option ((List Bool × Bool × Int) ⊕ (List Bool × Bool)):=
 if d then (ob (ix b a) fun f=>
 ob (st b a (false:Bool)) fun e=>
 lP a e true) else (lP a b c)
def iZ (t:bA) (e a:List Bool) (c:Bool) (b:Int):Option ((List Bool × Bool × Int) ⊕ (List Bool × Bool)):=
 if (decide (b < (e.length:Int))) then (ob (nR t b) fun f=>
 ob (eS f a) fun g=>
 ob (ix a b) fun h=>
 if h then (iY a c b (!g)) else (iY a c b false)) else (some (.inr (a,c)))
def nU (t:bA) (a:List Bool) (d:Bool):Option ((List Bool × Bool) ⊕ (List Bool)):=
 if d then (ob (loop (fun (s:(List Bool × Bool × Int))=>iZ t a s.1 s.2.1 s.2.2) (a,false,0)) fun r=>aEl r.1 r.2) else (some (.inr a))
def mY (t:bA):Option (List Bool):=
 ob (gH ([true]:List Bool) t.N) fun b=>
 ob (loop (fun (s:(List Bool × Bool))=>nU t s.1 s.2) (b,true)) fun r=>aEk r
def dF (a:(List Int)) (b:Int):Option Bool:=
 ob (bP a b) fun c=>
 some (decide (0<=c))
def aAK (a:List Int):Option (List Int):=
 ob (tU a) fun b=>
 ob (dK b) fun c=>
 some c
def wC (a:Int) (b:List Int):Option ((List Int × Int) ⊕ (List Int)):=
 some (.inl (b,wr (a+1)))
def aAL (a:List Int) (b:Int) (c:Edge) (d:Bool):Option ((List Int × Int) ⊕ (List Int)):=
 if d then (ob (xQ a ([c.To]:List Int)) fun e=>
 wC b e) else (wC b a)
def wD (t:bA) (e:(List Int)) (f:aH) (d:List Int) (a:Int):Option ((List Int × Int) ⊕ (List Int)):=
 if (decide (a < (t.E.length:Int))) then (ob (ix t.E a) fun b=>
 ob (ix t.L b.B) fun g=>
 if (g == f) then (ob (dF e b.F) fun h=>
 aAL d a b h) else (aAL d a b false)) else (some (.inr d))
def aBQ (t:bA) (b:(List Int)) (c:aH):Option (List Int):=
 ob (loop (fun (s:(List Int × Int))=>wD t b c s.1 s.2) ([],0)) fun r=>aAK r
def xK (a:List Int):Option (List Int):=
 ob (tU a) fun b=>
 some b
def xL (a:Int) (b:List Int):Option ((List Int × Int) ⊕ (List Int)):=
 some (.inl (b,wr (a+1)))
def aBR (a:Int) (b:List Int):Option ((List Int × Int) ⊕ (List Int)):=
 xL a b
def sI (a:Int) (b:List Int):Option ((List Int × Int) ⊕ (List Int)):=
 some (.inl (b,wr (a+1)))
def oY (c:(List Int)) (a:List Int) (b:Int):Option ((List Int × Int) ⊕ (List Int)):=
 if (decide (b < (c.length:Int))) then (ob (ix c b) fun d=>
 ob (dF a d) fun e=>
 if (!e) then (ob (xQ a ([d]:List Int)) fun f=>
 sI b f) else (sI b a)) else (some (.inr a))
def sJ (t:bA) (a:List Int) (b:Int):Option ((List Int × Int) ⊕ (List Int)):=
 if (decide (b < (a.length:Int))) then (ob (ix a b) fun d=>
 ob (aBQ t ([d]:List Int) ([116,97,117]:aH)) fun e=>
 ob (loop (fun (s:(List Int × Int))=>oY e s.1 s.2) (a,0)) fun r=>aBR b r) else (some (.inr a))
def qO (t:bA) (b:(List Int)):Option (List Int):=
 ob (bY b) fun c=>
 ob (loop (fun (s:(List Int × Int))=>sJ t s.1 s.2) (c,0)) fun r=>xK r
def aCg (a:List (List Int)):Option (List (List Int)):=
 some a
def lF (t:bA) (c:List (List Int)) (a:Int):Option ((List (List Int) × Int) ⊕ (List (List Int))):=
 if (decide (a < t.N)) then (ob (qO t ([a]:List Int)) fun d=>
 ob (xQ c ([d]:List (List Int))) fun e=>
 some (.inl (e,wr (a+1)))) else (some (.inr c))
def qP (t:bA):Option (List (List Int)):=
 ob (loop (fun (s:(List (List Int) × Int))=>lF t s.1 s.2) ([],0)) fun r=>aCg r
def aOf (a:Bool):Option Int:=
 if a then (some 1) else (some 0)
def lJ (a:List (List Int)):Option (List Int):=
 ob (zV a) fun b=>
 some b
def oC (a:Int) (b:List (List Int)):Option ((List (List Int) × Int) ⊕ (List (List Int))):=
 some (.inl (b,wr (a+1)))
def jL (a:List (List Int)) (b:Int) (c:(List Int)) (d:List Int):Option ((List (List Int) × Int) ⊕ (List (List Int))):=
 ob (dK c) fun e=>
 ob (xQ d e) fun f=>
 ob (xQ a ([f]:List (List Int))) fun g=>
 oC b g
def lK (p:(List Int)) (f:Bool) (g:(List Bool)) (b:List (List Int)) (a:Int) (h:List Int):Option ((List (List Int) × Int) ⊕ (List (List Int))):=
 ob (tU h) fun c=>
 ob (ix p a) fun d=>
 if f then (ob (ix g a) fun i=>
 ob (aOf i) fun j=>
 jL b a c ([d,j]:List Int)) else (ob (aOf false) fun k=>
 jL b a c ([d,k]:List Int))
def lL (a:Int) (b:List Int):Option ((List Int × Int) ⊕ (List Int)):=
 some (.inl (b,wr (a+1)))
def gQ (t:bA) (p:(List Int)) (a:List Int) (b:Int) (c:Edge) (f:Bool):Option ((List Int × Int) ⊕ (List Int)):=
 if f then (ob (ix p c.To) fun g=>
 ob (xQ a ([wr ((wr (c.B * t.N))+g)]:List Int)) fun h=>
 lL b h) else (lL b a)
def gR (t:bA) (p f:(List Int)) (e:List Int) (d:Int):Option ((List Int × Int) ⊕ (List Int)):=
 if (decide (d < (t.E.length:Int))) then (ob (ix t.E d) fun a=>
 ob (dF f a.F) fun g=>
 if g then (if (a.B != 0) then (gQ t p e d a true) else (ob (ix p a.F) fun h=>
 ob (ix p a.To) fun i=>
 gQ t p e d a (h != i))) else (gQ t p e d a false)) else (some (.inr e))
def gS (t:bA) (p:(List Int)) (f:Bool) (g:(List Bool)) (c:(List (List Int))) (d:List (List Int)) (a:Int):Option ((List (List Int) × Int) ⊕ (List (List Int))):=
 if (decide (a < (c.length:Int))) then (ob (ix c a) fun h=>
 ob (loop (fun (s:(List Int × Int))=>gR t p h s.1 s.2) ([],0)) fun r=>lK p f g d a r) else (some (.inr d))
def nK (t:bA) (p:(List Int)) (d:Bool):Option (List Int):=
 ob (rV t p) fun c=>
 ob (mY c) fun e=>
 ob (qP c) fun f=>
 ob (loop (fun (s:(List (List Int) × Int))=>gS t p d e f s.1 s.2) ([],0)) fun r=>lJ r
def vN (p:(List Int)) (b:bA) (c:Bool):Option (List Int):=
 ob (nK b p c) fun d=>
 some d
def aBS (d:bA) (e:Bool) (a:List (List Int)):Option ((List (List Int)) ⊕ (List (List Int))):=
 ob (ix a (wr ((a.length:Int) - 1))) fun b=>
 ob (vN b d e) fun c=>
 ob (cR b c) fun f=>
 if f then (some (.inr a)) else (ob (xQ a ([c]:List (List Int))) fun g=>
 some (.inl g))
def aET (n:Int) (b:bA) (c:Bool):Option (List (List Int)):=
 ob (aFE n) fun d=>
 ob (loop (fun (s:List (List Int))=>aBS b c s) ([d]:List (List Int))) fun r=>some r
def pE (t:bA) (b:Bool):Option (List Int):=
 ob (aET t.N t b) fun c=>
 ob (pD c) fun d=>
 some d
def jG (a:List Int):Option (List Int):=
 some a
def jH (a:List Int) (b:Int):Option ((List Int × Int) ⊕ (List Int)):=
 if (decide (b < (a.length:Int))) then (ob (xT a b (a.length:Int)) fun d=>
 ob (xT a 0 b) fun c=>
 ob (ovw a b (List.take (Nat.min c.length d.length) c)) fun e=>
 some (.inl (e,wr (b+((Nat.min c.length d.length):Int))))) else (some (.inr a))
def jI (a:(List Int)) (c:(Int × Int)):Option (List Int):=
 ob (mkz (wr c.2) (0:Int)) fun b=>
 ob (ovw b 0 (List.take (Nat.min a.length b.length) a)) fun d=>
 ob (loop (fun (s:(List Int × Int))=>jH s.1 s.2) (d,((Nat.min a.length b.length):Int))) fun r=>jG r
def gC (a:(List Int)) (b:(Int × Int)) (c:Bool):Option (List Int):=
 if c then (none) else (jI a b)
def jJ (b:(List Int)) (c:Int):Option (List Int):=
 ob (aKj (mK (b.length:Int)) (mK c)) fun a=>
 if (decide (0 < a.1)) then (gC b a true) else (gC b a (decide (9223372036854775807 < a.2)))
def iI (b:(List Int)) (a:Int):Option (List Int):=
 if (decide (a < 0)) then (none) else (jJ b a)
def aEm (a:List Int):Option (List Int):=
 some a
def aAV (a b:List Int):Option ((List Int × List Int) ⊕ (List Int)):=
 some (.inl (a,b))
def aEn (a b:List Int):Option ((List Int × List Int) ⊕ (List Int)):=
 aAV a b
def lQ (a:Int) (b c:List Int):Option ((List Int × List Int × Int) ⊕ (List Int × List Int)):=
 some (.inl (b,c,wr (a+1)))
def nV (e:Int) (a c:List Int) (d b:Int) (f:Bool):Option ((List Int × List Int × Int) ⊕ (List Int × List Int)):=
 if f then (ob (ix a e) fun g=>
 ob (ix a b) fun j=>
 ob (st a b (wr (g+1):Int)) fun h=>
 ob (xQ c ([b]:List Int)) fun i=>
 lQ d h i) else (lQ d a c)
def qQ (a:Int) (b d:List Int) (e f c:Int):Option ((List Int × List Int × Int) ⊕ (List Int × List Int)):=
 if (f == a) then (ob (ix b c) fun g=>
 nV a b d e c (decide (g < 0))) else (nV a b d e c false)
def qR (t:bA) (g:Bool) (f:Int) (c d:List Int) (a:Int):Option ((List Int × List Int × Int) ⊕ (List Int × List Int)):=
 if (decide (a < (t.E.length:Int))) then (ob (ix t.E a) fun b=>
 if (!g) then (qQ f c d a b.To b.F) else (qQ f c d a b.F b.To)) else (some (.inr (c,d)))
def vO (t:bA) (e:Bool) (b a:List Int):Option ((List Int × List Int) ⊕ (List Int)):=
 if (decide (0 < (a.length:Int))) then (ob (ix a 0) fun f=>
 ob (xT a 1 (a.length:Int)) fun g=>
 ob (loop (fun (s:(List Int × List Int × Int))=>qR t e f s.1 s.2.1 s.2.2) (b,g,0)) fun r=>aEn r.1 r.2) else (some (.inr b))
def vP (t:bA) (b:Bool) (c:(List Int)) (d:List Int):Option (List Int):=
 ob (loop (fun (s:(List Int × List Int))=>vO t b s.1 s.2) (d,c)) fun r=>aEm r
def tO (c:(List Int)) (a:List Int) (b:Int):Option ((List Int × Int) ⊕ (List Int)):=
 if (decide (b < (c.length:Int))) then (ob (ix c b) fun d=>
 ob (ix a d) fun f=>
 ob (st a d (0:Int)) fun e=>
 some (.inl (e,wr (b+1)))) else (some (.inr a))
def wE (t:bA) (b:(List Int)) (c:Bool):Option (List Int):=
 ob (iI ([(-1)]:List Int) t.N) fun d=>
 ob (bY b) fun e=>
 ob (loop (fun (s:(List Int × Int))=>tO b s.1 s.2) (d,0)) fun r=>vP t c e r
def qS (k:Int) (p:(List Int)):Option Bool:=
 ob (ix p k) fun c=>
 some (decide (c < 0))
def nZ:Option Int:=
 some (-1)
def eN (b c:(List Int)) (a:Int):Option (Int ⊕ (Unit ⊕ Int)):=
 if (decide (a < (b.length:Int))) then (ob (ix b a) fun d=>
 ob (qS d c) fun e=>
 if e then (some (.inr (.inr a))) else (some (.inl (wr (a+1))))) else (some (.inr (.inl ())))
def fE (b c:(List Int)):Option Int:=
 ob (loop (fun (s:Int)=>eN b c s) 0) fun r=>match r with|.inl r=>nZ|.inr r=>some r
def gV (a:List Int) (b:Int):Option (List Int):=
 ob (xT a b (a.length:Int)) fun c=>
 ob (ovw a b (List.replicate c.length (0:Int))) fun d=>
 ob (xT d 0 b) fun e=>
 some e
def eU (a:Int) (b:List Int) (c:Int):Option ((List Int × Int × Int) ⊕ (List Int × Int)):=
 some (.inl (b,c,wr (a+1)))
def dR (e:(List Int)) (a:List Int) (b c:Int):Option ((List Int × Int × Int) ⊕ (List Int × Int)):=
 if (decide (c < (a.length:Int))) then (ob (ix a c) fun d=>
 ob (qS d e) fun f=>
 if (!f) then (ob (ix a b) fun h=>
 ob (st a b (d:Int)) fun g=>
 eU c g (wr (b+1))) else (eU c a b)) else (some (.inr (a,b)))
def fX (a c:(List Int)):Option (List Int):=
 ob (fE a c) fun b=>
 if (b == (-1)) then (some a) else (ob (loop (fun (s:(List Int × Int × Int))=>dR c s.1 s.2.1 s.2.2) (a,b,wr (b+1))) fun r=>gV r.1 r.2)
def wF (t:bA):Option (List Int):=
 ob (wE t ([t.I]:List Int) true) fun b=>
 ob (aDj t.N) fun c=>
 ob (fX c b) fun d=>
 some d
def aLD (a b:Int) (c:(List aH)) (d:(List Edge)):Option (Int × Int × (List aH) × (List Edge)):=
 ob (nP d) fun e=>
 ob (bS e) fun f=>
 some (a,b,c,f)
def nW (a:Int):Option Int:=
 some a
def dA (b:(List Int)) (c a:Int):Option ((Int × Int) ⊕ Int):=
 if (decide (a < (b.length:Int))) then (ob (ix b a) fun d=>
 some (.inl (mxI c d,wr (a+1)))) else (some (.inr c))
def iJ (a:(List Int)):Option Int:=
 ob (ix a 0) fun b=>
 ob (loop (fun (s:(Int × Int))=>dA a s.1 s.2) (b,1)) fun r=>nW r
def fN (a:(List Int)):Option Int:=
 if (decide ((a.length:Int) < 1)) then (none) else (iJ a)
def vQ (p:(List Int)):Option Int:=
 ob (fN p) fun b=>
 some (wr (b+1))
def lD (a:Bool):Option Bool:=
 some a
def kK (e:Edge) (p:(List Int)):Option Bool:=
 if (e.B != 0) then (lD true) else (ob (ix p e.F) fun c=>
 ob (ix p e.To) fun d=>
 lD (c != d))
def wS (d e:Int) (f:(List aH)) (a:(List Edge)):Option (List Edge):=
 ob (nP a) fun b=>
 ob (bS b) fun c=>
 some c
def xM (a b:Int) (c:List aH) (d:List Edge):Option bA:=
 ob (wS a b c d) fun e=>
 some ⟨a,b,c,e⟩
def oZ (a:Int) (b:List Edge):Option ((List Edge × Int) ⊕ (List Edge)):=
 some (.inl (b,wr (a+1)))
def pA (t:bA) (p f:(List Int)) (c:List Edge) (a:Int):Option ((List Edge × Int) ⊕ (List Edge)):=
 if (decide (a < (t.E.length:Int))) then (ob (ix t.E a) fun b=>
 ob (kK b f) fun g=>
 if g then (ob (ix p b.F) fun h=>
 ob (ix p b.To) fun i=>
 ob (xQ c ([⟨h,b.B,i⟩]:List Edge)) fun j=>
 oZ a j) else (oZ a c)) else (some (.inr c))
def xN (t:bA) (p c:(List Int)) (d e:Int) (f:List aH):Option bA:=
 ob (loop (fun (s:(List Edge × Int))=>pA t p c s.1 s.2) ([],0)) fun r=>xM d e f r
def yD (t:bA) (p c:(List Int)):Option bA:=
 ob (ix p t.I) fun d=>
 ob (vQ p) fun e=>
 ob (bO t.L) fun f=>
 xN t p c e d f
def qT (a:bA) (b:List Edge):Option bA:=
 some ⟨a.N,a.I,a.L,b⟩
def qU (a:bA) (b:List Edge):Option bA:=
 ob (wS a.N a.I a.L b) fun c=>
 qT a c
def iK (a:Int) (b:List Edge):Option ((List Edge × Int) ⊕ (List Edge)):=
 some (.inl (b,wr (a+1)))
def fY (p:(List Int)) (c:(List Bool)) (b:List Edge) (a:Int):Option ((List Edge × Int) ⊕ (List Edge)):=
 if (decide (a < (c.length:Int))) then (ob (ix c a) fun f=>
 if f then (ob (ix p a) fun d=>
 ob (xQ b ([⟨d,0,d⟩]:List Edge)) fun g=>
 iK a g) else (iK a b)) else (some (.inr b))
def iL (t:bA) (p:(List Int)) (d:Bool):Option bA:=
 ob (yD t p p) fun b=>
 if d then (ob (rV t p) fun e=>
 ob (mY e) fun f=>
 ob (loop (fun (s:(List Edge × Int))=>fY p f s.1 s.2) (b.E,0)) fun r=>qU b r) else (qT b b.E)
def nF (a:Bool) (b c:Int) (d:List aH) (e:List Edge):Option bA:=
 ob (pE ⟨b,c,d,e⟩ a) fun f=>
 ob (iL ⟨b,c,d,e⟩ f a) fun g=>
 some g
def mR (t:bA) (c:Bool):Option bA:=
 ob (wF t) fun d=>
 ob (vF t d) fun a=>
 nF c a.N a.I a.L a.E
def aAA (t:bA) (b:Int):Option bA:=
 if (b == 0) then (ob (aBh t) fun c=>
 some c) else (ob (mR t (b == 2)) fun d=>
 some d)
def qV (t:bA) (p:Int):Option bA:=
 ob (aAA t p) fun c=>
 some c
def tA (n:aO) (b:List bA):Option aO:=
 ob (qL n b) fun c=>
 some c
def fP (n:aO) (d:Int) (c:List bA) (a:Int):Option ((List bA × Int) ⊕ (List bA)):=
 if (decide (a < (n.Parts.length:Int))) then (ob (ix n.Parts a) fun e=>
 ob (qV e d) fun f=>
 ob (xQ c ([f]:List bA)) fun g=>
 some (.inl (g,wr (a+1)))) else (some (.inr c))
def rH (n:aO) (b:Int):Option aO:=
 ob (loop (fun (s:(List bA × Int))=>fP n b s.1 s.2) ([],0)) fun r=>tA n r
def iM (n:aO) (b:Int):Option aO:=
 ob (rH n b) fun c=>
 some c
def tB (a:aH):Option (aH × Bool):=
 some (a,true)
def sK (n:aO) (b:(List bA)):Option aO:=
 ob (cY n.Meetings) fun c=>
 ob (bO n.Allowed) fun d=>
 ob (bO n.Hidden) fun e=>
 some ⟨b,c,d,e⟩
def gW (f:aH) (g:(List Int)) (b:(List (List Int))) (c:(List (aH × Int))) (d:(List cO)) (h:Int):Option ((List (List Int)) × (List (aH × Int)) × (List cO)):=
 ob (tB f) fun e=>
 if e.2 then (ob (kT e.1 g b c d h) fun a=>
 some (a.1,a.2.1,a.2.2)) else (some (b,c,d))
def xB (a:List (List Int)) (b:(List (aH × Int))) (c:List cO):Option ((List (List Int)) × (List (aH × Int)) × (List cO)):=
 some (a,b,c)
def rI (a:Int) (b:List (List Int)) (c:(List (aH × Int))) (d:List cO):Option ((Int × List (List Int) × (List (aH × Int)) × List cO) ⊕ (List (List Int) × (List (aH × Int)) × List cO)):=
 some (.inl (wr (a+1),b,c,d))
def rJ (a:Int) (b:List (List Int)) (c:(List (aH × Int))) (d:List cO):Option ((Int × List (List Int) × (List (aH × Int)) × List cO) ⊕ (List (List Int) × (List (aH × Int)) × List cO)):=
 rI a b c d
def rK (a:Int) (b:List (List Int)) (c:(List (aH × Int))) (d:List cO):Option ((Int × List (List Int) × (List (aH × Int)) × List cO) ⊕ (List (List Int) × (List (aH × Int)) × List cO)):=
 some (.inl (wr (a+1),b,c,d))
def nL (a:Int) (b:List (List Int)) (c:(List (aH × Int))) (d:List cO):Option ((Int × List (List Int) × (List (aH × Int)) × List cO) ⊕ (List (List Int) × (List (aH × Int)) × List cO)):=
 rK a b c d
def rL (a:Int) (b:List (List Int)) (c:(List (aH × Int))) (d:List cO):Option ((Int × List (List Int) × (List (aH × Int)) × List cO) ⊕ (List (List Int) × (List (aH × Int)) × List cO)):=
 some (.inl (wr (a+1),b,c,d))
def rM (a:Int) (b:List (List Int)) (c:(List (aH × Int))) (d:List cO):Option ((Int × List (List Int) × (List (aH × Int)) × List cO) ⊕ (List (List Int) × (List (aH × Int)) × List cO)):=
 rL a b c d
def lG (a:Int) (b:List (List Int)) (c:(List (aH × Int))) (d:List cO):Option ((Int × List (List Int) × (List (aH × Int)) × List cO) ⊕ (List (List Int) × (List (aH × Int)) × List cO)):=
 some (.inl (wr (a+1),b,c,d))
def hJ (n:aO) (l:(List Int)) (m o:Int) (p:Edge) (q:aH) (f:Int) (r:bA) (g:(List Edge)) (a:Int) (b:List (List Int)) (c:(List (aH × Int))) (d:List cO):Option ((Int × List (List Int) × (List (aH × Int)) × List cO) ⊕ (List (List Int) × (List (aH × Int)) × List cO)):=
 if (decide (a < (g.length:Int))) then (ob (ix g a) fun h=>
 ob (ix r.L h.B) fun s=>
 ob (lX n q s) fun i=>
 if i.2 then (ob (kG o p.To l) fun j=>
 ob (ix j f) fun u=>
 ob (st j f (h.To:Int)) fun t=>
 ob (gW i.1 t b c d m) fun e=>
 lG a e.1 e.2.1 e.2.2) else (lG a b c d)) else (some (.inr (b,c,d)))
def gK (n:aO) (d:(List Int)) (i j:Int) (k:Edge) (l:aH) (a:Int) (e:List (List Int)) (f:(List (aH × Int))) (g:List cO):Option ((Int × List (List Int) × (List (aH × Int)) × List cO) ⊕ (List (List Int) × (List (aH × Int)) × List cO)):=
 if (decide (a < (n.Parts.length:Int))) then (ob (ix n.Parts a) fun h=>
 ob (ix d a) fun m=>
 ob (nR h m) fun o=>
 ob (loop (fun (s:(Int × List (List Int) × (List (aH × Int)) × List cO))=>hJ n d i j k l a h o s.1 s.2.1 s.2.2.1 s.2.2.2) (0,e,f,g)) fun r=>rM a r.1 r.2.1 r.2.2) else (some (.inr (e,f,g)))
def gL (n:aO) (f:(List Int)) (g a:Int) (o:bA) (h:(List Edge)) (b:Int) (i:List (List Int)) (j:(List (aH × Int))) (k:List cO):Option ((Int × List (List Int) × (List (aH × Int)) × List cO) ⊕ (List (List Int) × (List (aH × Int)) × List cO)):=
 if (decide (b < (h.length:Int))) then (ob (ix h b) fun c=>
 ob (ix o.L c.B) fun l=>
 ob (kG a c.To f) fun p=>
 ob (gW l p i j k g) fun d=>
 ob (loop (fun (s:(Int × List (List Int) × (List (aH × Int)) × List cO))=>gK n f g a c l s.1 s.2.1 s.2.2.1 s.2.2.2) (wr (a+1),d.1,d.2.1,d.2.2)) fun r=>nL b r.1 r.2.1 r.2.2) else (some (.inr (i,j,k)))
def gM (n:aO) (d:(List Int)) (i a:Int) (e:List (List Int)) (f:(List (aH × Int))) (g:List cO):Option ((Int × List (List Int) × (List (aH × Int)) × List cO) ⊕ (List (List Int) × (List (aH × Int)) × List cO)):=
 if (decide (a < (n.Parts.length:Int))) then (ob (ix n.Parts a) fun h=>
 ob (ix d a) fun j=>
 ob (nR h j) fun k=>
 ob (loop (fun (s:(Int × List (List Int) × (List (aH × Int)) × List cO))=>gL n d i a h k s.1 s.2.1 s.2.2.1 s.2.2.2) (0,e,f,g)) fun r=>rJ a r.1 r.2.1 r.2.2) else (some (.inr (e,f,g)))
def qW (n:aO) (c:(List Int)) (d:(List (List Int))) (e:(List (aH × Int))) (f:(List cO)) (g:Int):Option ((List (List Int)) × (List (aH × Int)) × (List cO)):=
 ob (loop (fun (s:(Int × List (List Int) × (List (aH × Int)) × List cO))=>gM n c g s.1 s.2.1 s.2.2.1 s.2.2.2) (0,d,e,f)) fun r=>xB r.1 r.2.1 r.2.2
def oD (b:(List Int)) (c:(List (List Int))) (d:(List (aH × Int))) (e:(List cO)) (f:Int) (p:aO):Option (Bool × (List (List Int)) × (List (aH × Int)) × (List cO)):=
 ob (qW p b c d e f) fun a=>
 some (true,a.1,a.2.1,a.2.2)
def nG (e:List (List Int)) (a b:Int) (c:List aH) (d:List Edge):Option (bA × (List (List Int)) × Bool):=
 ob (pC ⟨a,b,c,d⟩) fun f=>
 some (⟨a,b,c,d⟩,e,f)
def kW (b:List (List Int)) (e:(List (aH × Int))) (c:List cO):Option (bA × (List (List Int)) × Bool):=
 ob (yB c) fun d=>
 ob (aFC (b.length:Int) 0 d c) fun a=>
 nG b a.N a.I a.L a.E
def kX (b:Int) (a:(Bool × (List (List Int)) × (List (aH × Int)) × (List cO))) (c:Bool):Option ((List (List Int) × (List (aH × Int)) × List cO × Int) ⊕ ((List (List Int) × (List (aH × Int)) × List cO) ⊕ (bA × (List (List Int)) × Bool))):=
 if c then (some (.inr (.inr (⟨0,0,[],[]⟩,[],false)))) else (some (.inl (a.2.1,a.2.2.1,a.2.2.2,wr (b+1))))
def dD (f:aO) (b:List (List Int)) (d:(List (aH × Int))) (e:List cO) (a:Int):Option ((List (List Int) × (List (aH × Int)) × List cO × Int) ⊕ ((List (List Int) × (List (aH × Int)) × List cO) ⊕ (bA × (List (List Int)) × Bool))):=
 if (decide (a < (b.length:Int))) then (ob (ix b a) fun g=>
 ob (oD g b d e a f) fun c=>
 if (!c.1) then (kX a c true) else (kX a c (decide (40 < (c.2.1.length:Int))))) else (some (.inr (.inl (b,d,e))))
def mS (c:(List Int)) (d:aO):Option (bA × (List (List Int)) × Bool):=
 ob (dP [] ([]:(List (aH × Int))) [] c) fun b=>
 ob (loop (fun (s:(List (List Int) × (List (aH × Int)) × List cO × Int))=>dD d s.1 s.2.1 s.2.2.1 s.2.2.2) (b.2.1,b.2.2,[],0)) fun r=>match r with|.inl r=>kW r.1 r.2.1 r.2.2|.inr r=>some r
def oE (a:(bA × (List (List Int)) × Bool)) (b:(List Int)) (c:List (List Int)):Option (bA × (List (List Int)) × Bool):=
 ob (vF a.1 b) fun d=>
 some (d,c,true)
def jM (d:(bA × (List (List Int)) × Bool)) (b:(List Int)) (c:List (List Int)) (a:Int):Option ((List (List Int) × Int) ⊕ (List (List Int))):=
 if (decide (a < (b.length:Int))) then (ob (ix b a) fun e=>
 ob (ix d.2.1 e) fun f=>
 ob (xQ c ([f]:List (List Int))) fun g=>
 some (.inl (g,wr (a+1)))) else (some (.inr c))
def oF (n:aO) (d:List Int):Option (bA × (List (List Int)) × Bool):=
 ob (mS d n) fun a=>
 if (!a.2.2) then (some (⟨0,0,[],[]⟩,[],false)) else (ob (aDj a.1.N) fun e=>
 ob (wM e a.2.1) fun b=>
 ob (loop (fun (s:(List (List Int) × Int))=>jM a b s.1 s.2) ([],0)) fun r=>oE a b r)
def lM (n:aO) (c:List Int) (a:Int):Option ((List Int × Int) ⊕ (List Int)):=
 if (decide (a < (n.Parts.length:Int))) then (ob (ix n.Parts a) fun d=>
 ob (xQ c ([d.I]:List Int)) fun e=>
 some (.inl (e,wr (a+1)))) else (some (.inr c))
def nM (n:aO):Option (bA × (List (List Int)) × Bool):=
 ob (loop (fun (s:(List Int × Int))=>lM n s.1 s.2) ([],0)) fun r=>oF n r
def tC (n:aO) (b:List bA):Option aO:=
 ob (qL n b) fun c=>
 some c
def lN (n:aO) (c:List bA) (a:Int):Option ((List bA × Int) ⊕ (List bA)):=
 if (decide (a < (n.Parts.length:Int))) then (ob (ix n.Parts a) fun d=>
 ob (aBh d) fun e=>
 ob (xQ c ([e]:List bA)) fun f=>
 some (.inl (f,wr (a+1)))) else (some (.inr c))
def nN (n:aO):Option aO:=
 ob (loop (fun (s:(List bA × Int))=>lN n s.1 s.2) ([],0)) fun r=>tC n r
def oG (n:aO) (i k:Int) (f:List bA) (g:List bK) (h j:List aH):Option (aO × Bool):=
 ob (nM ⟨f,g,h,j⟩) fun d=>
 if (!d.2.2) then (some (⟨[],[],[],[]⟩,false)) else (ob (nN n) fun a=>
 ob (ix a.Parts (mnI i k)) fun o=>
 ob (st a.Parts (mnI i k) (d.1:bA)) fun l=>
 ob (aEI l (mxI i k) (wr ((mxI i k)+1))) fun m=>
 some (⟨m,a.Meetings,a.Allowed,a.Hidden⟩,true))
def hY (n:aO) (i k:Int):Option (aO × Bool):=
 ob (ix n.Parts i) fun e=>
 ob (ix n.Parts k) fun f=>
 ob (sK n ([e,f]:List bA)) fun b=>
 oG n i k b.Parts b.Meetings b.Allowed b.Hidden
def aDm (n:aO):Option (bA × Int):=
 ob (mN n) fun c=>
 if (!c) then (some (⟨0,0,[],[]⟩,1)) else (if (decide (1 < (n.Parts.length:Int))) then (some (⟨0,0,[],[]⟩,6)) else (ob (qB n) fun b=>
 some (b.1,b.2.2)))
def jY (b:Int) (c:List bA) (d:List bK) (e f:List aH) (g:List Int):Option (bA × (List Int) × Int):=
 ob (aDm ⟨c,d,e,f⟩) fun a=>
 if (a.2 != 0) then (some (⟨0,0,[],[]⟩,[],a.2)) else (ob (aAA a.1 b) fun h=>
 some (h,g,0))
def cH (m f:Int) (g:List Int) (h:List bA) (i:List bK) (j k:List aH) (l d:List Int) (e:Int):Option ((List bA × List bK × List aH × List aH × List Int × List Int × Int) ⊕ ((List bA × List bK × List aH × List aH × List Int) ⊕ (bA × (List Int) × Int))):=
 if (decide (e < (g.length:Int))) then (ob (ix g e) fun n=>
 ob (bP d f) fun a=>
 ob (bP d n) fun b=>
 ob (kJ ⟨h,i,j,k⟩) fun o=>
 ob (iM o m) fun p=>
 ob (hY p a b) fun c=>
 if (!c.2) then (some (.inr (.inr (⟨0,0,[],[]⟩,[],5)))) else (ob (ix d (mnI a b)) fun u=>
 ob (st d (mnI a b) (f:Int)) fun q=>
 ob (aEI q (mxI a b) (wr ((mxI a b)+1))) fun r=>
 ob (ix c.1.Parts (mnI a b)) fun s=>
 ob (xQ l ([s.N]:List Int)) fun t=>
 some (.inl (c.1.Parts,c.1.Meetings,c.1.Allowed,c.1.Hidden,t,r,wr (e+1))))) else (some (.inr (.inl (h,i,j,k,l))))
def dS (n:aO) (c:(List Int)) (d:Int):Option (bA × (List Int) × Int):=
 ob (aDj (n.Parts.length:Int)) fun e=>
 ob (ix c 0) fun f=>
 ob (xT c 1 (c.length:Int)) fun g=>
 ob (loop (fun (s:(List bA × List bK × List aH × List aH × List Int × List Int × Int))=>cH d f g s.1 s.2.1 s.2.2.1 s.2.2.2.1 s.2.2.2.2.1 s.2.2.2.2.2.1 s.2.2.2.2.2.2) (n.Parts,n.Meetings,n.Allowed,n.Hidden,[],e,0)) fun r=>match r with|.inl r=>jY d r.1 r.2.1 r.2.2.1 r.2.2.2.1 r.2.2.2.2|.inr r=>some r
def tP (n:aO) (c:(List Int)) (d:Int) (e:Bool):Option (bA × (List Int) × Int):=
 if e then (some (⟨0,0,[],[]⟩,[],2)) else (ob (dS n c d) fun a=>
 some (a.1,a.2.1,a.2.2))
def uE (n:aO) (b:(List Int)) (c:Int):Option (bA × (List Int) × Int):=
 ob (mN n) fun d=>
 if (!d) then (some (⟨0,0,[],[]⟩,[],1)) else (ob (aFD b (n.Parts.length:Int)) fun e=>
 if (!e) then (tP n b c true) else (ob (sZ c) fun f=>
 tP n b c (!f)))
def sL (a b:bA) (p:(List Int)):Option Bool:=
 ob (ix p a.I) fun f=>
 ob (ix p (wr (a.N+b.I))) fun g=>
 some (f == g)
def pW (a:List aH):Option (List aH):=
 some a
def bV (b:(List (List aH))) (c:List aH) (a:Int):Option ((List aH × Int) ⊕ (List aH)):=
 if (decide (a < (b.length:Int))) then (ob (ix b a) fun d=>
 ob (xQ c d) fun e=>
 some (.inl (e,wr (a+1)))) else (some (.inr c))
def iP (a:(List (List aH))) (b:Int):Option (List aH):=
 ob (aHA [] b) fun c=>
 ob (loop (fun (s:(List aH × Int))=>bV a s.1 s.2) (c,0)) fun r=>pW r
def fQ (a b:Int):Option ((Int × Int) ⊕ Int):=
 some (.inl (b,wr (a+1)))
def bL (c:(List (List aH))) (a b:Int):Option ((Int × Int) ⊕ Int):=
 if (decide (b < (c.length:Int))) then (ob (ix c b) fun d=>
 if (decide (wr (a+(d.length:Int)) < 0)) then (none) else (fQ b (wr (a+(d.length:Int))))) else (some (.inr a))
def gN (a:(List (List aH))):Option (List aH):=
 ob (loop (fun (s:(Int × Int))=>bL a s.1 s.2) (0,0)) fun r=>iP a r
def aGf (a b:bA) (e:List cO):Option bA:=
 ob (gN ([a.L,b.L]:List (List aH))) fun f=>
 ob (aFC (wr (a.N+b.N)) a.I f e) fun g=>
 some g
def aEo (a:bA) (e:(List cO)) (f:List cO) (b:Int):Option ((List cO × Int) ⊕ (List cO)):=
 if (decide (b < (e.length:Int))) then (ob (ix e b) fun c=>
 ob (xQ f ([⟨wr (c.from_+a.N),c.label,wr (c.to_+a.N)⟩]:List cO)) fun g=>
 some (.inl (g,wr (b+1)))) else (some (.inr f))
def aHF (a b:bA):Option bA:=
 ob (yC a) fun e=>
 ob (yC b) fun f=>
 ob (loop (fun (s:(List cO × Int))=>aEo a f s.1 s.2) (e,0)) fun r=>aGf a b r
def aAW (a:Bool):Option Unit:=
 some ()
def xC (t:bA) (p:Bool):Option (List Int):=
 ob (pE t p) fun c=>
 some c
def aOg (a b:bA) (f:Bool):Option (List Int):=
 ob (aHF a b) fun c=>
 ob (xC ⟨c.N,c.I,c.L,c.E⟩ f) fun g=>
 some g
def aAB (a b:bA) (e f:Bool):Option (Bool × Int):=
 if f then (some (false,1)) else (ob (aOg a b e) fun g=>
 ob (sL a b g) fun h=>
 some (h,0))
def aGg (a b:bA) (e:Bool):Option (Bool × Int):=
 ob (pC a) fun f=>
 if (!f) then (aAB a b e true) else (ob (pC b) fun g=>
 aAB a b e (!g))
def uF (a b:bA) (c:Bool):Option (Bool × Int):=
 ob (aAW c) fun g=>
 ob (aGg a b c) fun d=>
 some (d.1,d.2)
def aAM (a:List (List Int)):Option (List Int):=
 ob (zV a) fun b=>
 some b
def aAN (a:Int) (b:Nat) (c:List (List Int)):Option ((List (List Int) × Nat × Int) ⊕ (List (List Int))):=
 some (.inl (c,b,wr (a+1)))
def mZ (c b:List (List Int)) (d:Nat) (a:Int):Option ((List (List Int) × Nat × Int) ⊕ (List (List Int))):=
 if (decide (a < (c.length:Int))) then (ob (ix c a) fun e=>
 ob (tkN d a) fun f=>
 ob (tU e) fun g=>
 ob (ix b a) fun h=>
 ob (dK g) fun i=>
 ob (xQ h i) fun j=>
 ob (st b a j) fun k=>
 aAN a f k) else (some (.inr b))
def aAO (a b:List (List Int)):Option (List Int):=
 ob (loop (fun (s:(List (List Int) × Nat × Int))=>mZ b s.1 s.2.1 s.2.2) (a,0,0)) fun r=>aAM r
def aAP (a:Int) (b:List (List Int)):Option ((List (List Int) × Int) ⊕ (List (List Int))):=
 some (.inl (b,wr (a+1)))
def nA (t:bA) (p:(List Int)) (c:List (List Int)) (d:Int):Option ((List (List Int) × Int) ⊕ (List (List Int))):=
 if (decide (d < (t.E.length:Int))) then (ob (ix t.E d) fun a=>
 ob (ix c a.F) fun f=>
 ob (ix p a.To) fun g=>
 ob (xQ f ([wr ((wr (a.B * t.N))+g)]:List Int)) fun h=>
 ob (st c a.F h) fun i=>
 aAP d i) else (some (.inr c))
def aAQ (t:bA) (p:(List Int)) (c:List (List Int)):Option (List Int):=
 ob (mkz t.N ([]:(List Int))) fun d=>
 ob (loop (fun (s:(List (List Int) × Int))=>nA t p s.1 s.2) (d,0)) fun r=>aAO c r
def nB (p:(List Int)) (b:List (List Int)) (a:Int):Option ((List (List Int) × Int) ⊕ (List (List Int))):=
 if (decide (a < (p.length:Int))) then (ob (ix p a) fun d=>
 ob (ix b a) fun f=>
 ob (st b a ([d]:List Int)) fun e=>
 some (.inl (e,wr (a+1)))) else (some (.inr b))
def zW (t:bA) (p:(List Int)):Option (List Int):=
 ob (mkz t.N ([]:(List Int))) fun c=>
 ob (loop (fun (s:(List (List Int) × Int))=>nB p s.1 s.2) (c,0)) fun r=>aAQ t p r
def aEU (d:bA) (a:List (List Int)):Option ((List (List Int)) ⊕ (List (List Int))):=
 ob (ix a (wr ((a.length:Int) - 1))) fun b=>
 ob (zW d b) fun c=>
 ob (cR b c) fun e=>
 if e then (some (.inr a)) else (ob (xQ a ([c]:List (List Int))) fun f=>
 some (.inl f))
def aJg (n:Int) (b:bA):Option (List (List Int)):=
 ob (aFE n) fun c=>
 ob (loop (fun (s:List (List Int))=>aEU b s) ([c]:List (List Int))) fun r=>some r
def zX (t:bA):Option (List Int):=
 ob (aJg t.N t) fun b=>
 ob (pD b) fun c=>
 some c
def aHG (a b:bA):Option (List Int):=
 ob (aHF a b) fun c=>
 ob (zX ⟨c.N,c.I,c.L,c.E⟩) fun f=>
 some f
def uG (a b:bA) (e:Bool):Option (Bool × Int):=
 if e then (some (false,1)) else (ob (aHG a b) fun f=>
 ob (sL a b f) fun g=>
 some (g,0))
def aCF (a b:bA):Option (Bool × Int):=
 ob (pC a) fun e=>
 if (!e) then (uG a b true) else (ob (pC b) fun f=>
 uG a b (!f))
def yE (a b:bA):Option (Bool × Int):=
 ob (aCF a b) fun c=>
 some (c.1,c.2)
def aKq (a:List (List Int)):Option (List (List Int)):=
 some a
def aEV (a:Int) (b:List (List Int)):Option ((List (List Int) × Int) ⊕ (List (List Int))):=
 some (.inl (b,wr (a+1)))
def aHa (a:Int) (b:List (List Int)):Option ((List (List Int) × Int) ⊕ (List (List Int))):=
 aEV a b
def aEW (a:Int) (b:List (List Int)):Option ((List (List Int) × Int) ⊕ (List (List Int))):=
 some (.inl (b,wr (a+1)))
def aHb (a:Int) (b:List (List Int)):Option ((List (List Int) × Int) ⊕ (List (List Int))):=
 aEW a b
def aBi (a:Int) (b:List (List Int)):Option ((List (List Int) × Int) ⊕ (List (List Int))):=
 some (.inl (b,wr (a+1)))
def oJ (n:Int) (c:(List Int)) (b:List (List Int)) (a:Int):Option ((List (List Int) × Int) ⊕ (List (List Int))):=
 if (decide (a < n)) then (ob (dF c a) fun e=>
 if (!e) then (ob (bY c) fun f=>
 ob (xQ f ([a]:List Int)) fun g=>
 ob (xQ b ([g]:List (List Int))) fun h=>
 aBi a h) else (aBi a b)) else (some (.inr b))
def sM (n:Int) (b c:List (List Int)) (a:Int):Option ((List (List Int) × Int) ⊕ (List (List Int))):=
 if (decide (a < (b.length:Int))) then (ob (ix b a) fun e=>
 ob (loop (fun (s:(List (List Int) × Int))=>oJ n e s.1 s.2) (c,0)) fun r=>aHb a r) else (some (.inr c))
def uU (n:Int) (b:List (List Int)) (c:Int):Option ((List (List Int) × Int) ⊕ (List (List Int))):=
 if (decide (c < n)) then (ob (loop (fun (s:(List (List Int) × Int))=>sM n b s.1 s.2) ([],0)) fun r=>aHa c r) else (some (.inr b))
def aHc (n:Int):Option (List (List Int)):=
 ob (loop (fun (s:(List (List Int) × Int))=>uU n s.1 s.2) (([([]:List Int)]:List (List Int)),0)) fun r=>aKq r
def aEp (b:List Int) (a:Int):Option ((List Int) × Int × Int):=
 if (decide (a < 0)) then (some ([],0,5)) else (some (b,a,0))
def qX (a:Int) (b:List Int) (c:Int):Option ((List Int × Int × Int) ⊕ (List Int × Int)):=
 some (.inl (b,c,wr (a+1)))
def oK (b:List Int) (c a:Int) (d:(List Int)) (e:Int) (f:Bool):Option ((List Int × Int × Int) ⊕ (List Int × Int)):=
 if f then (qX a d e) else (qX a b c)
def jD (n:aO) (i:Int) (f:(List (List Int))) (c:List Int) (a b:Int):Option ((List Int × Int × Int) ⊕ (List Int × Int)):=
 if (decide (b < (f.length:Int))) then (ob (ix f b) fun d=>
 ob (dS n d i) fun g=>
 if (g.2.2 != 0) then (qX b c a) else (ob (xQ g.2.1 ([0]:List Int)) fun j=>
 ob (fN j) fun e=>
 if (decide (a < 0)) then (oK c a b d e true) else (oK c a b d e (decide (e < a))))) else (some (.inr (c,a)))
def aCT (n:aO) (b:Int):Option ((List Int) × Int × Int):=
 ob (mN n) fun d=>
 if (!d) then (some ([],0,1)) else (ob (sZ b) fun e=>
 if (!e) then (some ([],0,2)) else (ob (aHc (n.Parts.length:Int)) fun f=>
 ob (loop (fun (s:(List Int × Int × Int))=>jD n b f s.1 s.2.1 s.2.2) ([],(-1),0)) fun r=>aEp r.1 r.2))
def mB (a:Bool):Option Bool:=
 some a
def sO (b:(aO × (List Int))) (a:((List Int) × Int × Int)) (c:Int):Option Bool:=
 if (a.2.2 == 0) then (if ((a.1.length:Int) == (b.2.length:Int)) then (if (decide (1<=a.2.1)) then (mB (decide (a.2.1<=c))) else (mB false)) else (mB false)) else (mB false)
def kL (b:(bA × (List Int) × Int)) (c a:Int):Option ((Int × Int) ⊕ Int):=
 if (decide (a < (b.2.1.length:Int))) then (ob (ix b.2.1 a) fun d=>
 some (.inl (mxI c d,wr (a+1)))) else (some (.inr c))
def mC (a:(aO × (List Int))) (b:Int) (c:(bA × (List Int) × Int)):Option Bool:=
 ob (aCT a.1 b) fun d=>
 ob (loop (fun (s:(Int × Int))=>kL c s.1 s.2) (0,0)) fun r=>sO a d r
def sP (a:(aO × (List Int))) (b:Int) (c:(bA × (List Int) × Int)) (d:Bool):Option Bool:=
 if d then (some false) else (mC a b c)
def oL (c:(aO × (List Int))) (a:Int) (e:(bA × (List (List Int)) × Int)) (b:(bA × (List Int) × Int)) (f:Bool):Option Bool:=
 if f then (some false) else (if (a == 0) then (ob (yE e.1 b.1) fun d=>
 if (d.2 != 0) then (sP c a b true) else (sP c a b (!d.1))) else (mC c a b))
def mD (d:(aO × (List Int))) (a:Int) (b:(bA × (List (List Int)) × Int)) (c:(bA × (List Int) × Int)) (f:Bool):Option Bool:=
 if f then (some false) else (ob (uF b.1 c.1 (a == 2)) fun e=>
 if (e.2 != 0) then (oL d a b c true) else (oL d a b c (!e.1)))
def kM (b:(aO × (List Int))) (d:Int) (c:(bA × (List (List Int)) × Int)) (a:(bA × (List Int) × Int)) (e:Bool):Option Bool:=
 if e then (some true) else (if (c.2.2 != 0) then (mD b d c a true) else (if (a.2.2 != 0) then (mD b d c a true) else (mD b d c a ((a.2.1.length:Int) != (wr ((b.2.length:Int) - 1))))))
def xO (e f:(List UInt8)):Option Bool:=
 ob (aGW e f) fun g=>
 if g then (some true) else (ob (aCQ e) fun a=>
 ob (aLC f 0 3) fun b=>
 ob (qB a.1) fun c=>
 ob (uE a.1 a.2 b) fun d=>
 if (c.2.2 == 5) then (kM a b c d true) else (kM a b c d (d.2.2 == 5)))
def xD (a b:Int) (p:(List (List Int))):Option Int:=
 ob (ix p a) fun f=>
 ob (ix p b) fun g=>
 ob (fH f g) fun h=>
 some h
end
end Gv
