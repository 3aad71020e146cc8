/- Models of the functions, printed by program off their code. Plain Lean. -/
import Derived.Test.YtigicpgpkmjdpaaGreatDoorJLM
set_option linter.all false
namespace Gv
noncomputable section
def aGd (a:aI) (b:List aI):Option aI:=
 ob (aMU b a) fun c=>
 some c
def aBK (c:(List Int)) (b:List aI) (a:Int):Option ((List aI × Int) ⊕ (List aI)):=
 if (decide (a < (c.length:Int))) then (ob (ix c a) fun d=>
 ob (aEC d) fun e=>
 ob (ix b a) fun g=>
 ob (st b a (e:aI)) fun f=>
 some (.inl (f,wr (a+1)))) else (some (.inr b))
def aEE (a:(List Int)) (b:aI):Option aI:=
 ob (mkz (a.length:Int) ([]:aI)) fun c=>
 ob (loop (fun (s:(List aI × Int))=>aBK a s.1 s.2) (c,0)) fun r=>aGd b r
def aFi (a:Bool):Option Bool:=
 some a
def aGR (c:UInt8):Option Bool:=
 if (decide (48<=(c.toNat:Int))) then (aFi (decide ((c.toNat:Int)<=57))) else (aFi false)
def aGe (a:Bool):Option Bool:=
 some a
def aDY (a:aI):Option Bool:=
 if (decide (1<=(a.length:Int))) then (aGe (decide ((a.length:Int)<=10))) else (aGe false)
def aBL (a:Int) (b:Bool):Option (Int ⊕ (Unit ⊕ Bool)):=
 if b then (some (.inr (.inr false))) else (some (.inl (wr (a+1))))
def sO (b:aI) (a:Int) (c:Bool):Option (Int ⊕ (Unit ⊕ Bool)):=
 if (!c) then (if (a == 0) then (aBL a true) else (ob (ix b a) fun d=>
 ob (aGR d) fun e=>
 aBL a (!e))) else (aBL a false)
def aAd (a:aI) (b:Int):Option (Int ⊕ (Unit ⊕ Bool)):=
 if (decide (b < (a.length:Int))) then (ob (ix a b) fun c45=>
 if (decide (97<=(c45.toNat:Int))) then (sO a b (decide ((c45.toNat:Int)<=122))) else (sO a b false)) else (some (.inr (.inl ())))
def aGf (b:aI):Option Bool:=
 ob (loop (fun (s:Int)=>aAd b s) 0) fun r=>match r with|.inl r=>aDY b|.inr r=>some r
def aBz (a:Bool):Option Bool:=
 some a
def sY (a:aI):Option Bool:=
 ob (aGf a) fun b=>
 if b then (aBz (!(a == ([116,97,117]:aI)))) else (aBz false)
def aGg (a:Bool):Option Bool:=
 some a
def tR (n low b:Int):Option Bool:=
 if (decide (low<=n)) then (aGg (decide (n<=b))) else (aGg false)
def aJa (n:Int):Option Bool:=
 ob (tR n 0 63) fun b=>
 some b
def aDo (n:Int):Option Bool:=
 ob (aJa n) fun b=>
 some (!b)
def nX:Option Int:=
 some (-1)
def eH (b:(List Int)) (a:Int):Option (Int ⊕ (Unit ⊕ Int)):=
 if (decide (a < (b.length:Int))) then (ob (ix b a) fun c=>
 ob (aDo c) fun d=>
 if d then (some (.inr (.inr a))) else (some (.inl (wr (a+1))))) else (some (.inr (.inl ())))
def iF (b:(List Int)):Option Int:=
 ob (loop (fun (s:Int)=>eH b s) 0) fun r=>match r with|.inl r=>nX|.inr r=>some r
def kA (a:(List Int)):Option Bool:=
 ob (iF a) fun b=>
 some (decide (0<=b))
def aDZ (a:(List Int)):Option Bool:=
 ob (kA a) fun b=>
 some (!b)
def aAt (a:aI) (b:(List Int)) (c:Bool):Option (aI × Bool):=
 if c then (some (([]:aI),false)) else (if ((b.length:Int) == 0) then (some (a,true)) else (ob (cat a ([40]:aI)) fun d=>
 ob (aEE b ([44]:aI)) fun e=>
 ob (cat d e) fun f=>
 ob (cat f ([41]:aI)) fun g=>
 some (g,true)))
def aBk (b:aI) (a:(List Int)):Option (aI × Bool):=
 if (b == ([116,97,117]:aI)) then (some (([116,97,117]:aI),(a.length:Int) == 0)) else (ob (sY b) fun c=>
 if (!c) then (aAt b a true) else (if (decide (2 < (a.length:Int))) then (aAt b a true) else (ob (aDZ a) fun d=>
 aAt b a (!d))))
def aEF (a:List Int):Option ((List Int) × Bool):=
 some (a,true)
def wP (b:(List aI)) (c:List Int) (a:Int):Option ((List Int × Int) ⊕ (List Int ⊕ ((List Int) × Bool))):=
 if (decide (a < (b.length:Int))) then (ob (ix b a) fun e=>
 ob (xU e) fun d=>
 if (!d.2) then (some (.inr (.inr ([],false)))) else (ob (uF c ([d.1]:List Int)) fun f=>
 some (.inl (f,wr (a+1))))) else (some (.inr (.inl c)))
def xW (b:(List aI)):Option ((List Int) × Bool):=
 ob (loop (fun (s:(List Int × Int))=>wP b s.1 s.2) ([],0)) fun r=>match r with|.inl r=>aEF r|.inr r=>some r
def gP (a:Bool):Option Bool:=
 some a
def iT (a b:aI):Option Bool:=
 if (decide ((b.length:Int)<=(a.length:Int))) then (ob (zX a (wr ((a.length:Int) - (b.length:Int))) (a.length:Int)) fun c=>
 gP (c == b)) else (gP false)
def kZ (a b:aI):Option aI:=
 ob (iT a b) fun c=>
 if c then (ob (zX a 0 (wr ((a.length:Int) - (b.length:Int)))) fun d=>
 some d) else (some a)
def qM (a b:aI):Option aI:=
 ob (kZ a b) fun c=>
 some c
def lF (a:(aI × aI × Bool)) (b:List Int) (c:Bool):Option (aI × (List Int) × Bool):=
 if c then (some (([]:aI),[],false)) else (some (a.1,b,true))
def kK (d:aI) (a:(aI × aI × Bool)) (b:List Int):Option (aI × (List Int) × Bool):=
 ob (aBk a.1 b) fun c=>
 if (!c.2) then (lF a b true) else (lF a b (!(c.1 == d)))
def lM (b:aI):Option (aI × (List Int) × Bool):=
 ob (aMd b ([40]:aI)) fun a=>
 if a.2.2 then (ob (qM a.2.1 ([41]:aI)) fun d=>
 ob (aFf d ([44]:aI)) fun e=>
 ob (xW e) fun c=>
 if (!c.2) then (some (([]:aI),[],false)) else (kK b a c.1)) else (kK b a [])
def aCW (a:aI):Option Bool:=
 ob (lM a) fun b=>
 some b.2.2
def aEa (a:Bool):Option Bool:=
 some a
def aGh (a b:(List UInt8)):Option Bool:=
 if (decide (1048576 < (a.length:Int))) then (aEa true) else (aEa (decide (1048576 < (b.length:Int))))
def aEG (a:(List UInt8)):Option (Int × Int):=
 some (0,0)
def aIt:Option Int:=
 some (-1)
def aCG (b:(List aI)) (c:aI) (a:Int):Option (Int ⊕ (Unit ⊕ Int)):=
 if (decide (a < (b.length:Int))) then (ob (ix b a) fun d=>
 if (d == c) then (some (.inr (.inr a))) else (some (.inl (wr (a+1))))) else (some (.inr (.inl ())))
def aCX (b:(List aI)) (c:aI):Option Int:=
 ob (loop (fun (s:Int)=>aCG b c s) 0) fun r=>match r with|.inl r=>aIt|.inr r=>some r
def aIu (a:List aI):Option (List aI):=
 some a
def wQ (a:Int) (b:List aI):Option ((List aI × Int) ⊕ (List aI)):=
 some (.inl (b,wr (a+1)))
def aCH (c:Int) (d:aI) (a:Int) (b:List aI):Option ((List aI × Int) ⊕ (List aI)):=
 ob (ix b a) fun f=>
 ob (st b a (d:aI)) fun e=>
 wQ c e
def aAu (c:Int) (b:List aI) (a:Int):Option ((List aI × Int) ⊕ (List aI)):=
 if (decide (c < a)) then (ob (ix b (wr (a - 1))) fun d=>
 ob (ix b a) fun f=>
 ob (st b a (d:aI)) fun e=>
 some (.inl (e,wr (a - 1)))) else (some (.inr b))
def aCI (c:List aI) (d:Int) (e:aI) (a:Int):Option ((List aI × Int) ⊕ (List aI)):=
 ob (uF c ([([]:aI)]:List aI)) fun b=>
 ob (loop (fun (s:(List aI × Int))=>aAu a s.1 s.2) (b,wr ((b.length:Int) - 1))) fun r=>aCH d e a r
def aAv (a:Int) (b:Bool):Option (Int ⊕ Int):=
 if b then (some (.inl (wr (a+1)))) else (some (.inr a))
def wR (b:List aI) (c:aI) (a:Int):Option (Int ⊕ Int):=
 if (decide (a < (b.length:Int))) then (ob (ix b a) fun d=>
 aAv a (vJ d c)) else (aAv a false)
def sZ (d:(List aI)) (a:List aI) (b:Int):Option ((List aI × Int) ⊕ (List aI)):=
 if (decide (b < (d.length:Int))) then (ob (ix d b) fun c=>
 ob (aCX a c) fun e=>
 if (decide (0<=e)) then (wQ b a) else (ob (loop (fun (s:Int)=>wR a c s) 1) fun r=>aCI a b c r)) else (some (.inr a))
def aEH (a:(List aI)):Option (List aI):=
 ob (loop (fun (s:(List aI × Int))=>sZ a s.1 s.2) (([([116,97,117]:aI)]:List aI),0)) fun r=>aIu r
def aGS (a b:Edge):Option Bool:=
 if (a.F != b.F) then (some (decide (a.F < b.F))) else (if (a.B != b.B) then (some (decide (a.B < b.B))) else (some (decide (a.To < b.To))))
def aEb (e:Edge) (b:Int) (c:List Edge):Option (List Edge):=
 ob (ix c b) fun f=>
 ob (st c b (⟨e.F,e.B,e.To⟩:Edge)) fun d=>
 some d
def aBM (d:Int) (b:List Edge) (a:Int):Option ((List Edge × Int) ⊕ (List Edge)):=
 if (decide (d < a)) then (ob (ix b (wr (a - 1))) fun c=>
 ob (ix b a) fun f=>
 ob (st b a (⟨c.F,c.B,c.To⟩:Edge)) fun e=>
 some (.inl (e,wr (a - 1)))) else (some (.inr b))
def aAe (a:(List Edge)) (e:Edge) (b:Int) (f:Bool):Option (List Edge):=
 if f then (some a) else (ob (uF a ([⟨0,0,0⟩]:List Edge)) fun c=>
 ob (loop (fun (s:(List Edge × Int))=>aBM b s.1 s.2) (c,wr ((c.length:Int) - 1))) fun r=>aEb e b r)
def aEc (b:(List Edge)) (e:Edge) (a:Int):Option (List Edge):=
 if (decide (0 < a)) then (ob (ix b (wr (a - 1))) fun d=>
 aAe b e a (decide ((d:Edge)=e))) else (aAe b e a false)
def aBN (a:Int) (b:Bool):Option (Int ⊕ Int):=
 if b then (some (.inl (wr (a - 1)))) else (some (.inr a))
def aAf (b:(List Edge)) (e:Edge) (a:Int):Option (Int ⊕ Int):=
 if (decide (0 < a)) then (ob (ix b (wr (a - 1))) fun d=>
 ob (aGS e d) fun f=>
 aBN a f) else (aBN a false)
def aGi (a:(List Edge)) (e:Edge):Option (List Edge):=
 ob (loop (fun (s:Int)=>aAf a e s) (a.length:Int)) fun r=>aEc a e r
def aIv (a b:Int) (c:(List aI)) (d:List Edge):Option bB:=
 some ⟨a,b,c,d⟩
def wS (e:(List aI)) (c:(List Edge)) (f:(List aI)) (d:List Edge) (a:Int):Option ((List Edge × Int) ⊕ (List Edge)):=
 if (decide (a < (c.length:Int))) then (ob (ix c a) fun b=>
 ob (ix e b.B) fun g=>
 ob (aCX f g) fun h=>
 ob (aGi d ⟨b.F,h,b.To⟩) fun i=>
 some (.inl (i,wr (a+1)))) else (some (.inr d))
def qE (c d:Int) (a:(List aI)) (e:(List Edge)):Option bB:=
 ob (aEH a) fun b=>
 ob (loop (fun (s:(List Edge × Int))=>wS a e b s.1 s.2) (([]:List Edge),0)) fun r=>aIv c d b r
def aCJ (t:bB) (b:List aI) (c:List Edge):Option bB:=
 ob (qE t.N t.I b c) fun d=>
 some d
def tA (t:bB) (d:List aI) (e:List Edge) (b:Int):Option ((List aI × List Edge × Int) ⊕ (List aI × List Edge)):=
 if (decide (b < (t.E.length:Int))) then (ob (ix t.E b) fun c=>
 ob (ix t.L c.B) fun g=>
 ob (uF d ([g]:List aI)) fun f=>
 ob (uF e ([⟨c.F,wr ((f.length:Int) - 1),c.To⟩]:List Edge)) fun h=>
 some (.inl (f,h,wr (b+1)))) else (some (.inr (d,e)))
def aCY (t:bB):Option bB:=
 ob (loop (fun (s:(List aI × List Edge × Int))=>tA t s.1 s.2.1 s.2.2) (([([116,97,117]:aI)]:List aI),([]:List Edge),0)) fun r=>aCJ t r.1 r.2
def aIw (a:List Int):Option (Bool × (List Int)):=
 some (true,a)
def aCK (b:List Int) (c a:Int):Option ((List Int × Int × Int) ⊕ (List Int)):=
 if (decide (c < a)) then (ob (ix b c) fun e=>
 ob (ix b a) fun f=>
 ob (st b c (f:Int)) fun d=>
 ob (ix d a) fun h=>
 ob (st d a (e:Int)) fun g=>
 some (.inl (g,wr (c+1),wr (a - 1)))) else (some (.inr b))
def aCL (a:(List Int)) (b c:Int):Option (Bool × (List Int)):=
 ob (ix a b) fun f=>
 ob (ix a c) fun g=>
 ob (st a b (g:Int)) fun d=>
 ob (ix d c) fun i=>
 ob (st d c (f:Int)) fun e=>
 ob (loop (fun (s:(List Int × Int × Int))=>aCK s.1 s.2.1 s.2.2) (e,wr (b+1),wr ((e.length:Int) - 1))) fun r=>aIw r
def aCM (b:(List Int)) (c a:Int):Option (Int ⊕ Int):=
 ob (ix b a) fun d=>
 ob (ix b c) fun e=>
 if (decide (d < e)) then (some (.inl (wr (a - 1)))) else (some (.inr a))
def aCN (a:(List Int)) (b:Int):Option (Bool × (List Int)):=
 if (decide (b < 0)) then (some (false,a)) else (ob (loop (fun (s:Int)=>aCM a b s) (wr ((a.length:Int) - 1))) fun r=>aCL a b r)
def aCO (a:Int) (b:Bool):Option (Int ⊕ Int):=
 if b then (some (.inl (wr (a - 1)))) else (some (.inr a))
def aCP (b:(List Int)) (a:Int):Option (Int ⊕ Int):=
 if (decide (0<=a)) then (ob (ix b a) fun c=>
 ob (ix b (wr (a+1))) fun d=>
 aCO a (decide (d < c))) else (aCO a false)
def aEI (a:(List Int)):Option (Bool × (List Int)):=
 ob (loop (fun (s:Int)=>aCP a s) (wr ((a.length:Int) - 2))) fun r=>aCN a r
def rS (d:(List UInt8)) (b c a:Int):Option (Int × Int × Int):=
 if (decide (wr (b+1)<=(d.length:Int))) then (some (a,wr (b+1),lC ((lC ((lC (c * 6364136223846793005))+(lC a)))+1442695040888963407))) else (ob (shU (lC ((lC ((lC (c * 6364136223846793005))+(lC a)))+1442695040888963407)) 40) fun e=>
 some (wr (anU e 255),wr (b+1),lC ((lC ((lC (c * 6364136223846793005))+(lC a)))+1442695040888963407)))
def uG (a:(List UInt8)) (b c:Int):Option (Int × Int × Int):=
 if (decide (b < (a.length:Int))) then (ob (ix a b) fun d=>
 rS a b c (wr (d.toNat:Int))) else (rS a b c 0)
def rT (n b c d:Int):Option (Int × Int × Int):=
 ob (rm b n) fun e=>
 some (e,c,d)
def dZ (d:(List UInt8)) (e f n:Int):Option (Int × Int × Int):=
 if (decide (n<=1)) then (some (0,e,f)) else (ob (uG d e f) fun a=>
 if (decide (200 < n)) then (ob (uG d a.2.1 a.2.2) fun c=>
 rT n (wr ((wr (a.1 * 256))+c.1)) c.2.1 c.2.2) else (rT n a.1 a.2.1 a.2.2))
def aAw (c:(List UInt8)) (d e:Int) (b:(List Int)):Option (Int × Int × Int):=
 ob (dZ c d e (b.length:Int)) fun a=>
 ob (ix b a.1) fun f=>
 some (f,a.2.1,a.2.2)
def xO (d:(List UInt8)) (b c a:Int):Option (Int × Int × Int):=
 if (decide (wr (b+1)<=(d.length:Int))) then (some (a,wr (b+1),lC ((lC ((lC (c * 6364136223846793005))+(lC a)))+1442695040888963407))) else (ob (shU (lC ((lC ((lC (c * 6364136223846793005))+(lC a)))+1442695040888963407)) 40) fun e=>
 some (wr (anU e 255),wr (b+1),lC ((lC ((lC (c * 6364136223846793005))+(lC a)))+1442695040888963407)))
def oN (a:(List UInt8)) (b c:Int):Option (Int × Int × Int):=
 if (decide (b < (a.length:Int))) then (ob (ix a b) fun d=>
 xO a b c (wr (d.toNat:Int))) else (xO a b c 0)
def xP (n b c d:Int):Option (Int × Int × Int):=
 ob (rm b n) fun e=>
 some (e,c,d)
def jP (d:(List UInt8)) (e f n:Int):Option (Int × Int × Int):=
 if (decide (n<=1)) then (some (0,e,f)) else (ob (oN d e f) fun a=>
 if (decide (200 < n)) then (ob (oN d a.2.1 a.2.2) fun c=>
 xP n (wr ((wr (a.1 * 256))+c.1)) c.2.1 c.2.2) else (xP n a.1 a.2.1 a.2.2))
def xQ (a:(List UInt8)) (n c d e:Int):Option (Int × (List UInt8) × Int × Int):=
 ob (rm c n) fun f=>
 some (f,a,d,e)
def aEJ (b:(List UInt8)) (e f n:Int):Option (Int × (List UInt8) × Int × Int):=
 if (decide (n<=1)) then (some (0,b,e,f)) else (ob (oN b e f) fun a=>
 if (decide (200 < n)) then (ob (oN b a.2.1 a.2.2) fun d=>
 xQ b n (wr ((wr (a.1 * 256))+d.1)) d.2.1 d.2.2) else (xQ b n a.1 a.2.1 a.2.2))
def aBl (a:(List UInt8)) (b c:Int) (d:List aI) (e:List Edge) (f g:Int):Option (bB × (List UInt8) × Int × Int):=
 ob (aCY ⟨b,c,d,e⟩) fun h=>
 some (h,a,f,g)
def aBm (c:(List UInt8)) (d:(Int × Int × Int)) (e f:Int) (g:List Edge):Option (bB × (List UInt8) × Int × Int):=
 ob (jP c e f (wr (1+d.1))) fun b=>
 ob (qE (wr (1+d.1)) b.1 ([([116,97,117]:aI),([97]:aI),([103,101,116,40,48,41]:aI),([103,101,116,40,49,41]:aI),([112,117,116,40,48,41]:aI),([112,117,116,40,49,41]:aI)]:List aI) g) fun a=>
 aBl c a.N a.I a.L a.E b.2.1 b.2.2
def aEK (a:(List UInt8)) (e:(Int × Int × Int)) (f g:Int) (h:List Edge) (i:Int):Option ((Int × Int × List Edge × Int) ⊕ (Int × Int × List Edge)):=
 if (decide (0 < i)) then (ob (jP a f g (wr (1+e.1))) fun b=>
 ob (jP a b.2.1 b.2.2 6) fun c=>
 ob (jP a c.2.1 c.2.2 (wr (1+e.1))) fun d=>
 ob (uF h ([⟨b.1,c.1,d.1⟩]:List Edge)) fun j=>
 some (.inl (d.2.1,d.2.2,j,wr (i - 1)))) else (some (.inr (f,g,h)))
def aHk (a:(List UInt8)) (e f:Int):Option (bB × (List UInt8) × Int × Int):=
 ob (jP a e f 3) fun b=>
 ob (jP a b.2.1 b.2.2 5) fun c=>
 ob (loop (fun (s:(Int × Int × List Edge × Int))=>aEK a b s.1 s.2.1 s.2.2.1 s.2.2.2) (c.2.1,c.2.2,([]:List Edge),c.1)) fun r=>aBm a b r.1 r.2.1 r.2.2
def rN (a b:Int) (c:List aI) (d:List Edge) (e f:Int):Option (bB × Int × Int):=
 ob (aCY ⟨a,b,c,d⟩) fun g=>
 some (g,e,f)
def rO (d:(List UInt8)) (c:(Int × Int × Int)) (e f:Int) (g:List Edge):Option (bB × Int × Int):=
 ob (dZ d e f (wr (1+c.1))) fun b=>
 ob (qE (wr (1+c.1)) b.1 ([([116,97,117]:aI),([97]:aI),([103,101,116,40,48,41]:aI),([103,101,116,40,49,41]:aI),([112,117,116,40,48,41]:aI),([112,117,116,40,49,41]:aI)]:List aI) g) fun a=>
 rN a.N a.I a.L a.E b.2.1 b.2.2
def nY (a:(List UInt8)) (e:(Int × Int × Int)) (f g:Int) (h:List Edge) (i:Int):Option ((Int × Int × List Edge × Int) ⊕ (Int × Int × List Edge)):=
 if (decide (0 < i)) then (ob (dZ a f g (wr (1+e.1))) fun b=>
 ob (dZ a b.2.1 b.2.2 6) fun c=>
 ob (dZ a c.2.1 c.2.2 (wr (1+e.1))) fun d=>
 ob (uF h ([⟨b.1,c.1,d.1⟩]:List Edge)) fun j=>
 some (.inl (d.2.1,d.2.2,j,wr (i - 1)))) else (some (.inr (f,g,h)))
def oO (a:(List UInt8)) (e f:Int):Option (bB × Int × Int):=
 ob (dZ a e f 3) fun b=>
 ob (dZ a b.2.1 b.2.2 5) fun c=>
 ob (loop (fun (s:(Int × Int × List Edge × Int))=>nY a b s.1 s.2.1 s.2.2.1 s.2.2.2) (c.2.1,c.2.2,([]:List Edge),c.1)) fun r=>rO a b r.1 r.2.1 r.2.2
def tB (b:(List UInt8)) (c d n:Int):Option (Bool × Int × Int):=
 ob (dZ b c d n) fun a=>
 some (a.1 == 0,a.2.1,a.2.2)
def aEd (a:List aI) (b c:Int):Option ((List aI) × Int × Int):=
 some (a,b,c)
def qN (a b c:Int) (d:List aI):Option ((Int × Int × List aI × Int) ⊕ (List aI × Int × Int)):=
 some (.inl (b,c,d,wr (a+1)))
def nF (b:List aI) (a c d:Int) (e:Bool):Option ((Int × Int × List aI × Int) ⊕ (List aI × Int × Int)):=
 if e then (ob (ix ([([97]:aI),([98]:aI),([103,101,116]:aI),([109,111,118,101]:aI),([112,97,105,114]:aI),([112,117,116]:aI)]:List aI) a) fun f=>
 ob (uF b ([f]:List aI)) fun g=>
 qN a c d g) else (qN a c d b)
def kC (g:(List UInt8)) (h:Bool) (d e:Int) (b:List aI) (c:Int):Option ((Int × Int × List aI × Int) ⊕ (List aI × Int × Int)):=
 if (decide (c < (([([97]:aI),([98]:aI),([103,101,116]:aI),([109,111,118,101]:aI),([112,97,105,114]:aI),([112,117,116]:aI)]:List aI).length:Int))) then (if h then (ob (dZ g d e 4) fun a=>
 if (decide (0 < a.1)) then (nF b c a.2.1 a.2.2 true) else (nF b c a.2.1 a.2.2 false)) else (ob (tB g d e 4) fun f=>
 nF b c f.2.1 f.2.2 f.1)) else (some (.inr (b,d,e)))
def rU (b:(List UInt8)) (c d:Int) (e:Bool):Option ((List aI) × Int × Int):=
 ob (loop (fun (s:(Int × Int × List aI × Int))=>kC b e s.1 s.2.1 s.2.2.1 s.2.2.2) (c,d,([]:List aI),0)) fun r=>aEd r.1 r.2.1 r.2.2
def rV (c:(List UInt8)) (d:List bB) (e f:Int) (g:List cF):Option (aX × Int × Int):=
 ob (rU c e f true) fun a=>
 ob (rU c a.2.1 a.2.2 false) fun b=>
 some (⟨d,g,a.1,b.1⟩,b.2.1,b.2.2)
def rW (b:(List UInt8)) (c:List bB) (e f:Int) (d:List cF):Option (aX × Int × Int):=
 ob (dZ b e f 5) fun a=>
 if (decide (0 < a.1)) then (ob (uF d ([⟨([103,101,116]:aI),([112,117,116]:aI),([109,111,118,101]:aI)⟩]:List cF)) fun g=>
 rV b c a.2.1 a.2.2 g) else (rV b c a.2.1 a.2.2 d)
def aAx (b:(List UInt8)) (d e:Int) (c:List bB):Option (aX × Int × Int):=
 ob (tB b d e 4) fun a=>
 if a.1 then (ob (uF ([]:List cF) ([⟨([97]:aI),([97]:aI),([112,97,105,114]:aI)⟩]:List cF)) fun f=>
 rW b c a.2.1 a.2.2 f) else (rW b c a.2.1 a.2.2 [])
def vP (f:(List UInt8)) (b c:Int) (d:List bB) (e:Int):Option ((Int × Int × List bB × Int) ⊕ (Int × Int × List bB)):=
 if (decide (0 < e)) then (ob (oO f b c) fun a=>
 ob (uF d ([⟨a.1.N,a.1.I,a.1.L,a.1.E⟩]:List bB)) fun g=>
 some (.inl (a.2.1,a.2.2,g,wr (e - 1)))) else (some (.inr (b,c,d)))
def aBO (a:(List UInt8)) (d e:Int):Option (aX × Int × Int):=
 ob (aAw a d e ([1,2,2,2,3,3,4]:List Int)) fun b=>
 ob (loop (fun (s:(Int × Int × List bB × Int))=>vP a s.1 s.2.1 s.2.2.1 s.2.2.2) (b.2.1,b.2.2,([]:List bB),b.1)) fun r=>aAx a r.1 r.2.1 r.2.2
def aAy (a:(aX × Int × Int)) (b:List bB) (c:List Int):Option (aX × (List Int)):=
 some (⟨b,a.1.Meetings,a.1.Allowed,a.1.Hidden⟩,c)
def aAz (a:List Int) (b:Int):Option ((List Int × Int) ⊕ (List Int)):=
 if (decide (0 < b)) then (ob (aEI a) fun c=>
 some (.inl (c.2,wr (b - 1)))) else (some (.inr a))
def aAA (a:(List UInt8)) (b:(aX × Int × Int)) (c d:Int) (e:List bB) (f:List Int):Option (aX × (List Int)):=
 ob (dZ a c d 6) fun g=>
 ob (loop (fun (s:(List Int × Int))=>aAz s.1 s.2) (f,g.1)) fun r=>aAy b e r
def oT (c:List bB) (b:List Int) (a:Int):Option ((List Int × Int) ⊕ (List Int)):=
 if (decide (a < (c.length:Int))) then (ob (uF b ([a]:List Int)) fun d=>
 some (.inl (d,wr (a+1)))) else (some (.inr b))
def rX (b:(List UInt8)) (c:(aX × Int × Int)) (d e:Int) (a:List bB):Option (aX × (List Int)):=
 ob (loop (fun (s:(List Int × Int))=>oT a s.1 s.2) (([]:List Int),0)) fun r=>aAA b c d e a r
def vQ (b:(List UInt8)) (c:(aX × Int × Int)) (d e:Int) (a:List bB):Option (aX × (List Int)):=
 if (decide (3 < (a.length:Int))) then (ob (zX a 0 3) fun f=>
 rX b c d e f) else (rX b c d e a)
def vR (e:(List UInt8)) (c d:Int) (b:List bB):Option ((Int × Int × List bB) ⊕ (Int × Int × List bB)):=
 if (decide ((b.length:Int) < 2)) then (ob (oO e c d) fun a=>
 ob (uF b ([⟨a.1.N,a.1.I,a.1.L,a.1.E⟩]:List bB)) fun f=>
 some (.inl (a.2.1,a.2.2,f))) else (some (.inr (c,d,b)))
def aBP (a:(List UInt8)):Option (aX × (List Int)):=
 ob (aEG a) fun d=>
 ob (aBO a d.1 d.2) fun b=>
 ob (loop (fun (s:(Int × Int × List bB))=>vR a s.1 s.2.1 s.2.2) (b.2.1,b.2.2,b.1.Parts)) fun r=>vQ a b r.1 r.2.1 r.2.2
def aEL (a:(List UInt8)) (k n:Int) (d:Bool):Option Int:=
 if d then (some 0) else (ob (ix a k) fun e=>
 ob (rm (wr (e.toNat:Int)) n) fun f=>
 some f)
def aKI (a:(List UInt8)) (k n:Int):Option Int:=
 if (decide (n<=1)) then (aEL a k n true) else (aEL a k n (decide ((a.length:Int)<=k)))
def aHl:Option Int:=
 some (-1)
def aBA (b:(List Int)) (n a:Int):Option (Int ⊕ (Unit ⊕ Int)):=
 if (decide (a < (b.length:Int))) then (ob (ix b a) fun d=>
 if (d == n) then (some (.inr (.inr a))) else (some (.inl (wr (a+1))))) else (some (.inr (.inl ())))
def zH (b:(List Int)) (n:Int):Option Int:=
 ob (loop (fun (s:Int)=>aBA b n s) 0) fun r=>match r with|.inl r=>aHl|.inr r=>some r
def aIx (a:(List Int)) (b:Int) (c:List aI) (d:List Edge):Option bB:=
 some ⟨(a.length:Int),b,c,d⟩
def tC (a:Int) (b:List Edge):Option ((List Edge × Int) ⊕ (List Edge)):=
 some (.inl (b,wr (a+1)))
def wT (a:List Edge) (b:Int) (c:Edge) (d e:Int) (f:Bool):Option ((List Edge × Int) ⊕ (List Edge)):=
 if f then (ob (uF a ([⟨d,c.B,e⟩]:List Edge)) fun g=>
 tC b g) else (tC b a)
def wU (t:bB) (g:(List Int)) (c:List Edge) (a:Int):Option ((List Edge × Int) ⊕ (List Edge)):=
 if (decide (a < (t.E.length:Int))) then (ob (ix t.E a) fun b=>
 ob (zH g b.F) fun d=>
 ob (zH g b.To) fun e=>
 if (decide (0<=d)) then (wT c a b d e (decide (0<=e))) else (wT c a b d e false)) else (some (.inr c))
def aEM (t:bB) (b:(List Int)):Option bB:=
 ob (zH b t.I) fun c=>
 ob (uF ([]:List aI) t.L) fun d=>
 ob (loop (fun (s:(List Edge × Int))=>wU t b s.1 s.2) (([]:List Edge),0)) fun r=>aIx b c d r
def aHm (a:List Int):Option (List Int):=
 some a
def xX (a:Int) (b:List Int):Option ((List Int × Int) ⊕ (List Int)):=
 some (.inl (b,wr (a+1)))
def xY (t:bB) (d:List Bool) (b:List Int) (a:Int):Option ((List Int × Int) ⊕ (List Int)):=
 if (decide (a < t.N)) then (ob (ix d a) fun e=>
 if e then (ob (uF b ([a]:List Int)) fun f=>
 xX a f) else (xX a b)) else (some (.inr b))
def aBB (t:bB) (b:List Bool):Option (List Int):=
 ob (loop (fun (s:(List Int × Int))=>xY t b s.1 s.2) (([]:List Int),0)) fun r=>aHm r
def aEs (a:List Bool) (b:Bool):Option ((List Bool × Bool) ⊕ (List Bool)):=
 some (.inl (a,b))
def aHn (a:List Bool) (b:Bool):Option ((List Bool × Bool) ⊕ (List Bool)):=
 aEs a b
def qY (a:Int) (b:List Bool) (c:Bool):Option ((List Bool × Bool × Int) ⊕ (List Bool × Bool)):=
 some (.inl (b,c,wr (a+1)))
def qZ (t:bB) (a:List Bool) (e:Bool) (b:Int) (f:Bool):Option ((List Bool × Bool × Int) ⊕ (List Bool × Bool)):=
 if f then (ob (ix t.E b) fun c=>
 ob (ix a c.To) fun h=>
 ob (st a c.To (true:Bool)) fun g=>
 qY b g true) else (qY b a e)
def xZ (t:bB) (a:List Bool) (d:Bool) (c:Int):Option ((List Bool × Bool × Int) ⊕ (List Bool × Bool)):=
 if (decide (c < (t.E.length:Int))) then (ob (ix t.E c) fun e=>
 ob (ix a e.F) fun f=>
 if f then (ob (ix a e.To) fun g=>
 qZ t a d c (!g)) else (qZ t a d c false)) else (some (.inr (a,d)))
def aDp (t:bB) (a:List Bool) (d:Bool):Option ((List Bool × Bool) ⊕ (List Bool)):=
 if d then (ob (loop (fun (s:(List Bool × Bool × Int))=>xZ t s.1 s.2.1 s.2.2) (a,false,0)) fun r=>aHn r.1 r.2) else (some (.inr a))
def aDq (t:bB):Option (List Int):=
 ob (mkz t.N (false:Bool)) fun b=>
 ob (ix b t.I) fun e=>
 ob (st b t.I (true:Bool)) fun c=>
 ob (loop (fun (s:(List Bool × Bool))=>aDp t s.1 s.2) (c,true)) fun r=>aBB t r
def aBC (a:Bool):Option Bool:=
 some a
def vS (e:Edge) (p:(List Int)):Option Bool:=
 if (e.B == 0) then (ob (ix p e.F) fun c=>
 ob (ix p e.To) fun d=>
 aBC (c == d)) else (aBC false)
def aIy (a:List Int):Option (List Int):=
 some a
def aAB (a:Int) (b:List Int):Option ((List Int × Int) ⊕ (List Int)):=
 some (.inl (b,wr (a+1)))
def wV (c:(List Bool)) (b:List Int) (a:Int):Option ((List Int × Int) ⊕ (List Int)):=
 if (decide (a < (c.length:Int))) then (ob (ix c a) fun d=>
 if d then (ob (uF b ([a]:List Int)) fun e=>
 aAB a e) else (aAB a b)) else (some (.inr b))
def aCZ (a:(List Bool)):Option (List Int):=
 ob (loop (fun (s:(List Int × Int))=>wV a s.1 s.2) (([]:List Int),0)) fun r=>aIy r
def aCj (a:List Bool):Option (List Bool):=
 some a
def aCk (a:List Bool) (b:Bool):Option ((List Bool × Bool) ⊕ (List Bool)):=
 some (.inl (a,b))
def aFD (a:List Bool) (b:Bool):Option ((List Bool × Bool) ⊕ (List Bool)):=
 aCk a b
def nP (a:Int) (b:List Bool) (c:Bool):Option ((List Bool × Bool × Int) ⊕ (List Bool × Bool)):=
 some (.inl (b,c,wr (a+1)))
def yO (b:List Bool) (c:Bool) (a:Int) (d:Bool):Option ((List Bool × Bool × Int) ⊕ (List Bool × Bool)):=
 if (!d) then (ob (st b a (false:Bool)) fun e=>
 nP a e true) else (nP a b c)
def lN (a:Int) (b:Bool):Option ((Bool × Int) ⊕ Bool):=
 some (.inl (b,wr (a+1)))
def lO (t:bB) (p:(List Int)) (f:List Bool) (g:Int) (d:Bool) (a:Int):Option ((Bool × Int) ⊕ Bool):=
 if (decide (a < (t.E.length:Int))) then (ob (ix t.E a) fun b=>
 if d then (lN a true) else (if (b.F == g) then (ob (vS b p) fun h=>
 if h then (ob (ix f b.To) fun i=>
 lN a i) else (lN a false)) else (lN a false))) else (some (.inr d))
def nR (t:bB) (p:(List Int)) (a:List Bool) (c:Bool) (b:Int):Option ((List Bool × Bool × Int) ⊕ (List Bool × Bool)):=
 if (decide (b < t.N)) then (ob (ix a b) fun f=>
 if (!f) then (nP b a c) else (ob (loop (fun (s:(Bool × Int))=>lO t p a b s.1 s.2) (false,0)) fun r=>yO a c b r)) else (some (.inr (a,c)))
def qF (t:bB) (p:(List Int)) (a:List Bool) (e:Bool):Option ((List Bool × Bool) ⊕ (List Bool)):=
 if e then (ob (loop (fun (s:(List Bool × Bool × Int))=>nR t p s.1 s.2.1 s.2.2) (a,false,0)) fun r=>aFD r.1 r.2) else (some (.inr a))
def wW (t:bB) (p:(List Int)) (c:List Bool):Option (List Bool):=
 ob (loop (fun (s:(List Bool × Bool))=>qF t p s.1 s.2) (c,true)) fun r=>aCj r
def kR (t:bB) (b:List Bool) (a:Int):Option ((List Bool × Int) ⊕ (List Bool)):=
 if (decide (a < t.N)) then (ob (ix b a) fun e=>
 ob (st b a (true:Bool)) fun d=>
 some (.inl (d,wr (a+1)))) else (some (.inr b))
def wX (t:bB) (p:(List Int)):Option (List Bool):=
 ob (mkz t.N (false:Bool)) fun c=>
 ob (loop (fun (s:(List Bool × Int))=>kR t s.1 s.2) (c,0)) fun r=>wW t p r
def aKJ (a b:Int):Option Int:=
 if (decide (b < a)) then (some a) else (some b)
def aGj (a:Int):Option Int:=
 some a
def vT (p:(List Int)) (c a:Int):Option ((Int × Int) ⊕ Int):=
 if (decide (a < (p.length:Int))) then (ob (ix p a) fun d=>
 ob (aKJ c (wr (d+1))) fun e=>
 some (.inl (e,wr (a+1)))) else (some (.inr c))
def aBQ (p:(List Int)):Option Int:=
 ob (loop (fun (s:(Int × Int))=>vT p s.1 s.2) (0,0)) fun r=>aGj r
def rY (t:bB) (p:(List Int)) (c:List Edge):Option bB:=
 ob (ix p t.I) fun d=>
 ob (aBQ p) fun e=>
 ob (qE e d t.L c) fun f=>
 some f
def aBn (t:bB) (p:(List Int)) (c:List Edge):Option bB:=
 rY t p c
def jQ (p b:(List Int)) (c:List Edge) (a:Int):Option ((List Edge × Int) ⊕ (List Edge)):=
 if (decide (a < (b.length:Int))) then (ob (ix b a) fun f=>
 ob (ix p f) fun d=>
 ob (uF c ([⟨d,0,d⟩]:List Edge)) fun g=>
 some (.inl (g,wr (a+1)))) else (some (.inr c))
def wY (t:bB) (p:(List Int)) (d:Bool) (c:List Edge):Option bB:=
 if d then (ob (wX t p) fun e=>
 ob (aCZ e) fun f=>
 ob (loop (fun (s:(List Edge × Int))=>jQ p f s.1 s.2) (c,0)) fun r=>aBn t p r) else (rY t p c)
def rZ (a:Int) (b:List Edge):Option ((List Edge × Int) ⊕ (List Edge)):=
 some (.inl (b,wr (a+1)))
def mF (t:bB) (p:(List Int)) (d:List Edge) (a:Int):Option ((List Edge × Int) ⊕ (List Edge)):=
 if (decide (a < (t.E.length:Int))) then (ob (ix t.E a) fun b=>
 ob (vS b p) fun f=>
 if (!f) then (ob (ix p b.F) fun g=>
 ob (ix p b.To) fun h=>
 ob (uF d ([⟨g,b.B,h⟩]:List Edge)) fun i=>
 rZ a i) else (rZ a d)) else (some (.inr d))
def yA (t:bB) (p:(List Int)) (c:Bool):Option bB:=
 ob (loop (fun (s:(List Edge × Int))=>mF t p s.1 s.2) (([]:List Edge),0)) fun r=>wY t p c r
def aIz:Option Bool:=
 some true
def aCQ (a b:(List Int)) (c:Int):Option (Int ⊕ (Unit ⊕ Bool)):=
 if (decide (c < (a.length:Int))) then (ob (ix a c) fun f=>
 ob (ix b c) fun g=>
 if (f != g) then (some (.inr (.inr false))) else (some (.inl (wr (c+1))))) else (some (.inr (.inl ())))
def aDa (a b:(List Int)):Option Bool:=
 if ((a.length:Int) != (b.length:Int)) then (some false) else (ob (loop (fun (s:Int)=>aCQ a b s) 0) fun r=>match r with|.inl r=>aIz|.inr r=>some r)
def aHo (a:List Bool):Option (List Bool):=
 some a
def aEt (a:List Bool) (b:Bool):Option ((List Bool × Bool) ⊕ (List Bool)):=
 some (.inl (a,b))
def aHp (a:List Bool) (b:Bool):Option ((List Bool × Bool) ⊕ (List Bool)):=
 aEt a b
def uH (a:Int) (b:List Bool) (c:Bool):Option ((List Bool × Bool × Int) ⊕ (List Bool × Bool)):=
 some (.inl (b,c,wr (a+1)))
def oK (a:List Bool) (d:Bool) (b:Int) (c:Edge) (e:Bool):Option ((List Bool × Bool × Int) ⊕ (List Bool × Bool)):=
 if e then (ob (ix a c.To) fun g=>
 ob (st a c.To (true:Bool)) fun f=>
 uH b f true) else (uH b a d)
def rA (t:bB) (p:(List Int)) (a:List Bool) (d:Bool) (c:Int):Option ((List Bool × Bool × Int) ⊕ (List Bool × Bool)):=
 if (decide (c < (t.E.length:Int))) then (ob (ix t.E c) fun b=>
 ob (ix a b.F) fun g=>
 if g then (ob (ix a b.To) fun h=>
 if (!h) then (ob (vS b p) fun i=>
 oK a d c b i) else (oK a d c b false)) else (oK a d c b false)) else (some (.inr (a,d)))
def uI (t:bB) (p:(List Int)) (a:List Bool) (e:Bool):Option ((List Bool × Bool) ⊕ (List Bool)):=
 if e then (ob (loop (fun (s:(List Bool × Bool × Int))=>rA t p s.1 s.2.1 s.2.2) (a,false,0)) fun r=>aHp r.1 r.2) else (some (.inr a))
def aDr (t:bB) (p:(List Int)) (k:Int):Option (List Bool):=
 ob (mkz t.N (false:Bool)) fun c=>
 ob (ix c k) fun g=>
 ob (st c k (true:Bool)) fun e=>
 ob (loop (fun (s:(List Bool × Bool))=>uI t p s.1 s.2) (e,true)) fun r=>aHo r
def aEe (a:List Int):Option (List Int):=
 some a
def aEf (n:Int) (a:List Int) (c:Bool):Option (List Int):=
 if (!c) then (ob (uF a ([n]:List Int)) fun d=>
 aEe d) else (aEe a)
def aAg (b:(List Int)) (a:Int) (c:List Int) (d:Bool):Option ((List Int × Bool × Int) ⊕ (List Int × Bool)):=
 ob (ix b a) fun e=>
 ob (uF c ([e]:List Int)) fun f=>
 some (.inl (f,d,wr (a+1)))
def vU (a:(List Int)) (n:Int) (c:List Int) (e:Bool) (b:Int) (f:Bool):Option ((List Int × Bool × Int) ⊕ (List Int × Bool)):=
 if f then (ob (ix a b) fun g=>
 if (decide (n < g)) then (ob (uF c ([n]:List Int)) fun h=>
 aAg a b h true) else (aAg a b c true)) else (aAg a b c e)
def vV (a:(List Int)) (n:Int) (e:List Int) (b:Bool) (c:Int):Option ((List Int × Bool × Int) ⊕ (List Int × Bool)):=
 if (decide (c < (a.length:Int))) then (if (!b) then (ob (ix a c) fun f=>
 vU a n e b c (decide (n<=f))) else (vU a n e b c false)) else (some (.inr (e,b)))
def aGk (c:(List Int)) (n:Int):Option (List Int):=
 ob (loop (fun (s:(List Int × Bool × Int))=>vV c n s.1 s.2.1 s.2.2) (([]:List Int),false,0)) fun r=>aEf n r.1 r.2
def aGl (a:List Int):Option (List Int):=
 some a
def sA (a:Int) (b:List Int):Option ((List Int × Int) ⊕ (List Int)):=
 some (.inl (b,wr (a+1)))
def oU (p:(List Int)) (b:List Int) (c:Int) (d:Edge) (e:Bool):Option ((List Int × Int) ⊕ (List Int)):=
 if e then (ob (ix p d.To) fun f=>
 ob (aGk b (wr ((wr (d.B * (p.length:Int)))+f))) fun g=>
 sA c g) else (sA c b)
def mX (t:bB) (p:(List Int)) (f:(List Bool)) (d:List Int) (a:Int):Option ((List Int × Int) ⊕ (List Int)):=
 if (decide (a < (t.E.length:Int))) then (ob (ix t.E a) fun b=>
 ob (ix f b.F) fun g=>
 if g then (ob (vS b p) fun h=>
 oU p d a b (!h)) else (oU p d a b false)) else (some (.inr d))
def aBR (t:bB) (p:(List Int)) (k:Int):Option (List Int):=
 ob (aDr t p k) fun d=>
 ob (loop (fun (s:(List Int × Int))=>mX t p d s.1 s.2) (([]:List Int),0)) fun r=>aGl r
def aGm (a:List Int):Option (List Int):=
 some a
def aAC (a:Int) (b:List Int) (c:Int):Option ((List Int × Int × Int) ⊕ (List Int)):=
 some (.inl (b,c,wr (a+1)))
def aAD (a:List Int) (b c d:Int):Option ((List Int × Int × Int) ⊕ (List Int)):=
 ob (uF a ([d]:List Int)) fun e=>
 aAC b e c
def aAE (b:List Int) (a c d:Int):Option ((List Int × Int × Int) ⊕ (List Int)):=
 if (decide (d < 0)) then (aAD b c (wr (a+1)) a) else (aAD b c a d)
def sB (a b:Int):Option ((Int × Int) ⊕ Int):=
 some (.inl (b,wr (a+1)))
def sC (b:List Int) (c a:Int) (d:Bool):Option ((Int × Int) ⊕ Int):=
 if d then (ob (ix b a) fun e=>
 sB a e) else (sB a c)
def oV (p:(List Int)) (d:List (List Int)) (e:List Int) (f b a:Int) (g:Bool):Option ((Int × Int) ⊕ Int):=
 if g then (ob (ix p a) fun h=>
 ob (ix p f) fun i=>
 if (h == i) then (ob (ix d a) fun j=>
 ob (ix d f) fun k=>
 ob (aDa j k) fun l=>
 sC e b a l) else (sC e b a false)) else (some (.inr b))
def oW (p:(List Int)) (e:List (List Int)) (f:List Int) (a b c:Int):Option ((Int × Int) ⊕ Int):=
 if (decide (c < a)) then (oV p e f a b c (decide (b < 0))) else (oV p e f a b c false)
def mY (p:(List Int)) (d:List (List Int)) (a:List Int) (e b:Int):Option ((List Int × Int × Int) ⊕ (List Int)):=
 if (decide (b < (p.length:Int))) then (ob (loop (fun (s:(Int × Int))=>oW p d a b s.1 s.2) ((-1),0)) fun r=>aAE a e b r) else (some (.inr a))
def tS (p:(List Int)) (b:List (List Int)):Option (List Int):=
 ob (loop (fun (s:(List Int × Int × Int))=>mY p b s.1 s.2.1 s.2.2) (([]:List Int),0,0)) fun r=>aGm r
def qG (a:List (List Int)) (b:Int) (c:List Int):Option ((List (List Int) × Int) ⊕ (List (List Int))):=
 ob (uF a ([c]:List (List Int))) fun d=>
 some (.inl (d,wr (b+1)))
def tT (a:List (List Int)) (b:Int) (c:(List Int)) (d:Bool):Option ((List (List Int) × Int) ⊕ (List (List Int))):=
 if d then (ob (uF c ([(-1)]:List Int)) fun e=>
 qG a b e) else (qG a b c)
def lP (t:bB) (p:(List Int)) (f:Bool) (g:(List Bool)) (b:List (List Int)) (a:Int):Option ((List (List Int) × Int) ⊕ (List (List Int))):=
 if (decide (a < t.N)) then (ob (aBR t p a) fun d=>
 if f then (ob (ix g a) fun h=>
 tT b a d h) else (tT b a d false)) else (some (.inr b))
def aBS (t:bB) (p:(List Int)) (c:Bool):Option (List Int):=
 ob (wX t p) fun d=>
 ob (loop (fun (s:(List (List Int) × Int))=>lP t p c d s.1 s.2) (([]:List (List Int)),0)) fun r=>tS p r
def aAF (t:bB) (d:Bool) (a:List Int):Option ((List Int) ⊕ (List Int)):=
 ob (aBS t a d) fun b=>
 ob (aDa b a) fun e=>
 if e then (some (.inr a)) else (some (.inl b))
def aEN (t:bB) (b:Bool):Option (List Int):=
 ob (mkz t.N (0:Int)) fun c=>
 ob (loop (fun (s:List Int)=>aAF t b s) c) fun r=>some r
def aDs (t:bB) (b:Bool):Option bB:=
 ob (aDq t) fun d=>
 ob (aEM t d) fun c=>
 ob (aEN c b) fun e=>
 ob (yA c e b) fun f=>
 some f
def aGn (a:List Edge):Option (List Edge):=
 some a
def aBT (a:Int) (b:List Edge):Option ((List Edge × Int) ⊕ (List Edge)):=
 some (.inl (b,wr (a+1)))
def aBU (t:bB) (k:Int) (b:List Edge) (a:Int):Option ((List Edge × Int) ⊕ (List Edge)):=
 if (decide (a < (t.E.length:Int))) then (ob (ix t.E a) fun d=>
 if (d.F == k) then (ob (uF b ([d]:List Edge)) fun f=>
 aBT a f) else (aBT a b)) else (some (.inr b))
def aGo (t:bB) (k:Int):Option (List Edge):=
 ob (loop (fun (s:(List Edge × Int))=>aBU t k s.1 s.2) (([]:List Edge),0)) fun r=>aGn r
def aJT (b:(List UInt8)) (c d n:Int):Option (Bool × (List UInt8) × Int × Int):=
 ob (jP b c d n) fun a=>
 some (a.1 == 0,b,a.2.1,a.2.2)
def wZ (t:bB) (b:Int) (c:List Edge) (d e:Int):Option (bB × Int × Int):=
 ob (qE (wr (t.N+b)) t.I t.L c) fun f=>
 some (f,d,e)
def xA (a b c:Int) (d:List Edge):Option ((Int × Int × List Edge × Int) ⊕ (List Edge × Int × Int)):=
 some (.inl (b,c,d,wr (a+1)))
def aBo (a b c:Int) (d:List Edge):Option ((Int × Int × List Edge × Int) ⊕ (List Edge × Int × Int)):=
 xA a b c d
def sD (a:Int) (b:List Edge) (c:Int) (d:Edge) (e f g:Int):Option ((Int × Int × List Edge × Int) ⊕ (Int × Int × List Edge)):=
 ob (uF b ([⟨a,d.B,g⟩]:List Edge)) fun h=>
 some (.inl (e,f,h,wr (c+1)))
def oP (t:bB) (b:Int) (c:List Edge) (d:Int) (a:Edge) (e f:Int) (h:Bool):Option ((Int × Int × List Edge × Int) ⊕ (Int × Int × List Edge)):=
 if h then (sD b c d a e f t.N) else (sD b c d a e f a.To)
def kT (j:(List UInt8)) (t:bB) (k:(Int × Int × Int)) (l g:Int) (i:(List Edge)) (c d:Int) (e:List Edge) (b:Int):Option ((Int × Int × List Edge × Int) ⊕ (Int × Int × List Edge)):=
 if (decide (b < (i.length:Int))) then (ob (ix i b) fun f=>
 if (decide (0 < l)) then (ob (rm (wr (t.N+k.1)) t.N) fun m=>
 if (m == f.To) then (ob (tB j c d 2) fun h=>
 oP t g e b f h.2.1 h.2.2 h.1) else (oP t g e b f c d false)) else (oP t g e b f c d false)) else (some (.inr (c,d,e)))
def mG (d:(List UInt8)) (t:bB) (e:(Int × Int × Int)) (f g h:Int) (i:List Edge) (c j:Int):Option ((Int × Int × List Edge × Int) ⊕ (List Edge × Int × Int)):=
 ob (aGo t j) fun k=>
 ob (loop (fun (s:(Int × Int × List Edge × Int))=>kT d t e f c k s.1 s.2.1 s.2.2.1 s.2.2.2) (g,h,i,0)) fun r=>aBo c r.1 r.2.1 r.2.2
def jR (h:(List UInt8)) (t:bB) (c:(Int × Int × Int)) (d e f:Int) (g:List Edge) (a:Int):Option ((Int × Int × List Edge × Int) ⊕ (List Edge × Int × Int)):=
 if (decide (a < wr (t.N+d))) then (if (decide (t.N<=a)) then (ob (rm (wr (a+c.1)) t.N) fun i=>
 mG h t c d e f g a i) else (mG h t c d e f g a a)) else (some (.inr (g,e,f)))
def oQ (d:(List UInt8)) (t:bB) (e:(Int × Int × Int)) (f g c:Int):Option (bB × Int × Int):=
 ob (loop (fun (s:(Int × Int × List Edge × Int))=>jR d t e c s.1 s.2.1 s.2.2.1 s.2.2.2) (f,g,([]:List Edge),0)) fun r=>wZ t c r.1 r.2.1 r.2.2
def yB (b:(List UInt8)) (e f:Int) (t:bB):Option (bB × Int × Int):=
 ob (dZ b e f t.N) fun a=>
 if (decide (t.N < 7)) then (ob (dZ b a.2.1 a.2.2 3) fun d=>
 oQ b t a d.2.1 d.2.2 d.1) else (oQ b t a a.2.1 a.2.2 0)
def aGp (a:(List UInt8)) (t:bB):Option bB:=
 ob (aEG a) fun d=>
 ob (tB a d.1 d.2 2) fun b=>
 if b.1 then (ob (aDs t true) fun e=>
 some e) else (ob (yB a b.2.1 b.2.2 t) fun f=>
 some f.1)
def uJ (t:bB) (k:Int):Option Bool:=
 ob (tR k 0 (wr (t.N - 1))) fun c=>
 some c
def aKf (i many:Int):Option Bool:=
 ob (tR i 0 (wr (many - 1))) fun b=>
 some b
def mH (a:Int):Option Bool:=
 some (a != a)
def eV (a y:Int):Option Int:=
 ob (mH a) fun d=>
 ob (mH y) fun c=>
 if d then (if c then (some 0) else (some (-1))) else (if c then (some 1) else (if (decide (a < y)) then (some (-1)) else (if (decide (y < a)) then (some 1) else (some 0))))
def sE:Option Int:=
 some 0
def jS (b:(List Int)) (a:Int):Option (Int ⊕ (Unit ⊕ Int)):=
 if (decide (a < (b.length:Int))) then (ob (ix b a) fun c=>
 if (c != 0) then (some (.inr (.inr c))) else (some (.inl (wr (a+1))))) else (some (.inr (.inl ())))
def yC (b:(List Int)):Option Int:=
 ob (loop (fun (s:Int)=>jS b s) 0) fun r=>match r with|.inl r=>sE|.inr r=>some r
def vW (a b:Edge):Option Int:=
 ob (eV a.F b.F) fun e=>
 ob (eV a.B b.B) fun f=>
 ob (eV a.To b.To) fun g=>
 ob (yC ([e,f,g]:List Int)) fun h=>
 some h
def aHq:Option Bool:=
 some true
def rB (a:Int) (b:Bool):Option (Int ⊕ (Unit ⊕ Bool)):=
 if b then (some (.inr (.inr false))) else (some (.inl (wr (a+1))))
def yD (t:bB) (a:Int):Option (Int ⊕ (Unit ⊕ Bool)):=
 if (decide (a < (t.E.length:Int))) then (ob (ix t.E a) fun c=>
 ob (uJ t c.F) fun d=>
 if (!d) then (rB a true) else (ob (uJ t c.To) fun e=>
 if (!e) then (rB a true) else (ob (aKf c.B (t.L.length:Int)) fun f=>
 if (!f) then (rB a true) else (if (decide (0 < a)) then (ob (ix t.E (wr (a - 1))) fun g=>
 ob (vW g c) fun h=>
 rB a (decide (0<=h))) else (rB a false))))) else (some (.inr (.inl ())))
def aBD (t:bB):Option Bool:=
 ob (loop (fun (s:Int)=>yD t s) 0) fun r=>match r with|.inl r=>aHq|.inr r=>some r
def uK (a:Int) (b:Bool):Option (Int ⊕ (Unit ⊕ Bool)):=
 if b then (some (.inr (.inr false))) else (some (.inl (wr (a+1))))
def yE (t:bB) (a:Int):Option (Int ⊕ (Unit ⊕ Bool)):=
 if (decide (a < (t.L.length:Int))) then (ob (ix t.L a) fun b=>
 ob (aCW b) fun e=>
 if (!e) then (uK a true) else (if ((b == ([116,97,117]:aI)) != (a == 0)) then (uK a true) else (if (decide (1 < a)) then (ob (ix t.L (wr (a - 1))) fun d=>
 uK a (vJ b d||b == d)) else (uK a false)))) else (some (.inr (.inl ())))
def rC (t:bB) (c:Bool):Option Bool:=
 if c then (some false) else (ob (loop (fun (s:Int)=>yE t s) 0) fun r=>match r with|.inl r=>aBD t|.inr r=>some r)
def vX (t:bB):Option Bool:=
 ob (tR t.N 1 40) fun b=>
 if (!b) then (rC t true) else (ob (uJ t t.I) fun c=>
 if (!c) then (rC t true) else (ob (tR (t.L.length:Int) 1 12) fun d=>
 if (!d) then (rC t true) else (rC t (decide (300 < (t.E.length:Int))))))
def aAG (t:bB):Option Bool:=
 ob (vX t) fun b=>
 some (!b)
def nZ (a:aI):Option Bool:=
 some (!(a == a))
def pR (a y:aI):Option Int:=
 ob (nZ a) fun d=>
 ob (nZ y) fun c=>
 if d then (if c then (some 0) else (some (-1))) else (if c then (some 1) else (if (vJ a y) then (some (-1)) else (if (!(vJ a y||a == y)) then (some 1) else (some 0))))
def gI (a b:(List aI)):Option Int:=
 if (decide ((a.length:Int) < (b.length:Int))) then (some (-1)) else (some 0)
def dI (b c:(List aI)) (a:Int):Option (Int ⊕ (Unit ⊕ Int)):=
 if (decide (a < (b.length:Int))) then (ob (ix b a) fun e=>
 if (decide ((c.length:Int)<=a)) then (some (.inr (.inr 1))) else (ob (ix c a) fun f=>
 ob (pR e f) fun d=>
 if (d != 0) then (some (.inr (.inr d))) else (some (.inl (wr (a+1)))))) else (some (.inr (.inl ())))
def iG (b c:(List aI)):Option Int:=
 ob (loop (fun (s:Int)=>dI b c s) 0) fun r=>match r with|.inl r=>gI b c|.inr r=>some r
def nG (a b:cF):Option Int:=
 ob (iG ([a.Left,a.Right]:List aI) ([b.Left,b.Right]:List aI)) fun e=>
 some e
def tD (a:Bool):Option Bool:=
 some a
def yP (o p:cF):Option Bool:=
 if (o.Left == p.Result) then (tD true) else (tD (o.Right == p.Result))
def jI:Option Int:=
 some (-1)
def cL (b:(List cF)) (c:cF) (a:Int):Option (Int ⊕ (Unit ⊕ Int)):=
 if (decide (a < (b.length:Int))) then (ob (ix b a) fun d=>
 ob (yP d c) fun e=>
 if e then (some (.inr (.inr a))) else (some (.inl (wr (a+1))))) else (some (.inr (.inl ())))
def dM (b:(List cF)) (c:cF):Option Int:=
 ob (loop (fun (s:Int)=>cL b c s) 0) fun r=>match r with|.inl r=>jI|.inr r=>some r
def dD (a:(List cF)) (b:cF):Option Bool:=
 ob (dM a b) fun c=>
 some (decide (0<=c))
def aCl (a:(List cF)):Option Bool:=
 some (decide ((a.length:Int)<=6))
def jL (a:(List cF)) (b:Int) (c:cF) (d:Bool):Option (Int ⊕ (Unit ⊕ Bool)):=
 if d then (some (.inr (.inr false))) else (ob (dD a c) fun e=>
 if e then (some (.inr (.inr false))) else (some (.inl (wr (b+1)))))
def lQ (c:(List cF)) (b:Int):Option (Int ⊕ (Unit ⊕ Bool)):=
 if (decide (b < (c.length:Int))) then (ob (ix c b) fun a=>
 ob (sY a.Left) fun d=>
 if (!d) then (jL c b a true) else (ob (sY a.Right) fun e=>
 if (!e) then (jL c b a true) else (ob (sY a.Result) fun f=>
 if (!f) then (jL c b a true) else (if (!(vJ a.Left a.Right||a.Left == a.Right)) then (jL c b a true) else (if (decide (0 < b)) then (ob (ix c (wr (b - 1))) fun g=>
 ob (nG g a) fun h=>
 jL c b a (decide (0<=h))) else (jL c b a false)))))) else (some (.inr (.inl ())))
def tE (b:(List cF)):Option Bool:=
 ob (loop (fun (s:Int)=>lQ b s) 0) fun r=>match r with|.inl r=>aCl b|.inr r=>some r
def aFj (a:(List aI)):Option Bool:=
 some (decide ((a.length:Int)<=12))
def aAH (a:Int) (b:Bool):Option (Int ⊕ (Unit ⊕ Bool)):=
 if b then (some (.inr (.inr false))) else (some (.inl (wr (a+1))))
def aAI (b:(List aI)) (a:Int):Option (Int ⊕ (Unit ⊕ Bool)):=
 if (decide (a < (b.length:Int))) then (ob (ix b a) fun c=>
 ob (sY c) fun e=>
 if (!e) then (aAH a true) else (if (decide (0 < a)) then (ob (ix b (wr (a - 1))) fun d=>
 aAH a (vJ c d||c == d)) else (aAH a false))) else (some (.inr (.inl ())))
def xB (b:(List aI)):Option Bool:=
 ob (loop (fun (s:Int)=>aAI b s) 0) fun r=>match r with|.inl r=>aFj b|.inr r=>some r
def gU:Option Int:=
 some (-1)
def bP (b:(List bB)) (a:Int):Option (Int ⊕ (Unit ⊕ Int)):=
 if (decide (a < (b.length:Int))) then (ob (ix b a) fun c=>
 ob (aAG c) fun d=>
 if d then (some (.inr (.inr a))) else (some (.inl (wr (a+1))))) else (some (.inr (.inl ())))
def fO (b:(List bB)):Option Int:=
 ob (loop (fun (s:Int)=>bP b s) 0) fun r=>match r with|.inl r=>gU|.inr r=>some r
def eR (a:(List bB)):Option Bool:=
 ob (fO a) fun b=>
 some (decide (0<=b))
def qO (a:Bool):Option Bool:=
 some a
def qP (n:aX) (b:Bool):Option Bool:=
 if b then (some false) else (ob (tE n.Meetings) fun c=>
 if c then (ob (xB n.Allowed) fun d=>
 if d then (ob (xB n.Hidden) fun e=>
 qO e) else (qO false)) else (qO false))
def oX (n:aX):Option Bool:=
 ob (tR (n.Parts.length:Int) 1 4) fun b=>
 if (!b) then (qP n true) else (ob (eR n.Parts) fun c=>
 qP n c)
def aEu (a:Int):Option Bool:=
 ob (tR a 0 2) fun b=>
 some b
def eD (a:(List cF)):Option (List cF):=
 ob (uF ([]:List cF) a) fun b=>
 some b
def bZ (a:(List aI)):Option (List aI):=
 ob (uF ([]:List aI) a) fun b=>
 some b
def aAJ (n:aX) (b:(List bB)):Option aX:=
 ob (eD n.Meetings) fun c=>
 ob (bZ n.Allowed) fun d=>
 ob (bZ n.Hidden) fun e=>
 some ⟨b,c,d,e⟩
def jT (a:(List Edge)):Option (List Edge):=
 ob (uF ([]:List Edge) a) fun b=>
 some b
def aGq (t:bB):Option bB:=
 ob (bZ t.L) fun b=>
 ob (jT t.E) fun c=>
 some ⟨t.N,t.I,b,c⟩
def qQ:Option Int:=
 some (-1)
def iU (b:(List Int)) (c a:Int):Option (Int ⊕ (Unit ⊕ Int)):=
 if (decide (a < (b.length:Int))) then (ob (ix b a) fun d=>
 if (c == d) then (some (.inr (.inr a))) else (some (.inl (wr (a+1))))) else (some (.inr (.inl ())))
def fI (b:(List Int)) (c:Int):Option Int:=
 ob (loop (fun (s:Int)=>iU b c s) 0) fun r=>match r with|.inl r=>qQ|.inr r=>some r
def uL (k:Int) (p:(List Int)):Option Int:=
 ob (fI p k) fun c=>
 some c
def yF (a:(List Int)) (b:Int) (c:List aI) (d:List Edge):Option bB:=
 ob (mE d) fun e=>
 some ⟨(a.length:Int),b,c,e⟩
def lA (a:Int) (b:List Edge):Option ((List Edge × Int) ⊕ (List Edge)):=
 some (.inl (b,wr (a+1)))
def mT (a:List Edge) (b:Int) (c:Edge) (d e:Int) (f:Bool):Option ((List Edge × Int) ⊕ (List Edge)):=
 if f then (ob (uF a ([⟨d,c.B,e⟩]:List Edge)) fun g=>
 lA b g) else (lA b a)
def lB (t:bB) (g:(List Int)) (c:List Edge) (a:Int):Option ((List Edge × Int) ⊕ (List Edge)):=
 if (decide (a < (t.E.length:Int))) then (ob (ix t.E a) fun b=>
 ob (uL b.F g) fun d=>
 ob (uL b.To g) fun e=>
 if (decide (0<=d)) then (mT c a b d e (decide (0<=e))) else (mT c a b d e false)) else (some (.inr c))
def yG (t:bB) (a:(List Int)) (c:Int) (d:List aI):Option bB:=
 ob (loop (fun (s:(List Edge × Int))=>lB t a s.1 s.2) ([],0)) fun r=>yF a c d r
def vY (t:bB) (b:(List Int)):Option bB:=
 ob (uL t.I b) fun c=>
 ob (bZ t.L) fun d=>
 yG t b c d
def tU (a:(List (List Int))):Option (List Int):=
 ob (ix a (wr ((a.length:Int) - 1))) fun b=>
 some b
def aIA (n:Int):Option (List Int):=
 ob (mkz n (0:Int)) fun b=>
 some b
def uP (a:Bool):Option Bool:=
 some a
def oY (e:Edge) (p:(List Int)):Option Bool:=
 if (e.B == 0) then (ob (ix p e.F) fun c=>
 ob (ix p e.To) fun d=>
 uP (c == d)) else (uP false)
def aHr (t:bB) (b:List Edge):Option bB:=
 some ⟨t.N,t.I,t.L,b⟩
def yH (a:Int) (b:List Edge):Option ((List Edge × Int) ⊕ (List Edge)):=
 some (.inl (b,wr (a+1)))
def uM (t:bB) (e:(List Int)) (b:List Edge) (a:Int):Option ((List Edge × Int) ⊕ (List Edge)):=
 if (decide (a < (t.E.length:Int))) then (ob (ix t.E a) fun d=>
 ob (oY d e) fun f=>
 if f then (ob (uF b ([d]:List Edge)) fun g=>
 yH a g) else (yH a b)) else (some (.inr b))
def aFk (t:bB) (b:(List Int)):Option bB:=
 ob (loop (fun (s:(List Edge × Int))=>uM t b s.1 s.2) ([],0)) fun r=>aHr t r
def qH (t:bB) (p:(List Int)):Option bB:=
 ob (aFk t p) fun c=>
 some c
def aFl (a:List Edge):Option (List Edge):=
 some a
def aAK (a:Int) (b:List Edge):Option ((List Edge × Int) ⊕ (List Edge)):=
 some (.inl (b,wr (a+1)))
def aAL (t:bB) (k:Int) (b:List Edge) (a:Int):Option ((List Edge × Int) ⊕ (List Edge)):=
 if (decide (a < (t.E.length:Int))) then (ob (ix t.E a) fun d=>
 if (d.F == k) then (ob (uF b ([d]:List Edge)) fun f=>
 aAK a f) else (aAK a b)) else (some (.inr b))
def sF (t:bB) (k:Int):Option (List Edge):=
 ob (loop (fun (s:(List Edge × Int))=>aAL t k s.1 s.2) ([],0)) fun r=>aFl r
def jC (a:List Bool):Option (List Bool):=
 some a
def jD (a:List Bool) (b:Int):Option ((List Bool × Int) ⊕ (List Bool)):=
 if (decide (b < (a.length:Int))) then (ob (zX a b (a.length:Int)) fun d=>
 ob (zX a 0 b) fun c=>
 ob (ovw a b (List.take (Nat.min c.length d.length) c)) fun e=>
 some (.inl (e,wr (b+((Nat.min c.length d.length):Int))))) else (some (.inr a))
def jE (a:(List Bool)) (c:(Int × Int)):Option (List Bool):=
 ob (mkz (wr c.2) (false:Bool)) fun b=>
 ob (ovw b 0 (List.take (Nat.min a.length b.length) a)) fun d=>
 ob (loop (fun (s:(List Bool × Int))=>jD s.1 s.2) (d,((Nat.min a.length b.length):Int))) fun r=>jC r
def gE (a:(List Bool)) (b:(Int × Int)) (c:Bool):Option (List Bool):=
 if c then (none) else (jE a b)
def jF (b:(List Bool)) (c:Int):Option (List Bool):=
 ob (aJx (lC (b.length:Int)) (lC c)) fun a=>
 if (decide (0 < a.1)) then (gE b a true) else (gE b a (decide (9223372036854775807 < a.2)))
def fS (b:(List Bool)) (a:Int):Option (List Bool):=
 if (decide (a < 0)) then (none) else (jF b a)
def uQ (a:Bool):Option Bool:=
 some a
def oZ (e:Edge) (p:(List Bool)):Option Bool:=
 if (e.B == 0) then (ob (ix p e.To) fun c=>
 uQ c) else (uQ false)
def kU:Option Int:=
 some (-1)
def cX (b:(List Edge)) (c:(List Bool)) (a:Int):Option (Int ⊕ (Unit ⊕ Int)):=
 if (decide (a < (b.length:Int))) then (ob (ix b a) fun d=>
 ob (oZ d c) fun e=>
 if e then (some (.inr (.inr a))) else (some (.inl (wr (a+1))))) else (some (.inr (.inl ())))
def eY (b:(List Edge)) (c:(List Bool)):Option Int:=
 ob (loop (fun (s:Int)=>cX b c s) 0) fun r=>match r with|.inl r=>kU|.inr r=>some r
def dV (a:(List Edge)) (b:(List Bool)):Option Bool:=
 ob (eY a b) fun c=>
 some (decide (0<=c))
def aDt (a:List Bool):Option (List Bool):=
 some a
def zJ (a:List Bool) (b:Bool):Option ((List Bool × Bool) ⊕ (List Bool)):=
 some (.inl (a,b))
def aDu (a:List Bool) (b:Bool):Option ((List Bool × Bool) ⊕ (List Bool)):=
 zJ a b
def kP (a:Int) (b:List Bool) (c:Bool):Option ((List Bool × Bool × Int) ⊕ (List Bool × Bool)):=
 some (.inl (b,c,wr (a+1)))
def gV (b:List Bool) (c:Bool) (a:Int) (d:Bool):Option ((List Bool × Bool × Int) ⊕ (List Bool × Bool)):=
 if d then (ob (ix b a) fun f=>
 ob (st b a (false:Bool)) fun e=>
 kP a e true) else (kP a b c)
def gW (t:bB) (e a:List Bool) (c:Bool) (b:Int):Option ((List Bool × Bool × Int) ⊕ (List Bool × Bool)):=
 if (decide (b < (e.length:Int))) then (ob (sF t b) fun f=>
 ob (dV f a) fun g=>
 ob (ix a b) fun h=>
 if h then (gV a c b (!g)) else (gV a c b false)) else (some (.inr (a,c)))
def mI (t:bB) (a:List Bool) (d:Bool):Option ((List Bool × Bool) ⊕ (List Bool)):=
 if d then (ob (loop (fun (s:(List Bool × Bool × Int))=>gW t a s.1 s.2.1 s.2.2) (a,false,0)) fun r=>aDu r.1 r.2) else (some (.inr a))
def lR (t:bB):Option (List Bool):=
 ob (fS ([true]:List Bool) t.N) fun b=>
 ob (loop (fun (s:(List Bool × Bool))=>mI t s.1 s.2) (b,true)) fun r=>aDt r
def dW (a:(List Int)) (b:Int):Option Bool:=
 ob (fI a b) fun c=>
 some (decide (0<=c))
def pA (a:(List Int)):Option (List Int):=
 some a
def gX (a:Int):Option (Int ⊕ (Unit ⊕ (List Int))):=
 some (.inl (wr (a+1)))
def gZ (a:List Int) (b:Int):Option (Int ⊕ (Unit ⊕ (List Int))):=
 ob (zX a b (a.length:Int)) fun c=>
 ob (ovw a b (List.replicate c.length (0:Int))) fun d=>
 ob (zX d 0 b) fun e=>
 some (.inr (.inr e))
def fB (a:Int) (b:List Int) (c:Int):Option ((List Int × Int × Int) ⊕ (List Int × Int)):=
 some (.inl (b,c,wr (a+1)))
def fC (e:Int) (d b:List Int) (c a:Int):Option ((List Int × Int × Int) ⊕ (List Int × Int)):=
 if (decide (a < (d.length:Int))) then (ob (ix d a) fun i=>
 ob (ix b (e+a)) fun f=>
 ob (ix d (wr (a - 1))) fun j=>
 ob (ix b (e+(wr (a - 1)))) fun g=>
 if (f != g) then (ob (ix b c) fun k=>
 ob (st b c (f:Int)) fun h=>
 fB a h (wr (c+1))) else (fB a b c)) else (some (.inr (b,c)))
def fD (b:(List Int)) (a:Int):Option (Int ⊕ (Unit ⊕ (List Int))):=
 if (decide (a < (b.length:Int))) then (ob (ix b a) fun d=>
 ob (ix b (wr (a - 1))) fun e=>
 if (d == e) then (ob (zX b a (b.length:Int)) fun f=>
 ob (loop (fun (s:(List Int × Int × Int))=>fC a f s.1 s.2.1 s.2.2) (b,a,1)) fun r=>gZ r.1 r.2) else (gX a)) else (some (.inr (.inl ())))
def eN (a:(List Int)):Option (List Int):=
 if (decide ((a.length:Int) < 2)) then (some a) else (ob (loop (fun (s:Int)=>fD a s) 1) fun r=>match r with|.inl r=>pA a|.inr r=>some r)
def yQ (a:List Int):Option (List Int):=
 ob (aBi a) fun b=>
 ob (eN b) fun c=>
 some c
def tV (a:Int) (b:List Int):Option ((List Int × Int) ⊕ (List Int)):=
 some (.inl (b,wr (a+1)))
def yR (a:List Int) (b:Int) (c:Edge) (d:Bool):Option ((List Int × Int) ⊕ (List Int)):=
 if d then (ob (uF a ([c.To]:List Int)) fun e=>
 tV b e) else (tV b a)
def tW (t:bB) (e:(List Int)) (f:aI) (d:List Int) (a:Int):Option ((List Int × Int) ⊕ (List Int)):=
 if (decide (a < (t.E.length:Int))) then (ob (ix t.E a) fun b=>
 ob (ix t.L b.B) fun g=>
 if (g == f) then (ob (dW e b.F) fun h=>
 yR d a b h) else (yR d a b false)) else (some (.inr d))
def aAM (t:bB) (b:(List Int)) (c:aI):Option (List Int):=
 ob (loop (fun (s:(List Int × Int))=>tW t b c s.1 s.2) ([],0)) fun r=>yQ r
def cZ (a:(List Int)):Option (List Int):=
 ob (uF ([]:List Int) a) fun b=>
 some b
def uZ (a:List Int):Option (List Int):=
 ob (aBi a) fun b=>
 some b
def vA (a:Int) (b:List Int):Option ((List Int × Int) ⊕ (List Int)):=
 some (.inl (b,wr (a+1)))
def aAN (a:Int) (b:List Int):Option ((List Int × Int) ⊕ (List Int)):=
 vA a b
def qR (a:Int) (b:List Int):Option ((List Int × Int) ⊕ (List Int)):=
 some (.inl (b,wr (a+1)))
def nH (c:(List Int)) (a:List Int) (b:Int):Option ((List Int × Int) ⊕ (List Int)):=
 if (decide (b < (c.length:Int))) then (ob (ix c b) fun d=>
 ob (dW a d) fun e=>
 if (!e) then (ob (uF a ([d]:List Int)) fun f=>
 qR b f) else (qR b a)) else (some (.inr a))
def qS (t:bB) (a:List Int) (b:Int):Option ((List Int × Int) ⊕ (List Int)):=
 if (decide (b < (a.length:Int))) then (ob (ix a b) fun d=>
 ob (aAM t ([d]:List Int) ([116,97,117]:aI)) fun e=>
 ob (loop (fun (s:(List Int × Int))=>nH e s.1 s.2) (a,0)) fun r=>aAN b r) else (some (.inr a))
def pB (t:bB) (b:(List Int)):Option (List Int):=
 ob (cZ b) fun c=>
 ob (loop (fun (s:(List Int × Int))=>qS t s.1 s.2) (c,0)) fun r=>uZ r
def aBb (a:List (List Int)):Option (List (List Int)):=
 some a
def kF (t:bB) (c:List (List Int)) (a:Int):Option ((List (List Int) × Int) ⊕ (List (List Int))):=
 if (decide (a < t.N)) then (ob (pB t ([a]:List Int)) fun d=>
 ob (uF c ([d]:List (List Int))) fun e=>
 some (.inl (e,wr (a+1)))) else (some (.inr c))
def pC (t:bB):Option (List (List Int)):=
 ob (loop (fun (s:(List (List Int) × Int))=>kF t s.1 s.2) ([],0)) fun r=>aBb r
def aNf (a:Bool):Option Int:=
 if a then (some 1) else (some 0)
def aJD (a:List Int):Option (List Int):=
 some a
def aBV (b:List Int) (a:Int) (c:(List (Int × Int))) (d:Int):Option (((List (Int × Int)) × List Int × Int) ⊕ (List Int)):=
 ob (ix b a) fun f=>
 ob (st b a (d:Int)) fun e=>
 some (.inl (c,e,wr (a+1)))
def sP (e:(List Int)) (a:(List (Int × Int))) (c:List Int) (b:Int):Option (((List (Int × Int)) × List Int × Int) ⊕ (List Int)):=
 if (decide (b < (e.length:Int))) then (ob (ix e b) fun d=>
 if (!((xT a d).isSome)) then (ob (some (aCE a d (a.length:Int))) fun f=>
 aBV c b f (a.length:Int)) else (aBV c b a ((xT a d).getD 0))) else (some (.inr c))
def aGr (a:(List Int)):Option (List Int):=
 ob (mkz (a.length:Int) (0:Int)) fun b=>
 ob (loop (fun (s:((List (Int × Int)) × List Int × Int))=>sP a s.1 s.2.1 s.2.2) (([]:(List (Int × Int))),b,0)) fun r=>aJD r
def qT:Option Bool:=
 some true
def iV (b c:(List Int)) (a:Int):Option (Int ⊕ (Unit ⊕ Bool)):=
 if (decide (a < (b.length:Int))) then (ob (ix b a) fun d=>
 ob (ix c a) fun e=>
 if (d != e) then (some (.inr (.inr false))) else (some (.inl (wr (a+1))))) else (some (.inr (.inl ())))
def dA (b c:(List Int)):Option Bool:=
 if ((b.length:Int) != (c.length:Int)) then (some false) else (ob (loop (fun (s:Int)=>iV b c s) 0) fun r=>match r with|.inl r=>qT|.inr r=>some r)
def aCm (k p:(List Int)):Option Bool:=
 ob (dA k p) fun c=>
 some c
def lY:Option Int:=
 some (-1)
def cG (b:(List (List Int))) (c:(List Int)) (a:Int):Option (Int ⊕ (Unit ⊕ Int)):=
 if (decide (a < (b.length:Int))) then (ob (ix b a) fun d=>
 ob (aCm d c) fun e=>
 if e then (some (.inr (.inr a))) else (some (.inl (wr (a+1))))) else (some (.inr (.inl ())))
def dX (b:(List (List Int))) (c:(List Int)):Option Int:=
 ob (loop (fun (s:Int)=>cG b c s) 0) fun r=>match r with|.inl r=>lY|.inr r=>some r
def aCn (a:List Int):Option (List Int):=
 ob (aGr a) fun b=>
 some b
def yS (a:List Int) (b c:Int):Option ((List Int × Int) ⊕ (List Int)):=
 ob (uF a ([c]:List Int)) fun d=>
 some (.inl (d,wr (b+1)))
def lS (b:(List (List Int))) (c:List Int) (a:Int):Option ((List Int × Int) ⊕ (List Int)):=
 if (decide (a < (b.length:Int))) then (ob (ix b a) fun e=>
 ob (zX b 0 a) fun f=>
 ob (dX f e) fun d=>
 if (decide (d < 0)) then (yS c a a) else (yS c a d)) else (some (.inr c))
def aAO (a:(List (List Int))):Option (List Int):=
 ob (loop (fun (s:(List Int × Int))=>lS a s.1 s.2) ([],0)) fun r=>aCn r
def kL (a:List (List Int)):Option (List Int):=
 ob (aAO a) fun b=>
 some b
def mU (a:Int) (b:List (List Int)):Option ((List (List Int) × Int) ⊕ (List (List Int))):=
 some (.inl (b,wr (a+1)))
def iL (a:List (List Int)) (b:Int) (c:(List Int)) (d:List Int):Option ((List (List Int) × Int) ⊕ (List (List Int))):=
 ob (eN c) fun e=>
 ob (uF d e) fun f=>
 ob (uF a ([f]:List (List Int))) fun g=>
 mU b g
def kM (p:(List Int)) (f:Bool) (g:(List Bool)) (b:List (List Int)) (a:Int) (h:List Int):Option ((List (List Int) × Int) ⊕ (List (List Int))):=
 ob (aBi h) fun c=>
 ob (ix p a) fun d=>
 if f then (ob (ix g a) fun i=>
 ob (aNf i) fun j=>
 iL b a c ([d,j]:List Int)) else (ob (aNf false) fun k=>
 iL b a c ([d,k]:List Int))
def kN (a:Int) (b:List Int):Option ((List Int × Int) ⊕ (List Int)):=
 some (.inl (b,wr (a+1)))
def gA (t:bB) (p:(List Int)) (a:List Int) (b:Int) (c:Edge) (f:Bool):Option ((List Int × Int) ⊕ (List Int)):=
 if f then (ob (ix p c.To) fun g=>
 ob (uF a ([wr ((wr (c.B * t.N))+g)]:List Int)) fun h=>
 kN b h) else (kN b a)
def gB (t:bB) (p f:(List Int)) (e:List Int) (d:Int):Option ((List Int × Int) ⊕ (List Int)):=
 if (decide (d < (t.E.length:Int))) then (ob (ix t.E d) fun a=>
 ob (dW f a.F) fun g=>
 if g then (if (a.B != 0) then (gA t p e d a true) else (ob (ix p a.F) fun h=>
 ob (ix p a.To) fun i=>
 gA t p e d a (h != i))) else (gA t p e d a false)) else (some (.inr e))
def gC (t:bB) (p:(List Int)) (f:Bool) (g:(List Bool)) (c:(List (List Int))) (d:List (List Int)) (a:Int):Option ((List (List Int) × Int) ⊕ (List (List Int))):=
 if (decide (a < (c.length:Int))) then (ob (ix c a) fun h=>
 ob (loop (fun (s:(List Int × Int))=>gB t p h s.1 s.2) ([],0)) fun r=>kM p f g d a r) else (some (.inr d))
def lZ (t:bB) (p:(List Int)) (d:Bool):Option (List Int):=
 ob (qH t p) fun c=>
 ob (lR c) fun e=>
 ob (pC c) fun f=>
 ob (loop (fun (s:(List (List Int) × Int))=>gC t p d e f s.1 s.2) ([],0)) fun r=>kL r
def tF (p:(List Int)) (b:bB) (c:Bool):Option (List Int):=
 ob (lZ b p c) fun d=>
 some d
def aEg (d:bB) (e:Bool) (a:List (List Int)):Option ((List (List Int)) ⊕ (List (List Int))):=
 ob (ix a (wr ((a.length:Int) - 1))) fun b=>
 ob (tF b d e) fun c=>
 ob (dA b c) fun f=>
 if f then (some (.inr a)) else (ob (uF a ([c]:List (List Int))) fun g=>
 some (.inl g))
def aIB (n:Int) (b:bB) (c:Bool):Option (List (List Int)):=
 ob (aIA n) fun d=>
 ob (loop (fun (s:List (List Int))=>aEg b c s) ([d]:List (List Int))) fun r=>some r
def nS (t:bB) (b:Bool):Option (List Int):=
 ob (aIB t.N t b) fun c=>
 ob (tU c) fun d=>
 some d
def aMh (a:List Int):Option (List Int):=
 some a
def aBp (n:Int) (b:List Int) (a:Int):Option ((List Int × Int) ⊕ (List Int)):=
 if (decide (a < n)) then (ob (uF b ([a]:List Int)) fun d=>
 some (.inl (d,wr (a+1)))) else (some (.inr b))
def aGs (n:Int):Option (List Int):=
 ob (loop (fun (s:(List Int × Int))=>aBp n s.1 s.2) ([],0)) fun r=>aMh r
def iH (a:List Int):Option (List Int):=
 some a
def iI (a:List Int) (b:Int):Option ((List Int × Int) ⊕ (List Int)):=
 if (decide (b < (a.length:Int))) then (ob (zX a b (a.length:Int)) fun d=>
 ob (zX a 0 b) fun c=>
 ob (ovw a b (List.take (Nat.min c.length d.length) c)) fun e=>
 some (.inl (e,wr (b+((Nat.min c.length d.length):Int))))) else (some (.inr a))
def iJ (a:(List Int)) (c:(Int × Int)):Option (List Int):=
 ob (mkz (wr c.2) (0:Int)) fun b=>
 ob (ovw b 0 (List.take (Nat.min a.length b.length) a)) fun d=>
 ob (loop (fun (s:(List Int × Int))=>iI s.1 s.2) (d,((Nat.min a.length b.length):Int))) fun r=>iH r
def fM (a:(List Int)) (b:(Int × Int)) (c:Bool):Option (List Int):=
 if c then (none) else (iJ a b)
def iK (b:(List Int)) (c:Int):Option (List Int):=
 ob (aJx (lC (b.length:Int)) (lC c)) fun a=>
 if (decide (0 < a.1)) then (fM b a true) else (fM b a (decide (9223372036854775807 < a.2)))
def gM (b:(List Int)) (a:Int):Option (List Int):=
 if (decide (a < 0)) then (none) else (iK b a)
def aDv (a:List Int):Option (List Int):=
 some a
def zN (a b:List Int):Option ((List Int × List Int) ⊕ (List Int)):=
 some (.inl (a,b))
def aDw (a b:List Int):Option ((List Int × List Int) ⊕ (List Int)):=
 zN a b
def kQ (a:Int) (b c:List Int):Option ((List Int × List Int × Int) ⊕ (List Int × List Int)):=
 some (.inl (b,c,wr (a+1)))
def mJ (e:Int) (a c:List Int) (d b:Int) (f:Bool):Option ((List Int × List Int × Int) ⊕ (List Int × List Int)):=
 if f then (ob (ix a e) fun g=>
 ob (ix a b) fun j=>
 ob (st a b (wr (g+1):Int)) fun h=>
 ob (uF c ([b]:List Int)) fun i=>
 kQ d h i) else (kQ d a c)
def pD (a:Int) (b d:List Int) (e f c:Int):Option ((List Int × List Int × Int) ⊕ (List Int × List Int)):=
 if (f == a) then (ob (ix b c) fun g=>
 mJ a b d e c (decide (g < 0))) else (mJ a b d e c false)
def pE (t:bB) (g:Bool) (f:Int) (c d:List Int) (a:Int):Option ((List Int × List Int × Int) ⊕ (List Int × List Int)):=
 if (decide (a < (t.E.length:Int))) then (ob (ix t.E a) fun b=>
 if (!g) then (pD f c d a b.To b.F) else (pD f c d a b.F b.To)) else (some (.inr (c,d)))
def tG (t:bB) (e:Bool) (b a:List Int):Option ((List Int × List Int) ⊕ (List Int)):=
 if (decide (0 < (a.length:Int))) then (ob (ix a 0) fun f=>
 ob (zX a 1 (a.length:Int)) fun g=>
 ob (loop (fun (s:(List Int × List Int × Int))=>pE t e f s.1 s.2.1 s.2.2) (b,g,0)) fun r=>aDw r.1 r.2) else (some (.inr b))
def tH (t:bB) (b:Bool) (c:(List Int)) (d:List Int):Option (List Int):=
 ob (loop (fun (s:(List Int × List Int))=>tG t b s.1 s.2) (d,c)) fun r=>aDv r
def rP (c:(List Int)) (a:List Int) (b:Int):Option ((List Int × Int) ⊕ (List Int)):=
 if (decide (b < (c.length:Int))) then (ob (ix c b) fun d=>
 ob (ix a d) fun f=>
 ob (st a d (0:Int)) fun e=>
 some (.inl (e,wr (b+1)))) else (some (.inr a))
def tX (t:bB) (b:(List Int)) (c:Bool):Option (List Int):=
 ob (gM ([(-1)]:List Int) t.N) fun d=>
 ob (cZ b) fun e=>
 ob (loop (fun (s:(List Int × Int))=>rP b s.1 s.2) (d,0)) fun r=>tH t c e r
def pF (k:Int) (p:(List Int)):Option Bool:=
 ob (ix p k) fun c=>
 some (decide (c < 0))
def mQ:Option Int:=
 some (-1)
def dR (b c:(List Int)) (a:Int):Option (Int ⊕ (Unit ⊕ Int)):=
 if (decide (a < (b.length:Int))) then (ob (ix b a) fun d=>
 ob (pF d c) fun e=>
 if e then (some (.inr (.inr a))) else (some (.inl (wr (a+1))))) else (some (.inr (.inl ())))
def eI (b c:(List Int)):Option Int:=
 ob (loop (fun (s:Int)=>dR b c s) 0) fun r=>match r with|.inl r=>mQ|.inr r=>some r
def gD (a:List Int) (b:Int):Option (List Int):=
 ob (zX a b (a.length:Int)) fun c=>
 ob (ovw a b (List.replicate c.length (0:Int))) fun d=>
 ob (zX d 0 b) fun e=>
 some e
def dY (a:Int) (b:List Int) (c:Int):Option ((List Int × Int × Int) ⊕ (List Int × Int)):=
 some (.inl (b,c,wr (a+1)))
def cY (e:(List Int)) (a:List Int) (b c:Int):Option ((List Int × Int × Int) ⊕ (List Int × Int)):=
 if (decide (c < (a.length:Int))) then (ob (ix a c) fun d=>
 ob (pF d e) fun f=>
 if (!f) then (ob (ix a b) fun h=>
 ob (st a b (d:Int)) fun g=>
 dY c g (wr (b+1))) else (dY c a b)) else (some (.inr (a,b)))
def fE (a c:(List Int)):Option (List Int):=
 ob (eI a c) fun b=>
 if (b == (-1)) then (some a) else (ob (loop (fun (s:(List Int × Int × Int))=>cY c s.1 s.2.1 s.2.2) (a,b,wr (b+1))) fun r=>gD r.1 r.2)
def tY (t:bB):Option (List Int):=
 ob (tX t ([t.I]:List Int) true) fun b=>
 ob (aGs t.N) fun c=>
 ob (fE c b) fun d=>
 some d
def lG (a:(List Edge)):Option (List Edge):=
 some a
def dE (a:Int):Option (Int ⊕ (Unit ⊕ (List Edge))):=
 some (.inl (wr (a+1)))
def eS (a:List Edge) (b:Int):Option (Int ⊕ (Unit ⊕ (List Edge))):=
 ob (zX a b (a.length:Int)) fun c=>
 ob (ovw a b (List.replicate c.length (⟨0,0,0⟩:Edge))) fun d=>
 ob (zX d 0 b) fun e=>
 some (.inr (.inr e))
def dF (a:Int) (b:List Edge) (c:Int):Option ((List Edge × Int × Int) ⊕ (List Edge × Int)):=
 some (.inl (b,c,wr (a+1)))
def dG (f:Int) (e b:List Edge) (c a:Int):Option ((List Edge × Int × Int) ⊕ (List Edge × Int)):=
 if (decide (a < (e.length:Int))) then (ob (ix e a) fun i=>
 ob (ix b (f+a)) fun d=>
 ob (ix e (wr (a - 1))) fun j=>
 ob (ix b (f+(wr (a - 1)))) fun g=>
 if (!decide ((d:Edge)=g)) then (ob (ix b c) fun k=>
 ob (st b c (⟨d.F,d.B,d.To⟩:Edge)) fun h=>
 dF a h (wr (c+1))) else (dF a b c)) else (some (.inr (b,c)))
def bQ (b:(List Edge)) (a:Int):Option (Int ⊕ (Unit ⊕ (List Edge))):=
 if (decide (a < (b.length:Int))) then (ob (ix b a) fun d=>
 ob (ix b (wr (a - 1))) fun e=>
 if (decide ((d:Edge)=e)) then (ob (zX b a (b.length:Int)) fun f=>
 ob (loop (fun (s:(List Edge × Int × Int))=>dG a f s.1 s.2.1 s.2.2) (b,a,1)) fun r=>eS r.1 r.2) else (dE a)) else (some (.inr (.inl ())))
def bN (a:(List Edge)):Option (List Edge):=
 if (decide ((a.length:Int) < 2)) then (some a) else (ob (loop (fun (s:Int)=>bQ a s) 1) fun r=>match r with|.inl r=>lG a|.inr r=>some r)
def aKK (a b:Int) (c:(List aI)) (d:(List Edge)):Option (Int × Int × (List aI) × (List Edge)):=
 ob (mE d) fun e=>
 ob (bN e) fun f=>
 some (a,b,c,f)
def mK (a:Int):Option Int:=
 some a
def gN (b:(List Int)) (c a:Int):Option ((Int × Int) ⊕ Int):=
 if (decide (a < (b.length:Int))) then (ob (ix b a) fun d=>
 some (.inl (mxI c d,wr (a+1)))) else (some (.inr c))
def jU (a:(List Int)):Option Int:=
 ob (ix a 0) fun b=>
 ob (loop (fun (s:(Int × Int))=>gN a s.1 s.2) (b,1)) fun r=>mK r
def kY (a:(List Int)):Option Int:=
 if (decide ((a.length:Int) < 1)) then (none) else (jU a)
def xC (p:(List Int)):Option Int:=
 ob (kY p) fun b=>
 some (wr (b+1))
def kD (a:Bool):Option Bool:=
 some a
def jJ (e:Edge) (p:(List Int)):Option Bool:=
 if (e.B != 0) then (kD true) else (ob (ix p e.F) fun c=>
 ob (ix p e.To) fun d=>
 kD (c != d))
def uN (d e:Int) (f:(List aI)) (a:(List Edge)):Option (List Edge):=
 ob (mE a) fun b=>
 ob (bN b) fun c=>
 some c
def vB (a b:Int) (c:List aI) (d:List Edge):Option bB:=
 ob (uN a b c d) fun e=>
 some ⟨a,b,c,e⟩
def nI (a:Int) (b:List Edge):Option ((List Edge × Int) ⊕ (List Edge)):=
 some (.inl (b,wr (a+1)))
def nJ (t:bB) (p f:(List Int)) (c:List Edge) (a:Int):Option ((List Edge × Int) ⊕ (List Edge)):=
 if (decide (a < (t.E.length:Int))) then (ob (ix t.E a) fun b=>
 ob (jJ b f) fun g=>
 if g then (ob (ix p b.F) fun h=>
 ob (ix p b.To) fun i=>
 ob (uF c ([⟨h,b.B,i⟩]:List Edge)) fun j=>
 nI a j) else (nI a c)) else (some (.inr c))
def vC (t:bB) (p c:(List Int)) (d e:Int) (f:List aI):Option bB:=
 ob (loop (fun (s:(List Edge × Int))=>nJ t p c s.1 s.2) ([],0)) fun r=>vB d e f r
def vZ (t:bB) (p c:(List Int)):Option bB:=
 ob (ix p t.I) fun d=>
 ob (xC p) fun e=>
 ob (bZ t.L) fun f=>
 vC t p c e d f
def pG (a:bB) (b:List Edge):Option bB:=
 some ⟨a.N,a.I,a.L,b⟩
def pH (a:bB) (b:List Edge):Option bB:=
 ob (uN a.N a.I a.L b) fun c=>
 pG a c
def gO (a:Int) (b:List Edge):Option ((List Edge × Int) ⊕ (List Edge)):=
 some (.inl (b,wr (a+1)))
def fF (p:(List Int)) (c:(List Bool)) (b:List Edge) (a:Int):Option ((List Edge × Int) ⊕ (List Edge)):=
 if (decide (a < (c.length:Int))) then (ob (ix c a) fun f=>
 if f then (ob (ix p a) fun d=>
 ob (uF b ([⟨d,0,d⟩]:List Edge)) fun g=>
 gO a g) else (gO a b)) else (some (.inr b))
def kV (t:bB) (p:(List Int)) (d:Bool):Option bB:=
 ob (vZ t p p) fun b=>
 if d then (ob (qH t p) fun e=>
 ob (lR e) fun f=>
 ob (loop (fun (s:(List Edge × Int))=>fF p f s.1 s.2) (b.E,0)) fun r=>pH b r) else (pG b b.E)
def lX (a:Bool) (b c:Int) (d:List aI) (e:List Edge):Option bB:=
 ob (nS ⟨b,c,d,e⟩ a) fun f=>
 ob (kV ⟨b,c,d,e⟩ f a) fun g=>
 some g
def lH (t:bB) (c:Bool):Option bB:=
 ob (tY t) fun d=>
 ob (vY t d) fun a=>
 lX c a.N a.I a.L a.E
def aEv (t:bB) (b:Int):Option bB:=
 if (b == 0) then (ob (aGq t) fun c=>
 some c) else (ob (lH t (b == 2)) fun d=>
 some d)
def pI (t:bB) (p:Int):Option bB:=
 ob (aEv t p) fun c=>
 some c
def pS (n:aX) (b:List bB):Option aX:=
 ob (aAJ n b) fun c=>
 some c
def gF (n:aX) (e:Int) (d:List bB) (b:Int):Option ((List bB × Int) ⊕ (List bB)):=
 if (decide (b < (n.Parts.length:Int))) then (ob (ix n.Parts b) fun f=>
 ob (pI f e) fun a=>
 ob (uF d ([⟨a.N,a.I,a.L,a.E⟩]:List bB)) fun g=>
 some (.inl (g,wr (b+1)))) else (some (.inr d))
def tI (n:aX) (b:Int):Option aX:=
 ob (loop (fun (s:(List bB × Int))=>gF n b s.1 s.2) ([],0)) fun r=>pS n r
def nK (n:aX) (b:Int):Option aX:=
 ob (tI n b) fun c=>
 some c
def yT (n:aX) (b:Int):Option (aX × Int):=
 ob (oX n) fun c=>
 if (!c) then (some (⟨[],[],[],[]⟩,1)) else (ob (aEu b) fun d=>
 if (!d) then (some (⟨[],[],[],[]⟩,2)) else (ob (nK n b) fun e=>
 some (e,0)))
def yU (a b:aI):Option Int:=
 if (a == b) then (some 0) else (if (a == ([116,97,117]:aI)) then (some (-1)) else (if (b == ([116,97,117]:aI)) then (some 1) else (ob (aMe a b) fun e=>
 some e)))
def oA (a:(List aI)):Option (List aI):=
 some a
def gJ (a:Int):Option (Int ⊕ (Unit ⊕ (List aI))):=
 some (.inl (wr (a+1)))
def gK (a:List aI) (b:Int):Option (Int ⊕ (Unit ⊕ (List aI))):=
 ob (zX a b (a.length:Int)) fun c=>
 ob (ovw a b (List.replicate c.length ([]:aI))) fun d=>
 ob (zX d 0 b) fun e=>
 some (.inr (.inr e))
def eJ (a:Int) (b:List aI) (c:Int):Option ((List aI × Int × Int) ⊕ (List aI × Int)):=
 some (.inl (b,c,wr (a+1)))
def eK (e:Int) (d b:List aI) (c a:Int):Option ((List aI × Int × Int) ⊕ (List aI × Int)):=
 if (decide (a < (d.length:Int))) then (ob (ix d a) fun i=>
 ob (ix b (e+a)) fun f=>
 ob (ix d (wr (a - 1))) fun j=>
 ob (ix b (e+(wr (a - 1)))) fun g=>
 if (!(f == g)) then (ob (ix b c) fun k=>
 ob (st b c (f:aI)) fun h=>
 eJ a h (wr (c+1))) else (eJ a b c)) else (some (.inr (b,c)))
def eM (b:(List aI)) (a:Int):Option (Int ⊕ (Unit ⊕ (List aI))):=
 if (decide (a < (b.length:Int))) then (ob (ix b a) fun d=>
 ob (ix b (wr (a - 1))) fun e=>
 if (d == e) then (ob (zX b a (b.length:Int)) fun f=>
 ob (loop (fun (s:(List aI × Int × Int))=>eK a f s.1 s.2.1 s.2.2) (b,a,1)) fun r=>gK r.1 r.2) else (gJ a)) else (some (.inr (.inl ())))
def fN (a:(List aI)):Option (List aI):=
 if (decide ((a.length:Int) < 2)) then (some a) else (ob (loop (fun (s:Int)=>eM a s) 1) fun r=>match r with|.inl r=>oA a|.inr r=>some r)
def pJ:Option Int:=
 some (-1)
def iA (b:(List aI)) (c:aI) (a:Int):Option (Int ⊕ (Unit ⊕ Int)):=
 if (decide (a < (b.length:Int))) then (ob (ix b a) fun d=>
 if (c == d) then (some (.inr (.inr a))) else (some (.inl (wr (a+1))))) else (some (.inr (.inl ())))
def eO (b:(List aI)) (c:aI):Option Int:=
 ob (loop (fun (s:Int)=>iA b c s) 0) fun r=>match r with|.inl r=>pJ|.inr r=>some r
def aGt (a b:Int) (c:(List aI)) (d:List Edge):Option bB:=
 ob (mE d) fun e=>
 ob (bN e) fun f=>
 some ⟨a,b,c,f⟩
def aBW (c:(List fX)) (e:(List aI)) (d:List Edge) (a:Int):Option ((List Edge × Int) ⊕ (List Edge)):=
 if (decide (a < (c.length:Int))) then (ob (ix c a) fun b=>
 ob (eO e b.label) fun f=>
 ob (uF d ([⟨b.from_,f,b.to_⟩]:List Edge)) fun g=>
 some (.inl (g,wr (a+1)))) else (some (.inr d))
def aJE (b c:Int) (d:(List aI)) (e:(List fX)):Option bB:=
 ob (uF ([([116,97,117]:aI)]:List aI) d) fun f=>
 ob (aBh f) fun g=>
 ob (fN g) fun a=>
 ob (loop (fun (s:(List Edge × Int))=>aBW e a s.1 s.2) ([],0)) fun r=>aGt b c a r
def aHs (a:List aI):Option (List aI):=
 some a
def aBE (b:(List fX)) (c:List aI) (a:Int):Option ((List aI × Int) ⊕ (List aI)):=
 if (decide (a < (b.length:Int))) then (ob (ix b a) fun d=>
 ob (uF c ([d.label]:List aI)) fun e=>
 some (.inl (e,wr (a+1)))) else (some (.inr c))
def aDx (a:(List fX)):Option (List aI):=
 ob (loop (fun (s:(List aI × Int))=>aBE a s.1 s.2) ([],0)) fun r=>aHs r
def pT (a:(List Int)):Option aI:=
 ob (aEE a ([44]:aI)) fun b=>
 some b
def oF (a:Bool):Option Bool:=
 some a
def rQ (m:cF) (p c:aI):Option Bool:=
 if (m.Left == (mnS p c)) then (oF (m.Right == (mxS p c))) else (oF false)
def iN:Option Int:=
 some (-1)
def cE (b:(List cF)) (c d:aI) (a:Int):Option (Int ⊕ (Unit ⊕ Int)):=
 if (decide (a < (b.length:Int))) then (ob (ix b a) fun e=>
 ob (rQ e c d) fun f=>
 if f then (some (.inr (.inr a))) else (some (.inl (wr (a+1))))) else (some (.inr (.inl ())))
def cM (b:(List cF)) (c d:aI):Option Int:=
 ob (loop (fun (s:Int)=>cE b c d s) 0) fun r=>match r with|.inl r=>iN|.inr r=>some r
def xD (c:aMX) (a b:aI):Option (aI × Bool):=
 ob (cM c.Meetings a b) fun d=>
 if (decide (d < 0)) then (some (([]:aI),false)) else (ob (ix c.Meetings d) fun g=>
 some (g.Result,true))
def nL (b:(aI × (List Int) × Bool)) (c:(aI × Bool)) (d:Bool):Option (aI × Bool):=
 if d then (some (([]:aI),false)) else (ob (aBk c.1 b.2.1) fun a=>
 some (a.1,a.2))
def mZ (n:aX) (a b:aI):Option (aI × Bool):=
 ob (lM a) fun c=>
 ob (lM b) fun e=>
 ob (xD ⟨[],[],n.Meetings,[],[]⟩ c.1 e.1) fun d=>
 if (!d.2) then (nL c d true) else (ob (dA c.2.1 e.2.1) fun i=>
 nL c d (!i))
def dN (a b:(List Int)):Option Int:=
 if (decide ((a.length:Int) < (b.length:Int))) then (some (-1)) else (some 0)
def bY (b c:(List Int)) (a:Int):Option (Int ⊕ (Unit ⊕ Int)):=
 if (decide (a < (b.length:Int))) then (ob (ix b a) fun e=>
 if (decide ((c.length:Int)<=a)) then (some (.inr (.inr 1))) else (ob (ix c a) fun f=>
 ob (eV e f) fun d=>
 if (d != 0) then (some (.inr (.inr d))) else (some (.inl (wr (a+1)))))) else (some (.inr (.inl ())))
def eP (b c:(List Int)):Option Int:=
 ob (loop (fun (s:Int)=>bY b c s) 0) fun r=>match r with|.inl r=>dN b c|.inr r=>some r
def wA (a:aI):Option aI:=
 ob (lM a) fun b=>
 some b.1
def fG (a:(List aI)) (b:aI):Option Bool:=
 ob (eO a b) fun c=>
 some (decide (0<=c))
def yV (n:aX) (a:aI):Option (aI × Bool):=
 ob (wA a) fun c=>
 if (a == ([116,97,117]:aI)) then (some (([116,97,117]:aI),true)) else (ob (fG n.Allowed c) fun d=>
 if (!d) then (some (([]:aI),false)) else (ob (fG n.Hidden c) fun e=>
 if e then (some (([116,97,117]:aI),true)) else (some (a,true))))
def mL (a:Int) (b:List (List Int)) (c:(List (aI × Int))):Option (Int × (List (List Int)) × (List (aI × Int))):=
 some (a,b,c)
def eU (a:(List (List Int))) (b:(List (aI × Int))) (g:(List fX)) (d:(List Int)):Option (Int × (List (List Int)) × (List (aI × Int))):=
 ob (pT d) fun c=>
 if (!((xT b c).isSome)) then (ob (some (aCE b c (a.length:Int))) fun e=>
 ob (uF a ([d]:List (List Int))) fun f=>
 mL (a.length:Int) f e) else (mL ((xT b c).getD 0) a b)
def mM (i k:Int) (p:(List Int)):Option (List Int):=
 ob (cZ p) fun b=>
 ob (ix b i) fun f=>
 ob (st b i (k:Int)) fun e=>
 some e
def xL (a:List (List Int)) (b:(List (aI × Int))) (c:List fX):Option ((List (List Int)) × (List (aI × Int)) × (List fX)):=
 some (a,b,c)
def oG (c:aI) (d:(List Int)) (e:(List (List Int))) (f:(List (aI × Int))) (b:(List fX)) (p:Int):Option ((List (List Int)) × (List (aI × Int)) × (List fX)):=
 ob (eU e f b d) fun a=>
 ob (uF b ([⟨p,c,a.1⟩]:List fX)) fun h=>
 xL a.2.1 a.2.2 h
def iM (f:aI) (g:(List Int)) (h:aX) (b:(List (List Int))) (c:(List (aI × Int))) (d:(List fX)) (i:Int):Option ((List (List Int)) × (List (aI × Int)) × (List fX)):=
 ob (yV h f) fun e=>
 if e.2 then (ob (oG e.1 g b c d i) fun a=>
 some (a.1,a.2.1,a.2.2)) else (some (b,c,d))
def zO (a:List (List Int)) (b:(List (aI × Int))) (c:List fX):Option ((List (List Int)) × (List (aI × Int)) × (List fX)):=
 some (a,b,c)
def tJ (a:Int) (b:List (List Int)) (c:(List (aI × Int))) (d:List fX):Option ((Int × List (List Int) × (List (aI × Int)) × List fX) ⊕ (List (List Int) × (List (aI × Int)) × List fX)):=
 some (.inl (wr (a+1),b,c,d))
def tK (a:Int) (b:List (List Int)) (c:(List (aI × Int))) (d:List fX):Option ((Int × List (List Int) × (List (aI × Int)) × List fX) ⊕ (List (List Int) × (List (aI × Int)) × List fX)):=
 tJ a b c d
def tL (a:Int) (b:List (List Int)) (c:(List (aI × Int))) (d:List fX):Option ((Int × List (List Int) × (List (aI × Int)) × List fX) ⊕ (List (List Int) × (List (aI × Int)) × List fX)):=
 some (.inl (wr (a+1),b,c,d))
def pK (a:Int) (b:List (List Int)) (c:(List (aI × Int))) (d:List fX):Option ((Int × List (List Int) × (List (aI × Int)) × List fX) ⊕ (List (List Int) × (List (aI × Int)) × List fX)):=
 tL a b c d
def tM (a:Int) (b:List (List Int)) (c:(List (aI × Int))) (d:List fX):Option ((Int × List (List Int) × (List (aI × Int)) × List fX) ⊕ (List (List Int) × (List (aI × Int)) × List fX)):=
 some (.inl (wr (a+1),b,c,d))
def tN (a:Int) (b:List (List Int)) (c:(List (aI × Int))) (d:List fX):Option ((Int × List (List Int) × (List (aI × Int)) × List fX) ⊕ (List (List Int) × (List (aI × Int)) × List fX)):=
 tM a b c d
def mN (a:Int) (b:List (List Int)) (c:(List (aI × Int))) (d:List fX):Option ((Int × List (List Int) × (List (aI × Int)) × List fX) ⊕ (List (List Int) × (List (aI × Int)) × List fX)):=
 some (.inl (wr (a+1),b,c,d))
def jK (n:aX) (l:(List Int)) (m:aX) (o p:Int) (q:Edge) (r:aI) (f:Int) (s:bB) (g:(List Edge)) (a:Int) (b:List (List Int)) (c:(List (aI × Int))) (d:List fX):Option ((Int × List (List Int) × (List (aI × Int)) × List fX) ⊕ (List (List Int) × (List (aI × Int)) × List fX)):=
 if (decide (a < (g.length:Int))) then (ob (ix g a) fun h=>
 ob (ix s.L h.B) fun t=>
 ob (mZ n r t) fun i=>
 if i.2 then (ob (mM p q.To l) fun j=>
 ob (ix j f) fun v=>
 ob (st j f (h.To:Int)) fun u=>
 ob (iM i.1 u m b c d o) fun e=>
 mN a e.1 e.2.1 e.2.2) else (mN a b c d)) else (some (.inr (b,c,d)))
def iO (n:aX) (d:(List Int)) (i:aX) (j k:Int) (l:Edge) (m:aI) (a:Int) (e:List (List Int)) (f:(List (aI × Int))) (g:List fX):Option ((Int × List (List Int) × (List (aI × Int)) × List fX) ⊕ (List (List Int) × (List (aI × Int)) × List fX)):=
 if (decide (a < (n.Parts.length:Int))) then (ob (ix n.Parts a) fun h=>
 ob (ix d a) fun o=>
 ob (sF h o) fun p=>
 ob (loop (fun (s:(Int × List (List Int) × (List (aI × Int)) × List fX))=>jK n d i j k l m a h p s.1 s.2.1 s.2.2.1 s.2.2.2) (0,e,f,g)) fun r=>tN a r.1 r.2.1 r.2.2) else (some (.inr (e,f,g)))
def iP (n:aX) (f:(List Int)) (g:aX) (h a:Int) (p:bB) (i:(List Edge)) (b:Int) (j:List (List Int)) (k:(List (aI × Int))) (l:List fX):Option ((Int × List (List Int) × (List (aI × Int)) × List fX) ⊕ (List (List Int) × (List (aI × Int)) × List fX)):=
 if (decide (b < (i.length:Int))) then (ob (ix i b) fun c=>
 ob (ix p.L c.B) fun m=>
 ob (mM a c.To f) fun q=>
 ob (iM m q g j k l h) fun d=>
 ob (loop (fun (s:(Int × List (List Int) × (List (aI × Int)) × List fX))=>iO n f g h a c m s.1 s.2.1 s.2.2.1 s.2.2.2) (wr (a+1),d.1,d.2.1,d.2.2)) fun r=>pK b r.1 r.2.1 r.2.2) else (some (.inr (j,k,l)))
def iQ (n:aX) (d:(List Int)) (i:aX) (j a:Int) (e:List (List Int)) (f:(List (aI × Int))) (g:List fX):Option ((Int × List (List Int) × (List (aI × Int)) × List fX) ⊕ (List (List Int) × (List (aI × Int)) × List fX)):=
 if (decide (a < (n.Parts.length:Int))) then (ob (ix n.Parts a) fun h=>
 ob (ix d a) fun k=>
 ob (sF h k) fun l=>
 ob (loop (fun (s:(Int × List (List Int) × (List (aI × Int)) × List fX))=>iP n d i j a h l s.1 s.2.1 s.2.2.1 s.2.2.2) (0,e,f,g)) fun r=>tK a r.1 r.2.1 r.2.2) else (some (.inr (e,f,g)))
def tZ (n:aX) (c:(List Int)) (d:aX) (e:(List (List Int))) (f:(List (aI × Int))) (g:(List fX)) (h:Int):Option ((List (List Int)) × (List (aI × Int)) × (List fX)):=
 ob (loop (fun (s:(Int × List (List Int) × (List (aI × Int)) × List fX))=>iQ n c d h s.1 s.2.1 s.2.2.1 s.2.2.2) (0,e,f,g)) fun r=>zO r.1 r.2.1 r.2.2
def pU (b:(List Int)) (c:(List (List Int))) (d:(List (aI × Int))) (e:(List fX)) (f:Int) (p h:aX):Option (Bool × (List (List Int)) × (List (aI × Int)) × (List fX)):=
 ob (tZ p b h c d e f) fun a=>
 some (true,a.1,a.2.1,a.2.2)
def oH (e:List (List Int)) (a b:Int) (c:List aI) (d:List Edge):Option (bB × (List (List Int)) × Bool):=
 ob (vX ⟨a,b,c,d⟩) fun f=>
 some (⟨a,b,c,d⟩,e,f)
def lI (b:List (List Int)) (e:(List (aI × Int))) (c:List fX):Option (bB × (List (List Int)) × Bool):=
 ob (aDx c) fun d=>
 ob (aJE (b.length:Int) 0 d c) fun a=>
 oH b a.N a.I a.L a.E
def lJ (b:Int) (a:(Bool × (List (List Int)) × (List (aI × Int)) × (List fX))) (c:Bool):Option ((List (List Int) × (List (aI × Int)) × List fX × Int) ⊕ ((List (List Int) × (List (aI × Int)) × List fX) ⊕ (bB × (List (List Int)) × Bool))):=
 if c then (some (.inr (.inr (⟨0,0,[],[]⟩,[],false)))) else (some (.inl (a.2.1,a.2.2.1,a.2.2.2,wr (b+1))))
def dH (f g:aX) (b:List (List Int)) (d:(List (aI × Int))) (e:List fX) (a:Int):Option ((List (List Int) × (List (aI × Int)) × List fX × Int) ⊕ ((List (List Int) × (List (aI × Int)) × List fX) ⊕ (bB × (List (List Int)) × Bool))):=
 if (decide (a < (b.length:Int))) then (ob (ix b a) fun h=>
 ob (pU h b d e a f g) fun c=>
 if (!c.1) then (lJ a c true) else (lJ a c (decide (40 < (c.2.1.length:Int))))) else (some (.inr (.inl (b,d,e))))
def oB (c:(List Int)) (d e:aX):Option (bB × (List (List Int)) × Bool):=
 ob (eU [] ([]:(List (aI × Int))) [] c) fun b=>
 ob (loop (fun (s:(List (List Int) × (List (aI × Int)) × List fX × Int))=>dH d e s.1 s.2.1 s.2.2.1 s.2.2.2) (b.2.1,b.2.2,[],0)) fun r=>match r with|.inl r=>lI r.1 r.2.1 r.2.2|.inr r=>some r
def pV (a:(bB × (List (List Int)) × Bool)) (b:(List Int)) (c:List (List Int)):Option (bB × (List (List Int)) × Bool):=
 ob (vY a.1 b) fun d=>
 some (d,c,true)
def kG (d:(bB × (List (List Int)) × Bool)) (b:(List Int)) (c:List (List Int)) (a:Int):Option ((List (List Int) × Int) ⊕ (List (List Int))):=
 if (decide (a < (b.length:Int))) then (ob (ix b a) fun e=>
 ob (ix d.2.1 e) fun f=>
 ob (uF c ([f]:List (List Int))) fun g=>
 some (.inl (g,wr (a+1)))) else (some (.inr c))
def pW (n d:aX) (e:List Int):Option (bB × (List (List Int)) × Bool):=
 ob (oB e n d) fun a=>
 if (!a.2.2) then (some (⟨0,0,[],[]⟩,[],false)) else (ob (aGs a.1.N) fun f=>
 ob (aCV f a.2.1) fun b=>
 ob (loop (fun (s:(List (List Int) × Int))=>kG a b s.1 s.2) ([],0)) fun r=>pV a b r)
def mA (n:aX) (c:List Int) (a:Int):Option ((List Int × Int) ⊕ (List Int)):=
 if (decide (a < (n.Parts.length:Int))) then (ob (ix n.Parts a) fun d=>
 ob (uF c ([d.I]:List Int)) fun e=>
 some (.inl (e,wr (a+1)))) else (some (.inr c))
def pL (n b:aX):Option (bB × (List (List Int)) × Bool):=
 ob (loop (fun (s:(List Int × Int))=>mA n s.1 s.2) ([],0)) fun r=>pW n b r
def mO (n:aX):Option (bB × (List (List Int)) × Int):=
 ob (oX n) fun c=>
 if (!c) then (some (⟨0,0,[],[]⟩,[],1)) else (ob (pL n n) fun b=>
 if (!b.2.2) then (some (⟨0,0,[],[]⟩,[],5)) else (some (b.1,b.2.1,0)))
def vD (a b:bB) (p:(List Int)):Option Bool:=
 ob (ix p a.I) fun f=>
 ob (ix p (wr (a.N+b.I))) fun g=>
 some (f == g)
def aHt (a:List fX):Option (List fX):=
 some a
def yI (t:bB) (d:List fX) (b:Int):Option ((List fX × Int) ⊕ (List fX)):=
 if (decide (b < (t.E.length:Int))) then (ob (ix t.E b) fun c=>
 ob (ix t.L c.B) fun e=>
 ob (uF d ([⟨c.F,e,c.To⟩]:List fX)) fun f=>
 some (.inl (f,wr (b+1)))) else (some (.inr d))
def aBq (t:bB):Option (List fX):=
 ob (loop (fun (s:(List fX × Int))=>yI t s.1 s.2) ([],0)) fun r=>aHt r
def oL (a:List aI):Option (List aI):=
 some a
def bO (b:(List (List aI))) (c:List aI) (a:Int):Option ((List aI × Int) ⊕ (List aI)):=
 if (decide (a < (b.length:Int))) then (ob (ix b a) fun d=>
 ob (uF c d) fun e=>
 some (.inl (e,wr (a+1)))) else (some (.inr c))
def gQ (a:(List (List aI))) (b:Int):Option (List aI):=
 ob (aGP [] b) fun c=>
 ob (loop (fun (s:(List aI × Int))=>bO a s.1 s.2) (c,0)) fun r=>oL r
def eW (a b:Int):Option ((Int × Int) ⊕ Int):=
 some (.inl (b,wr (a+1)))
def bI (c:(List (List aI))) (a b:Int):Option ((Int × Int) ⊕ Int):=
 if (decide (b < (c.length:Int))) then (ob (ix c b) fun d=>
 if (decide (wr (a+(d.length:Int)) < 0)) then (none) else (eW b (wr (a+(d.length:Int))))) else (some (.inr a))
def fZ (a:(List (List aI))):Option (List aI):=
 ob (loop (fun (s:(Int × Int))=>bI a s.1 s.2) (0,0)) fun r=>gQ a r
def aFm (a b:bB) (e:List fX):Option bB:=
 ob (fZ ([a.L,b.L]:List (List aI))) fun f=>
 ob (aJE (wr (a.N+b.N)) a.I f e) fun g=>
 some g
def aDy (a:bB) (e:(List fX)) (f:List fX) (b:Int):Option ((List fX × Int) ⊕ (List fX)):=
 if (decide (b < (e.length:Int))) then (ob (ix e b) fun c=>
 ob (uF f ([⟨wr (c.from_+a.N),c.label,wr (c.to_+a.N)⟩]:List fX)) fun g=>
 some (.inl (g,wr (b+1)))) else (some (.inr f))
def aIC (a b:bB):Option bB:=
 ob (aBq a) fun e=>
 ob (aBq b) fun f=>
 ob (loop (fun (s:(List fX × Int))=>aDy a f s.1 s.2) (e,0)) fun r=>aFm a b r
def zQ (a:Bool):Option Unit:=
 some ()
def uR (t:bB) (p:Bool):Option (List Int):=
 ob (nS t p) fun c=>
 some c
def aNg (a b:bB) (f:Bool):Option (List Int):=
 ob (aIC a b) fun c=>
 ob (uR ⟨c.N,c.I,c.L,c.E⟩ f) fun g=>
 some g
def yJ (a b:bB) (e f:Bool):Option (Bool × Int):=
 if f then (some (false,1)) else (ob (aNg a b e) fun g=>
 ob (vD a b g) fun h=>
 some (h,0))
def aFn (a b:bB) (e:Bool):Option (Bool × Int):=
 ob (vX a) fun f=>
 if (!f) then (yJ a b e true) else (ob (vX b) fun g=>
 yJ a b e (!g))
def lK (a b:bB) (c:Bool):Option (Bool × Int):=
 ob (zQ c) fun g=>
 ob (aFn a b c) fun d=>
 some (d.1,d.2)
def iW (a:Bool):Option Bool:=
 some a
def iX (f:(aX × Int)) (a b c:(bB × (List (List Int)) × Int)) (g:Bool):Option Bool:=
 if g then (some (f.2 == 0)) else (ob (lK a.1 b.1 true) fun d=>
 ob (lK a.1 c.1 true) fun e=>
 if (a.2.2 == 0) then (if (b.2.2 == 0) then (if (c.2.2 == 0) then (if (d.2 == 0) then (if (e.2 == 0) then (if d.1 then (iW e.1) else (iW false)) else (iW false)) else (iW false)) else (iW false)) else (iW false)) else (iW false))
def qU (b:(aX × (List Int))) (f:List bB):Option Bool:=
 ob (yT b.1 2) fun a=>
 ob (mO b.1) fun c=>
 ob (mO ⟨f,b.1.Meetings,b.1.Allowed,b.1.Hidden⟩) fun d=>
 ob (mO a.1) fun e=>
 if (a.2 != 0) then (iX a c d e true) else (if (c.2.2 == 5) then (iX a c d e true) else (if (d.2.2 == 5) then (iX a c d e true) else (iX a c d e (e.2.2 == 5))))
def qV (a:Int) (b:List bB):Option ((List bB × Int) ⊕ (List bB)):=
 some (.inl (b,wr (a+1)))
def iY (e:(List UInt8)) (c:(aX × (List Int))) (f:Int) (d:List bB) (a:Int):Option ((List bB × Int) ⊕ (List bB)):=
 if (decide (a < (c.1.Parts.length:Int))) then (if (a == f) then (ob (ix c.1.Parts a) fun g=>
 ob (aGp e g) fun b=>
 ob (uF d ([⟨b.N,b.I,b.L,b.E⟩]:List bB)) fun h=>
 qV a h) else (ob (ix c.1.Parts a) fun i=>
 ob (uF d ([i]:List bB)) fun j=>
 qV a j)) else (some (.inr d))
def aAP (c a:(List UInt8)):Option Bool:=
 ob (aGh c a) fun d=>
 if d then (some true) else (ob (aBP c) fun b=>
 ob (aKI a 60 (b.1.Parts.length:Int)) fun e=>
 ob (loop (fun (s:(List bB × Int))=>iY a b e s.1 s.2) ([],0)) fun r=>qU b r)
def pX (a b:Int) (p:(List (List Int))):Option Int:=
 ob (ix p a) fun f=>
 ob (ix p b) fun g=>
 ob (eP f g) fun h=>
 some h
end
end Gv
