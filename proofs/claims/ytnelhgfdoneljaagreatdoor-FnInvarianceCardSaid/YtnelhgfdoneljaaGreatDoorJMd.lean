/- Models of the functions, printed by program off their code. Plain Lean. -/
import Derived.Test.YtnelhgfdoneljaaGreatDoorJLM
set_option linter.all false
namespace Gv
noncomputable section
def aCW (a:List Int):Option ((List Int) × Bool):=
 some (a,true)
def sI (b:(List aQ)) (c:List Int) (a:Int):Option ((List Int × Int) ⊕ (List Int ⊕ ((List Int) × Bool))):=
 if (decide (a < (b.length:Int))) then (ob (ix b a) fun e=>
 ob (tS e) fun d=>
 if (!d.2) then (some (.inr (.inr ([],false)))) else (ob (qH c ([d.1]:List Int)) fun f=>
 some (.inl (f,wr (a+1))))) else (some (.inr (.inl c)))
def tU (b:(List aQ)):Option ((List Int) × Bool):=
 ob (loop (fun (s:(List Int × Int))=>sI b s.1 s.2) ([],0)) fun r=>match r with|.inl r=>aCW r|.inr r=>some r
def aDw (a:Bool):Option Bool:=
 some a
def aFh (c:UInt8):Option Bool:=
 if (decide (48<=(c.toNat:Int))) then (aDw (decide ((c.toNat:Int)<=57))) else (aDw false)
def aEn (a:Bool):Option Bool:=
 some a
def aCd (a:aQ):Option Bool:=
 if (decide (1<=(a.length:Int))) then (aEn (decide ((a.length:Int)<=10))) else (aEn false)
def yV (a:Int) (b:Bool):Option (Int ⊕ (Unit ⊕ Bool)):=
 if b then (some (.inr (.inr false))) else (some (.inl (wr (a+1))))
def pE (b:aQ) (a:Int) (c:Bool):Option (Int ⊕ (Unit ⊕ Bool)):=
 if (!c) then (if (a == 0) then (yV a true) else (ob (ix b a) fun d=>
 ob (aFh d) fun e=>
 yV a (!e))) else (yV a false)
def vH (a:aQ) (b:Int):Option (Int ⊕ (Unit ⊕ Bool)):=
 if (decide (b < (a.length:Int))) then (ob (ix a b) fun c45=>
 if (decide (97<=(c45.toNat:Int))) then (pE a b (decide ((c45.toNat:Int)<=122))) else (pE a b false)) else (some (.inr (.inl ())))
def aEo (b:aQ):Option Bool:=
 ob (loop (fun (s:Int)=>vH b s) 0) fun r=>match r with|.inl r=>aCd b|.inr r=>some r
def yH (a:Bool):Option Bool:=
 some a
def xK (a:aQ):Option Bool:=
 ob (aEo a) fun b=>
 if b then (yH (!(a == ([116,97,117]:aQ)))) else (yH false)
def aEp (a:Bool):Option Bool:=
 some a
def pZ (n low b:Int):Option Bool:=
 if (decide (low<=n)) then (aEp (decide (n<=b))) else (aEp false)
def aHk (n:Int):Option Bool:=
 ob (pZ n 0 63) fun b=>
 some b
def aBk (n:Int):Option Bool:=
 ob (aHk n) fun b=>
 some (!b)
def kR:Option Int:=
 some (-1)
def cY (b:(List Int)) (a:Int):Option (Int ⊕ (Unit ⊕ Int)):=
 if (decide (a < (b.length:Int))) then (ob (ix b a) fun c=>
 ob (aBk c) fun d=>
 if d then (some (.inr (.inr a))) else (some (.inl (wr (a+1))))) else (some (.inr (.inl ())))
def fB (b:(List Int)):Option Int:=
 ob (loop (fun (s:Int)=>cY b s) 0) fun r=>match r with|.inl r=>kR|.inr r=>some r
def gG (a:(List Int)):Option Bool:=
 ob (fB a) fun b=>
 some (decide (0<=b))
def aCe (a:(List Int)):Option Bool:=
 ob (gG a) fun b=>
 some (!b)
def aEq (a:aQ) (b:List aQ):Option aQ:=
 ob (aKE b a) fun c=>
 some c
def yW (c:(List Int)) (b:List aQ) (a:Int):Option ((List aQ × Int) ⊕ (List aQ)):=
 if (decide (a < (c.length:Int))) then (ob (ix c a) fun d=>
 ob (aCT d) fun e=>
 ob (ix b a) fun g=>
 ob (st b a (e:aQ)) fun f=>
 some (.inl (f,wr (a+1)))) else (some (.inr b))
def aEr (a:(List Int)) (b:aQ):Option aQ:=
 ob (mkz (a.length:Int) ([]:aQ)) fun c=>
 ob (loop (fun (s:(List aQ × Int))=>yW a s.1 s.2) (c,0)) fun r=>aEq b r
def vW (a:aQ) (b:(List Int)) (c:Bool):Option (aQ × Bool):=
 if c then (some (([]:aQ),false)) else (if ((b.length:Int) == 0) then (some (a,true)) else (ob (cat a ([40]:aQ)) fun d=>
 ob (aEr b ([44]:aQ)) fun e=>
 ob (cat d e) fun f=>
 ob (cat f ([41]:aQ)) fun g=>
 some (g,true)))
def aCX (b:aQ) (a:(List Int)):Option (aQ × Bool):=
 if (b == ([116,97,117]:aQ)) then (some (([116,97,117]:aQ),(a.length:Int) == 0)) else (ob (xK b) fun c=>
 if (!c) then (vW b a true) else (if (decide (2 < (a.length:Int))) then (vW b a true) else (ob (aCe a) fun d=>
 vW b a (!d))))
def dG (a:Bool):Option Bool:=
 some a
def cW (a b:aQ):Option Bool:=
 if (decide ((b.length:Int)<=(a.length:Int))) then (ob (slc a (wr ((a.length:Int) - (b.length:Int))) (a.length:Int)) fun c=>
 dG (c == b)) else (dG false)
def iE (a b:aQ):Option aQ:=
 ob (cW a b) fun c=>
 if c then (ob (slc a 0 (wr ((a.length:Int) - (b.length:Int)))) fun d=>
 some d) else (some a)
def mX (a b:aQ):Option aQ:=
 ob (iE a b) fun c=>
 some c
def lQ (a:(aQ × aQ × Bool)) (b:List Int) (c:Bool):Option (aQ × (List Int) × Bool):=
 if c then (some (([]:aQ),[],false)) else (some (a.1,b,true))
def jR (d:aQ) (a:(aQ × aQ × Bool)) (b:List Int):Option (aQ × (List Int) × Bool):=
 ob (aCX a.1 b) fun c=>
 if (!c.2) then (lQ a b true) else (lQ a b (!(c.1 == d)))
def rF (b:aQ):Option (aQ × (List Int) × Bool):=
 ob (l_Cut b ([40]:aQ)) fun a=>
 if a.2.2 then (ob (mX a.2.1 ([41]:aQ)) fun d=>
 ob (aGt d ([44]:aQ)) fun e=>
 ob (tU e) fun c=>
 if (!c.2) then (some (([]:aQ),[],false)) else (jR b a c.1)) else (jR b a [])
def aAU (a:aQ):Option Bool:=
 ob (rF a) fun b=>
 some b.2.2
def aCf (a:Bool):Option Bool:=
 some a
def aEs (a b:(List UInt8)):Option Bool:=
 if (decide (1048576 < (a.length:Int))) then (aCf true) else (aCf (decide (1048576 < (b.length:Int))))
def aCY (a:(List UInt8)):Option (Int × Int):=
 some (0,0)
def aEt (a:(List Int)):Option (List Int):=
 ob (qH ([]:List Int) a) fun b=>
 some b
def oK (d:(List UInt8)) (b c a:Int):Option (Int × Int × Int):=
 if (decide (wr (b+1)<=(d.length:Int))) then (some (a,wr (b+1),kX ((kX ((kX (c * 6364136223846793005))+(kX a)))+1442695040888963407))) else (ob (shU (kX ((kX ((kX (c * 6364136223846793005))+(kX a)))+1442695040888963407)) 40) fun e=>
 some (wr (anU e 255),wr (b+1),kX ((kX ((kX (c * 6364136223846793005))+(kX a)))+1442695040888963407)))
def qI (a:(List UInt8)) (b c:Int):Option (Int × Int × Int):=
 if (decide (b < (a.length:Int))) then (ob (ix a b) fun d=>
 oK a b c (wr (d.toNat:Int))) else (oK a b c 0)
def oL (n b c d:Int):Option (Int × Int × Int):=
 ob (rm b n) fun e=>
 some (e,c,d)
def bA (d:(List UInt8)) (e f n:Int):Option (Int × Int × Int):=
 if (decide (n<=1)) then (some (0,e,f)) else (ob (qI d e f) fun a=>
 if (decide (200 < n)) then (ob (qI d a.2.1 a.2.2) fun c=>
 oL n (wr ((wr (a.1 * 256))+c.1)) c.2.1 c.2.2) else (oL n a.1 a.2.1 a.2.2))
def rG (c:(List UInt8)) (d e:Int) (b:(List Int)):Option (Int × Int × Int):=
 ob (bA c d e (b.length:Int)) fun a=>
 ob (ix b a.1) fun f=>
 some (f,a.2.1,a.2.2)
def yI (c:(List UInt8)) (d e:Int) (b:(List aQ)):Option (aQ × Int × Int):=
 ob (bA c d e (b.length:Int)) fun a=>
 ob (ix b a.1) fun f=>
 some (f,a.2.1,a.2.2)
def iH (b:(List UInt8)) (c d n:Int):Option (Bool × Int × Int):=
 ob (bA b c d n) fun a=>
 some (a.1 == 0,a.2.1,a.2.2)
def oM (a:(List UInt8)) (e f:Int):Option (bD × Int × Int):=
 ob (bA a e f 2) fun b=>
 ob (yI a b.2.1 b.2.2 ([([]:aQ),([]:aQ),([97]:aQ),([98]:aQ),([116,97,117]:aQ),([103,101,116,42]:aQ),([103,101,116,40,48,41]:aQ),([99]:aQ)]:List aQ)) fun c=>
 ob (iH a c.2.1 c.2.2 6) fun d=>
 some (⟨wr (4+b.1),0,c.1,d.1⟩,d.2.1,d.2.2)
def lH (c:(List UInt8)) (f:(List Int)) (d e:Int) (g:Bool):Option ((List bD) × Int × Int):=
 if g then (ob (rG c d e f) fun a=>
 some (([⟨6,a.1,([]:aQ),false⟩]:List bD),a.2.1,a.2.2)) else (ob (bA c d e 2) fun b=>
 some (([⟨b.1,0,([]:aQ),false⟩]:List bD),b.2.1,b.2.2))
def xL (a:List bD) (b c:Int):Option ((List bD) × Int × Int):=
 some (a,b,c)
def sJ (c:(List UInt8)->Int->Int->(List Int)->Int->Option ((List bD) × Int × Int)) (d:(List UInt8)) (e:Int) (f a:(Int × Int × Int)) (g:List Int):Option ((List bD) × Int × Int):=
 ob (c d a.2.1 a.2.2 g (wr (e - 1))) fun b=>
 ob (qH ([⟨wr (7+f.1),a.1,([]:aQ),false⟩]:List bD) b.1) fun h=>
 xL h b.2.1 b.2.2
def sK (e:(List UInt8)->Int->Int->(List Int)->Int->Option ((List bD) × Int × Int)) (d:(List UInt8)) (f:Int) (g a:(Int × Int × Int)) (h:Int) (i:List Int):Option ((List bD) × Int × Int):=
 ob (qu f 2) fun j=>
 ob (e d a.2.1 a.2.2 i j) fun b=>
 ob (qH ([⟨wr (7+g.1),a.1,([]:aQ),false⟩,⟨h,0,([]:aQ),false⟩]:List bD) b.1) fun k=>
 ob (oM d b.2.1 b.2.2) fun c=>
 ob (qH k ([c.1]:List bD)) fun l=>
 ob (qH l ([⟨6,a.1,([]:aQ),false⟩]:List bD)) fun m=>
 some (m,c.2.1,c.2.2)
def lI (b:(List UInt8)->Int->Int->(List Int)->Int->Option ((List bD) × Int × Int)) (c:(List UInt8)) (d:(List Int)) (e:Int) (f a:(Int × Int × Int)) (g:Int):Option ((List bD) × Int × Int):=
 ob (aEt d) fun h=>
 ob (qH h ([a.1]:List Int)) fun i=>
 sK b c e f a g i
def lJ (c:(List UInt8)->Int->Int->(List Int)->Int->Option ((List bD) × Int × Int)) (a:(List UInt8)) (d:(List Int)) (e:Int) (b:(Int × Int × Int)) (o:Bool):Option ((List bD) × Int × Int):=
 if o then (ob (bA a b.2.1 b.2.2 2) fun h=>
 ob (qu (wr (e - 1)) 2) fun p=>
 ob (c a h.2.1 h.2.2 d p) fun i=>
 ob (qu (wr (e - 1)) 2) fun q=>
 ob (c a i.2.1 i.2.2 d q) fun j=>
 ob (qH ([⟨wr (2+h.1),0,([]:aQ),false⟩]:List bD) i.1) fun r=>
 ob (qH r j.1) fun s=>
 some (s,j.2.1,j.2.2)) else (if (b.1 == 4) then (ob (bA a b.2.1 b.2.2 2) fun k=>
 ob (bA a k.2.1 k.2.2 3) fun m=>
 ob (aEt d) fun t=>
 ob (qH t ([m.1]:List Int)) fun u=>
 sJ c a e k m u) else (ob (iH a b.2.1 b.2.2 2) fun f=>
 if f.1 then (ob (qu e 2) fun v=>
 ob (c a f.2.1 f.2.2 d v) fun l=>
 some (l.1,l.2.1,l.2.2)) else (ob (bA a f.2.1 f.2.2 2) fun g=>
 ob (bA a g.2.1 g.2.2 2) fun n=>
 if ((wr (7+g.1)) == 8) then (lI c a d e g n 2) else (lI c a d e g n 3))))
def gX (c:(List UInt8)->Int->Int->(List Int)->Int->Option ((List bD) × Int × Int)) (b:(List UInt8)) (d:(List Int)) (e:Int) (a:(Int × Int × Int)) (h:Bool):Option ((List bD) × Int × Int):=
 if h then (ob (oM b a.2.1 a.2.2) fun f=>
 ob (c b f.2.1 f.2.2 d (wr (e - 1))) fun g=>
 ob (qH ([f.1]:List bD) g.1) fun i=>
 some (i,g.2.1,g.2.2)) else (if (a.1 == 2) then (lJ c b d e a (a.1 == 2)) else (lJ c b d e a (a.1 == 3)))
def qA (h:(List UInt8)->Int->Int->(List Int)->Int->Option ((List bD) × Int × Int)) (a:(List UInt8)) (d e:Int) (b:(List Int)) (f:Int):Option ((List bD) × Int × Int):=
 if (decide (f<=0)) then (if (decide (0 < (b.length:Int))) then (ob (bA a d e 4) fun g=>
 lH a b g.2.1 g.2.2 (decide (0 < g.1))) else (lH a b d e false)) else (ob (bA a d e 6) fun c=>
 if (c.1 == 0) then (gX h a b f c (c.1 == 0)) else (gX h a b f c (c.1 == 1)))
def iU:Nat->(List UInt8)->Int->Int->(List Int)->Int->Option ((List bD) × Int × Int)
 |0=>fun _ _ _ _ _=>none
 |n+1=>qA (iU n)
def aCF (a:(List UInt8)) (b c:Int) (d:(List Int)) (e:Int):Option ((List bD) × Int × Int):=
 iU 100000 a b c d e
def lR (c:((List bD) × Int × Int)) (d:Bool) (a b:Int):Option ((List bD) × Int × Int):=
 if d then (some (([⟨7,1,([]:aQ),false⟩,⟨4,0,([97]:aQ),false⟩,⟨6,1,([]:aQ),false⟩]:List bD),a,b)) else (some (c.1,a,b))
def aCg (c:(List UInt8)) (e f:Int):Option ((List bD) × Int × Int):=
 ob (bA c e f 8) fun d=>
 ob (aCF c d.2.1 d.2.2 ([]:List Int) (wr (1+d.1))) fun a=>
 if (decide (16 < (a.1.length:Int))) then (ob (iH c a.2.1 a.2.2 4) fun b=>
 if (!b.1) then (lR a true b.2.1 b.2.2) else (lR a (decide (30 < (a.1.length:Int))) b.2.1 b.2.2)) else (lR a (decide (30 < (a.1.length:Int))) a.2.1 a.2.2)
def aCh (a:(List UInt8)):Option (List bD):=
 ob (aCY a) fun b=>
 ob (aCg a b.1 b.2) fun c=>
 some c.1
def aGw:Option Int:=
 some (-1)
def aAM (b:(List aQ)) (c:aQ) (a:Int):Option (Int ⊕ (Unit ⊕ Int)):=
 if (decide (a < (b.length:Int))) then (ob (ix b a) fun d=>
 if (d == c) then (some (.inr (.inr a))) else (some (.inl (wr (a+1))))) else (some (.inr (.inl ())))
def xM (b:(List aQ)) (c:aQ):Option Int:=
 ob (loop (fun (s:Int)=>aAM b c s) 0) fun r=>match r with|.inl r=>aGw|.inr r=>some r
def aGx (a:List aQ):Option (List aQ):=
 some a
def mY (a:Int) (b:List aQ):Option ((List aQ × Int) ⊕ (List aQ)):=
 some (.inl (b,wr (a+1)))
def vX (c:Int) (d:aQ) (a:Int) (b:List aQ):Option ((List aQ × Int) ⊕ (List aQ)):=
 ob (ix b a) fun f=>
 ob (st b a (d:aQ)) fun e=>
 mY c e
def pN (c:Int) (b:List aQ) (a:Int):Option ((List aQ × Int) ⊕ (List aQ)):=
 if (decide (c < a)) then (ob (ix b (wr (a - 1))) fun d=>
 ob (ix b a) fun f=>
 ob (st b a (d:aQ)) fun e=>
 some (.inl (e,wr (a - 1)))) else (some (.inr b))
def vY (c:List aQ) (d:Int) (e:aQ) (a:Int):Option ((List aQ × Int) ⊕ (List aQ)):=
 ob (qH c ([([]:aQ)]:List aQ)) fun b=>
 ob (loop (fun (s:(List aQ × Int))=>pN a s.1 s.2) (b,wr ((b.length:Int) - 1))) fun r=>vX d e a r
def sL (a:Int) (b:Bool):Option (Int ⊕ Int):=
 if b then (some (.inl (wr (a+1)))) else (some (.inr a))
def jO (b:List aQ) (c:aQ) (a:Int):Option (Int ⊕ Int):=
 if (decide (a < (b.length:Int))) then (ob (ix b a) fun d=>
 sL a (yF d c)) else (sL a false)
def gR (d:(List aQ)) (a:List aQ) (b:Int):Option ((List aQ × Int) ⊕ (List aQ)):=
 if (decide (b < (d.length:Int))) then (ob (ix d b) fun c=>
 ob (xM a c) fun e=>
 if (decide (0<=e)) then (mY b a) else (ob (loop (fun (s:Int)=>jO a c s) 1) fun r=>vY a b c r)) else (some (.inr a))
def xN (a:(List aQ)):Option (List aQ):=
 ob (loop (fun (s:(List aQ × Int))=>gR a s.1 s.2) (([([116,97,117]:aQ)]:List aQ),0)) fun r=>aGx r
def aFi (a b:Edge):Option Bool:=
 if (a.F != b.F) then (some (decide (a.F < b.F))) else (if (a.B != b.B) then (some (decide (a.B < b.B))) else (some (decide (a.To < b.To))))
def aCi (e:Edge) (b:Int) (c:List Edge):Option (List Edge):=
 ob (ix c b) fun f=>
 ob (st c b (⟨e.F,e.B,e.To⟩:Edge)) fun d=>
 some d
def yX (d:Int) (b:List Edge) (a:Int):Option ((List Edge × Int) ⊕ (List Edge)):=
 if (decide (d < a)) then (ob (ix b (wr (a - 1))) fun c=>
 ob (ix b a) fun f=>
 ob (st b a (⟨c.F,c.B,c.To⟩:Edge)) fun e=>
 some (.inl (e,wr (a - 1)))) else (some (.inr b))
def vI (a:(List Edge)) (e:Edge) (b:Int) (f:Bool):Option (List Edge):=
 if f then (some a) else (ob (qH a ([⟨0,0,0⟩]:List Edge)) fun c=>
 ob (loop (fun (s:(List Edge × Int))=>yX b s.1 s.2) (c,wr ((c.length:Int) - 1))) fun r=>aCi e b r)
def aCj (b:(List Edge)) (e:Edge) (a:Int):Option (List Edge):=
 if (decide (0 < a)) then (ob (ix b (wr (a - 1))) fun d=>
 vI b e a (decide ((d:Edge)=e))) else (vI b e a false)
def yY (a:Int) (b:Bool):Option (Int ⊕ Int):=
 if b then (some (.inl (wr (a - 1)))) else (some (.inr a))
def vJ (b:(List Edge)) (e:Edge) (a:Int):Option (Int ⊕ Int):=
 if (decide (0 < a)) then (ob (ix b (wr (a - 1))) fun d=>
 ob (aFi e d) fun f=>
 yY a f) else (yY a false)
def aEu (a:(List Edge)) (e:Edge):Option (List Edge):=
 ob (loop (fun (s:Int)=>vJ a e s) (a.length:Int)) fun r=>aCj a e r
def aGy (a b:Int) (c:(List aQ)) (d:List Edge):Option bQ:=
 some ⟨a,b,c,d⟩
def jP (e:(List aQ)) (c:(List Edge)) (f:(List aQ)) (d:List Edge) (a:Int):Option ((List Edge × Int) ⊕ (List Edge)):=
 if (decide (a < (c.length:Int))) then (ob (ix c a) fun b=>
 ob (ix e b.B) fun g=>
 ob (xM f g) fun h=>
 ob (aEu d ⟨b.F,h,b.To⟩) fun i=>
 some (.inl (i,wr (a+1)))) else (some (.inr d))
def kF (c d:Int) (a:(List aQ)) (e:(List Edge)):Option bQ:=
 ob (xN a) fun b=>
 ob (loop (fun (s:(List Edge × Int))=>jP a e b s.1 s.2) (([]:List Edge),0)) fun r=>aGy c d b r
def aEv (a:List Edge):Option (List Edge):=
 some a
def yZ (a:Int) (b:List Edge):Option ((List Edge × Int) ⊕ (List Edge)):=
 some (.inl (b,wr (a+1)))
def zD (t:bQ) (k:Int) (b:List Edge) (a:Int):Option ((List Edge × Int) ⊕ (List Edge)):=
 if (decide (a < (t.E.length:Int))) then (ob (ix t.E a) fun d=>
 if (d.F == k) then (ob (qH b ([d]:List Edge)) fun f=>
 yZ a f) else (yZ a b)) else (some (.inr b))
def aEw (t:bQ) (k:Int):Option (List Edge):=
 ob (loop (fun (s:(List Edge × Int))=>zD t k s.1 s.2) (([]:List Edge),0)) fun r=>aEv r
def aFB:Option Int:=
 some (-1)
def yJ (b:(List Int)) (n a:Int):Option (Int ⊕ (Unit ⊕ Int)):=
 if (decide (a < (b.length:Int))) then (ob (ix b a) fun d=>
 if (d == n) then (some (.inr (.inr a))) else (some (.inl (wr (a+1))))) else (some (.inr (.inl ())))
def uX (b:(List Int)) (n:Int):Option Int:=
 ob (loop (fun (s:Int)=>yJ b n s) 0) fun r=>match r with|.inl r=>aFB|.inr r=>some r
def aGz (a:(List Int)) (b:Int) (c:List aQ) (d:List Edge):Option bQ:=
 some ⟨(a.length:Int),b,c,d⟩
def pO (a:Int) (b:List Edge):Option ((List Edge × Int) ⊕ (List Edge)):=
 some (.inl (b,wr (a+1)))
def sM (a:List Edge) (b:Int) (c:Edge) (d e:Int) (f:Bool):Option ((List Edge × Int) ⊕ (List Edge)):=
 if f then (ob (qH a ([⟨d,c.B,e⟩]:List Edge)) fun g=>
 pO b g) else (pO b a)
def sO (t:bQ) (g:(List Int)) (c:List Edge) (a:Int):Option ((List Edge × Int) ⊕ (List Edge)):=
 if (decide (a < (t.E.length:Int))) then (ob (ix t.E a) fun b=>
 ob (uX g b.F) fun d=>
 ob (uX g b.To) fun e=>
 if (decide (0<=d)) then (sM c a b d e (decide (0<=e))) else (sM c a b d e false)) else (some (.inr c))
def xO (t:bQ) (b:(List Int)):Option bQ:=
 ob (uX b t.I) fun c=>
 ob (qH ([]:List aQ) t.L) fun d=>
 ob (loop (fun (s:(List Edge × Int))=>sO t b s.1 s.2) (([]:List Edge),0)) fun r=>aGz b c d r
def aFC (a:List Int):Option (List Int):=
 some a
def tV (a:Int) (b:List Int):Option ((List Int × Int) ⊕ (List Int)):=
 some (.inl (b,wr (a+1)))
def tW (t:bQ) (d:List Bool) (b:List Int) (a:Int):Option ((List Int × Int) ⊕ (List Int)):=
 if (decide (a < t.N)) then (ob (ix d a) fun e=>
 if e then (ob (qH b ([a]:List Int)) fun f=>
 tV a f) else (tV a b)) else (some (.inr b))
def yK (t:bQ) (b:List Bool):Option (List Int):=
 ob (loop (fun (s:(List Int × Int))=>tW t b s.1 s.2) (([]:List Int),0)) fun r=>aFC r
def aCG (a:List Bool) (b:Bool):Option ((List Bool × Bool) ⊕ (List Bool)):=
 some (.inl (a,b))
def aFD (a:List Bool) (b:Bool):Option ((List Bool × Bool) ⊕ (List Bool)):=
 aCG a b
def nU (a:Int) (b:List Bool) (c:Bool):Option ((List Bool × Bool × Int) ⊕ (List Bool × Bool)):=
 some (.inl (b,c,wr (a+1)))
def nV (t:bQ) (a:List Bool) (e:Bool) (b:Int) (f:Bool):Option ((List Bool × Bool × Int) ⊕ (List Bool × Bool)):=
 if f then (ob (ix t.E b) fun c=>
 ob (ix a c.To) fun h=>
 ob (st a c.To (true:Bool)) fun g=>
 nU b g true) else (nU b a e)
def tX (t:bQ) (a:List Bool) (d:Bool) (c:Int):Option ((List Bool × Bool × Int) ⊕ (List Bool × Bool)):=
 if (decide (c < (t.E.length:Int))) then (ob (ix t.E c) fun e=>
 ob (ix a e.F) fun f=>
 if f then (ob (ix a e.To) fun g=>
 nV t a d c (!g)) else (nV t a d c false)) else (some (.inr (a,d)))
def aBl (t:bQ) (a:List Bool) (d:Bool):Option ((List Bool × Bool) ⊕ (List Bool)):=
 if d then (ob (loop (fun (s:(List Bool × Bool × Int))=>tX t s.1 s.2.1 s.2.2) (a,false,0)) fun r=>aFD r.1 r.2) else (some (.inr a))
def uY (t:bQ):Option (List Int):=
 ob (mkz t.N (false:Bool)) fun b=>
 ob (ix b t.I) fun e=>
 ob (st b t.I (true:Bool)) fun c=>
 ob (loop (fun (s:(List Bool × Bool))=>aBl t s.1 s.2) (c,true)) fun r=>yK t r
def yL (a:Bool):Option Bool:=
 some a
def rH (e:Edge) (p:(List Int)):Option Bool:=
 if (e.B == 0) then (ob (ix p e.F) fun c=>
 ob (ix p e.To) fun d=>
 yL (c == d)) else (yL false)
def aGA (a:List Int):Option (List Int):=
 some a
def vZ (a:Int) (b:List Int):Option ((List Int × Int) ⊕ (List Int)):=
 some (.inl (b,wr (a+1)))
def mZ (c:(List Bool)) (b:List Int) (a:Int):Option ((List Int × Int) ⊕ (List Int)):=
 if (decide (a < (c.length:Int))) then (ob (ix c a) fun d=>
 if d then (ob (qH b ([a]:List Int)) fun e=>
 vZ a e) else (vZ a b)) else (some (.inr b))
def aCZ (a:(List Bool)):Option (List Int):=
 ob (loop (fun (s:(List Int × Int))=>mZ a s.1 s.2) (([]:List Int),0)) fun r=>aGA r
def aAl (a:List Bool):Option (List Bool):=
 some a
def aAm (a:List Bool) (b:Bool):Option ((List Bool × Bool) ⊕ (List Bool)):=
 some (.inl (a,b))
def aDK (a:List Bool) (b:Bool):Option ((List Bool × Bool) ⊕ (List Bool)):=
 aAm a b
def kK (a:Int) (b:List Bool) (c:Bool):Option ((List Bool × Bool × Int) ⊕ (List Bool × Bool)):=
 some (.inl (b,c,wr (a+1)))
def uL (b:List Bool) (c:Bool) (a:Int) (d:Bool):Option ((List Bool × Bool × Int) ⊕ (List Bool × Bool)):=
 if (!d) then (ob (st b a (false:Bool)) fun e=>
 kK a e true) else (kK a b c)
def iV (a:Int) (b:Bool):Option ((Bool × Int) ⊕ Bool):=
 some (.inl (b,wr (a+1)))
def iW (t:bQ) (p:(List Int)) (f:List Bool) (g:Int) (d:Bool) (a:Int):Option ((Bool × Int) ⊕ Bool):=
 if (decide (a < (t.E.length:Int))) then (ob (ix t.E a) fun b=>
 if d then (iV a true) else (if (b.F == g) then (ob (rH b p) fun h=>
 if h then (ob (ix f b.To) fun i=>
 iV a i) else (iV a false)) else (iV a false))) else (some (.inr d))
def kL (t:bQ) (p:(List Int)) (a:List Bool) (c:Bool) (b:Int):Option ((List Bool × Bool × Int) ⊕ (List Bool × Bool)):=
 if (decide (b < t.N)) then (ob (ix a b) fun f=>
 if (!f) then (kK b a c) else (ob (loop (fun (s:(Bool × Int))=>iW t p a b s.1 s.2) (false,0)) fun r=>uL a c b r)) else (some (.inr (a,c)))
def mL (t:bQ) (p:(List Int)) (a:List Bool) (e:Bool):Option ((List Bool × Bool) ⊕ (List Bool)):=
 if e then (ob (loop (fun (s:(List Bool × Bool × Int))=>kL t p s.1 s.2.1 s.2.2) (a,false,0)) fun r=>aDK r.1 r.2) else (some (.inr a))
def sP (t:bQ) (p:(List Int)) (c:List Bool):Option (List Bool):=
 ob (loop (fun (s:(List Bool × Bool))=>mL t p s.1 s.2) (c,true)) fun r=>aAl r
def gY (t:bQ) (b:List Bool) (a:Int):Option ((List Bool × Int) ⊕ (List Bool)):=
 if (decide (a < t.N)) then (ob (ix b a) fun e=>
 ob (st b a (true:Bool)) fun d=>
 some (.inl (d,wr (a+1)))) else (some (.inr b))
def sQ (t:bQ) (p:(List Int)):Option (List Bool):=
 ob (mkz t.N (false:Bool)) fun c=>
 ob (loop (fun (s:(List Bool × Int))=>gY t s.1 s.2) (c,0)) fun r=>sP t p r
def aIE (a b:Int):Option Int:=
 if (decide (b < a)) then (some a) else (some b)
def aEx (a:Int):Option Int:=
 some a
def rI (p:(List Int)) (c a:Int):Option ((Int × Int) ⊕ Int):=
 if (decide (a < (p.length:Int))) then (ob (ix p a) fun d=>
 ob (aIE c (wr (d+1))) fun e=>
 some (.inl (e,wr (a+1)))) else (some (.inr c))
def pF (p:(List Int)):Option Int:=
 ob (loop (fun (s:(Int × Int))=>rI p s.1 s.2) (0,0)) fun r=>aEx r
def lK (t:bQ) (p:(List Int)) (c:List Edge):Option bQ:=
 ob (ix p t.I) fun d=>
 ob (pF p) fun e=>
 ob (kF e d t.L c) fun f=>
 some f
def xP (t:bQ) (p:(List Int)) (c:List Edge):Option bQ:=
 lK t p c
def gZ (p b:(List Int)) (c:List Edge) (a:Int):Option ((List Edge × Int) ⊕ (List Edge)):=
 if (decide (a < (b.length:Int))) then (ob (ix b a) fun f=>
 ob (ix p f) fun d=>
 ob (qH c ([⟨d,0,d⟩]:List Edge)) fun g=>
 some (.inl (g,wr (a+1)))) else (some (.inr c))
def sS (t:bQ) (p:(List Int)) (d:Bool) (c:List Edge):Option bQ:=
 if d then (ob (sQ t p) fun e=>
 ob (aCZ e) fun f=>
 ob (loop (fun (s:(List Edge × Int))=>gZ p f s.1 s.2) (c,0)) fun r=>xP t p r) else (lK t p c)
def oN (a:Int) (b:List Edge):Option ((List Edge × Int) ⊕ (List Edge)):=
 some (.inl (b,wr (a+1)))
def hJ (t:bQ) (p:(List Int)) (d:List Edge) (a:Int):Option ((List Edge × Int) ⊕ (List Edge)):=
 if (decide (a < (t.E.length:Int))) then (ob (ix t.E a) fun b=>
 ob (rH b p) fun f=>
 if (!f) then (ob (ix p b.F) fun g=>
 ob (ix p b.To) fun h=>
 ob (qH d ([⟨g,b.B,h⟩]:List Edge)) fun i=>
 oN a i) else (oN a d)) else (some (.inr d))
def tY (t:bQ) (p:(List Int)) (c:Bool):Option bQ:=
 ob (loop (fun (s:(List Edge × Int))=>hJ t p s.1 s.2) (([]:List Edge),0)) fun r=>sS t p c r
def aGB:Option Bool:=
 some true
def aAN (a b:(List Int)) (c:Int):Option (Int ⊕ (Unit ⊕ Bool)):=
 if (decide (c < (a.length:Int))) then (ob (ix a c) fun f=>
 ob (ix b c) fun g=>
 if (f != g) then (some (.inr (.inr false))) else (some (.inl (wr (c+1))))) else (some (.inr (.inl ())))
def vK (a b:(List Int)):Option Bool:=
 if ((a.length:Int) != (b.length:Int)) then (some false) else (ob (loop (fun (s:Int)=>aAN a b s) 0) fun r=>match r with|.inl r=>aGB|.inr r=>some r)
def aFE (a:List Bool):Option (List Bool):=
 some a
def aCH (a:List Bool) (b:Bool):Option ((List Bool × Bool) ⊕ (List Bool)):=
 some (.inl (a,b))
def aFF (a:List Bool) (b:Bool):Option ((List Bool × Bool) ⊕ (List Bool)):=
 aCH a b
def qJ (a:Int) (b:List Bool) (c:Bool):Option ((List Bool × Bool × Int) ⊕ (List Bool × Bool)):=
 some (.inl (b,c,wr (a+1)))
def lB (a:List Bool) (d:Bool) (b:Int) (c:Edge) (e:Bool):Option ((List Bool × Bool × Int) ⊕ (List Bool × Bool)):=
 if e then (ob (ix a c.To) fun g=>
 ob (st a c.To (true:Bool)) fun f=>
 qJ b f true) else (qJ b a d)
def nW (t:bQ) (p:(List Int)) (a:List Bool) (d:Bool) (c:Int):Option ((List Bool × Bool × Int) ⊕ (List Bool × Bool)):=
 if (decide (c < (t.E.length:Int))) then (ob (ix t.E c) fun b=>
 ob (ix a b.F) fun g=>
 if g then (ob (ix a b.To) fun h=>
 if (!h) then (ob (rH b p) fun i=>
 lB a d c b i) else (lB a d c b false)) else (lB a d c b false)) else (some (.inr (a,d)))
def qK (t:bQ) (p:(List Int)) (a:List Bool) (e:Bool):Option ((List Bool × Bool) ⊕ (List Bool)):=
 if e then (ob (loop (fun (s:(List Bool × Bool × Int))=>nW t p s.1 s.2.1 s.2.2) (a,false,0)) fun r=>aFF r.1 r.2) else (some (.inr a))
def aBm (t:bQ) (p:(List Int)) (k:Int):Option (List Bool):=
 ob (mkz t.N (false:Bool)) fun c=>
 ob (ix c k) fun g=>
 ob (st c k (true:Bool)) fun e=>
 ob (loop (fun (s:(List Bool × Bool))=>qK t p s.1 s.2) (e,true)) fun r=>aFE r
def aCk (a:List Int):Option (List Int):=
 some a
def aCl (n:Int) (a:List Int) (c:Bool):Option (List Int):=
 if (!c) then (ob (qH a ([n]:List Int)) fun d=>
 aCk d) else (aCk a)
def vL (b:(List Int)) (a:Int) (c:List Int) (d:Bool):Option ((List Int × Bool × Int) ⊕ (List Int × Bool)):=
 ob (ix b a) fun e=>
 ob (qH c ([e]:List Int)) fun f=>
 some (.inl (f,d,wr (a+1)))
def vM (a:(List Int)) (n:Int) (c:List Int) (e:Bool) (b:Int) (f:Bool):Option ((List Int × Bool × Int) ⊕ (List Int × Bool)):=
 if f then (ob (ix a b) fun g=>
 if (decide (n < g)) then (ob (qH c ([n]:List Int)) fun h=>
 vL a b h true) else (vL a b c true)) else (vL a b c e)
def rJ (a:(List Int)) (n:Int) (e:List Int) (b:Bool) (c:Int):Option ((List Int × Bool × Int) ⊕ (List Int × Bool)):=
 if (decide (c < (a.length:Int))) then (if (!b) then (ob (ix a c) fun f=>
 vM a n e b c (decide (n<=f))) else (vM a n e b c false)) else (some (.inr (e,b)))
def aDa (c:(List Int)) (n:Int):Option (List Int):=
 ob (loop (fun (s:(List Int × Bool × Int))=>rJ c n s.1 s.2.1 s.2.2) (([]:List Int),false,0)) fun r=>aCl n r.1 r.2
def aEy (a:List Int):Option (List Int):=
 some a
def oO (a:Int) (b:List Int):Option ((List Int × Int) ⊕ (List Int)):=
 some (.inl (b,wr (a+1)))
def lS (p:(List Int)) (b:List Int) (c:Int) (d:Edge) (e:Bool):Option ((List Int × Int) ⊕ (List Int)):=
 if e then (ob (ix p d.To) fun f=>
 ob (aDa b (wr ((wr (d.B * (p.length:Int)))+f))) fun g=>
 oO c g) else (oO c b)
def jS (t:bQ) (p:(List Int)) (f:(List Bool)) (d:List Int) (a:Int):Option ((List Int × Int) ⊕ (List Int)):=
 if (decide (a < (t.E.length:Int))) then (ob (ix t.E a) fun b=>
 ob (ix f b.F) fun g=>
 if g then (ob (rH b p) fun h=>
 lS p d a b (!h)) else (lS p d a b false)) else (some (.inr d))
def zF (t:bQ) (p:(List Int)) (k:Int):Option (List Int):=
 ob (aBm t p k) fun d=>
 ob (loop (fun (s:(List Int × Int))=>jS t p d s.1 s.2) (([]:List Int),0)) fun r=>aEy r
def aEz (a:List Int):Option (List Int):=
 some a
def aBn (a:Int) (b:List Int) (c:Int):Option ((List Int × Int × Int) ⊕ (List Int)):=
 some (.inl (b,c,wr (a+1)))
def aBo (a:List Int) (b c d:Int):Option ((List Int × Int × Int) ⊕ (List Int)):=
 ob (qH a ([d]:List Int)) fun e=>
 aBn b e c
def aBp (b:List Int) (a c d:Int):Option ((List Int × Int × Int) ⊕ (List Int)):=
 if (decide (d < 0)) then (aBo b c (wr (a+1)) a) else (aBo b c a d)
def wA (a b:Int):Option ((Int × Int) ⊕ Int):=
 some (.inl (b,wr (a+1)))
def aBq (b:List Int) (c a:Int) (d:Bool):Option ((Int × Int) ⊕ Int):=
 if d then (ob (ix b a) fun e=>
 wA a e) else (wA a c)
def wB (p:(List Int)) (d:List (List Int)) (e:List Int) (f b a:Int) (g:Bool):Option ((Int × Int) ⊕ Int):=
 if g then (ob (ix p a) fun h=>
 ob (ix p f) fun i=>
 if (h == i) then (ob (ix d a) fun j=>
 ob (ix d f) fun k=>
 ob (vK j k) fun l=>
 aBq e b a l) else (aBq e b a false)) else (some (.inr b))
def aEA (p:(List Int)) (e:List (List Int)) (f:List Int) (a b c:Int):Option ((Int × Int) ⊕ Int):=
 if (decide (c < a)) then (wB p e f a b c (decide (b < 0))) else (wB p e f a b c false)
def aEB (p:(List Int)) (d:List (List Int)) (a:List Int) (e b:Int):Option ((List Int × Int × Int) ⊕ (List Int)):=
 if (decide (b < (p.length:Int))) then (ob (loop (fun (s:(Int × Int))=>aEA p d a b s.1 s.2) ((-1),0)) fun r=>aBp a e b r) else (some (.inr a))
def uM (p:(List Int)) (b:List (List Int)):Option (List Int):=
 ob (loop (fun (s:(List Int × Int × Int))=>aEB p b s.1 s.2.1 s.2.2) (([]:List Int),0,0)) fun r=>aEz r
def mM (a:List (List Int)) (b:Int) (c:List Int):Option ((List (List Int) × Int) ⊕ (List (List Int))):=
 ob (qH a ([c]:List (List Int))) fun d=>
 some (.inl (d,wr (b+1)))
def mN (a:List (List Int)) (b:Int) (c:(List Int)) (d:Bool):Option ((List (List Int) × Int) ⊕ (List (List Int))):=
 if d then (ob (qH c ([(-1)]:List Int)) fun e=>
 mM a b e) else (mM a b c)
def iX (t:bQ) (p:(List Int)) (f:Bool) (g:(List Bool)) (b:List (List Int)) (a:Int):Option ((List (List Int) × Int) ⊕ (List (List Int))):=
 if (decide (a < t.N)) then (ob (zF t p a) fun d=>
 if f then (ob (ix g a) fun h=>
 mN b a d h) else (mN b a d false)) else (some (.inr b))
def zH (t:bQ) (p:(List Int)) (c:Bool):Option (List Int):=
 ob (sQ t p) fun d=>
 ob (loop (fun (s:(List (List Int) × Int))=>iX t p c d s.1 s.2) (([]:List (List Int)),0)) fun r=>uM p r
def wC (t:bQ) (d:Bool) (a:List Int):Option ((List Int) ⊕ (List Int)):=
 ob (zH t a d) fun b=>
 ob (vK b a) fun e=>
 if e then (some (.inr a)) else (some (.inl b))
def aDb (t:bQ) (b:Bool):Option (List Int):=
 ob (mkz t.N (0:Int)) fun c=>
 ob (loop (fun (s:List Int)=>wC t b s) c) fun r=>some r
def aBr (t:bQ) (b:Bool):Option bQ:=
 ob (uY t) fun d=>
 ob (xO t d) fun c=>
 ob (aDb c b) fun e=>
 ob (tY c e b) fun f=>
 some f
def sT (t:bQ) (p:(List Int)) (c:List Edge):Option bQ:=
 ob (ix p t.I) fun d=>
 ob (pF p) fun e=>
 ob (kF e d t.L c) fun f=>
 some f
def oP (t:bQ) (p:(List Int)) (e:List Edge) (a:Int):Option ((List Edge × Int) ⊕ (List Edge)):=
 if (decide (a < (t.E.length:Int))) then (ob (ix t.E a) fun b=>
 ob (ix p b.F) fun f=>
 ob (ix p b.To) fun g=>
 ob (qH e ([⟨f,b.B,g⟩]:List Edge)) fun h=>
 some (.inl (h,wr (a+1)))) else (some (.inr e))
def qL (t:bQ) (p:(List Int)):Option bQ:=
 ob (loop (fun (s:(List Edge × Int))=>oP t p s.1 s.2) (([]:List Edge),0)) fun r=>sT t p r
def aGC (a:List Int):Option (List Int):=
 some a
def wD (a:Int) (b:List Int):Option ((List Int × Int) ⊕ (List Int)):=
 some (.inl (b,wr (a+1)))
def nA (t:bQ) (p:(List Int)) (k:Int) (b:List Int) (a:Int):Option ((List Int × Int) ⊕ (List Int)):=
 if (decide (a < (t.E.length:Int))) then (ob (ix t.E a) fun c=>
 if (c.F == k) then (ob (ix p c.To) fun g=>
 ob (aDa b (wr ((wr (c.B * (p.length:Int)))+g))) fun h=>
 wD a h) else (wD a b)) else (some (.inr b))
def aDc (t:bQ) (p:(List Int)) (k:Int):Option (List Int):=
 ob (loop (fun (s:(List Int × Int))=>nA t p k s.1 s.2) (([]:List Int),0)) fun r=>aGC r
def aEC (a:List Int):Option (List Int):=
 some a
def wE (a:Int) (b:List Int) (c:Int):Option ((List Int × Int × Int) ⊕ (List Int)):=
 some (.inl (b,c,wr (a+1)))
def wF (a:List Int) (b c d:Int):Option ((List Int × Int × Int) ⊕ (List Int)):=
 ob (qH a ([d]:List Int)) fun e=>
 wE b e c
def wG (b:List Int) (a c d:Int):Option ((List Int × Int × Int) ⊕ (List Int)):=
 if (decide (d < 0)) then (wF b c (wr (a+1)) a) else (wF b c a d)
def oQ (a b:Int):Option ((Int × Int) ⊕ Int):=
 some (.inl (b,wr (a+1)))
def oR (b:List Int) (c a:Int) (d:Bool):Option ((Int × Int) ⊕ Int):=
 if d then (ob (ix b a) fun e=>
 oQ a e) else (oQ a c)
def lT (p:(List Int)) (d:List (List Int)) (e:List Int) (f b a:Int) (g:Bool):Option ((Int × Int) ⊕ Int):=
 if g then (ob (ix p a) fun h=>
 ob (ix p f) fun i=>
 if (h == i) then (ob (ix d a) fun j=>
 ob (ix d f) fun k=>
 ob (vK j k) fun l=>
 oR e b a l) else (oR e b a false)) else (some (.inr b))
def lU (p:(List Int)) (e:List (List Int)) (f:List Int) (a b c:Int):Option ((Int × Int) ⊕ Int):=
 if (decide (c < a)) then (lT p e f a b c (decide (b < 0))) else (lT p e f a b c false)
def jT (p:(List Int)) (d:List (List Int)) (a:List Int) (e b:Int):Option ((List Int × Int × Int) ⊕ (List Int)):=
 if (decide (b < (p.length:Int))) then (ob (loop (fun (s:(Int × Int))=>lU p d a b s.1 s.2) ((-1),0)) fun r=>wG a e b r) else (some (.inr a))
def mO (p:(List Int)) (b:List (List Int)):Option (List Int):=
 ob (loop (fun (s:(List Int × Int × Int))=>jT p b s.1 s.2.1 s.2.2) (([]:List Int),0,0)) fun r=>aEC r
def iY (t:bQ) (p:(List Int)) (c:List (List Int)) (a:Int):Option ((List (List Int) × Int) ⊕ (List (List Int))):=
 if (decide (a < t.N)) then (ob (aDc t p a) fun e=>
 ob (qH c ([e]:List (List Int))) fun f=>
 some (.inl (f,wr (a+1)))) else (some (.inr c))
def zJ (t:bQ) (p:(List Int)):Option (List Int):=
 ob (loop (fun (s:(List (List Int) × Int))=>iY t p s.1 s.2) (([]:List (List Int)),0)) fun r=>mO p r
def lV (t:bQ) (a:List Int) (b:Int):Option ((List Int × Int) ⊕ ((List Int) × Int)):=
 ob (zJ t a) fun c=>
 ob (vK c a) fun e=>
 if e then (some (.inr (a,b))) else (some (.inl (c,wr (b+1))))
def zM (t:bQ):Option ((List Int) × Int):=
 ob (mkz t.N (0:Int)) fun b=>
 ob (loop (fun (s:(List Int × Int))=>lV t s.1 s.2) (b,0)) fun r=>some r
def aFj (t:bQ):Option (List Int):=
 ob (zM t) fun b=>
 some b.1
def aBs (t:bQ):Option bQ:=
 ob (uY t) fun c=>
 ob (xO t c) fun b=>
 ob (aFj b) fun d=>
 ob (qL b d) fun e=>
 some e
def qU (a b:Int) (c:List aQ):Option ((List aQ) × Int × Int):=
 some (c,a,b)
def qV (a:List aQ) (b c:Int):Option ((List aQ) × Int × Int):=
 if ((a.length:Int) == 1) then (ob (qH a ([([97]:aQ)]:List aQ)) fun d=>
 qU b c d) else (qU b c a)
def iI (a b c:Int) (d:List aQ):Option ((Int × Int × List aQ × Int) ⊕ (List aQ × Int × Int)):=
 some (.inl (b,c,d,wr (a+1)))
def nB (b:List aQ) (a c d:Int) (e:Bool):Option ((Int × Int × List aQ × Int) ⊕ (List aQ × Int × Int)):=
 if e then (ob (ix ([([97]:aQ),([98]:aQ),([99]:aQ),([103,101,116,40,48,41]:aQ),([103,101,116,40,49,41]:aQ)]:List aQ) a) fun f=>
 ob (qH b ([f]:List aQ)) fun g=>
 iI a c d g) else (iI a c d b)
def kG (f:(List UInt8)) (d e:Int) (b:List aQ) (c:Int):Option ((Int × Int × List aQ × Int) ⊕ (List aQ × Int × Int)):=
 if (decide (c < (([([97]:aQ),([98]:aQ),([99]:aQ),([103,101,116,40,48,41]:aQ),([103,101,116,40,49,41]:aQ)]:List aQ).length:Int))) then (ob (iH f d e 2) fun a=>
 if a.1 then (nB b c a.2.1 a.2.2 (decide ((b.length:Int) < 4))) else (nB b c a.2.1 a.2.2 false)) else (some (.inr (b,d,e)))
def rK (b:(List UInt8)) (c d:Int):Option ((List aQ) × Int × Int):=
 ob (loop (fun (s:(Int × Int × List aQ × Int))=>kG b s.1 s.2.1 s.2.2.1 s.2.2.2) (c,d,([([116,97,117]:aQ)]:List aQ),0)) fun r=>qV r.1 r.2.1 r.2.2
def rL (d:(List UInt8)) (b c:(Int × Int × Int)) (e:((List aQ) × Int × Int)) (f g:Int) (h:List Edge):Option (bQ × Int × Int):=
 ob (bA d f g (wr ((wr (1+b.1))+c.1))) fun a=>
 ob (kF (wr ((wr (1+b.1))+c.1)) a.1 e.1 h) fun i=>
 some (i,a.2.1,a.2.2)
def rM (a:(List UInt8)) (c d:(Int × Int × Int)) (e:((List aQ) × Int × Int)) (j k:Int) (i:List Edge):Option (bQ × Int × Int):=
 ob (iH a j k 3) fun b=>
 if b.1 then (ob (bA a b.2.1 b.2.2 (wr ((wr (1+c.1))+d.1))) fun f=>
 ob (bA a f.2.1 f.2.2 (e.1.length:Int)) fun g=>
 ob (bA a g.2.1 g.2.2 (wr ((wr (1+c.1))+d.1))) fun h=>
 ob (qH i ([⟨f.1,g.1,h.1⟩]:List Edge)) fun l=>
 rL a c d e h.2.1 h.2.2 l) else (rL a c d e b.2.1 b.2.2 i)
def wH (a b c:Int) (d:List Edge):Option ((Int × Int × List Edge × Int) ⊕ (Int × Int × List Edge)):=
 some (.inl (b,c,d,wr (a - 1)))
def wI (a b c:Int) (d:List Edge):Option ((Int × Int × List Edge × Int) ⊕ (Int × Int × List Edge)):=
 wH a b c d
def rN (a b c:Int) (d:List Edge):Option ((Int × Int × List Edge × Int) ⊕ (Int × Int × List Edge)):=
 some (.inl (b,c,d,wr (a+1)))
def rO (c:(List UInt8)) (d:(Int × Int × Int)) (e f:Int) (g:List Edge) (b:Int) (h:List Int):Option ((Int × Int × List Edge × Int) ⊕ (Int × Int × List Edge)):=
 ob (rG c e f h) fun a=>
 ob (qH g ([⟨b,d.1,a.1⟩]:List Edge)) fun i=>
 rN b a.2.1 a.2.2 i
def rP (a:Int) (b:List Int):Option ((List Int × Int) ⊕ (List Int)):=
 some (.inl (b,wr (a+1)))
def jU (c d:(Int × Int × Int)) (e:List Int) (f:(Int × Int × Int)) (b:List Int) (a:Int):Option ((List Int × Int) ⊕ (List Int)):=
 if (decide (a < wr ((wr (1+c.1))+d.1))) then (ob (ix e a) fun g=>
 if (g == f.1) then (ob (qH b ([a]:List Int)) fun h=>
 rP a h) else (rP a b)) else (some (.inr b))
def oS (h:(List UInt8)) (e f:(Int × Int × Int)) (g:List Int) (i j k:(Int × Int × Int)) (b c:Int) (d:List Edge) (a:Int):Option ((Int × Int × List Edge × Int) ⊕ (Int × Int × List Edge)):=
 if (decide (a < wr ((wr (1+e.1))+f.1))) then (ob (ix g a) fun l=>
 if (l != i.1) then (rN a b c d) else (ob (loop (fun (s:(List Int × Int))=>jU e f g k s.1 s.2) (([]:List Int),0)) fun r=>rO h j b c d a r)) else (some (.inr (b,c,d)))
def mP (a:(List UInt8)) (b k:(Int × Int × Int)) (l:((List aQ) × Int × Int)) (m:List Int) (g h:Int) (i:List Edge) (j:Int):Option ((Int × Int × List Edge × Int) ⊕ (Int × Int × List Edge)):=
 if (decide (0 < j)) then (ob (bA a g h (wr (1+b.1))) fun c=>
 ob (bA a c.2.1 c.2.2 (l.1.length:Int)) fun d=>
 ob (bA a d.2.1 d.2.2 (wr (1+b.1))) fun e=>
 ob (loop (fun (s:(Int × Int × List Edge × Int))=>oS a b k m c d e s.1 s.2.1 s.2.2.1 s.2.2.2) (e.2.1,e.2.2,i,0)) fun r=>wI j r.1 r.2.1 r.2.2) else (some (.inr (g,h,i)))
def qB (a:(List UInt8)) (b e:(Int × Int × Int)) (f:((List aQ) × Int × Int)) (g h:Int) (i:List Int):Option (bQ × Int × Int):=
 ob (bA a g h (wr (2+(wr (2 * (wr (1+b.1))))))) fun c=>
 ob (loop (fun (s:(Int × Int × List Edge × Int))=>mP a b e f i s.1 s.2.1 s.2.2.1 s.2.2.2) (c.2.1,c.2.2,([]:List Edge),c.1)) fun r=>rM a b e f r.1 r.2.1 r.2.2
def mQ (a b c:Int) (d:List Int):Option ((Int × Int × List Int × Int) ⊕ (Int × Int × List Int)):=
 some (.inl (b,c,d,wr (a+1)))
def mR (g:(List UInt8)) (b h:(Int × Int × Int)) (c d:Int) (e:List Int) (a:Int):Option ((Int × Int × List Int × Int) ⊕ (Int × Int × List Int)):=
 if (decide (a < wr ((wr (1+b.1))+h.1))) then (if (decide (a < wr (1+b.1))) then (ob (qH e ([a]:List Int)) fun i=>
 mQ a c d i) else (ob (bA g c d (wr (1+b.1))) fun f=>
 ob (qH e ([f.1]:List Int)) fun j=>
 mQ a f.2.1 f.2.2 j)) else (some (.inr (c,d,e)))
def zN (a:(List UInt8)) (f g:Int):Option (bQ × Int × Int):=
 ob (bA a f g 4) fun b=>
 ob (bA a b.2.1 b.2.2 (wr (7 - (wr (1+b.1))))) fun c=>
 ob (rK a c.2.1 c.2.2) fun d=>
 ob (loop (fun (s:(Int × Int × List Int × Int))=>mR a b c s.1 s.2.1 s.2.2.1 s.2.2.2) (d.2.1,d.2.2,([]:List Int),0)) fun r=>qB a b c d r.1 r.2.1 r.2.2
def tG (d:(List UInt8)) (b c a:Int):Option (Int × Int × Int):=
 if (decide (wr (b+1)<=(d.length:Int))) then (some (a,wr (b+1),kX ((kX ((kX (c * 6364136223846793005))+(kX a)))+1442695040888963407))) else (ob (shU (kX ((kX ((kX (c * 6364136223846793005))+(kX a)))+1442695040888963407)) 40) fun e=>
 some (wr (anU e 255),wr (b+1),kX ((kX ((kX (c * 6364136223846793005))+(kX a)))+1442695040888963407)))
def lL (a:(List UInt8)) (b c:Int):Option (Int × Int × Int):=
 if (decide (b < (a.length:Int))) then (ob (ix a b) fun d=>
 tG a b c (wr (d.toNat:Int))) else (tG a b c 0)
def tH (a:(List UInt8)) (n c d e:Int):Option (Int × (List UInt8) × Int × Int):=
 ob (rm c n) fun f=>
 some (f,a,d,e)
def aDd (b:(List UInt8)) (e f n:Int):Option (Int × (List UInt8) × Int × Int):=
 if (decide (n<=1)) then (some (0,b,e,f)) else (ob (lL b e f) fun a=>
 if (decide (200 < n)) then (ob (lL b a.2.1 a.2.2) fun d=>
 tH b n (wr ((wr (a.1 * 256))+d.1)) d.2.1 d.2.2) else (tH b n a.1 a.2.1 a.2.2))
def aBt (a:(bQ × Int × Int)) (b:List Edge) (c d:Int):Option (bQ × Int × Int):=
 ob (kF a.1.N a.1.I a.1.L b) fun e=>
 some (e,c,d)
def oT (c:(List UInt8)) (d:(bQ × Int × Int)) (e f:Int) (g:List Edge) (h:Int):Option ((Int × Int × List Edge × Int) ⊕ (List Edge × Int × Int)):=
 if (decide (0 < h)) then (ob (bA c e f d.1.N) fun a=>
 ob (bA c a.2.1 a.2.2 d.1.N) fun b=>
 ob (qH g ([⟨a.1,0,b.1⟩]:List Edge)) fun i=>
 some (.inl (b.2.1,b.2.2,i,wr (h - 1)))) else (some (.inr (g,e,f)))
def wJ (c:(List UInt8)) (d:(bQ × Int × Int)) (e f:Int) (g:List Edge):Option (bQ × Int × Int):=
 ob (bA c e f 3) fun a=>
 ob (loop (fun (s:(Int × Int × List Edge × Int))=>oT c d s.1 s.2.1 s.2.2.1 s.2.2.2) (a.2.1,a.2.2,g,a.1)) fun r=>aBt d r.1 r.2.1 r.2.2
def rQ (b:List Edge) (c:Int) (a:Edge) (d e f:Int):Option ((Int × Int × List Edge × Int) ⊕ (Int × Int × List Edge)):=
 ob (qH b ([⟨a.F,f,a.To⟩]:List Edge)) fun g=>
 some (.inl (d,e,g,wr (c+1)))
def oU (h:(List UInt8)) (e:(bQ × Int × Int)) (f g:Int) (c:List Edge) (b:Int):Option ((Int × Int × List Edge × Int) ⊕ (Int × Int × List Edge)):=
 if (decide (b < (e.1.E.length:Int))) then (ob (ix e.1.E b) fun d=>
 ob (iH h f g 3) fun a=>
 if a.1 then (rQ c b d a.2.1 a.2.2 0) else (rQ c b d a.2.1 a.2.2 d.B)) else (some (.inr (f,g,c)))
def pG (b:(List UInt8)) (d e:Int):Option (bQ × Int × Int):=
 ob (zN b d e) fun a=>
 ob (loop (fun (s:(Int × Int × List Edge × Int))=>oU b a s.1 s.2.1 s.2.2.1 s.2.2.2) (a.2.1,a.2.2,([]:List Edge),0)) fun r=>wJ b a r.1 r.2.1 r.2.2
def tI (n b c d:Int):Option (Int × Int × Int):=
 ob (rm b n) fun e=>
 some (e,c,d)
def xQ (d:(List UInt8)) (e f n:Int):Option (Int × Int × Int):=
 if (decide (n<=1)) then (some (0,e,f)) else (ob (lL d e f) fun a=>
 if (decide (200 < n)) then (ob (lL d a.2.1 a.2.2) fun c=>
 tI n (wr ((wr (a.1 * 256))+c.1)) c.2.1 c.2.2) else (tI n a.1 a.2.1 a.2.2))
def aHW (b:(List UInt8)) (c d n:Int):Option (Bool × (List UInt8) × Int × Int):=
 ob (xQ b c d n) fun a=>
 some (a.1 == 0,b,a.2.1,a.2.2)
def sU (t:bQ) (b:Int) (c:List Edge) (d e:Int):Option (bQ × Int × Int):=
 ob (kF (wr (t.N+b)) t.I t.L c) fun f=>
 some (f,d,e)
def sV (a b c:Int) (d:List Edge):Option ((Int × Int × List Edge × Int) ⊕ (List Edge × Int × Int)):=
 some (.inl (b,c,d,wr (a+1)))
def xR (a b c:Int) (d:List Edge):Option ((Int × Int × List Edge × Int) ⊕ (List Edge × Int × Int)):=
 sV a b c d
def oV (a:Int) (b:List Edge) (c:Int) (d:Edge) (e f g:Int):Option ((Int × Int × List Edge × Int) ⊕ (Int × Int × List Edge)):=
 ob (qH b ([⟨a,d.B,g⟩]:List Edge)) fun h=>
 some (.inl (e,f,h,wr (c+1)))
def lM (t:bQ) (b:Int) (c:List Edge) (d:Int) (a:Edge) (e f:Int) (h:Bool):Option ((Int × Int × List Edge × Int) ⊕ (Int × Int × List Edge)):=
 if h then (oV b c d a e f t.N) else (oV b c d a e f a.To)
def hQ (j:(List UInt8)) (t:bQ) (k:(Int × Int × Int)) (l g:Int) (i:(List Edge)) (c d:Int) (e:List Edge) (b:Int):Option ((Int × Int × List Edge × Int) ⊕ (Int × Int × List Edge)):=
 if (decide (b < (i.length:Int))) then (ob (ix i b) fun f=>
 if (decide (0 < l)) then (ob (rm (wr (t.N+k.1)) t.N) fun m=>
 if (m == f.To) then (ob (iH j c d 2) fun h=>
 lM t g e b f h.2.1 h.2.2 h.1) else (lM t g e b f c d false)) else (lM t g e b f c d false)) else (some (.inr (c,d,e)))
def lN (d:(List UInt8)) (t:bQ) (e:(Int × Int × Int)) (f g h:Int) (i:List Edge) (c j:Int):Option ((Int × Int × List Edge × Int) ⊕ (List Edge × Int × Int)):=
 ob (aEw t j) fun k=>
 ob (loop (fun (s:(Int × Int × List Edge × Int))=>hQ d t e f c k s.1 s.2.1 s.2.2.1 s.2.2.2) (g,h,i,0)) fun r=>xR c r.1 r.2.1 r.2.2
def hX (h:(List UInt8)) (t:bQ) (c:(Int × Int × Int)) (d e f:Int) (g:List Edge) (a:Int):Option ((Int × Int × List Edge × Int) ⊕ (List Edge × Int × Int)):=
 if (decide (a < wr (t.N+d))) then (if (decide (t.N<=a)) then (ob (rm (wr (a+c.1)) t.N) fun i=>
 lN h t c d e f g a i) else (lN h t c d e f g a a)) else (some (.inr (g,e,f)))
def jJ (d:(List UInt8)) (t:bQ) (e:(Int × Int × Int)) (f g c:Int):Option (bQ × Int × Int):=
 ob (loop (fun (s:(Int × Int × List Edge × Int))=>hX d t e c s.1 s.2.1 s.2.2.1 s.2.2.2) (f,g,([]:List Edge),0)) fun r=>sU t c r.1 r.2.1 r.2.2
def tZ (b:(List UInt8)) (e f:Int) (t:bQ):Option (bQ × Int × Int):=
 ob (bA b e f t.N) fun a=>
 if (decide (t.N < 7)) then (ob (bA b a.2.1 a.2.2 3) fun d=>
 jJ b t a d.2.1 d.2.2 d.1) else (jJ b t a a.2.1 a.2.2 0)
def uZ (a:(bQ × Int × Int)) (b c:Int) (d:List aQ) (e:List Edge):Option (bQ × bQ):=
 some (a.1,⟨b,c,d,e⟩)
def rR (c:(List UInt8)) (a d:(bQ × Int × Int)) (b:(Int × Int × Int)) (k:Bool):Option (bQ × bQ):=
 if k then (ob (tZ c b.2.1 b.2.2 a.1) fun e=>
 uZ a e.1.N e.1.I e.1.L e.1.E) else (if (b.1 == 2) then (ob (iH c b.2.1 b.2.2 2) fun l=>
 ob (aBr a.1 l.1) fun f=>
 uZ a f.N f.I f.L f.E) else (if (b.1 == 3) then (ob (aBs a.1) fun g=>
 uZ a g.N g.I g.L g.E) else (if (b.1 == 4) then (ob (qH ([]:List Edge) a.1.E) fun m=>
 ob (bA c b.2.1 b.2.2 a.1.N) fun i=>
 ob (bA c i.2.1 i.2.2 (a.1.L.length:Int)) fun j=>
 ob (bA c j.2.1 j.2.2 a.1.N) fun n=>
 ob (qH m ([⟨i.1,j.1,n.1⟩]:List Edge)) fun o=>
 ob (kF a.1.N a.1.I a.1.L o) fun h=>
 uZ a h.N h.I h.L h.E) else (uZ a d.1.N d.1.I d.1.L d.1.E))))
def aGD (a:(List UInt8)):Option (bQ × bQ):=
 ob (aCY a) fun e=>
 ob (pG a e.1 e.2) fun c=>
 ob (pG a c.2.1 c.2.2) fun d=>
 ob (bA a d.2.1 d.2.2 6) fun b=>
 if (b.1 == 0) then (rR a c d b (b.1 == 0)) else (rR a c d b (b.1 == 1))
def qM (t:bQ) (k:Int):Option Bool:=
 ob (pZ k 0 (wr (t.N - 1))) fun c=>
 some c
def aIh (i many:Int):Option Bool:=
 ob (pZ i 0 (wr (many - 1))) fun b=>
 some b
def pP (a:Int):Option Bool:=
 some (a != a)
def fP (a y:Int):Option Int:=
 ob (pP a) fun d=>
 ob (pP y) fun c=>
 if d then (if c then (some 0) else (some (-1))) else (if c then (some 1) else (if (decide (a < y)) then (some (-1)) else (if (decide (y < a)) then (some 1) else (some 0))))
def xS:Option Int:=
 some 0
def hY (b:(List Int)) (a:Int):Option (Int ⊕ (Unit ⊕ Int)):=
 if (decide (a < (b.length:Int))) then (ob (ix b a) fun c=>
 if (c != 0) then (some (.inr (.inr c))) else (some (.inl (wr (a+1))))) else (some (.inr (.inl ())))
def uA (b:(List Int)):Option Int:=
 ob (loop (fun (s:Int)=>hY b s) 0) fun r=>match r with|.inl r=>xS|.inr r=>some r
def rS (a b:Edge):Option Int:=
 ob (fP a.F b.F) fun e=>
 ob (fP a.B b.B) fun f=>
 ob (fP a.To b.To) fun g=>
 ob (uA ([e,f,g]:List Int)) fun h=>
 some h
def aFG:Option Bool:=
 some true
def nX (a:Int) (b:Bool):Option (Int ⊕ (Unit ⊕ Bool)):=
 if b then (some (.inr (.inr false))) else (some (.inl (wr (a+1))))
def uB (t:bQ) (a:Int):Option (Int ⊕ (Unit ⊕ Bool)):=
 if (decide (a < (t.E.length:Int))) then (ob (ix t.E a) fun c=>
 ob (qM t c.F) fun d=>
 if (!d) then (nX a true) else (ob (qM t c.To) fun e=>
 if (!e) then (nX a true) else (ob (aIh c.B (t.L.length:Int)) fun f=>
 if (!f) then (nX a true) else (if (decide (0 < a)) then (ob (ix t.E (wr (a - 1))) fun g=>
 ob (rS g c) fun h=>
 nX a (decide (0<=h))) else (nX a false))))) else (some (.inr (.inl ())))
def yM (t:bQ):Option Bool:=
 ob (loop (fun (s:Int)=>uB t s) 0) fun r=>match r with|.inl r=>aFG|.inr r=>some r
def qN (a:Int) (b:Bool):Option (Int ⊕ (Unit ⊕ Bool)):=
 if b then (some (.inr (.inr false))) else (some (.inl (wr (a+1))))
def uC (t:bQ) (a:Int):Option (Int ⊕ (Unit ⊕ Bool)):=
 if (decide (a < (t.L.length:Int))) then (ob (ix t.L a) fun b=>
 ob (aAU b) fun e=>
 if (!e) then (qN a true) else (if ((b == ([116,97,117]:aQ)) != (a == 0)) then (qN a true) else (if (decide (1 < a)) then (ob (ix t.L (wr (a - 1))) fun d=>
 qN a (yF b d||b == d)) else (qN a false)))) else (some (.inr (.inl ())))
def nY (t:bQ) (c:Bool):Option Bool:=
 if c then (some false) else (ob (loop (fun (s:Int)=>uC t s) 0) fun r=>match r with|.inl r=>yM t|.inr r=>some r)
def rT (t:bQ):Option Bool:=
 ob (pZ t.N 1 40) fun b=>
 if (!b) then (nY t true) else (ob (qM t t.I) fun c=>
 if (!c) then (nY t true) else (ob (pZ (t.L.length:Int) 1 12) fun d=>
 if (!d) then (nY t true) else (nY t (decide (300 < (t.E.length:Int))))))
def aAn (a:(List (List Int))):Option (List Int):=
 ob (ix a (wr ((a.length:Int) - 1))) fun b=>
 some b
def aGE (n:Int):Option (List Int):=
 ob (mkz n (0:Int)) fun b=>
 some b
def aHI (a:List Int):Option (List Int):=
 some a
def zO (b:List Int) (a:Int) (c:(List (Int × Int))) (d:Int):Option (((List (Int × Int)) × List Int × Int) ⊕ (List Int)):=
 ob (ix b a) fun f=>
 ob (st b a (d:Int)) fun e=>
 some (.inl (c,e,wr (a+1)))
def pH (e:(List Int)) (a:(List (Int × Int))) (c:List Int) (b:Int):Option (((List (Int × Int)) × List Int × Int) ⊕ (List Int)):=
 if (decide (b < (e.length:Int))) then (ob (ix e b) fun d=>
 if (!((jG a d).isSome)) then (ob (some (xC a d (a.length:Int))) fun f=>
 zO c b f (a.length:Int)) else (zO c b a ((jG a d).getD 0))) else (some (.inr c))
def aED (a:(List Int)):Option (List Int):=
 ob (mkz (a.length:Int) (0:Int)) fun b=>
 ob (loop (fun (s:((List (Int × Int)) × List Int × Int))=>pH a s.1 s.2.1 s.2.2) (([]:(List (Int × Int))),b,0)) fun r=>aHI r
def nC:Option Bool:=
 some true
def fG (b c:(List Int)) (a:Int):Option (Int ⊕ (Unit ⊕ Bool)):=
 if (decide (a < (b.length:Int))) then (ob (ix b a) fun d=>
 ob (ix c a) fun e=>
 if (d != e) then (some (.inr (.inr false))) else (some (.inl (wr (a+1))))) else (some (.inr (.inl ())))
def dR (b c:(List Int)):Option Bool:=
 if ((b.length:Int) != (c.length:Int)) then (some false) else (ob (loop (fun (s:Int)=>fG b c s) 0) fun r=>match r with|.inl r=>nC|.inr r=>some r)
def aAo (k p:(List Int)):Option Bool:=
 ob (dR k p) fun c=>
 some c
def jH:Option Int:=
 some (-1)
def bW (b:(List (List Int))) (c:(List Int)) (a:Int):Option (Int ⊕ (Unit ⊕ Int)):=
 if (decide (a < (b.length:Int))) then (ob (ix b a) fun d=>
 ob (aAo d c) fun e=>
 if e then (some (.inr (.inr a))) else (some (.inl (wr (a+1))))) else (some (.inr (.inl ())))
def cX (b:(List (List Int))) (c:(List Int)):Option Int:=
 ob (loop (fun (s:Int)=>bW b c s) 0) fun r=>match r with|.inl r=>jH|.inr r=>some r
def aAp (a:List Int):Option (List Int):=
 ob (aED a) fun b=>
 some b
def uN (a:List Int) (b c:Int):Option ((List Int × Int) ⊕ (List Int)):=
 ob (qH a ([c]:List Int)) fun d=>
 some (.inl (d,wr (b+1)))
def iZ (b:(List (List Int))) (c:List Int) (a:Int):Option ((List Int × Int) ⊕ (List Int)):=
 if (decide (a < (b.length:Int))) then (ob (ix b a) fun e=>
 ob (slc b 0 a) fun f=>
 ob (cX f e) fun d=>
 if (decide (d < 0)) then (uN c a a) else (uN c a d)) else (some (.inr c))
def wK (a:(List (List Int))):Option (List Int):=
 ob (loop (fun (s:(List Int × Int))=>iZ a s.1 s.2) ([],0)) fun r=>aAp r
def lW (a:(List Int)):Option (List Int):=
 some a
def eR (a:Int):Option (Int ⊕ (Unit ⊕ (List Int))):=
 some (.inl (wr (a+1)))
def eS (a:List Int) (b:Int):Option (Int ⊕ (Unit ⊕ (List Int))):=
 ob (slc a b (a.length:Int)) fun c=>
 ob (ovw a b (List.replicate c.length (0:Int))) fun d=>
 ob (slc d 0 b) fun e=>
 some (.inr (.inr e))
def dN (a:Int) (b:List Int) (c:Int):Option ((List Int × Int × Int) ⊕ (List Int × Int)):=
 some (.inl (b,c,wr (a+1)))
def dO (e:Int) (d b:List Int) (c a:Int):Option ((List Int × Int × Int) ⊕ (List Int × Int)):=
 if (decide (a < (d.length:Int))) then (ob (ix d a) fun i=>
 ob (ix b (e+a)) fun f=>
 ob (ix d (wr (a - 1))) fun j=>
 ob (ix b (e+(wr (a - 1)))) fun g=>
 if (f != g) then (ob (ix b c) fun k=>
 ob (st b c (f:Int)) fun h=>
 dN a h (wr (c+1))) else (dN a b c)) else (some (.inr (b,c)))
def dP (b:(List Int)) (a:Int):Option (Int ⊕ (Unit ⊕ (List Int))):=
 if (decide (a < (b.length:Int))) then (ob (ix b a) fun d=>
 ob (ix b (wr (a - 1))) fun e=>
 if (d == e) then (ob (slc b a (b.length:Int)) fun f=>
 ob (loop (fun (s:(List Int × Int × Int))=>dO a f s.1 s.2.1 s.2.2) (b,a,1)) fun r=>eS r.1 r.2) else (eR a)) else (some (.inr (.inl ())))
def dD (a:(List Int)):Option (List Int):=
 if (decide ((a.length:Int) < 2)) then (some a) else (ob (loop (fun (s:Int)=>dP a s) 1) fun r=>match r with|.inl r=>lW a|.inr r=>some r)
def uO (a:List (List Int)):Option (List Int):=
 ob (wK a) fun b=>
 some b
def uP (a:Int) (b:Nat) (c:List (List Int)):Option ((List (List Int) × Nat × Int) ⊕ (List (List Int))):=
 some (.inl (c,b,wr (a+1)))
def jA (c b:List (List Int)) (d:Nat) (a:Int):Option ((List (List Int) × Nat × Int) ⊕ (List (List Int))):=
 if (decide (a < (c.length:Int))) then (ob (ix c a) fun e=>
 ob (tkN d a) fun f=>
 ob (aAT e) fun g=>
 ob (ix b a) fun h=>
 ob (dD g) fun i=>
 ob (qH h i) fun j=>
 ob (st b a j) fun k=>
 uP a f k) else (some (.inr b))
def uQ (a b:List (List Int)):Option (List Int):=
 ob (loop (fun (s:(List (List Int) × Nat × Int))=>jA b s.1 s.2.1 s.2.2) (a,0,0)) fun r=>uO r
def uR (a:Int) (b:List (List Int)):Option ((List (List Int) × Int) ⊕ (List (List Int))):=
 some (.inl (b,wr (a+1)))
def jB (t:bQ) (p:(List Int)) (c:List (List Int)) (d:Int):Option ((List (List Int) × Int) ⊕ (List (List Int))):=
 if (decide (d < (t.E.length:Int))) then (ob (ix t.E d) fun a=>
 ob (ix c a.F) fun f=>
 ob (ix p a.To) fun g=>
 ob (qH f ([wr ((wr (a.B * t.N))+g)]:List Int)) fun h=>
 ob (st c a.F h) fun i=>
 uR d i) else (some (.inr c))
def uS (t:bQ) (p:(List Int)) (c:List (List Int)):Option (List Int):=
 ob (mkz t.N ([]:(List Int))) fun d=>
 ob (loop (fun (s:(List (List Int) × Int))=>jB t p s.1 s.2) (d,0)) fun r=>uQ c r
def jC (p:(List Int)) (b:List (List Int)) (a:Int):Option ((List (List Int) × Int) ⊕ (List (List Int))):=
 if (decide (a < (p.length:Int))) then (ob (ix p a) fun d=>
 ob (ix b a) fun f=>
 ob (st b a ([d]:List Int)) fun e=>
 some (.inl (e,wr (a+1)))) else (some (.inr b))
def wL (t:bQ) (p:(List Int)):Option (List Int):=
 ob (mkz t.N ([]:(List Int))) fun c=>
 ob (loop (fun (s:(List (List Int) × Int))=>jC p s.1 s.2) (c,0)) fun r=>uS t p r
def zQ (d:bQ) (a:List (List Int)):Option ((List (List Int)) ⊕ (List (List Int))):=
 ob (ix a (wr ((a.length:Int) - 1))) fun b=>
 ob (wL d b) fun c=>
 ob (dR b c) fun e=>
 if e then (some (.inr a)) else (ob (qH a ([c]:List (List Int))) fun f=>
 some (.inl f))
def aGF (n:Int) (b:bQ):Option (List (List Int)):=
 ob (aGE n) fun c=>
 ob (loop (fun (s:List (List Int))=>zQ b s) ([c]:List (List Int))) fun r=>some r
def pQ (t:bQ):Option (List Int):=
 ob (aGF t.N t) fun b=>
 ob (aAn b) fun c=>
 some c
def qC (t:bQ):Option ((List Int) × Int):=
 ob (rT t) fun b=>
 if (!b) then (some ([],1)) else (ob (pQ t) fun c=>
 some (c,0))
def jK (a:Bool):Option Int:=
 if a then (some 1) else (some 0)
def lX (n:bD) (b:Bool):Option Int:=
 if b then (some 2) else (if (n.Kind == 4) then (jK (n.Kind == 4)) else (if (n.Kind == 5) then (jK (n.Kind == 5)) else (if (n.Kind == 7) then (jK (n.Kind == 7)) else (jK (n.Kind == 8)))))
def kM (n:bD):Option Int:=
 if (n.Kind == 2) then (lX n (n.Kind == 2)) else (lX n (n.Kind == 3))
def aGG (a:Int):Option Bool:=
 some (a == 0)
def pR (c:(List bD)) (a b:Int):Option ((Int × Int) ⊕ (Int ⊕ Bool)):=
 if (decide (b < (c.length:Int))) then (ob (ix c b) fun d=>
 if (a == 0) then (some (.inr (.inr false))) else (ob (kM d) fun e=>
 some (.inl (wr (a+(wr (e - 1))),wr (b+1))))) else (some (.inr (.inl a)))
def aDe (b:(List bD)):Option Bool:=
 ob (loop (fun (s:(Int × Int))=>pR b s.1 s.2) (1,0)) fun r=>match r with|.inl r=>aGG r|.inr r=>some r
def nD (a:Bool):Option Bool:=
 some a
def kH (n:bD):Option Bool:=
 if (n.Kind == 4) then (nD true) else (nD (n.Kind == 5))
def iJ (a b:aQ):Option (aQ × Bool):=
 ob (cW a b) fun c=>
 if (!c) then (some (a,false)) else (ob (slc a 0 (wr ((a.length:Int) - (b.length:Int)))) fun d=>
 some (d,true))
def kS (b c:aQ):Option (aQ × Bool):=
 ob (iJ b c) fun a=>
 some (a.1,a.2)
def oW (a:Bool):Option Bool:=
 some a
def vN (a:aQ):Option Bool:=
 ob (kS a ([42]:aQ)) fun b=>
 if (a == ([]:aQ)) then (oW true) else (ob (aAU a) fun c=>
 if c then (oW true) else (if b.2 then (ob (xK b.1) fun d=>
 oW d) else (oW false)))
def pS (a:Bool):Option Bool:=
 some a
def kN (n:bD):Option Bool:=
 ob (kH n) fun b=>
 if b then (ob (vN n.B) fun c=>
 some c) else (if (n.B == ([]:aQ)) then (pS (!n.Not)) else (pS false))
def qW (a:Bool):Option Bool:=
 some a
def jV (n:bD):Option Bool:=
 if (n.Kind == 7) then (qW true) else (qW (n.Kind == 8))
def nE (n:bD) (b:Bool):Option Bool:=
 if b then (ob (pZ n.Variable 0 2) fun c=>
 some c) else (some (n.Variable == 0))
def oX (n:bD):Option Bool:=
 ob (jV n) fun b=>
 if b then (nE n true) else (nE n (n.Kind == 6))
def aAq (a:Int):Option Int:=
 some a
def kO (c:(List bD)) (a b:Int):Option ((Int × Int) ⊕ Int):=
 if (decide (0 < b)) then (ob (ix c a) fun d=>
 ob (kM d) fun e=>
 some (.inl (wr (a+1),wr (b+(wr (e - 1)))))) else (some (.inr a))
def pT (a:(List bD)) (k:Int):Option Int:=
 ob (loop (fun (s:(Int × Int))=>kO a s.1 s.2) (k,1)) fun r=>aAq r
def aHJ:Option Int:=
 some (-1)
def rU (a:Int) (b:Bool):Option (Int ⊕ (Unit ⊕ Int)):=
 if b then (some (.inr (.inr a))) else (some (.inl (wr (a - 1))))
def vO (b:(List bD)) (k a:Int):Option (Int ⊕ (Unit ⊕ Int)):=
 if (decide (0<=a)) then (ob (ix b a) fun d=>
 ob (jV d) fun e=>
 if e then (ob (ix b k) fun f=>
 if (d.Variable == f.Variable) then (ob (pT b a) fun g=>
 rU a (decide (k < g))) else (rU a false)) else (rU a false)) else (some (.inr (.inl ())))
def uD (c:(List bD)) (k:Int):Option Int:=
 ob (loop (fun (s:Int)=>vO c k s) (wr (k - 1))) fun r=>match r with|.inl r=>aHJ|.inr r=>some r
def aCm:Option Bool:=
 some true
def gK (a:Int) (b:Bool):Option (Int ⊕ (Unit ⊕ Bool)):=
 if b then (some (.inr (.inr false))) else (some (.inl (wr (a+1))))
def gL (c:(List bD)) (a:Int):Option (Int ⊕ (Unit ⊕ Bool)):=
 if (decide (a < (c.length:Int))) then (ob (ix c a) fun b=>
 ob (pZ b.Kind 0 8) fun d=>
 if (!d) then (gK a true) else (ob (kN b) fun e=>
 if (!e) then (gK a true) else (ob (oX b) fun f=>
 if (!f) then (gK a true) else (if (b.Kind == 6) then (ob (uD c a) fun g=>
 gK a (decide (g < 0))) else (gK a false))))) else (some (.inr (.inl ())))
def nF (b:(List bD)) (c:Bool):Option Bool:=
 if c then (some false) else (ob (loop (fun (s:Int)=>gL b s) 0) fun r=>match r with|.inl r=>aCm|.inr r=>some r)
def lY (a:(List bD)):Option Bool:=
 ob (pZ (a.length:Int) 1 30) fun b=>
 if (!b) then (nF a true) else (ob (aDe a) fun c=>
 nF a (!c))
def xT (a:(List bD)):Option Bool:=
 ob (lY a) fun b=>
 some (!b)
def gE:Option Int:=
 some (-1)
def bR (b:(List (List bD))) (a:Int):Option (Int ⊕ (Unit ⊕ Int)):=
 if (decide (a < (b.length:Int))) then (ob (ix b a) fun c=>
 ob (xT c) fun d=>
 if d then (some (.inr (.inr a))) else (some (.inl (wr (a+1))))) else (some (.inr (.inl ())))
def cG (b:(List (List bD))):Option Int:=
 ob (loop (fun (s:Int)=>bR b s) 0) fun r=>match r with|.inl r=>gE|.inr r=>some r
def dX (a:(List (List bD))):Option Bool:=
 ob (cG a) fun b=>
 some (decide (0<=b))
def xU (a:Bool):Option Int:=
 if a then (some 1) else (some 0)
def qO (t:bQ) (b:(List (List bD))):Option Int:=
 ob (rT t) fun c=>
 if (!c) then (xU true) else (ob (dX b) fun d=>
 xU d)
def aHK (a:List Int):Option (List Int):=
 some a
def zU (a:Int) (b:List Int):Option ((List Int × Int) ⊕ (List Int)):=
 some (.inl (b,wr (a+1)))
def rV (c:(List Bool)) (b:List Int) (a:Int):Option ((List Int × Int) ⊕ (List Int)):=
 if (decide (a < (c.length:Int))) then (ob (ix c a) fun d=>
 if d then (ob (qH b ([a]:List Int)) fun e=>
 zU a e) else (zU a b)) else (some (.inr b))
def aBu (a:(List Bool)):Option (List Int):=
 ob (loop (fun (s:(List Int × Int))=>rV a s.1 s.2) ([],0)) fun r=>aHK r
def fL (a:List Bool):Option (List Bool):=
 some a
def fM (a:List Bool) (b:Int):Option ((List Bool × Int) ⊕ (List Bool)):=
 if (decide (b < (a.length:Int))) then (ob (slc a b (a.length:Int)) fun d=>
 ob (slc a 0 b) fun c=>
 ob (ovw a b (List.take (Nat.min c.length d.length) c)) fun e=>
 some (.inl (e,wr (b+((Nat.min c.length d.length):Int))))) else (some (.inr a))
def fN (a:(List Bool)) (c:(Int × Int)):Option (List Bool):=
 ob (mkz (wr c.2) (false:Bool)) fun b=>
 ob (ovw b 0 (List.take (Nat.min a.length b.length) a)) fun d=>
 ob (loop (fun (s:(List Bool × Int))=>fM s.1 s.2) (d,((Nat.min a.length b.length):Int))) fun r=>fL r
def eF (a:(List Bool)) (b:(Int × Int)) (c:Bool):Option (List Bool):=
 if c then (none) else (fN a b)
def fO (b:(List Bool)) (c:Int):Option (List Bool):=
 ob (l_Mul (kX (b.length:Int)) (kX c)) fun a=>
 if (decide (0 < a.1)) then (eF b a true) else (eF b a (decide (9223372036854775807 < a.2)))
def eZ (b:(List Bool)) (a:Int):Option (List Bool):=
 if (decide (a < 0)) then (none) else (fO b a)
def aFH (a:List Bool) (b:List (List Int)):Option ((List (List Int)) × (List Bool)):=
 some (b,a)
def yN (a:Int) (b:List (List Int)):Option ((List (List Int) × Int) ⊕ (List (List Int))):=
 some (.inl (b,wr (a+1)))
def aCI (a:Int) (b:List (List Int)):Option ((List (List Int) × Int) ⊕ (List (List Int))):=
 yN a b
def yO (a:Int) (b:List (List Int)):Option ((List (List Int) × Int) ⊕ (List (List Int))):=
 some (.inl (b,wr (a+1)))
def lC (e:Int) (c:bM) (a:List (List Int)) (b:Int):Option ((List (List Int) × Int) ⊕ (List (List Int))):=
 if (decide (b < (c.Next.length:Int))) then (ob (ix c.Next b) fun d=>
 ob (ix a d) fun f=>
 ob (qH f ([e]:List Int)) fun g=>
 ob (st a d g) fun h=>
 yO b h) else (some (.inr a))
def lD (g:(List bM)) (c:List (List Int)) (a:Int):Option ((List (List Int) × Int) ⊕ (List (List Int))):=
 if (decide (a < (g.length:Int))) then (ob (ix g a) fun d=>
 ob (loop (fun (s:(List (List Int) × Int))=>lC a d s.1 s.2) (c,0)) fun r=>aCI a r) else (some (.inr c))
def yP (g:(List bM)) (b:List (List Int)) (c:List Bool):Option ((List (List Int)) × (List Bool)):=
 ob (loop (fun (s:(List (List Int) × Int))=>lD g s.1 s.2) (b,0)) fun r=>aFH c r
def aBv (g:(List bM)):Option ((List (List Int)) × (List Bool)):=
 ob (mkz (g.length:Int) ([]:(List Int))) fun b=>
 ob (eZ ([true]:List Bool) (g.length:Int)) fun c=>
 yP g b c
def aDf (a:Int):Option Int:=
 some a
def oY (a b:Int):Option ((Int × Int) ⊕ Int):=
 some (.inl (b,wr (a+1)))
def iC (d:eO) (c:bM) (b a:Int):Option ((Int × Int) ⊕ Int):=
 if (decide (a < (c.Next.length:Int))) then (ob (ix c.Next a) fun e=>
 ob (ix d.in_ e) fun f=>
 if f then (oY a (wr (b+1))) else (oY a b)) else (some (.inr b))
def uE (a:eO) (k:Int):Option Int:=
 ob (ix a.g k) fun c=>
 ob (loop (fun (s:(Int × Int))=>iC a c s.1 s.2) (0,0)) fun r=>aDf r
def eD (a:(List Bool)):Option (List Bool):=
 ob (qH ([]:List Bool) a) fun b=>
 some b
def vA (a:List Bool):Option (List Bool):=
 some a
def vB (a:List Bool) (b:(List (Int × Int))) (c:List Int):Option ((List Bool × (List (Int × Int)) × List Int) ⊕ (List Bool)):=
 some (.inl (a,b,c))
def aBw (a:List Bool) (b:(List (Int × Int))) (c:List Int):Option ((List Bool × (List (Int × Int)) × List Int) ⊕ (List Bool)):=
 vB a b c
def gV (a:Int) (b:List Bool) (c:(List (Int × Int))) (d:List Int):Option ((List Bool × (List (Int × Int)) × List Int × Int) ⊕ (List Bool × (List (Int × Int)) × List Int)):=
 some (.inl (b,c,d,wr (a+1)))
def jL (b:List Bool) (c:List Int) (d a:Int) (e:(List (Int × Int))):Option ((List Bool × (List (Int × Int)) × List Int × Int) ⊕ (List Bool × (List (Int × Int)) × List Int)):=
 ob (ix b a) fun h=>
 ob (st b a (true:Bool)) fun f=>
 ob (qH c ([a]:List Int)) fun g=>
 gV d f e g
def jM (c:List Bool) (d:List Int) (e a:Int) (f:(List (Int × Int))):Option ((List Bool × (List (Int × Int)) × List Int × Int) ⊕ (List Bool × (List (Int × Int)) × List Int)):=
 ob (some (xC f a (wr (((jG f a).getD 0) - 1)))) fun b=>
 if (decide (0 < ((jG b a).getD 0))) then (gV e c b d) else (jL c d e a b)
def jN (f:eO) (h:Int) (c:List Bool) (b:(List (Int × Int))) (d:List Int) (e a:Int) (i:Bool):Option ((List Bool × (List (Int × Int)) × List Int × Int) ⊕ (List Bool × (List (Int × Int)) × List Int)):=
 if i then (gV e c b d) else (ob (ix f.g a) fun j=>
 if (j.Owner != h) then (if (!((jG b a).isSome)) then (ob (uE f a) fun k=>
 ob (some (xC b a k)) fun l=>
 jM c d e a l) else (jM c d e a b)) else (jL c d e a b))
def fQ (d:eO) (g:Int) (h:(List Int)) (a:List Bool) (e:(List (Int × Int))) (f:List Int) (b:Int):Option ((List Bool × (List (Int × Int)) × List Int × Int) ⊕ (List Bool × (List (Int × Int)) × List Int)):=
 if (decide (b < (h.length:Int))) then (ob (ix h b) fun c=>
 ob (ix d.in_ c) fun i=>
 if (!i) then (jN d g a e f b c true) else (ob (ix a c) fun j=>
 jN d g a e f b c j)) else (some (.inr (a,e,f)))
def fR (c:eO) (e:Int) (d:List Bool) (f:(List (Int × Int))) (a:List Int):Option ((List Bool × (List (Int × Int)) × List Int) ⊕ (List Bool)):=
 if (decide (0 < (a.length:Int))) then (ob (ix a 0) fun g=>
 ob (slc a 1 (a.length:Int)) fun h=>
 ob (ix c.back g) fun i=>
 ob (loop (fun (s:(List Bool × (List (Int × Int)) × List Int × Int))=>fQ c e i s.1 s.2.1 s.2.2.1 s.2.2.2) (d,f,h,0)) fun r=>aBw r.1 r.2.1 r.2.2) else (some (.inr d))
def jD (b:eO) (c:Int) (a:(List Bool)):Option (List Bool):=
 ob (eD a) fun d=>
 ob (aBu a) fun e=>
 ob (loop (fun (s:(List Bool × (List (Int × Int)) × List Int))=>fR b c s.1 s.2.1 s.2.2) (d,([]:(List (Int × Int))),e)) fun r=>vA r
def aBx (a:List Bool):Option (List Bool):=
 some a
def lZ (a:Int) (b:List Bool):Option ((List Bool × Int) ⊕ (List Bool)):=
 some (.inl (b,wr (a+1)))
def gW (c:(List Bool)) (b:List Bool) (a:Int):Option ((List Bool × Int) ⊕ (List Bool)):=
 if (decide (a < (c.length:Int))) then (ob (ix c a) fun d=>
 ob (ix b a) fun e=>
 if e then (ob (st b a (!d:Bool)) fun f=>
 lZ a f) else (ob (st b a (false:Bool)) fun g=>
 lZ a g)) else (some (.inr b))
def jE (a:eO) (b:(List Bool)):Option (List Bool):=
 ob (eD a.in_) fun c=>
 ob (loop (fun (s:(List Bool × Int))=>gW b s.1 s.2) (c,0)) fun r=>aBx r
def aBy (k:Int) (p:eO) (c:Int):Option Bool:=
 ob (ix p.g k) fun d=>
 some (d.Priority == c)
def aCn (a:List Bool):Option (List Bool):=
 some a
def nG (a:Int) (b:List Bool):Option ((List Bool × Int) ⊕ (List Bool)):=
 some (.inl (b,wr (a+1)))
def iK (c d:eO) (e:Int) (b:List Bool) (a:Int):Option ((List Bool × Int) ⊕ (List Bool)):=
 if (decide (a < (c.in_.length:Int))) then (ob (ix c.in_ a) fun f=>
 if f then (ob (aBy a d e) fun g=>
 ob (ix b a) fun j=>
 ob (st b a (g:Bool)) fun h=>
 nG a h) else (ob (ix b a) fun k=>
 ob (st b a (false:Bool)) fun i=>
 nG a i)) else (some (.inr b))
def rW (a b:eO) (c:Int):Option (List Bool):=
 ob (mkz (a.g.length:Int) (false:Bool)) fun d=>
 ob (loop (fun (s:(List Bool × Int))=>iK a b c s.1 s.2) (d,0)) fun r=>aCn r
def aBz (k:Int) (p:(List Bool)) (c:Int):Option Bool:=
 ob (ix p k) fun d=>
 some (d != (c == 1))
def zV (a:List Bool):Option (List Bool):=
 some a
def jW (a:Int) (b:List Bool):Option ((List Bool × Int) ⊕ (List Bool)):=
 some (.inl (b,wr (a+1)))
def fS (c:eO) (d:(List Bool)) (e:Int) (b:List Bool) (a:Int):Option ((List Bool × Int) ⊕ (List Bool)):=
 if (decide (a < (c.in_.length:Int))) then (ob (ix c.in_ a) fun f=>
 if f then (ob (aBz a d e) fun g=>
 ob (ix b a) fun j=>
 ob (st b a (g:Bool)) fun h=>
 jW a h) else (ob (ix b a) fun k=>
 ob (st b a (false:Bool)) fun i=>
 jW a i)) else (some (.inr b))
def nH (a:eO) (b:(List Bool)) (c:Int):Option (List Bool):=
 ob (mkz (a.g.length:Int) (false:Bool)) fun d=>
 ob (loop (fun (s:(List Bool × Int))=>fS a b c s.1 s.2) (d,0)) fun r=>zV r
def oZ:Option Int:=
 some (-1)
def gC (b:(List Bool)) (c:Bool) (a:Int):Option (Int ⊕ (Unit ⊕ Int)):=
 if (decide (a < (b.length:Int))) then (ob (ix b a) fun d=>
 if (c == d) then (some (.inr (.inr a))) else (some (.inl (wr (a+1))))) else (some (.inr (.inl ())))
def fH (b:(List Bool)) (c:Bool):Option Int:=
 ob (loop (fun (s:Int)=>gC b c s) 0) fun r=>match r with|.inl r=>oZ|.inr r=>some r
def gD (a:(List Bool)) (b:Bool):Option Bool:=
 ob (fH a b) fun c=>
 some (decide (0<=c))
def aBA (p a:Int):Option Bool:=
 some (a == 1)
def zW (a:List Bool):Option (List Bool):=
 some a
def jX (a:Int) (b:List Bool):Option ((List Bool × Int) ⊕ (List Bool)):=
 some (.inl (b,wr (a+1)))
def fT (c:eO) (d:Int) (b:List Bool) (a:Int):Option ((List Bool × Int) ⊕ (List Bool)):=
 if (decide (a < (c.in_.length:Int))) then (ob (ix c.in_ a) fun e=>
 if e then (ob (aBA a d) fun f=>
 ob (ix b a) fun i=>
 ob (st b a (f:Bool)) fun g=>
 jX a g) else (ob (ix b a) fun j=>
 ob (st b a (false:Bool)) fun h=>
 jX a h)) else (some (.inr b))
def nI (a:eO) (b:Int):Option (List Bool):=
 ob (mkz (a.g.length:Int) (false:Bool)) fun c=>
 ob (loop (fun (s:(List Bool × Int))=>fT a b s.1 s.2) (c,0)) fun r=>zW r
def nJ (a:Bool):Option Bool:=
 some a
def rX (k:Int) (p:(List Bool)) (c:Int) (d:(List Bool)):Option Bool:=
 ob (ix p k) fun e=>
 if e then (if (c == 0) then (nJ true) else (nJ false)) else (ob (ix d k) fun f=>
 nJ f)
def zX (a:List Bool):Option (List Bool):=
 some a
def jY (a:Int) (b:List Bool):Option ((List Bool × Int) ⊕ (List Bool)):=
 some (.inl (b,wr (a+1)))
def fU (c:eO) (d:(List Bool)) (e:Int) (f:(List Bool)) (b:List Bool) (a:Int):Option ((List Bool × Int) ⊕ (List Bool)):=
 if (decide (a < (c.in_.length:Int))) then (ob (ix c.in_ a) fun g=>
 if g then (ob (rX a d e f) fun h=>
 ob (ix b a) fun k=>
 ob (st b a (h:Bool)) fun i=>
 jY a i) else (ob (ix b a) fun l=>
 ob (st b a (false:Bool)) fun j=>
 jY a j)) else (some (.inr b))
def nK (a:eO) (b:(List Bool)) (c:Int) (d:(List Bool)):Option (List Bool):=
 ob (mkz (a.g.length:Int) (false:Bool)) fun e=>
 ob (loop (fun (s:(List Bool × Int))=>fU a b c d s.1 s.2) (e,0)) fun r=>zX r
def rY (c:eO->Option (List Bool)) (a:eO) (d:Int):Option (List Bool):=
 ob (rm d 2) fun b=>
 ob (rW a a d) fun i=>
 ob (jD a b i) fun j=>
 ob (jE a j) fun e=>
 ob (c ⟨a.g,a.back,e⟩) fun k=>
 ob (nH ⟨a.g,a.back,e⟩ k b) fun f=>
 ob (gD f true) fun l=>
 if (!l) then (ob (nI a b) fun m=>
 some m) else (ob (jD a (wr (1 - b)) f) fun h=>
 ob (jE a h) fun n=>
 ob (c ⟨a.g,a.back,n⟩) fun o=>
 ob (nK a h b o) fun p=>
 some p)
def iL (d:eO) (b:(List Int)) (c a:Int):Option ((Int × Int) ⊕ Int):=
 if (decide (a < (b.length:Int))) then (ob (ix b a) fun e=>
 ob (ix d.g e) fun f=>
 some (.inl (mnI c f.Priority,wr (a+1)))) else (some (.inr c))
def uF (c:eO->Option (List Bool)) (a:eO):Option (List Bool):=
 ob (aBu a.in_) fun b=>
 if ((b.length:Int) == 0) then (ob (mkz (a.g.length:Int) (false:Bool)) fun d=>
 some d) else (ob (ix b 0) fun e=>
 ob (ix a.g e) fun f=>
 ob (loop (fun (s:(Int × Int))=>iL a b s.1 s.2) (f.Priority,0)) fun r=>rY c a r)
def nZ:Nat->eO->Option (List Bool)
 |0=>fun _=>none
 |n+1=>uF (nZ n)
def aEE (a:eO):Option (List Bool):=
 nZ 100000 a
def yQ (a:Bool):Option Int:=
 if a then (some 1) else (some 0)
def pU (a:Bool):Option Bool:=
 some a
def qD (k:Int) (p:(List bM)) (d:Int):Option Bool:=
 ob (ix p k) fun a=>
 if (a.Owner == d) then (pU ((a.Next.length:Int) == 0)) else (pU false)
def zY (a:List Bool):Option (List Bool):=
 some a
def jZ (a:Int) (b:List Bool):Option ((List Bool × Int) ⊕ (List Bool)):=
 some (.inl (b,wr (a+1)))
def fV (c:eO) (d:(List bM)) (e:Int) (b:List Bool) (a:Int):Option ((List Bool × Int) ⊕ (List Bool)):=
 if (decide (a < (c.in_.length:Int))) then (ob (ix c.in_ a) fun f=>
 if f then (ob (qD a d e) fun g=>
 ob (ix b a) fun j=>
 ob (st b a (g:Bool)) fun h=>
 jZ a h) else (ob (ix b a) fun k=>
 ob (st b a (false:Bool)) fun i=>
 jZ a i)) else (some (.inr b))
def iM (a:eO) (b:(List bM)) (c:Int):Option (List Bool):=
 ob (mkz (a.g.length:Int) (false:Bool)) fun d=>
 ob (loop (fun (s:(List Bool × Int))=>fV a b c s.1 s.2) (d,0)) fun r=>zY r
def wM (a:Int) (p:eO) (c:(List bM)):Option (List Bool):=
 ob (iM p c a) fun d=>
 some d
def aAO (a:List Int):Option (List Int):=
 some a
def sW (a:Int) (b:List Int):Option ((List Int × Int) ⊕ (List Int)):=
 some (.inl (b,wr (a+1)))
def nL (g:(List bM)) (d e f:(List Bool)) (b:List Int) (a:Int):Option ((List Int × Int) ⊕ (List Int)):=
 if (decide (a < (g.length:Int))) then (ob (ix d a) fun h=>
 if h then (ob (yQ true) fun i=>
 ob (ix b a) fun q=>
 ob (st b a (i:Int)) fun j=>
 sW a j) else (ob (ix e a) fun k=>
 if (!k) then (ob (ix f a) fun l=>
 ob (yQ l) fun m=>
 ob (ix b a) fun r=>
 ob (st b a (m:Int)) fun n=>
 sW a n) else (ob (yQ false) fun o=>
 ob (ix b a) fun s=>
 ob (st b a (o:Int)) fun p=>
 sW a p))) else (some (.inr b))
def aDg (g:(List bM)):Option (List Int):=
 ob (aBv g) fun b=>
 ob (wM 0 ⟨g,b.1,b.2⟩ g) fun e=>
 ob (jD ⟨g,b.1,b.2⟩ 1 e) fun c=>
 ob (wM 1 ⟨g,b.1,b.2⟩ g) fun f=>
 ob (jD ⟨g,b.1,b.2⟩ 0 f) fun d=>
 ob (jE ⟨g,b.1,b.2⟩ c) fun h=>
 ob (jE ⟨g,b.1,h⟩ d) fun i=>
 ob (aEE ⟨g,b.1,i⟩) fun j=>
 ob (mkz (g.length:Int) (0:Int)) fun k=>
 ob (loop (fun (s:(List Int × Int))=>nL g c d j s.1 s.2) (k,0)) fun r=>aAO r
def aDL (a:List Int):Option (List Int):=
 some a
def dY (d:(List bD)) (e:Int) (a:List Int) (b c:Int):Option ((List Int × Int × Int) ⊕ (List Int)):=
 if (decide (c < e)) then (ob (qH a ([b]:List Int)) fun f=>
 ob (pT d b) fun g=>
 some (.inl (f,g,wr (c+1)))) else (some (.inr a))
def iN (a:(List bD)) (k:Int):Option (List Int):=
 ob (ix a k) fun c=>
 ob (kM c) fun d=>
 ob (loop (fun (s:(List Int × Int × Int))=>dY a d s.1 s.2.1 s.2.2) ([],wr (k+1),0)) fun r=>aDL r
def aDx (a:List Edge):Option (List Edge):=
 some a
def wN (a:Int) (b:List Edge):Option ((List Edge × Int) ⊕ (List Edge)):=
 some (.inl (b,wr (a+1)))
def wO (t:bQ) (k:Int) (b:List Edge) (a:Int):Option ((List Edge × Int) ⊕ (List Edge)):=
 if (decide (a < (t.E.length:Int))) then (ob (ix t.E a) fun d=>
 if (d.F == k) then (ob (qH b ([d]:List Edge)) fun f=>
 wN a f) else (wN a b)) else (some (.inr b))
def aDh (t:bQ) (k:Int):Option (List Edge):=
 ob (loop (fun (s:(List Edge × Int))=>wO t k s.1 s.2) ([],0)) fun r=>aDx r
def aCo (a:aQ):Option aQ:=
 ob (rF a) fun b=>
 some b.1
def kI (n:bD) (b:Bool):Option Bool:=
 some (b != n.Not)
def mA (n:bD) (b:aQ):Option Bool:=
 ob (kS n.B ([42]:aQ)) fun c=>
 if (n.B == ([]:aQ)) then (kI n true) else (if (n.B == b) then (kI n true) else (if c.2 then (ob (aCo b) fun d=>
 kI n (d == c.1)) else (kI n false)))
def aGH (a:Int):Option Int:=
 some a
def wP (a b:Int):Option ((Int × Int) ⊕ Int):=
 some (.inl (b,wr (a+1)))
def wQ (a b:Int) (c:Bool):Option ((Int × Int) ⊕ Int):=
 if c then (wP b (wr (a+1))) else (wP b a)
def nM (c:(List bD)) (k b a:Int):Option ((Int × Int) ⊕ Int):=
 if (decide (a < k)) then (ob (ix c a) fun e=>
 ob (jV e) fun f=>
 if f then (ob (pT c a) fun g=>
 wQ b a (decide (k < g))) else (wQ b a false)) else (some (.inr b))
def xV (a:(List bD)) (k:Int):Option Int:=
 ob (loop (fun (s:(Int × Int))=>nM a k s.1 s.2) (0,0)) fun r=>aGH r
def gM (a:(List Int)):Option (List Int):=
 ob (qH ([]:List Int) a) fun b=>
 some b
def zZ (a:(List Int)):Option (List Int):=
 ob (gM a) fun b=>
 ob (aAT b) fun c=>
 ob (dD c) fun d=>
 some d
def lO (a b f g:Int) (c:(List Int)) (p:bQ):Option (List Int):=
 ob (qH c ([wr ((wr (a * p.N))+b)]:List Int)) fun e=>
 some e
def tJ (a:List bM):Option (List bM):=
 some a
def oE (a:Int) (b:List bM):Option ((List bM × Int) ⊕ (List bM)):=
 some (.inl (b,wr (a+1)))
def oF (a:Int) (b:List bM):Option ((List bM × Int) ⊕ (List bM)):=
 oE a b
def oG (a:Int) (b:List bM):Option ((List bM × Int) ⊕ (List bM)):=
 some (.inl (b,wr (a+1)))
def iT (a:List bM) (b c:Int) (d:List Int) (e:Int):Option ((List bM × Int) ⊕ (List bM)):=
 ob (zZ d) fun f=>
 ob (qH a ([⟨c,e,f⟩]:List bM)) fun g=>
 oG b g
def gH (f:(List bD)) (g:Int) (a:bD) (b:List bM) (c d:Int) (e:List Int):Option ((List bM × Int) ⊕ (List bM)):=
 ob (jV a) fun h=>
 if h then (ob (xV f g) fun i=>
 ob (yQ (a.Kind == 7)) fun j=>
 iT b c d e (wr ((wr (2 * i))+j))) else (iT b c d e 1000)
def tK (a:(List bD)) (b:Int) (c:bD) (d:List bM) (e f:Int) (g:List Int):Option ((List bM × Int) ⊕ (List bM)):=
 gH a b c d e f g
def kT (a:Int) (b:List Int):Option ((List Int × Int) ⊕ (List Int)):=
 some (.inl (b,wr (a+1)))
def gI (t:bQ) (f:bD) (g:(List Int)) (h:Int) (d:(List Edge)) (b:List Int) (a:Int):Option ((List Int × Int) ⊕ (List Int)):=
 if (decide (a < (d.length:Int))) then (ob (ix d a) fun e=>
 ob (ix t.L e.B) fun i=>
 ob (mA f i) fun j=>
 if j then (ob (ix g 0) fun k=>
 ob (lO k e.To h 1000 b t) fun l=>
 kT a l) else (kT a b)) else (some (.inr b))
def rZ (a:(List bD)) (b:Int) (c:bD) (d:List bM) (e f:Int) (g:List Int):Option ((List bM × Int) ⊕ (List bM)):=
 gH a b c d e f g
def fW (t:bQ) (b:(List Int)) (e f:Int) (c:List Int) (a:Int):Option ((List Int × Int) ⊕ (List Int)):=
 if (decide (a < (b.length:Int))) then (ob (ix b a) fun g=>
 ob (lO g e f 1000 c t) fun h=>
 some (.inl (h,wr (a+1)))) else (some (.inr c))
def iD (c:(List bD)) (t:bQ) (d:Int) (e:bD) (h:(List Int)) (g:List bM) (a b:Int):Option ((List bM × Int) ⊕ (List bM)):=
 if (e.Kind == 6) then (ob (uD c d) fun i=>
 ob (lO i a b 1000 [] t) fun j=>
 gH c d e g a b j) else (ob (loop (fun (s:(List Int × Int))=>fW t h a b s.1 s.2) ([],0)) fun r=>rZ c d e g a b r)
def fX (e:(List bD)) (t:bQ) (f:Int) (a:bD) (g:(List Int)) (h:List bM) (c d:Int):Option ((List bM × Int) ⊕ (List bM)):=
 ob (kH a) fun i=>
 if i then (ob (aDh t c) fun j=>
 ob (loop (fun (s:(List Int × Int))=>gI t a g d j s.1 s.2) ([],0)) fun r=>tK e f a h c d r) else (if (a.Kind == 6) then (iD e t f a g h c d) else (iD e t f a g h c d))
def eA (e:(List bD)) (t:bQ) (f:Int) (a:bD) (g:(List Int)) (c:List bM) (d:Int):Option ((List bM × Int) ⊕ (List bM)):=
 if (decide (d < t.N)) then (if (a.Kind == 0) then (ob (yQ true) fun h=>
 fX e t f a g c d h) else (if (a.Kind == 2) then (ob (yQ true) fun i=>
 fX e t f a g c d i) else (ob (yQ (a.Kind == 5)) fun j=>
 fX e t f a g c d j))) else (some (.inr c))
def eP (b:(List bD)) (t:bQ) (c:List bM) (a:Int):Option ((List bM × Int) ⊕ (List bM)):=
 if (decide (a < (b.length:Int))) then (ob (ix b a) fun e=>
 ob (iN b a) fun f=>
 ob (loop (fun (s:(List bM × Int))=>eA b t a e f s.1 s.2) (c,0)) fun r=>oF a r) else (some (.inr c))
def pA (a:(List bD)) (t:bQ):Option (List bM):=
 ob (loop (fun (s:(List bM × Int))=>eP a t s.1 s.2) ([],0)) fun r=>tJ r
def aCp (a:List Bool):Option (List Bool):=
 some a
def iO (t:bQ) (k:Int) (e:List Bool) (f:(List Int)) (b:List Bool) (a:Int):Option ((List Bool × Int) ⊕ (List Bool)):=
 if (decide (a < (e.length:Int))) then (ob (ix f (wr ((wr (k * t.N))+a))) fun g=>
 ob (ix b a) fun i=>
 ob (st b a (g == 0:Bool)) fun h=>
 some (.inl (h,wr (a+1)))) else (some (.inr b))
def pB (c:(List bD)) (t:bQ) (k:Int):Option (List Bool):=
 ob (mkz t.N (false:Bool)) fun b=>
 ob (pA c t) fun e=>
 ob (aDg e) fun f=>
 ob (loop (fun (s:(List Bool × Int))=>iO t k b f s.1 s.2) (b,0)) fun r=>aCp r
def qE (a:(List bD)) (t:bQ):Option ((List Int) × Int):=
 ob (qO t ([a]:List (List bD))) fun c=>
 if (c != 0) then (some ([],c)) else (ob (pB a t 0) fun d=>
 ob (aBu d) fun e=>
 some (e,0))
def aIF:Option Bool:=
 some false
def xW (b:(List Int)) (n a:Int):Option (Int ⊕ (Unit ⊕ Bool)):=
 if (decide (a < (b.length:Int))) then (ob (ix b a) fun d=>
 if (d == n) then (some (.inr (.inr true))) else (some (.inl (wr (a+1))))) else (some (.inr (.inl ())))
def aDy (b:(List Int)) (n:Int):Option Bool:=
 ob (loop (fun (s:Int)=>xW b n s) 0) fun r=>match r with|.inl r=>aIF|.inr r=>some r
def wR (a b:bQ) (p:(List Int)):Option Bool:=
 ob (ix p a.I) fun f=>
 ob (ix p (wr (a.N+b.I))) fun g=>
 some (f == g)
def aFI (a:List Arc):Option (List Arc):=
 some a
def uG (t:bQ) (d:List Arc) (b:Int):Option ((List Arc × Int) ⊕ (List Arc)):=
 if (decide (b < (t.E.length:Int))) then (ob (ix t.E b) fun c=>
 ob (ix t.L c.B) fun e=>
 ob (qH d ([⟨c.F,e,c.To⟩]:List Arc)) fun f=>
 some (.inl (f,wr (b+1)))) else (some (.inr d))
def xX (t:bQ):Option (List Arc):=
 ob (loop (fun (s:(List Arc × Int))=>uG t s.1 s.2) ([],0)) fun r=>aFI r
def aAr (a b:aQ):Option Int:=
 if (a == b) then (some 0) else (if (a == ([116,97,117]:aQ)) then (some (-1)) else (if (b == ([116,97,117]:aQ)) then (some 1) else (ob (aKb a b) fun e=>
 some e)))
def iP (a:(List Edge)):Option (List Edge):=
 some a
def dE (a:Int):Option (Int ⊕ (Unit ⊕ (List Edge))):=
 some (.inl (wr (a+1)))
def eT (a:List Edge) (b:Int):Option (Int ⊕ (Unit ⊕ (List Edge))):=
 ob (slc a b (a.length:Int)) fun c=>
 ob (ovw a b (List.replicate c.length (⟨0,0,0⟩:Edge))) fun d=>
 ob (slc d 0 b) fun e=>
 some (.inr (.inr e))
def dF (a:Int) (b:List Edge) (c:Int):Option ((List Edge × Int × Int) ⊕ (List Edge × Int)):=
 some (.inl (b,c,wr (a+1)))
def iQ (f:Int) (e b:List Edge) (c a:Int):Option ((List Edge × Int × Int) ⊕ (List Edge × Int)):=
 if (decide (a < (e.length:Int))) then (ob (ix e a) fun i=>
 ob (ix b (f+a)) fun d=>
 ob (ix e (wr (a - 1))) fun j=>
 ob (ix b (f+(wr (a - 1)))) fun g=>
 if (!decide ((d:Edge)=g)) then (ob (ix b c) fun k=>
 ob (st b c (⟨d.F,d.B,d.To⟩:Edge)) fun h=>
 dF a h (wr (c+1))) else (dF a b c)) else (some (.inr (b,c)))
def cL (b:(List Edge)) (a:Int):Option (Int ⊕ (Unit ⊕ (List Edge))):=
 if (decide (a < (b.length:Int))) then (ob (ix b a) fun d=>
 ob (ix b (wr (a - 1))) fun e=>
 if (decide ((d:Edge)=e)) then (ob (slc b a (b.length:Int)) fun f=>
 ob (loop (fun (s:(List Edge × Int × Int))=>iQ a f s.1 s.2.1 s.2.2) (b,a,1)) fun r=>eT r.1 r.2) else (dE a)) else (some (.inr (.inl ())))
def cT (a:(List Edge)):Option (List Edge):=
 if (decide ((a.length:Int) < 2)) then (some a) else (ob (loop (fun (s:Int)=>cL a s) 1) fun r=>match r with|.inl r=>iP a|.inr r=>some r)
def kU (a:(List aQ)):Option (List aQ):=
 some a
def eH (a:Int):Option (Int ⊕ (Unit ⊕ (List aQ))):=
 some (.inl (wr (a+1)))
def eI (a:List aQ) (b:Int):Option (Int ⊕ (Unit ⊕ (List aQ))):=
 ob (slc a b (a.length:Int)) fun c=>
 ob (ovw a b (List.replicate c.length ([]:aQ))) fun d=>
 ob (slc d 0 b) fun e=>
 some (.inr (.inr e))
def cZ (a:Int) (b:List aQ) (c:Int):Option ((List aQ × Int × Int) ⊕ (List aQ × Int)):=
 some (.inl (b,c,wr (a+1)))
def dA (e:Int) (d b:List aQ) (c a:Int):Option ((List aQ × Int × Int) ⊕ (List aQ × Int)):=
 if (decide (a < (d.length:Int))) then (ob (ix d a) fun i=>
 ob (ix b (e+a)) fun f=>
 ob (ix d (wr (a - 1))) fun j=>
 ob (ix b (e+(wr (a - 1)))) fun g=>
 if (!(f == g)) then (ob (ix b c) fun k=>
 ob (st b c (f:aQ)) fun h=>
 cZ a h (wr (c+1))) else (cZ a b c)) else (some (.inr (b,c)))
def dB (b:(List aQ)) (a:Int):Option (Int ⊕ (Unit ⊕ (List aQ))):=
 if (decide (a < (b.length:Int))) then (ob (ix b a) fun d=>
 ob (ix b (wr (a - 1))) fun e=>
 if (d == e) then (ob (slc b a (b.length:Int)) fun f=>
 ob (loop (fun (s:(List aQ × Int × Int))=>dA a f s.1 s.2.1 s.2.2) (b,a,1)) fun r=>eI r.1 r.2) else (eH a)) else (some (.inr (.inl ())))
def dW (a:(List aQ)):Option (List aQ):=
 if (decide ((a.length:Int) < 2)) then (some a) else (ob (loop (fun (s:Int)=>dB a s) 1) fun r=>match r with|.inl r=>kU a|.inr r=>some r)
def mB:Option Int:=
 some (-1)
def eU (b:(List aQ)) (c:aQ) (a:Int):Option (Int ⊕ (Unit ⊕ Int)):=
 if (decide (a < (b.length:Int))) then (ob (ix b a) fun d=>
 if (c == d) then (some (.inr (.inr a))) else (some (.inl (wr (a+1))))) else (some (.inr (.inl ())))
def eG (b:(List aQ)) (c:aQ):Option Int:=
 ob (loop (fun (s:Int)=>eU b c s) 0) fun r=>match r with|.inl r=>mB|.inr r=>some r
def aGI (a b:Int) (c:(List aQ)) (d:List Edge):Option bQ:=
 ob (aBf d) fun e=>
 ob (cT e) fun f=>
 some ⟨a,b,c,f⟩
def aEF (c:(List Arc)) (e:(List aQ)) (d:List Edge) (a:Int):Option ((List Edge × Int) ⊕ (List Edge)):=
 if (decide (a < (c.length:Int))) then (ob (ix c a) fun b=>
 ob (eG e b.label) fun f=>
 ob (qH d ([⟨b.from_,f,b.to_⟩]:List Edge)) fun g=>
 some (.inl (g,wr (a+1)))) else (some (.inr d))
def i_lts (b c:Int) (d:(List aQ)) (e:(List Arc)):Option bQ:=
 ob (qH ([([116,97,117]:aQ)]:List aQ) d) fun f=>
 ob (aCU f) fun g=>
 ob (dW g) fun a=>
 ob (loop (fun (s:(List Edge × Int))=>aEF e a s.1 s.2) ([],0)) fun r=>aGI b c a r
def lE (a:List aQ):Option (List aQ):=
 some a
def bJ (b:(List (List aQ))) (c:List aQ) (a:Int):Option ((List aQ × Int) ⊕ (List aQ)):=
 if (decide (a < (b.length:Int))) then (ob (ix b a) fun d=>
 ob (qH c d) fun e=>
 some (.inl (e,wr (a+1)))) else (some (.inr c))
def eN (a:(List (List aQ))) (b:Int):Option (List aQ):=
 ob (aFf [] b) fun c=>
 ob (loop (fun (s:(List aQ × Int))=>bJ a s.1 s.2) (c,0)) fun r=>lE r
def dH (a b:Int):Option ((Int × Int) ⊕ Int):=
 some (.inl (b,wr (a+1)))
def bB (c:(List (List aQ))) (a b:Int):Option ((Int × Int) ⊕ Int):=
 if (decide (b < (c.length:Int))) then (ob (ix c b) fun d=>
 if (decide (wr (a+(d.length:Int)) < 0)) then (none) else (dH b (wr (a+(d.length:Int))))) else (some (.inr a))
def eB (a:(List (List aQ))):Option (List aQ):=
 ob (loop (fun (s:(Int × Int))=>bB a s.1 s.2) (0,0)) fun r=>eN a r
def aDz (a b:bQ) (e:List Arc):Option bQ:=
 ob (eB ([a.L,b.L]:List (List aQ))) fun f=>
 ob (i_lts (wr (a.N+b.N)) a.I f e) fun g=>
 some g
def aBB (a:bQ) (e:(List Arc)) (f:List Arc) (b:Int):Option ((List Arc × Int) ⊕ (List Arc)):=
 if (decide (b < (e.length:Int))) then (ob (ix e b) fun c=>
 ob (qH f ([⟨wr (c.from_+a.N),c.label,wr (c.to_+a.N)⟩]:List Arc)) fun g=>
 some (.inl (g,wr (b+1)))) else (some (.inr f))
def aGJ (a b:bQ):Option bQ:=
 ob (xX a) fun e=>
 ob (xX b) fun f=>
 ob (loop (fun (s:(List Arc × Int))=>aBB a f s.1 s.2) (e,0)) fun r=>aDz a b r
def aKJ (a b:bQ):Option (List Int):=
 ob (aGJ a b) fun c=>
 ob (pQ ⟨c.N,c.I,c.L,c.E⟩) fun f=>
 some f
def uH (a b:bQ) (e:Bool):Option (Bool × Int):=
 if e then (some (false,1)) else (ob (aKJ a b) fun f=>
 ob (wR a b f) fun g=>
 some (g,0))
def aDA (a b:bQ):Option (Bool × Int):=
 ob (rT a) fun e=>
 if (!e) then (uH a b true) else (ob (rT b) fun f=>
 uH a b (!f))
def wS (a b:bQ):Option (Bool × Int):=
 ob (aDA a b) fun c=>
 some (c.1,c.2)
def pC (b:(List bD)) (t:bQ):Option (Bool × Int):=
 ob (qO t ([b]:List (List bD))) fun c=>
 if (c != 0) then (some (false,c)) else (ob (pB b t 0) fun d=>
 ob (ix d t.I) fun e=>
 some (e,0))
def gN (a:Bool):Option Bool:=
 some a
def nN (c:(List bD)) (a:(bQ × bQ)) (f:((List Int) × Int)):Option Bool:=
 ob (wS a.1 a.2) fun d=>
 ob (pC c a.1) fun b=>
 ob (pC c a.2) fun e=>
 if (d.2 == 0) then (if (b.2 == 0) then (if (e.2 == 0) then (ob (aDy f.1 a.1.I) fun g=>
 if (b.1 == g) then (if (!d.1) then (gN true) else (gN (b.1 == e.1))) else (gN false)) else (gN false)) else (gN false)) else (gN false)
def qX (a:Int):Option (Int ⊕ (Unit ⊕ Bool)):=
 some (.inl (wr (a+1)))
def qY (a:Int):Option (Int ⊕ (Unit ⊕ Bool)):=
 qX a
def nO (a:Int) (b:Bool):Option (Int ⊕ (Unit ⊕ Bool)):=
 if b then (some (.inr (.inr false))) else (some (.inl (wr (a+1))))
def gO (c d:((List Int) × Int)) (b a:Int):Option (Int ⊕ (Unit ⊕ Bool)):=
 if (decide (a < b)) then (ob (ix c.1 b) fun e=>
 ob (ix c.1 a) fun f=>
 if (e == f) then (ob (aDy d.1 b) fun g=>
 ob (aDy d.1 a) fun h=>
 nO a (g != h)) else (nO a false)) else (some (.inr (.inl ())))
def gP (c d:((List Int) × Int)) (b:Int):Option (Int ⊕ (Unit ⊕ Bool)):=
 if (decide (b < (c.1.length:Int))) then (ob (loop (fun (s:Int)=>gO c d b s) 0) fun r=>match r with|.inl r=>qY b|.inr r=>some (.inr (.inr r))) else (some (.inr (.inl ())))
def kJ (c:(List bD)) (d:(bQ × bQ)) (e b:((List Int) × Int)) (f:Bool):Option Bool:=
 if f then (some false) else (ob (loop (fun (s:Int)=>gP e b s) 0) fun r=>match r with|.inl r=>nN c d b|.inr r=>some r)
def wT (e f:(List UInt8)):Option Bool:=
 ob (aEs e f) fun g=>
 if g then (some true) else (ob (aCh f) fun c=>
 ob (aGD e) fun a=>
 ob (qC ⟨a.1.N,a.1.I,a.1.L,a.1.E⟩) fun b=>
 ob (qE c a.1) fun d=>
 if (b.2 != 0) then (kJ c a b d true) else (if (d.2 != 0) then (kJ c a b d true) else (kJ c a b d ((b.1.length:Int) != a.1.N))))
end
end Gv
