/- Models of the functions, printed by program off their code. Plain Lean. -/
import Derived.Test.YtcoeckcjdpbbkaaGreatDoorJLM
set_option linter.all false
namespace Gv
noncomputable section
def aFY (a:List Int):Option ((List Int) × Bool):=
 some (a,true)
def yD (b:(List aH)) (c:List Int) (a:Int):Option ((List Int × Int) ⊕ (List Int ⊕ ((List Int) × Bool))):=
 if (decide (a < (b.length:Int))) then (ob (ix b a) fun e=>
 ob (zD e) fun d=>
 if (!d.2) then (some (.inr (.inr ([],false)))) else (ob (rZ c ([d.1]:List Int)) fun f=>
 some (.inl (f,wr (a+1))))) else (some (.inr (.inl c)))
def zJ (b:(List aH)):Option ((List Int) × Bool):=
 ob (loop (fun (s:(List Int × Int))=>yD b s.1 s.2) ([],0)) fun r=>match r with|.inl r=>aFY r|.inr r=>some r
def aGH (a:Bool):Option Bool:=
 some a
def aIm (c:UInt8):Option Bool:=
 if (decide (48<=(c.toNat:Int))) then (aGH (decide ((c.toNat:Int)<=57))) else (aGH false)
def aHH (a:Bool):Option Bool:=
 some a
def aFe (a:aH):Option Bool:=
 if (decide (1<=(a.length:Int))) then (aHH (decide ((a.length:Int)<=10))) else (aHH false)
def aCQ (a:Int) (b:Bool):Option (Int ⊕ (Unit ⊕ Bool)):=
 if b then (some (.inr (.inr false))) else (some (.inl (wr (a+1))))
def uI (b:aH) (a:Int) (c:Bool):Option (Int ⊕ (Unit ⊕ Bool)):=
 if (!c) then (if (a == 0) then (aCQ a true) else (ob (ix b a) fun d=>
 ob (aIm d) fun e=>
 aCQ a (!e))) else (aCQ a false)
def aAU (a:aH) (b:Int):Option (Int ⊕ (Unit ⊕ Bool)):=
 if (decide (b < (a.length:Int))) then (ob (ix a b) fun c45=>
 if (decide (97<=(c45.toNat:Int))) then (uI a b (decide ((c45.toNat:Int)<=122))) else (uI a b false)) else (some (.inr (.inl ())))
def aHI (b:aH):Option Bool:=
 ob (loop (fun (s:Int)=>aAU b s) 0) fun r=>match r with|.inl r=>aFe b|.inr r=>some r
def aCC (a:Bool):Option Bool:=
 some a
def aCo (a:aH):Option Bool:=
 ob (aHI a) fun b=>
 if b then (aCC (!(a == ([116,97,117]:aH)))) else (aCC false)
def aHJ (a:Bool):Option Bool:=
 some a
def zN (n low b:Int):Option Bool:=
 if (decide (low<=n)) then (aHJ (decide (n<=b))) else (aHJ false)
def aKr (n:Int):Option Bool:=
 ob (zN n 0 63) fun b=>
 some b
def aEl (n:Int):Option Bool:=
 ob (aKr n) fun b=>
 some (!b)
def oH:Option Int:=
 some (-1)
def dF (b:(List Int)) (a:Int):Option (Int ⊕ (Unit ⊕ Int)):=
 if (decide (a < (b.length:Int))) then (ob (ix b a) fun c=>
 ob (aEl c) fun d=>
 if d then (some (.inr (.inr a))) else (some (.inl (wr (a+1))))) else (some (.inr (.inl ())))
def fW (b:(List Int)):Option Int:=
 ob (loop (fun (s:Int)=>dF b s) 0) fun r=>match r with|.inl r=>oH|.inr r=>some r
def iT (a:(List Int)):Option Bool:=
 ob (fW a) fun b=>
 some (decide (0<=b))
def aFf (a:(List Int)):Option Bool:=
 ob (iT a) fun b=>
 some (!b)
def aHK (a:aH) (b:List aH):Option aH:=
 ob (aPA b a) fun c=>
 some c
def aCR (c:(List Int)) (b:List aH) (a:Int):Option ((List aH × Int) ⊕ (List aH)):=
 if (decide (a < (c.length:Int))) then (ob (ix c a) fun d=>
 ob (aFU d) fun e=>
 ob (ix b a) fun g=>
 ob (st b a (e:aH)) fun f=>
 some (.inl (f,wr (a+1)))) else (some (.inr b))
def aHL (a:(List Int)) (b:aH):Option aH:=
 ob (mkz (a.length:Int) ([]:aH)) fun c=>
 ob (loop (fun (s:(List aH × Int))=>aCR a s.1 s.2) (c,0)) fun r=>aHK b r
def aBp (a:aH) (b:(List Int)) (c:Bool):Option (aH × Bool):=
 if c then (some (([]:aH),false)) else (if ((b.length:Int) == 0) then (some (a,true)) else (ob (cat a ([40]:aH)) fun d=>
 ob (aHL b ([44]:aH)) fun e=>
 ob (cat d e) fun f=>
 ob (cat f ([41]:aH)) fun g=>
 some (g,true)))
def aFZ (b:aH) (a:(List Int)):Option (aH × Bool):=
 if (b == ([116,97,117]:aH)) then (some (([116,97,117]:aH),(a.length:Int) == 0)) else (ob (aCo b) fun c=>
 if (!c) then (aBp b a true) else (if (decide (2 < (a.length:Int))) then (aBp b a true) else (ob (aFf a) fun d=>
 aBp b a (!d))))
def fE (a:Bool):Option Bool:=
 some a
def gJ (a b:aH):Option Bool:=
 if (decide ((b.length:Int)<=(a.length:Int))) then (ob (qT a (wr ((a.length:Int) - (b.length:Int))) (a.length:Int)) fun c=>
 fE (c == b)) else (fE false)
def kD (a b:aH):Option aH:=
 ob (gJ a b) fun c=>
 if c then (ob (qT a 0 (wr ((a.length:Int) - (b.length:Int)))) fun d=>
 some d) else (some a)
def qY (a b:aH):Option aH:=
 ob (kD a b) fun c=>
 some c
def pK (a:(aH × aH × Bool)) (b:List Int) (c:Bool):Option (aH × (List Int) × Bool):=
 if c then (some (([]:aH),[],false)) else (some (a.1,b,true))
def mY (d:aH) (a:(aH × aH × Bool)) (b:List Int):Option (aH × (List Int) × Bool):=
 ob (aFZ a.1 b) fun c=>
 if (!c.2) then (pK a b true) else (pK a b (!(c.1 == d)))
def xC (b:aH):Option (aH × (List Int) × Bool):=
 ob (l_Cut b ([40]:aH)) fun a=>
 if a.2.2 then (ob (qY a.2.1 ([41]:aH)) fun d=>
 ob (aJG d ([44]:aH)) fun e=>
 ob (zJ e) fun c=>
 if (!c.2) then (some (([]:aH),[],false)) else (mY b a c.1)) else (mY b a [])
def aGa (a:aH):Option Bool:=
 ob (xC a) fun b=>
 some b.2.2
def aFg (a:Bool):Option Bool:=
 some a
def aHM (a b:(List UInt8)):Option Bool:=
 if (decide (1048576 < (a.length:Int))) then (aFg true) else (aFg (decide (1048576 < (b.length:Int))))
def aKs (a:(List UInt8)):Option (Int × Int):=
 some (0,0)
def aJL:Option Int:=
 some (-1)
def aDI (b:(List aH)) (c:aH) (a:Int):Option (Int ⊕ (Unit ⊕ Int)):=
 if (decide (a < (b.length:Int))) then (ob (ix b a) fun d=>
 if (d == c) then (some (.inr (.inr a))) else (some (.inl (wr (a+1))))) else (some (.inr (.inl ())))
def yE (b:(List aH)) (c:aH):Option Int:=
 ob (loop (fun (s:Int)=>aDI b c s) 0) fun r=>match r with|.inl r=>aJL|.inr r=>some r
def aJM (a:List aH):Option (List aH):=
 some a
def qZ (a:Int) (b:List aH):Option ((List aH × Int) ⊕ (List aH)):=
 some (.inl (b,wr (a+1)))
def aBq (c:Int) (d:aH) (a:Int) (b:List aH):Option ((List aH × Int) ⊕ (List aH)):=
 ob (ix b a) fun f=>
 ob (st b a (d:aH)) fun e=>
 qZ c e
def uL (c:Int) (b:List aH) (a:Int):Option ((List aH × Int) ⊕ (List aH)):=
 if (decide (c < a)) then (ob (ix b (wr (a - 1))) fun d=>
 ob (ix b a) fun f=>
 ob (st b a (d:aH)) fun e=>
 some (.inl (e,wr (a - 1)))) else (some (.inr b))
def aBr (c:List aH) (d:Int) (e:aH) (a:Int):Option ((List aH × Int) ⊕ (List aH)):=
 ob (rZ c ([([]:aH)]:List aH)) fun b=>
 ob (loop (fun (s:(List aH × Int))=>uL a s.1 s.2) (b,wr ((b.length:Int) - 1))) fun r=>aBq d e a r
def yF (a:Int) (b:Bool):Option (Int ⊕ Int):=
 if b then (some (.inl (wr (a+1)))) else (some (.inr a))
def mO (b:List aH) (c:aH) (a:Int):Option (Int ⊕ Int):=
 if (decide (a < (b.length:Int))) then (ob (ix b a) fun d=>
 yF a (wY d c)) else (yF a false)
def jJ (d:(List aH)) (a:List aH) (b:Int):Option ((List aH × Int) ⊕ (List aH)):=
 if (decide (b < (d.length:Int))) then (ob (ix d b) fun c=>
 ob (yE a c) fun e=>
 if (decide (0<=e)) then (qZ b a) else (ob (loop (fun (s:Int)=>mO a c s) 1) fun r=>aBr a b c r)) else (some (.inr a))
def aCp (a:(List aH)):Option (List aH):=
 ob (loop (fun (s:(List aH × Int))=>jJ a s.1 s.2) (([([116,97,117]:aH)]:List aH),0)) fun r=>aJM r
def aGb (a b:Edge):Option Bool:=
 if (a.F != b.F) then (some (decide (a.F < b.F))) else (if (a.B != b.B) then (some (decide (a.B < b.B))) else (some (decide (a.To < b.To))))
def aFh (e:Edge) (b:Int) (c:List Edge):Option (List Edge):=
 ob (ix c b) fun f=>
 ob (st c b (⟨e.F,e.B,e.To⟩:Edge)) fun d=>
 some d
def aCS (d:Int) (b:List Edge) (a:Int):Option ((List Edge × Int) ⊕ (List Edge)):=
 if (decide (d < a)) then (ob (ix b (wr (a - 1))) fun c=>
 ob (ix b a) fun f=>
 ob (st b a (⟨c.F,c.B,c.To⟩:Edge)) fun e=>
 some (.inl (e,wr (a - 1)))) else (some (.inr b))
def aAV (a:(List Edge)) (e:Edge) (b:Int) (f:Bool):Option (List Edge):=
 if f then (some a) else (ob (rZ a ([⟨0,0,0⟩]:List Edge)) fun c=>
 ob (loop (fun (s:(List Edge × Int))=>aCS b s.1 s.2) (c,wr ((c.length:Int) - 1))) fun r=>aFh e b r)
def aFi (b:(List Edge)) (e:Edge) (a:Int):Option (List Edge):=
 if (decide (0 < a)) then (ob (ix b (wr (a - 1))) fun d=>
 aAV b e a (decide ((d:Edge)=e))) else (aAV b e a false)
def aCT (a:Int) (b:Bool):Option (Int ⊕ Int):=
 if b then (some (.inl (wr (a - 1)))) else (some (.inr a))
def aAW (b:(List Edge)) (e:Edge) (a:Int):Option (Int ⊕ Int):=
 if (decide (0 < a)) then (ob (ix b (wr (a - 1))) fun d=>
 ob (aGb e d) fun f=>
 aCT a f) else (aCT a false)
def aHN (a:(List Edge)) (e:Edge):Option (List Edge):=
 ob (loop (fun (s:Int)=>aAW a e s) (a.length:Int)) fun r=>aFi a e r
def aJN (a b:Int) (c:(List aH)) (d:List Edge):Option aP:=
 some ⟨a,b,c,d⟩
def mP (e:(List aH)) (c:(List Edge)) (f:(List aH)) (d:List Edge) (a:Int):Option ((List Edge × Int) ⊕ (List Edge)):=
 if (decide (a < (c.length:Int))) then (ob (ix c a) fun b=>
 ob (ix e b.B) fun g=>
 ob (yE f g) fun h=>
 ob (aHN d ⟨b.F,h,b.To⟩) fun i=>
 some (.inl (i,wr (a+1)))) else (some (.inr d))
def qG (c d:Int) (a:(List aH)) (e:(List Edge)):Option aP:=
 ob (aCp a) fun b=>
 ob (loop (fun (s:(List Edge × Int))=>mP a e b s.1 s.2) (([]:List Edge),0)) fun r=>aJN c d b r
def aDJ (t:aP) (b:List aH) (c:List Edge):Option aP:=
 ob (qG t.N t.I b c) fun d=>
 some d
def yG (t:aP) (d:List aH) (e:List Edge) (b:Int):Option ((List aH × List Edge × Int) ⊕ (List aH × List Edge)):=
 if (decide (b < (t.E.length:Int))) then (ob (ix t.E b) fun c=>
 ob (ix t.L c.B) fun g=>
 ob (rZ d ([g]:List aH)) fun f=>
 ob (rZ e ([⟨c.F,wr ((f.length:Int) - 1),c.To⟩]:List Edge)) fun h=>
 some (.inl (f,h,wr (b+1)))) else (some (.inr (d,e)))
def aGc (t:aP):Option aP:=
 ob (loop (fun (s:(List aH × List Edge × Int))=>yG t s.1 s.2.1 s.2.2) (([([116,97,117]:aH)]:List aH),([]:List Edge),0)) fun r=>aDJ t r.1 r.2
def aGd (t:aP):Option aP:=
 ob (rZ ([]:List aH) t.L) fun b=>
 ob (rZ ([]:List Edge) t.E) fun c=>
 some ⟨t.N,t.I,b,c⟩
def aJd (a:Bool):Option Bool:=
 some a
def aBs (n low b:Int):Option Bool:=
 if (decide (low<=n)) then (aJd (decide (n<=b))) else (aJd false)
def aFB (a:Bool):Option Bool:=
 some a
def aEm (c:UInt8):Option Bool:=
 if (decide (97<=(c.toNat:Int))) then (aFB (decide ((c.toNat:Int)<=122))) else (aFB false)
def aFC (a:Bool):Option Bool:=
 some a
def aEn (c:UInt8):Option Bool:=
 if (decide (48<=(c.toNat:Int))) then (aFC (decide ((c.toNat:Int)<=57))) else (aFC false)
def aGI:Option Bool:=
 some true
def aDK (a:Int) (b:Bool):Option (Int ⊕ (Unit ⊕ Bool)):=
 if b then (some (.inr (.inr false))) else (some (.inl (wr (a+1))))
def aBt (b:aH) (a:Int):Option (Int ⊕ (Unit ⊕ Bool)):=
 if (decide (a < (b.length:Int))) then (ob (ix b a) fun c=>
 ob (aEm c) fun d=>
 if (!d) then (ob (aEn c) fun e=>
 aDK a (!e)) else (aDK a false)) else (some (.inr (.inl ())))
def uM (b:aH) (c:Bool):Option Bool:=
 if c then (some false) else (ob (loop (fun (s:Int)=>aBt b s) 0) fun r=>match r with|.inl r=>aGI|.inr r=>some r)
def aDS (a:aH):Option Bool:=
 if (a == ([]:aH)) then (uM a true) else (if (decide (10 < (a.length:Int))) then (uM a true) else (ob (ix a 0) fun b=>
 ob (aEm b) fun c=>
 uM a (!c)))
def aBu (a:Bool):Option Bool:=
 some a
def aAX (a:aH):Option Bool:=
 ob (aDS a) fun b=>
 if b then (aBu (!(a == ([116,97,117]:aH)))) else (aBu false)
def aJO (a:aH):Option Int:=
 some (a.length:Int)
def aDL (b:aH) (a:Int):Option (Int ⊕ (Unit ⊕ Int)):=
 if (decide (a < (b.length:Int))) then (ob (ix b a) fun c=>
 if ((c.toNat:Int) == 40) then (some (.inr (.inr a))) else (some (.inl (wr (a+1))))) else (some (.inr (.inl ())))
def aDT (b:aH):Option Int:=
 ob (loop (fun (s:Int)=>aDL b s) 0) fun r=>match r with|.inl r=>aJO b|.inr r=>some r
def aFD (a:aH) (b:List aH) (c:Int):Option (List aH):=
 ob (qT a c (a.length:Int)) fun d=>
 ob (rZ b ([d]:List aH)) fun e=>
 some e
def vQ (a:Int) (b:List aH) (c:Int):Option ((List aH × Int × Int) ⊕ (List aH × Int)):=
 some (.inl (b,c,wr (a+1)))
def aCD (b:aH) (e:UInt8) (c:List aH) (d a:Int):Option ((List aH × Int × Int) ⊕ (List aH × Int)):=
 if (decide (a < (b.length:Int))) then (ob (ix b a) fun f=>
 if ((f.toNat:Int) == (e.toNat:Int)) then (ob (qT b d a) fun g=>
 ob (rZ c ([g]:List aH)) fun h=>
 vQ a h (wr (a+1))) else (vQ a c d)) else (some (.inr (c,d)))
def aEo (a:aH) (c:UInt8):Option (List aH):=
 ob (loop (fun (s:(List aH × Int × Int))=>aCD a c s.1 s.2.1 s.2.2) (([]:List aH),0,0)) fun r=>aFD a r.1 r.2
def aEp (a:Int):Option (Int × Bool):=
 some (a,true)
def aBv (b a:Int):Option (Int × Bool):=
 if (b == 1) then (aEp (wr (0 - a))) else (aEp a)
def sY (b:aH) (c a:Int):Option ((Int × Int) ⊕ (Int ⊕ (Int × Bool))):=
 if (decide (a < (b.length:Int))) then (ob (ix b a) fun c45=>
 ob (aEn c45) fun d=>
 if (!d) then (some (.inr (.inr (0,false)))) else (some (.inl (wr ((wr (10 * c))+(wr ((c45 - (48:UInt8)).toNat:Int))),wr (a+1))))) else (some (.inr (.inl c)))
def mZ (c:aH) (b:Int) (d:Bool):Option (Int × Bool):=
 if d then (some (0,false)) else (ob (loop (fun (s:(Int × Int))=>sY c s.1 s.2) (0,b)) fun r=>match r with|.inl r=>aBv b r|.inr r=>some r)
def sZ (a:aH) (b:Int):Option (Int × Bool):=
 if ((a.length:Int) == b) then (mZ a b true) else (if (decide (18 < wr ((a.length:Int) - b))) then (mZ a b true) else (ob (ix a b) fun c=>
 if ((c.toNat:Int) == 48) then (mZ a b (decide (1 < (a.length:Int)))) else (mZ a b false)))
def xD (a:aH) (b:Bool):Option (Int × Bool):=
 if b then (sZ a 1) else (sZ a 0)
def aAY (a:aH):Option (Int × Bool):=
 if (decide (0 < (a.length:Int))) then (ob (ix a 0) fun b=>
 xD a ((b.toNat:Int) == 45)) else (xD a false)
def aEq (a:List Int):Option ((List Int) × Bool):=
 some (a,decide ((a.length:Int)<=2))
def aBw (a:List Int) (b:Int) (c:(Int × Bool)) (d:Bool):Option ((List Int × Int) ⊕ (List Int ⊕ ((List Int) × Bool))):=
 if d then (some (.inr (.inr ([],false)))) else (ob (rZ a ([c.1]:List Int)) fun e=>
 some (.inl (e,wr (b+1))))
def xE (d:(List aH)) (c:List Int) (a:Int):Option ((List Int × Int) ⊕ (List Int ⊕ ((List Int) × Bool))):=
 if (decide (a < (d.length:Int))) then (ob (ix d a) fun e=>
 ob (aAY e) fun b=>
 if (!b.2) then (aBw c a b true) else (ob (aBs b.1 0 63) fun f=>
 aBw c a b (!f))) else (some (.inr (.inl c)))
def tA (b:aH) (c:Int) (d:Bool):Option ((List Int) × Bool):=
 if d then (some ([],false)) else (ob (qT b (wr (c+1)) (wr ((b.length:Int) - 1))) fun e=>
 ob (aEo e (44:UInt8)) fun f=>
 ob (loop (fun (s:(List Int × Int))=>xE f s.1 s.2) (([]:List Int),0)) fun r=>match r with|.inl r=>aEq r|.inr r=>some r)
def aFj (a:aH):Option ((List Int) × Bool):=
 ob (aDT a) fun b=>
 if (b == (a.length:Int)) then (ob (aDS a) fun c=>
 some (([]:List Int),c)) else (ob (qT a 0 b) fun d=>
 ob (aAX d) fun e=>
 if (!e) then (tA a b true) else (ob (ix a (wr ((a.length:Int) - 1))) fun f=>
 tA a b ((f.toNat:Int) != 41)))
def aGJ (a:aH):Option Bool:=
 ob (aFj a) fun b=>
 some b.2
def aII:Option Bool:=
 some true
def vR (a:Int) (b:Bool):Option (Int ⊕ (Unit ⊕ Bool)):=
 if b then (some (.inr (.inr false))) else (some (.inl (wr (a+1))))
def zO (b:(List aH)) (a:Int):Option (Int ⊕ (Unit ⊕ Bool)):=
 if (decide (a < (b.length:Int))) then (ob (ix b a) fun c=>
 ob (aGJ c) fun d=>
 if (!d) then (vR a true) else (if (c == ([116,97,117]:aH)) then (vR a true) else (if (decide (1 < a)) then (ob (ix b (wr (a - 1))) fun e=>
 vR a (!wY e c)) else (vR a false)))) else (some (.inr (.inl ())))
def vS (b:(List aH)) (c:Bool):Option Bool:=
 if c then (some false) else (ob (loop (fun (s:Int)=>zO b s) 1) fun r=>match r with|.inl r=>aII|.inr r=>some r)
def aEr (a:(List aH)):Option Bool:=
 if ((a.length:Int) == 0) then (vS a true) else (if (decide (12 < (a.length:Int))) then (vS a true) else (ob (ix a 0) fun b=>
 vS a (!(b == ([116,97,117]:aH)))))
def aMz:Option Bool:=
 some true
def aGK (a:Int) (b:Bool):Option (Int ⊕ (Unit ⊕ Bool)):=
 if b then (some (.inr (.inr false))) else (some (.inl (wr (a+1))))
def aCq (t:aP) (a:Int) (c:Edge) (d:Bool):Option (Int ⊕ (Unit ⊕ Bool)):=
 if d then (some (.inr (.inr false))) else (if (decide (0 < a)) then (ob (ix t.E (wr (a - 1))) fun e=>
 ob (aGb e c) fun f=>
 aGK a (!f)) else (aGK a false))
def aEs (t:aP) (c:Int):Option (Int ⊕ (Unit ⊕ Bool)):=
 if (decide (c < (t.E.length:Int))) then (ob (ix t.E c) fun b=>
 ob (aBs b.F 0 (wr (t.N - 1))) fun d=>
 if (!d) then (aCq t c b true) else (ob (aBs b.To 0 (wr (t.N - 1))) fun e=>
 if (!e) then (aCq t c b true) else (ob (aBs b.B 0 (wr ((t.L.length:Int) - 1))) fun f=>
 aCq t c b (!f)))) else (some (.inr (.inl ())))
def aAH (t:aP) (c:Bool):Option Bool:=
 if c then (some false) else (ob (loop (fun (s:Int)=>aEs t s) 0) fun r=>match r with|.inl r=>aMz|.inr r=>some r)
def aJP (t:aP):Option Bool:=
 ob (aBs t.N 1 40) fun b=>
 if (!b) then (aAH t true) else (ob (aBs t.I 0 (wr (t.N - 1))) fun c=>
 if (!c) then (aAH t true) else (ob (aEr t.L) fun d=>
 if (!d) then (aAH t true) else (aAH t (decide (300 < (t.E.length:Int))))))
def aHO:Option Bool:=
 some true
def tB (a:Int) (b:Bool):Option (Int ⊕ (Unit ⊕ Bool)):=
 if b then (some (.inr (.inr false))) else (some (.inl (wr (a+1))))
def xF (t:aP) (a:Int):Option (Int ⊕ (Unit ⊕ Bool)):=
 if (decide (a < (t.E.length:Int))) then (ob (ix t.E a) fun c=>
 if (c.B == 0) then (tB a true) else (if (decide (0 < a)) then (ob (ix t.E (wr (a - 1))) fun d=>
 if (c.F == d.F) then (tB a (c.B == d.B)) else (tB a false)) else (tB a false))) else (some (.inr (.inl ())))
def aCU (t:aP):Option Bool:=
 ob (loop (fun (s:Int)=>xF t s) 0) fun r=>match r with|.inl r=>aHO|.inr r=>some r
def aDM (a:Bool):Option Bool:=
 some a
def aCr (t:aP):Option Bool:=
 ob (aJP t) fun b=>
 if b then (ob (aCU t) fun c=>
 aDM c) else (aDM false)
def aIJ:Option Bool:=
 some true
def zQ (a:Int) (b:Bool):Option (Int ⊕ (Unit ⊕ Bool)):=
 if b then (some (.inr (.inr false))) else (some (.inl (wr (a+1))))
def zU (b:(List Int)) (low d a:Int):Option (Int ⊕ (Unit ⊕ Bool)):=
 if (decide (a < (b.length:Int))) then (ob (ix b a) fun c=>
 ob (aBs c low d) fun e=>
 if (!e) then (zQ a true) else (if (decide (0 < a)) then (ob (ix b (wr (a - 1))) fun f=>
 zQ a (decide (c<=f))) else (zQ a false))) else (some (.inr (.inl ())))
def aEt (b:(List Int)) (low c:Int):Option Bool:=
 ob (loop (fun (s:Int)=>zU b low c s) 0) fun r=>match r with|.inl r=>aIJ|.inr r=>some r
def aHh:Option Bool:=
 some true
def aAs (b:(List aH)) (a:Int):Option (Int ⊕ (Unit ⊕ Bool)):=
 if (decide (a < (b.length:Int))) then (ob (ix b a) fun c=>
 ob (aAX c) fun d=>
 if (!d) then (some (.inr (.inr false))) else (some (.inl (wr (a+1))))) else (some (.inr (.inl ())))
def aBx (b:(List aH)):Option Bool:=
 ob (loop (fun (s:Int)=>aAs b s) 0) fun r=>match r with|.inl r=>aHh|.inr r=>some r
def aIK:Option Bool:=
 some true
def zV (b:(List aH)) (a:Int):Option (Int ⊕ (Unit ⊕ Bool)):=
 if (decide (a < (b.length:Int))) then (ob (ix b (wr (a - 1))) fun c=>
 ob (ix b a) fun d=>
 if (!wY c d) then (some (.inr (.inr false))) else (some (.inl (wr (a+1))))) else (some (.inr (.inl ())))
def zW (b:(List aH)) (c:Bool):Option Bool:=
 if c then (some false) else (ob (loop (fun (s:Int)=>zV b s) 1) fun r=>match r with|.inl r=>aIK|.inr r=>some r)
def aEu (a:(List aH)):Option Bool:=
 if (decide (12 < (a.length:Int))) then (zW a true) else (ob (aBx a) fun b=>
 zW a (!b))
def aEv (a:Bool):Option Bool:=
 some a
def aIn (p:aO):Option Bool:=
 ob (aCr p.S) fun b=>
 if b then (ob (aEt p.M 0 (wr (p.S.N - 1))) fun c=>
 if c then (ob (aEu p.C) fun d=>
 aEv d) else (aEv false)) else (aEv false)
def aHP (a:List Edge):Option (List Edge):=
 some a
def aCV (a:Int) (b:List Edge):Option ((List Edge × Int) ⊕ (List Edge)):=
 some (.inl (b,wr (a+1)))
def aCW (t:aP) (k:Int) (b:List Edge) (a:Int):Option ((List Edge × Int) ⊕ (List Edge)):=
 if (decide (a < (t.E.length:Int))) then (ob (ix t.E a) fun d=>
 if (d.F == k) then (ob (rZ b ([d]:List Edge)) fun f=>
 aCV a f) else (aCV a b)) else (some (.inr b))
def aGe (t:aP) (k:Int):Option (List Edge):=
 ob (loop (fun (s:(List Edge × Int))=>aCW t k s.1 s.2) (([]:List Edge),0)) fun r=>aHP r
def aGL (a:List Int):Option (List Int):=
 some a
def aBy (a:Int) (b:List Int):Option ((List Int × Int) ⊕ (List Int)):=
 some (.inl (b,wr (a+1)))
def aDN (t:aP) (b:List Int) (a:Int) (d:Bool):Option ((List Int × Int) ⊕ (List Int)):=
 if d then (ob (ix t.E a) fun e=>
 ob (rZ b ([e.To]:List Int)) fun f=>
 aBy a f) else (aBy a b)
def aBz (t:aP) (k f:Int) (c:List Int) (b:Int):Option ((List Int × Int) ⊕ (List Int)):=
 if (decide (b < (t.E.length:Int))) then (ob (ix t.E b) fun d=>
 if (d.F == k) then (aDN t c b (d.B == f)) else (aDN t c b false)) else (some (.inr c))
def aGf (t:aP) (k c:Int):Option (List Int):=
 ob (loop (fun (s:(List Int × Int))=>aBz t k c s.1 s.2) (([]:List Int),0)) fun r=>aGL r
def aJQ (d:aP) (k:Int) (f:aH):Option (Int × Bool):=
 ob (yE d.L f) fun c=>
 if (decide (c < 0)) then (some (k,true)) else (ob (aGf d k c) fun e=>
 if ((e.length:Int) == 0) then (some (0,false)) else (ob (ix e 0) fun g=>
 some (g,true)))
def aJR:Option Bool:=
 some true
def aDO (a b:(List Int)) (c:Int):Option (Int ⊕ (Unit ⊕ Bool)):=
 if (decide (c < (a.length:Int))) then (ob (ix a c) fun f=>
 ob (ix b c) fun g=>
 if (f != g) then (some (.inr (.inr false))) else (some (.inl (wr (c+1))))) else (some (.inr (.inl ())))
def aGg (a b:(List Int)):Option Bool:=
 if ((a.length:Int) != (b.length:Int)) then (some false) else (ob (loop (fun (s:Int)=>aDO a b s) 0) fun r=>match r with|.inl r=>aJR|.inr r=>some r)
def aLc:Option Int:=
 some (-1)
def aFk (rows:(List (List Int))) (b:(List Int)) (a:Int):Option (Int ⊕ (Unit ⊕ Int)):=
 if (decide (a < (rows.length:Int))) then (ob (ix rows a) fun c=>
 ob (aGg c b) fun d=>
 if d then (some (.inr (.inr a))) else (some (.inl (wr (a+1))))) else (some (.inr (.inl ())))
def aBA (rows:(List (List Int))) (b:(List Int)):Option Int:=
 ob (loop (fun (s:Int)=>aFk rows b s) 0) fun r=>match r with|.inl r=>aLc|.inr r=>some r
def zX (a:List (List Int)) (b:List Edge) (c:Bool):Option ((List (List Int)) × (List Edge) × Bool):=
 some (a,b,c)
def zY (a:List (List Int)) (b:List Edge):Option ((List (List Int)) × (List Edge) × Bool):=
 if (decide (40 < (a.length:Int))) then (zX a b true) else (zX a b (decide (300 < (b.length:Int))))
def aFE (a:Int) (b:List (List Int)) (c:List Edge):Option ((List (List Int) × List Edge × Int) ⊕ (List (List Int) × List Edge)):=
 some (.inl (b,c,wr (a+1)))
def aFF (a:Int) (b:List (List Int)) (c:List Edge):Option ((List (List Int) × List Edge × Int) ⊕ (List (List Int) × List Edge)):=
 aFE a b c
def sC (a:Int) (b:List (List Int)) (c:List Edge):Option ((List (List Int) × List Edge × Int) ⊕ (List (List Int) × List Edge)):=
 some (.inl (b,c,wr (a+1)))
def zZ (a:Int) (b:List Edge) (c:Int) (d:Edge) (e:List (List Int)) (f:Int):Option ((List (List Int) × List Edge × Int) ⊕ (List (List Int) × List Edge)):=
 ob (rZ b ([⟨a,d.B,f⟩]:List Edge)) fun g=>
 sC c e g
def vT (p:aO) (d:aP) (f:Int) (h:(List Edge)) (a:List (List Int)) (e:List Edge) (b:Int):Option ((List (List Int) × List Edge × Int) ⊕ (List (List Int) × List Edge)):=
 if (decide (b < (h.length:Int))) then (ob (ix a f) fun l=>
 ob (ix l 1) fun m=>
 ob (ix h b) fun c=>
 ob (ix p.S.L c.B) fun n=>
 ob (aJQ d m n) fun g=>
 if (!g.2) then (sC b a e) else (ob (aBA a ([c.To,g.1]:List Int)) fun i=>
 if (decide (i < 0)) then (ob (rZ a ([([c.To,g.1]:List Int)]:List (List Int))) fun o=>
 zZ f e b c o (a.length:Int)) else (zZ f e b c a i))) else (some (.inr (a,e)))
def aAa (p:aO) (d:aP) (a:List (List Int)) (e:List Edge) (b:Int):Option ((List (List Int) × List Edge × Int) ⊕ (List (List Int) × List Edge)):=
 if (decide (b < (a.length:Int))) then (ob (ix a b) fun h=>
 ob (ix h 0) fun i=>
 ob (aGe p.S i) fun j=>
 ob (loop (fun (s:(List (List Int) × List Edge × Int))=>vT p d b j s.1 s.2.1 s.2.2) (a,e,0)) fun r=>aFF b r.1 r.2) else (some (.inr (a,e)))
def aEw (p:aO) (d:aP):Option ((List (List Int)) × (List Edge) × Bool):=
 ob (loop (fun (s:(List (List Int) × List Edge × Int))=>aAa p d s.1 s.2.1 s.2.2) (([([p.S.I,d.I]:List Int)]:List (List Int)),[],0)) fun r=>zY r.1 r.2
def aIL (a:List Bool):Option (List Bool):=
 some a
def vU (n:Int) (b:List Bool) (a:Int):Option ((List Bool × Int) ⊕ (List Bool)):=
 if (decide (a < n)) then (ob (ix b a) fun e=>
 ob (st b a (true:Bool)) fun d=>
 some (.inl (d,wr (a+1)))) else (some (.inr b))
def aEx (n:Int):Option (List Bool):=
 ob (mkz n (false:Bool)) fun b=>
 ob (loop (fun (s:(List Bool × Int))=>vU n s.1 s.2) (b,0)) fun r=>aIL r
def aBB (a:aH):Option aH:=
 ob (aDT a) fun b=>
 ob (qT a 0 b) fun c=>
 some c
def aLd:Option Bool:=
 some false
def aFl (b:(List Int)) (n a:Int):Option (Int ⊕ (Unit ⊕ Bool)):=
 if (decide (a < (b.length:Int))) then (ob (ix b a) fun d=>
 if (d == n) then (some (.inr (.inr true))) else (some (.inl (wr (a+1))))) else (some (.inr (.inl ())))
def aHQ (b:(List Int)) (n:Int):Option Bool:=
 ob (loop (fun (s:Int)=>aFl b n s) 0) fun r=>match r with|.inl r=>aLd|.inr r=>some r
def aIM:Option Bool:=
 some true
def aCE (a b:(List Bool)) (c:Int):Option (Int ⊕ (Unit ⊕ Bool)):=
 if (decide (c < (a.length:Int))) then (ob (ix a c) fun f=>
 ob (ix b c) fun g=>
 if (f != g) then (some (.inr (.inr false))) else (some (.inl (wr (c+1))))) else (some (.inr (.inl ())))
def aEy (a b:(List Bool)):Option Bool:=
 ob (loop (fun (s:Int)=>aCE a b s) 0) fun r=>match r with|.inl r=>aIM|.inr r=>some r
def aDi (a b:(List Int)):Option Int:=
 if (decide ((a.length:Int) < (b.length:Int))) then (some (-1)) else (if (decide ((b.length:Int) < (a.length:Int))) then (some 1) else (some 0))
def vA (a b:(List Int)) (c:Int) (h:Bool):Option (Int ⊕ (Unit ⊕ Int)):=
 if h then (ob (ix a c) fun d=>
 ob (ix b c) fun e=>
 if (decide (d < e)) then (some (.inr (.inr (-1)))) else (if (decide (e < d)) then (some (.inr (.inr 1))) else (some (.inl (wr (c+1)))))) else (some (.inr (.inl ())))
def nX (a b:(List Int)) (c:Int):Option (Int ⊕ (Unit ⊕ Int)):=
 if (decide (c < (a.length:Int))) then (vA a b c (decide (c < (b.length:Int)))) else (vA a b c false)
def aBC (a b:(List Int)):Option Int:=
 ob (loop (fun (s:Int)=>nX a b s) 0) fun r=>match r with|.inl r=>aDi a b|.inr r=>some r
def aBD (a:List (List Int)):Option (List (List Int)):=
 some a
def aBE (b:(List Int)) (a:List (List Int)) (c:Bool):Option (List (List Int)):=
 if (!c) then (ob (rZ a ([b]:List (List Int))) fun d=>
 aBD d) else (aBD a)
def kL (a:Int) (b:(List Int)) (c:List (List Int)) (d:Bool):Option ((List (List Int) × Bool × Int) ⊕ (List (List Int) × Bool)):=
 ob (rZ c ([b]:List (List Int))) fun e=>
 some (.inl (e,d,wr (a+1)))
def tC (d:(List Int)) (a:List (List Int)) (e:Bool) (b:Int) (c:(List Int)) (f:Int) (g:Bool):Option ((List (List Int) × Bool × Int) ⊕ (List (List Int) × Bool)):=
 if g then (if (decide (0 < f)) then (ob (rZ a ([d]:List (List Int))) fun h=>
 kL b c h true) else (kL b c a true)) else (kL b c a e)
def xG (rows:(List (List Int))) (c:(List Int)) (d:List (List Int)) (a:Bool) (b:Int):Option ((List (List Int) × Bool × Int) ⊕ (List (List Int) × Bool)):=
 if (decide (b < (rows.length:Int))) then (ob (ix rows b) fun e=>
 ob (aBC e c) fun f=>
 if (!a) then (tC c d a b e f (decide (0<=f))) else (tC c d a b e f false)) else (some (.inr (d,a)))
def aCX (rows:(List (List Int))) (a:(List Int)):Option (List (List Int)):=
 ob (loop (fun (s:(List (List Int) × Bool × Int))=>xG rows a s.1 s.2.1 s.2.2) (([]:List (List Int)),false,0)) fun r=>aBE a r.1 r.2
def aIN:Option Int:=
 some (-1)
def aCF (b:(List Int)) (n a:Int):Option (Int ⊕ (Unit ⊕ Int)):=
 if (decide (a < (b.length:Int))) then (ob (ix b a) fun d=>
 if (d == n) then (some (.inr (.inr a))) else (some (.inl (wr (a+1))))) else (some (.inr (.inl ())))
def aAI (b:(List Int)) (n:Int):Option Int:=
 ob (loop (fun (s:Int)=>aCF b n s) 0) fun r=>match r with|.inl r=>aIN|.inr r=>some r
def aJS (a:(List Int)) (b:Int) (c:List aH) (d:List Edge):Option aP:=
 some ⟨(a.length:Int),b,c,d⟩
def uN (a:Int) (b:List Edge):Option ((List Edge × Int) ⊕ (List Edge)):=
 some (.inl (b,wr (a+1)))
def yH (a:List Edge) (b:Int) (c:Edge) (d e:Int) (f:Bool):Option ((List Edge × Int) ⊕ (List Edge)):=
 if f then (ob (rZ a ([⟨d,c.B,e⟩]:List Edge)) fun g=>
 uN b g) else (uN b a)
def yI (t:aP) (g:(List Int)) (c:List Edge) (a:Int):Option ((List Edge × Int) ⊕ (List Edge)):=
 if (decide (a < (t.E.length:Int))) then (ob (ix t.E a) fun b=>
 ob (aAI g b.F) fun d=>
 ob (aAI g b.To) fun e=>
 if (decide (0<=d)) then (yH c a b d e (decide (0<=e))) else (yH c a b d e false)) else (some (.inr c))
def aGh (t:aP) (b:(List Int)):Option aP:=
 ob (aAI b t.I) fun c=>
 ob (rZ ([]:List aH) t.L) fun d=>
 ob (loop (fun (s:(List Edge × Int))=>yI t b s.1 s.2) (([]:List Edge),0)) fun r=>aJS b c d r
def aIO (a:List Int):Option (List Int):=
 some a
def aAb (a:Int) (b:List Int):Option ((List Int × Int) ⊕ (List Int)):=
 some (.inl (b,wr (a+1)))
def aAc (t:aP) (d:List Bool) (b:List Int) (a:Int):Option ((List Int × Int) ⊕ (List Int)):=
 if (decide (a < t.N)) then (ob (ix d a) fun e=>
 if e then (ob (rZ b ([a]:List Int)) fun f=>
 aAb a f) else (aAb a b)) else (some (.inr b))
def aCG (t:aP) (b:List Bool):Option (List Int):=
 ob (loop (fun (s:(List Int × Int))=>aAc t b s.1 s.2) (([]:List Int),0)) fun r=>aIO r
def aFG (a:List Bool) (b:Bool):Option ((List Bool × Bool) ⊕ (List Bool)):=
 some (.inl (a,b))
def aIP (a:List Bool) (b:Bool):Option ((List Bool × Bool) ⊕ (List Bool)):=
 aFG a b
def sD (a:Int) (b:List Bool) (c:Bool):Option ((List Bool × Bool × Int) ⊕ (List Bool × Bool)):=
 some (.inl (b,c,wr (a+1)))
def sE (t:aP) (a:List Bool) (e:Bool) (b:Int) (f:Bool):Option ((List Bool × Bool × Int) ⊕ (List Bool × Bool)):=
 if f then (ob (ix t.E b) fun c=>
 ob (ix a c.To) fun h=>
 ob (st a c.To (true:Bool)) fun g=>
 sD b g true) else (sD b a e)
def aAd (t:aP) (a:List Bool) (d:Bool) (c:Int):Option ((List Bool × Bool × Int) ⊕ (List Bool × Bool)):=
 if (decide (c < (t.E.length:Int))) then (ob (ix t.E c) fun e=>
 ob (ix a e.F) fun f=>
 if f then (ob (ix a e.To) fun g=>
 sE t a d c (!g)) else (sE t a d c false)) else (some (.inr (a,d)))
def aEz (t:aP) (a:List Bool) (d:Bool):Option ((List Bool × Bool) ⊕ (List Bool)):=
 if d then (ob (loop (fun (s:(List Bool × Bool × Int))=>aAd t s.1 s.2.1 s.2.2) (a,false,0)) fun r=>aIP r.1 r.2) else (some (.inr a))
def aEA (t:aP):Option (List Int):=
 ob (mkz t.N (false:Bool)) fun b=>
 ob (ix b t.I) fun e=>
 ob (st b t.I (true:Bool)) fun c=>
 ob (loop (fun (s:(List Bool × Bool))=>aEz t s.1 s.2) (c,true)) fun r=>aCG t r
def tD (d:(List UInt8)) (b c a:Int):Option (Int × Int × Int):=
 if (decide (wr (b+1)<=(d.length:Int))) then (some (a,wr (b+1),rY ((rY ((rY (c * 6364136223846793005))+(rY a)))+1442695040888963407))) else (ob (shU (rY ((rY ((rY (c * 6364136223846793005))+(rY a)))+1442695040888963407)) 40) fun e=>
 some (wr (anU e 255),wr (b+1),rY ((rY ((rY (c * 6364136223846793005))+(rY a)))+1442695040888963407)))
def vV (a:(List UInt8)) (b c:Int):Option (Int × Int × Int):=
 if (decide (b < (a.length:Int))) then (ob (ix a b) fun d=>
 tD a b c (wr (d.toNat:Int))) else (tD a b c 0)
def tE (n b c d:Int):Option (Int × Int × Int):=
 ob (rm b n) fun e=>
 some (e,c,d)
def bO (d:(List UInt8)) (e f n:Int):Option (Int × Int × Int):=
 if (decide (n<=1)) then (some (0,e,f)) else (ob (vV d e f) fun a=>
 if (decide (200 < n)) then (ob (vV d a.2.1 a.2.2) fun c=>
 tE n (wr ((wr (a.1 * 256))+c.1)) c.2.1 c.2.2) else (tE n a.1 a.2.1 a.2.2))
def iH (b:(List UInt8)) (c d n:Int):Option (Bool × Int × Int):=
 ob (bO b c d n) fun a=>
 some (a.1 == 0,a.2.1,a.2.2)
def yJ (d:(List UInt8)) (e f:Int) (a:aP) (c:List Edge):Option (aP × Int × Int):=
 ob (iH d e f 2) fun b=>
 if b.1 then (ob (aGc ⟨a.N,a.I,a.L,c⟩) fun g=>
 some (g,b.2.1,b.2.2)) else (some (⟨a.N,a.I,a.L,c⟩,b.2.1,b.2.2))
def pA (a:Int) (b:List Edge):Option ((List Edge × Int) ⊕ (List Edge)):=
 some (.inl (b,wr (a+1)))
def jP (c:aP) (b:List Edge) (a:Int) (d:Bool):Option ((List Edge × Int) ⊕ (List Edge)):=
 if d then (ob (ix c.E a) fun e=>
 ob (rZ b ([e]:List Edge)) fun f=>
 pA a f) else (pA a b)
def pB (b:aP) (a:List Edge) (c:Int):Option ((List Edge × Int) ⊕ (List Edge)):=
 if (decide (c < (b.E.length:Int))) then (if ((a.length:Int) == 0) then (jP b a c true) else (ob (ix a (wr ((a.length:Int) - 1))) fun d=>
 ob (ix b.E c) fun e=>
 if (d.F != e.F) then (jP b a c true) else (jP b a c (d.B != e.B)))) else (some (.inr a))
def tF (b:(List UInt8)) (c:(Int × Int × Int)) (d e:Int) (f:List Edge):Option (aP × Int × Int):=
 ob (qG (wr (1+c.1)) 0 ([([116,97,117]:aH),([97]:aH),([98]:aH),([99]:aH),([103,101,116,40,48,41]:aH)]:List aH) f) fun a=>
 ob (loop (fun (s:(List Edge × Int))=>pB a s.1 s.2) (([]:List Edge),0)) fun r=>yJ b d e a r
def tG (a b c:Int) (d:List Edge):Option ((Int × Int × List Edge × Int) ⊕ (Int × Int × List Edge)):=
 some (.inl (b,c,d,wr (a+1)))
def yK (d:(List UInt8)) (e:(Int × Int × Int)) (a f g:Int) (c:List Edge):Option ((Int × Int × List Edge × Int) ⊕ (Int × Int × List Edge)):=
 ob (bO d f g 3) fun b=>
 if (decide (0 < b.1)) then (ob (rm a 3) fun h=>
 ob (rm (wr (a+1)) (wr (1+e.1))) fun i=>
 ob (rZ c ([⟨a,wr (1+h),i⟩]:List Edge)) fun j=>
 tG a b.2.1 b.2.2 j) else (tG a b.2.1 b.2.2 c)
def pC (a b c:Int) (d:List Edge):Option ((Int × Int × List Edge × Int) ⊕ (Int × Int × List Edge)):=
 some (.inl (b,c,d,wr (a+1)))
def pD (e:(List UInt8)) (i j:(Int × Int × Int)) (k g h:Int) (d:List Edge) (a:Int):Option ((Int × Int × List Edge × Int) ⊕ (Int × Int × List Edge)):=
 if (decide (a < 5)) then (ob (bO e g h (wr (2+j.1))) fun b=>
 if (b.1 == 0) then (pC a b.2.1 b.2.2 d) else (ob (iH e b.2.1 b.2.2 3) fun c=>
 if c.1 then (ob (bO e c.2.1 c.2.2 (wr (1+i.1))) fun f=>
 ob (rZ d ([⟨k,a,f.1⟩]:List Edge)) fun l=>
 pC a f.2.1 f.2.2 l) else (pC a c.2.1 c.2.2 d))) else (some (.inr (g,h,d)))
def nH (d:(List UInt8)) (a h:(Int × Int × Int)) (e f:Int) (g:List Edge) (b:Int):Option ((Int × Int × List Edge × Int) ⊕ (Int × Int × List Edge)):=
 if (decide (b < wr (1+a.1))) then (ob (loop (fun (s:(Int × Int × List Edge × Int))=>pD d a h b s.1 s.2.1 s.2.2.1 s.2.2.2) (e,f,g,1)) fun r=>yK d a b r.1 r.2.1 r.2.2) else (some (.inr (e,f,g)))
def mQ (a:(List UInt8)) (e f g:Int):Option (aP × Int × Int):=
 ob (bO a e f g) fun b=>
 ob (bO a b.2.1 b.2.2 2) fun c=>
 ob (loop (fun (s:(Int × Int × List Edge × Int))=>nH a b c s.1 s.2.1 s.2.2.1 s.2.2.2) (c.2.1,c.2.2,([]:List Edge),0)) fun r=>tF a b r.1 r.2.1 r.2.2
def aEB (a:(aP × Int × Int)) (b:List Int) (c:List aH) (d e:Int):Option (aO × Int × Int):=
 some (⟨⟨a.1.N,a.1.I,a.1.L,a.1.E⟩,b,c⟩,d,e)
def xH (a b c:Int) (d:List aH):Option ((Int × Int × List aH × Int) ⊕ (List aH × Int × Int)):=
 some (.inl (b,c,d,wr (a+1)))
def tH (f:(List UInt8)) (d e:Int) (c:List aH) (b:Int):Option ((Int × Int × List aH × Int) ⊕ (List aH × Int × Int)):=
 if (decide (b < (([([97]:aH),([98]:aH),([99]:aH),([103,101,116]:aH)]:List aH).length:Int))) then (ob (bO f d e 5) fun a=>
 if (decide (1 < a.1)) then (ob (ix ([([97]:aH),([98]:aH),([99]:aH),([103,101,116]:aH)]:List aH) b) fun g=>
 ob (rZ c ([g]:List aH)) fun h=>
 xH b a.2.1 a.2.2 h) else (xH b a.2.1 a.2.2 c)) else (some (.inr (c,d,e)))
def aBF (b:(List UInt8)) (c:(aP × Int × Int)) (d e:Int) (f:List Int):Option (aO × Int × Int):=
 ob (loop (fun (s:(Int × Int × List aH × Int))=>tH b s.1 s.2.1 s.2.2.1 s.2.2.2) (d,e,([]:List aH),0)) fun r=>aEB c f r.1 r.2.1 r.2.2
def xI (a b c:Int) (d:List Int):Option ((Int × Int × List Int × Int) ⊕ (Int × Int × List Int)):=
 some (.inl (b,c,d,wr (a+1)))
def tI (f:(List UInt8)) (g:(aP × Int × Int)) (d e:Int) (c:List Int) (b:Int):Option ((Int × Int × List Int × Int) ⊕ (Int × Int × List Int)):=
 if (decide (b < g.1.N)) then (ob (iH f d e 2) fun a=>
 if a.1 then (ob (rZ c ([b]:List Int)) fun h=>
 xI b a.2.1 a.2.2 h) else (xI b a.2.1 a.2.2 c)) else (some (.inr (d,e,c)))
def aCY (b:(List UInt8)) (d e:Int):Option (aO × Int × Int):=
 ob (mQ b d e 5) fun a=>
 ob (loop (fun (s:(Int × Int × List Int × Int))=>tI b a s.1 s.2.1 s.2.2.1 s.2.2.2) (a.2.1,a.2.2,([]:List Int),0)) fun r=>aBF b a r.1 r.2.1 r.2.2
def wJ (a b:Int) (c:List aH):Option ((List aH) × Int × Int):=
 some (c,a,b)
def wK (a:List aH) (b c:Int):Option ((List aH) × Int × Int):=
 if ((a.length:Int) == 1) then (ob (rZ a ([([97]:aH)]:List aH)) fun d=>
 wJ b c d) else (wJ b c a)
def kM (a b c:Int) (d:List aH):Option ((Int × Int × List aH × Int) ⊕ (List aH × Int × Int)):=
 some (.inl (b,c,d,wr (a+1)))
def rA (b:List aH) (a c d:Int) (e:Bool):Option ((Int × Int × List aH × Int) ⊕ (List aH × Int × Int)):=
 if e then (ob (ix ([([97]:aH),([98]:aH),([99]:aH),([103,101,116,40,48,41]:aH),([103,101,116,40,49,41]:aH)]:List aH) a) fun f=>
 ob (rZ b ([f]:List aH)) fun g=>
 kM a c d g) else (kM a c d b)
def nI (f:(List UInt8)) (d e:Int) (b:List aH) (c:Int):Option ((Int × Int × List aH × Int) ⊕ (List aH × Int × Int)):=
 if (decide (c < (([([97]:aH),([98]:aH),([99]:aH),([103,101,116,40,48,41]:aH),([103,101,116,40,49,41]:aH)]:List aH).length:Int))) then (ob (iH f d e 2) fun a=>
 if a.1 then (rA b c a.2.1 a.2.2 (decide ((b.length:Int) < 4))) else (rA b c a.2.1 a.2.2 false)) else (some (.inr (b,d,e)))
def xJ (b:(List UInt8)) (c d:Int):Option ((List aH) × Int × Int):=
 ob (loop (fun (s:(Int × Int × List aH × Int))=>nI b s.1 s.2.1 s.2.2.1 s.2.2.2) (c,d,([([116,97,117]:aH)]:List aH),0)) fun r=>wK r.1 r.2.1 r.2.2
def aBG (c:(List UInt8)) (d e:Int) (b:(List Int)):Option (Int × Int × Int):=
 ob (bO c d e (b.length:Int)) fun a=>
 ob (ix b a.1) fun f=>
 some (f,a.2.1,a.2.2)
def xK (d:(List UInt8)) (b c:(Int × Int × Int)) (e:((List aH) × Int × Int)) (f g:Int) (h:List Edge):Option (aP × Int × Int):=
 ob (bO d f g (wr ((wr (1+b.1))+c.1))) fun a=>
 ob (qG (wr ((wr (1+b.1))+c.1)) a.1 e.1 h) fun i=>
 some (i,a.2.1,a.2.2)
def xL (a:(List UInt8)) (c d:(Int × Int × Int)) (e:((List aH) × Int × Int)) (j k:Int) (i:List Edge):Option (aP × Int × Int):=
 ob (iH a j k 3) fun b=>
 if b.1 then (ob (bO a b.2.1 b.2.2 (wr ((wr (1+c.1))+d.1))) fun f=>
 ob (bO a f.2.1 f.2.2 (e.1.length:Int)) fun g=>
 ob (bO a g.2.1 g.2.2 (wr ((wr (1+c.1))+d.1))) fun h=>
 ob (rZ i ([⟨f.1,g.1,h.1⟩]:List Edge)) fun l=>
 xK a c d e h.2.1 h.2.2 l) else (xK a c d e b.2.1 b.2.2 i)
def aBH (a b c:Int) (d:List Edge):Option ((Int × Int × List Edge × Int) ⊕ (Int × Int × List Edge)):=
 some (.inl (b,c,d,wr (a - 1)))
def aBI (a b c:Int) (d:List Edge):Option ((Int × Int × List Edge × Int) ⊕ (Int × Int × List Edge)):=
 aBH a b c d
def xM (a b c:Int) (d:List Edge):Option ((Int × Int × List Edge × Int) ⊕ (Int × Int × List Edge)):=
 some (.inl (b,c,d,wr (a+1)))
def xN (c:(List UInt8)) (d:(Int × Int × Int)) (e f:Int) (g:List Edge) (b:Int) (h:List Int):Option ((Int × Int × List Edge × Int) ⊕ (Int × Int × List Edge)):=
 ob (aBG c e f h) fun a=>
 ob (rZ g ([⟨b,d.1,a.1⟩]:List Edge)) fun i=>
 xM b a.2.1 a.2.2 i
def xO (a:Int) (b:List Int):Option ((List Int × Int) ⊕ (List Int)):=
 some (.inl (b,wr (a+1)))
def nA (c d:(Int × Int × Int)) (e:List Int) (f:(Int × Int × Int)) (b:List Int) (a:Int):Option ((List Int × Int) ⊕ (List Int)):=
 if (decide (a < wr ((wr (1+c.1))+d.1))) then (ob (ix e a) fun g=>
 if (g == f.1) then (ob (rZ b ([a]:List Int)) fun h=>
 xO a h) else (xO a b)) else (some (.inr b))
def tJ (h:(List UInt8)) (e f:(Int × Int × Int)) (g:List Int) (i j k:(Int × Int × Int)) (b c:Int) (d:List Edge) (a:Int):Option ((Int × Int × List Edge × Int) ⊕ (Int × Int × List Edge)):=
 if (decide (a < wr ((wr (1+e.1))+f.1))) then (ob (ix g a) fun l=>
 if (l != i.1) then (xM a b c d) else (ob (loop (fun (s:(List Int × Int))=>nA e f g k s.1 s.2) (([]:List Int),0)) fun r=>xN h j b c d a r)) else (some (.inr (b,c,d)))
def qH (a:(List UInt8)) (b k:(Int × Int × Int)) (l:((List aH) × Int × Int)) (m:List Int) (g h:Int) (i:List Edge) (j:Int):Option ((Int × Int × List Edge × Int) ⊕ (Int × Int × List Edge)):=
 if (decide (0 < j)) then (ob (bO a g h (wr (1+b.1))) fun c=>
 ob (bO a c.2.1 c.2.2 (l.1.length:Int)) fun d=>
 ob (bO a d.2.1 d.2.2 (wr (1+b.1))) fun e=>
 ob (loop (fun (s:(Int × Int × List Edge × Int))=>tJ a b k m c d e s.1 s.2.1 s.2.2.1 s.2.2.2) (e.2.1,e.2.2,i,0)) fun r=>aBI j r.1 r.2.1 r.2.2) else (some (.inr (g,h,i)))
def vB (a:(List UInt8)) (b e:(Int × Int × Int)) (f:((List aH) × Int × Int)) (g h:Int) (i:List Int):Option (aP × Int × Int):=
 ob (bO a g h (wr (2+(wr (2 * (wr (1+b.1))))))) fun c=>
 ob (loop (fun (s:(Int × Int × List Edge × Int))=>qH a b e f i s.1 s.2.1 s.2.2.1 s.2.2.2) (c.2.1,c.2.2,([]:List Edge),c.1)) fun r=>xL a b e f r.1 r.2.1 r.2.2
def qI (a b c:Int) (d:List Int):Option ((Int × Int × List Int × Int) ⊕ (Int × Int × List Int)):=
 some (.inl (b,c,d,wr (a+1)))
def qJ (g:(List UInt8)) (b h:(Int × Int × Int)) (c d:Int) (e:List Int) (a:Int):Option ((Int × Int × List Int × Int) ⊕ (Int × Int × List Int)):=
 if (decide (a < wr ((wr (1+b.1))+h.1))) then (if (decide (a < wr (1+b.1))) then (ob (rZ e ([a]:List Int)) fun i=>
 qI a c d i) else (ob (bO g c d (wr (1+b.1))) fun f=>
 ob (rZ e ([f.1]:List Int)) fun j=>
 qI a f.2.1 f.2.2 j)) else (some (.inr (c,d,e)))
def aCZ (a:(List UInt8)) (f g:Int):Option (aP × Int × Int):=
 ob (bO a f g 4) fun b=>
 ob (bO a b.2.1 b.2.2 (wr (7 - (wr (1+b.1))))) fun c=>
 ob (xJ a c.2.1 c.2.2) fun d=>
 ob (loop (fun (s:(Int × Int × List Int × Int))=>qJ a b c s.1 s.2.1 s.2.2.1 s.2.2.2) (d.2.1,d.2.2,([]:List Int),0)) fun r=>vB a b c d r.1 r.2.1 r.2.2
def lT (c:(List UInt8)) (p:aO) (g h:Int) (j:Bool):Option (aP × Int × Int):=
 if j then (ob (aGd p.S) fun a=>
 ob (bO c g h (a.E.length:Int)) fun d=>
 ob (qT a.E 0 d.1) fun k=>
 ob (qT a.E (wr (d.1+1)) (a.E.length:Int)) fun l=>
 ob (rZ k l) fun m=>
 some (⟨a.N,a.I,a.L,m⟩,d.2.1,d.2.2)) else (ob (mQ c g h 3) fun e=>
 ob (iH c e.2.1 e.2.2 16) fun b=>
 if b.1 then (ob (aCZ c b.2.1 b.2.2) fun f=>
 some (f.1,f.2.1,f.2.2)) else (some (e.1,b.2.1,b.2.2)))
def aAe (c:(List UInt8)) (d e:Int) (p:aO):Option (aP × Int × Int):=
 ob (iH c d e 3) fun a=>
 if a.1 then (ob (aIn p) fun f=>
 if f then (lT c p a.2.1 a.2.2 (decide (0 < (p.S.E.length:Int)))) else (lT c p a.2.1 a.2.2 false)) else (lT c p a.2.1 a.2.2 false)
def aAf (a:List Int):Option (List Int):=
 some a
def gB (a:Int) (b:List Int):Option ((List Int × Int) ⊕ (List Int)):=
 some (.inl (b,wr (a+1)))
def gC (e:aO) (f:aP) (g:(List Int)) (c:(List Edge)) (b:List Int) (a:Int):Option ((List Int × Int) ⊕ (List Int)):=
 if (decide (a < (c.length:Int))) then (ob (ix g 1) fun h=>
 ob (ix c a) fun d=>
 ob (ix e.S.L d.B) fun i=>
 ob (aJQ f h i) fun j=>
 if (!j.2) then (ob (rZ b ([d.B]:List Int)) fun k=>
 gB a k) else (gB a b)) else (some (.inr b))
def lJ (a:aO) (c:aP) (d:(List (List Int))) (i:(List Edge)) (j:Bool) (e:Int):Option (List Int):=
 ob (ix d e) fun b=>
 ob (ix b 0) fun f=>
 ob (aGe a.S f) fun g=>
 ob (loop (fun (s:(List Int × Int))=>gC a c b g s.1 s.2) (([]:List Int),0)) fun r=>aAf r
def jG (a:aO) (f:aP) (g:(List (List Int))) (h:(List Edge)) (i:Bool) (b:Int):Option Bool:=
 ob (ix a.S.L b) fun c=>
 ob (aBB c) fun d=>
 ob (yE a.C d) fun e=>
 some (decide (0<=e))
def aBJ:Option Int:=
 some (-1)
def kN (d:aO) (e:aP) (f:(List (List Int))) (g:(List Edge)) (h:Bool) (b:(List Int)) (a:Int):Option (Int ⊕ (Unit ⊕ Int)):=
 if (decide (a < (b.length:Int))) then (ob (ix b a) fun c=>
 ob (jG d e f g h c) fun i=>
 if (!i) then (some (.inr (.inr c))) else (some (.inl (wr (a+1))))) else (some (.inr (.inl ())))
def oI (b:aO) (c:aP) (d:(List (List Int))) (e:(List Edge)) (f:Bool) (g:Int):Option Int:=
 ob (lJ b c d e f g) fun h=>
 ob (loop (fun (s:Int)=>kN b c d e f h s) 0) fun r=>match r with|.inl r=>aBJ|.inr r=>some r
def aDj (a:List Bool):Option ((List Bool) ⊕ (List Bool)):=
 some (.inl a)
def aDk (a b:List Bool):Option ((List Bool) ⊕ (List Bool)):=
 ob (aEy b a) fun c=>
 if c then (some (.inr a)) else (aDj b)
def nY (a:Int) (b:List Bool):Option ((List Bool × Int) ⊕ (List Bool)):=
 some (.inl (b,wr (a+1)))
def nZ (a:List Bool) (b:Int) (c:Edge) (d:Bool):Option ((List Bool × Int) ⊕ (List Bool)):=
 if d then (ob (ix a c.F) fun f=>
 ob (st a c.F (false:Bool)) fun e=>
 nY b e) else (nY b a)
def qK (e:aO) (f:aP) (g:(List (List Int))) (c:(List Edge)) (h:Bool) (i d:List Bool) (a:Int):Option ((List Bool × Int) ⊕ (List Bool)):=
 if (decide (a < (c.length:Int))) then (ob (ix c a) fun b=>
 ob (ix i b.To) fun j=>
 if (!j) then (ob (jG e f g c h b.B) fun k=>
 nZ d a b (!k)) else (nZ d a b false)) else (some (.inr d))
def aAt (b:aO) (c:aP) (d:(List (List Int))) (e:(List Edge)) (f:Bool) (g a:List Bool):Option ((List Bool) ⊕ (List Bool)):=
 ob (rZ ([]:List Bool) a) fun h=>
 ob (loop (fun (s:(List Bool × Int))=>qK b c d e f a s.1 s.2) (h,0)) fun r=>aDk g r
def aDl (a:List Bool) (b:Bool):Option ((List Bool × Bool) ⊕ (List Bool)):=
 some (.inl (a,b))
def aHi (a:List Bool) (b:Bool):Option ((List Bool × Bool) ⊕ (List Bool)):=
 aDl a b
def vC (a:Int) (b:List Bool) (c:Bool):Option ((List Bool × Bool × Int) ⊕ (List Bool × Bool)):=
 some (.inl (b,c,wr (a+1)))
def lU (a:List Bool) (d:Bool) (b:Int) (c:Edge) (e:Bool):Option ((List Bool × Bool × Int) ⊕ (List Bool × Bool)):=
 if e then (ob (ix a c.F) fun g=>
 ob (st a c.F (true:Bool)) fun f=>
 vC b f true) else (vC b a d)
def tK (e:(List Edge)) (f b:List Bool) (d:Bool) (c:Int):Option ((List Bool × Bool × Int) ⊕ (List Bool × Bool)):=
 if (decide (c < (e.length:Int))) then (ob (ix e c) fun a=>
 ob (ix f a.F) fun g=>
 if g then (ob (ix f a.To) fun h=>
 if h then (ob (ix b a.To) fun i=>
 if i then (ob (ix b a.F) fun j=>
 lU b d c a (!j)) else (lU b d c a false)) else (lU b d c a false)) else (lU b d c a false)) else (some (.inr (b,d)))
def yL (c:(List Edge)) (d a:List Bool) (e:Bool):Option ((List Bool × Bool) ⊕ (List Bool)):=
 if e then (ob (loop (fun (s:(List Bool × Bool × Int))=>tK c d s.1 s.2.1 s.2.2) (a,false,0)) fun r=>aHi r.1 r.2) else (some (.inr a))
def yM (c:aO) (d:aP) (e:(List (List Int))) (a:(List Edge)) (f:Bool) (b g:List Bool):Option ((List Bool) ⊕ (List Bool)):=
 ob (loop (fun (s:(List Bool × Bool))=>yL a b s.1 s.2) (g,true)) fun r=>aAt c d e a f b r
def tL (a:Int) (b:List Bool):Option ((List Bool × Int) ⊕ (List Bool)):=
 some (.inl (b,wr (a+1)))
def pE (d:aO) (e:(List (List Int))) (c b:List Bool) (a:Int):Option ((List Bool × Int) ⊕ (List Bool)):=
 if (decide (a < (c.length:Int))) then (ob (ix c a) fun f=>
 if f then (ob (ix e a) fun g=>
 ob (ix g 0) fun h=>
 ob (aHQ d.M h) fun i=>
 ob (ix b a) fun l=>
 ob (st b a (i:Bool)) fun j=>
 tL a j) else (ob (ix b a) fun m=>
 ob (st b a (false:Bool)) fun k=>
 tL a k)) else (some (.inr b))
def tM (b:aO) (d:aP) (c:(List (List Int))) (e:(List Edge)) (f:Bool) (a:List Bool):Option ((List Bool) ⊕ (List Bool)):=
 ob (mkz (a.length:Int) (false:Bool)) fun g=>
 ob (loop (fun (s:(List Bool × Int))=>pE b c a s.1 s.2) (g,0)) fun r=>yM b d c e f a r
def tN (a:aO) (b:aP) (c:(List (List Int))) (d:(List Edge)) (e:Bool) (f:List Bool):Option (List Bool):=
 ob (loop (fun (s:List Bool)=>tM a b c d e s) f) fun r=>some r
def pF (c:aO) (d:aP) (e:(List (List Int))) (f:(List Edge)) (g:Bool) (b:List Bool) (a:Int):Option ((List Bool × Int) ⊕ (List Bool)):=
 if (decide (a < (b.length:Int))) then (ob (oI c d e f g a) fun h=>
 ob (ix b a) fun j=>
 ob (st b a (decide (h < 0):Bool)) fun i=>
 some (.inl (i,wr (a+1)))) else (some (.inr b))
def aBK (b:aO) (c:aP) (a:(List (List Int))) (d:(List Edge)) (e:Bool):Option (List Bool):=
 ob (aEx (a.length:Int)) fun f=>
 ob (loop (fun (s:(List Bool × Int))=>pF b c a d e s.1 s.2) (f,0)) fun r=>tN b c a d e r
def kO (b:aO) (c:(List (List Int))) (a:List (List Int)) (d:List Edge):Option (aP × (List (List Int))):=
 ob (ix c 0) fun e=>
 ob (aBA a e) fun f=>
 ob (qG (a.length:Int) f b.S.L d) fun g=>
 some (g,a)
def fI (a:Int) (b:List Edge):Option ((List Edge × Int) ⊕ (List Edge)):=
 some (.inl (b,wr (a+1)))
def fJ (b:(List (List Int))) (c:List (List Int)) (d:List Edge) (e:Int) (a:Edge) (f:Bool):Option ((List Edge × Int) ⊕ (List Edge)):=
 if f then (ob (ix b a.F) fun g=>
 ob (ix b a.To) fun h=>
 ob (aBA c g) fun i=>
 ob (aBA c h) fun j=>
 ob (rZ d ([⟨i,a.B,j⟩]:List Edge)) fun k=>
 fI e k) else (fI e d)
def dN (d:(List (List Int))) (e:(List Edge)) (f:(List Bool)) (g:List (List Int)) (c:List Edge) (a:Int):Option ((List Edge × Int) ⊕ (List Edge)):=
 if (decide (a < (e.length:Int))) then (ob (ix e a) fun b=>
 ob (ix f b.F) fun h=>
 if h then (ob (ix f b.To) fun i=>
 fJ d g c a b i) else (fJ d g c a b false)) else (some (.inr c))
def kP (c:aO) (a:(List (List Int))) (d:(List Edge)) (e:(List Bool)) (b:List (List Int)):Option (aP × (List (List Int))):=
 ob (loop (fun (s:(List Edge × Int))=>dN a d e b s.1 s.2) (([]:List Edge),0)) fun r=>kO c a b r
def iI (a:Int) (b:List (List Int)):Option ((List (List Int) × Int) ⊕ (List (List Int))):=
 some (.inl (b,wr (a+1)))
def iJ (c:(List (List Int))) (d:(List Bool)) (b:List (List Int)) (a:Int):Option ((List (List Int) × Int) ⊕ (List (List Int))):=
 if (decide (a < (c.length:Int))) then (ob (ix d a) fun e=>
 if e then (ob (ix c a) fun f=>
 ob (aCX b f) fun g=>
 iI a g) else (iI a b)) else (some (.inr b))
def oJ (c:aO) (f:aP) (a:(List (List Int))) (d:(List Edge)) (g:Bool) (b:(List Bool)):Option (aP × (List (List Int))):=
 ob (loop (fun (s:(List (List Int) × Int))=>iJ a b s.1 s.2) (([]:List (List Int)),0)) fun r=>kP c a d b r
def yN (a:aP) (b:List Edge) (c d:Int):Option (aP × Int × Int):=
 some (⟨a.N,a.I,a.L,b⟩,c,d)
def pG (e:(List UInt8)) (a:aP) (c d:Int) (f:Bool):Option (aP × Int × Int):=
 if f then (ob (bO e c d (a.E.length:Int)) fun b=>
 ob (qT a.E 0 b.1) fun g=>
 ob (qT a.E (wr (b.1+1)) (a.E.length:Int)) fun h=>
 ob (rZ g h) fun i=>
 yN a i b.2.1 b.2.2) else (yN a a.E c d)
def lV (b:(List UInt8)) (p:aO) (j:aP) (f g:Int) (c:((List (List Int)) × (List Edge) × Bool)) (k:(List Bool)) (l:Bool):Option (aP × Int × Int):=
 if l then (ob (mQ b f g 3) fun d=>
 some (d.1,d.2.1,d.2.2)) else (ob (oJ p j c.1 c.2.1 c.2.2 k) fun h=>
 ob (aEA h.1) fun m=>
 ob (aGh h.1 m) fun e=>
 ob (iH b f g 3) fun a=>
 if a.1 then (pG b e a.2.1 a.2.2 (decide (0 < (e.E.length:Int)))) else (pG b e a.2.1 a.2.2 false))
def pH (d:(List UInt8)) (p:aO) (c:aP) (e f:Int) (i:Bool):Option (aP × Int × Int):=
 if i then (ob (aAe d e f p) fun g=>
 some (g.1,g.2.1,g.2.2)) else (ob (aEw p c) fun a=>
 ob (aBK p c a.1 a.2.1 a.2.2) fun h=>
 ob (ix h 0) fun j=>
 if (!j) then (lV d p c e f a h true) else (lV d p c e f a h a.2.2))
def vW (a:(List UInt8)) (d e:Int) (p:aO) (c:aP):Option (aP × Int × Int):=
 ob (aIn p) fun g=>
 if (!g) then (pH a p c d e true) else (ob (aCr c) fun h=>
 if (!h) then (pH a p c d e true) else (ob (iH a d e 4) fun f=>
 pH a p c f.2.1 f.2.2 f.1))
def aBL (a:(aO × Int × Int)) (b c:Int) (d:List aH) (e:List Edge) (f g:Int) (h:List aH) (i:List Edge):Option (aO × aP × aP):=
 some (a.1,⟨b,c,d,e⟩,⟨f,g,h,i⟩)
def yO (h:(List UInt8)) (c:(aO × Int × Int)) (i j d e:Int) (f:List aH) (g:List Edge):Option (aO × aP × aP):=
 ob (vW h i j c.1 ⟨d,e,f,g⟩) fun a=>
 ob (aCr a.1) fun k=>
 if (!k) then (ob (mQ h a.2.1 a.2.2 3) fun b=>
 aBL c d e f g b.1.N b.1.I b.1.L b.1.E) else (aBL c d e f g a.1.N a.1.I a.1.L a.1.E)
def yP (d:(List UInt8)) (e:(aO × Int × Int)) (b:(aP × Int × Int)) (f g:Int) (h:Bool):Option (aO × aP × aP):=
 if h then (ob (aGd e.1.S) fun a=>
 ob (bO d f g (a.E.length:Int)) fun c=>
 ob (qT a.E 0 c.1) fun i=>
 ob (qT a.E (wr (c.1+1)) (a.E.length:Int)) fun j=>
 ob (rZ i j) fun k=>
 yO d e c.2.1 c.2.2 a.N a.I a.L k) else (yO d e f g b.1.N b.1.I b.1.L b.1.E)
def aGi (a:(List UInt8)):Option (aO × aP × aP):=
 ob (aKs a) fun e=>
 ob (aCY a e.1 e.2) fun b=>
 ob (mQ a b.2.1 b.2.2 3) fun d=>
 ob (iH a d.2.1 d.2.2 3) fun c=>
 if c.1 then (yP a b d c.2.1 c.2.2 (decide (0 < (b.1.S.E.length:Int)))) else (yP a b d c.2.1 c.2.2 false)
def pL (a:Int):Option Bool:=
 some (a != a)
def dR (a y:Int):Option Int:=
 ob (pL a) fun d=>
 ob (pL y) fun c=>
 if d then (if c then (some 0) else (some (-1))) else (if c then (some 1) else (if (decide (a < y)) then (some (-1)) else (if (decide (y < a)) then (some 1) else (some 0))))
def aCs:Option Int:=
 some 0
def jQ (b:(List Int)) (a:Int):Option (Int ⊕ (Unit ⊕ Int)):=
 if (decide (a < (b.length:Int))) then (ob (ix b a) fun c=>
 if (c != 0) then (some (.inr (.inr c))) else (some (.inl (wr (a+1))))) else (some (.inr (.inl ())))
def aAg (b:(List Int)):Option Int:=
 ob (loop (fun (s:Int)=>jQ b s) 0) fun r=>match r with|.inl r=>aCs|.inr r=>some r
def xP (a b:Edge):Option Int:=
 ob (dR a.F b.F) fun e=>
 ob (dR a.B b.B) fun f=>
 ob (dR a.To b.To) fun g=>
 ob (aAg ([e,f,g]:List Int)) fun h=>
 some h
def sF (t:aP) (k:Int):Option Bool:=
 ob (zN k 0 (wr (t.N - 1))) fun c=>
 some c
def aLN (i many:Int):Option Bool:=
 ob (zN i 0 (wr (many - 1))) fun b=>
 some b
def aIQ:Option Bool:=
 some true
def sG (a:Int) (b:Bool):Option (Int ⊕ (Unit ⊕ Bool)):=
 if b then (some (.inr (.inr false))) else (some (.inl (wr (a+1))))
def aAh (t:aP) (a:Int):Option (Int ⊕ (Unit ⊕ Bool)):=
 if (decide (a < (t.E.length:Int))) then (ob (ix t.E a) fun c=>
 ob (sF t c.F) fun d=>
 if (!d) then (sG a true) else (ob (sF t c.To) fun e=>
 if (!e) then (sG a true) else (ob (aLN c.B (t.L.length:Int)) fun f=>
 if (!f) then (sG a true) else (if (decide (0 < a)) then (ob (ix t.E (wr (a - 1))) fun g=>
 ob (xP g c) fun h=>
 sG a (decide (0<=h))) else (sG a false))))) else (some (.inr (.inl ())))
def aCH (t:aP):Option Bool:=
 ob (loop (fun (s:Int)=>aAh t s) 0) fun r=>match r with|.inl r=>aIQ|.inr r=>some r
def vX (a:Int) (b:Bool):Option (Int ⊕ (Unit ⊕ Bool)):=
 if b then (some (.inr (.inr false))) else (some (.inl (wr (a+1))))
def aAi (t:aP) (a:Int):Option (Int ⊕ (Unit ⊕ Bool)):=
 if (decide (a < (t.L.length:Int))) then (ob (ix t.L a) fun b=>
 ob (aGa b) fun e=>
 if (!e) then (vX a true) else (if ((b == ([116,97,117]:aH)) != (a == 0)) then (vX a true) else (if (decide (1 < a)) then (ob (ix t.L (wr (a - 1))) fun d=>
 vX a (wY b d||b == d)) else (vX a false)))) else (some (.inr (.inl ())))
def sH (t:aP) (c:Bool):Option Bool:=
 if c then (some false) else (ob (loop (fun (s:Int)=>aAi t s) 0) fun r=>match r with|.inl r=>aCH t|.inr r=>some r)
def aAJ (t:aP):Option Bool:=
 ob (zN t.N 1 40) fun b=>
 if (!b) then (sH t true) else (ob (sF t t.I) fun c=>
 if (!c) then (sH t true) else (ob (zN (t.L.length:Int) 1 12) fun d=>
 if (!d) then (sH t true) else (sH t (decide (300 < (t.E.length:Int))))))
def aAZ:Option Bool:=
 some true
def gO (a:Int) (b:Bool):Option (Int ⊕ (Unit ⊕ Bool)):=
 if b then (some (.inr (.inr false))) else (some (.inl (wr (a+1))))
def jR (t:aP) (a:Int):Option (Int ⊕ (Unit ⊕ Bool)):=
 if (decide (a < (t.E.length:Int))) then (ob (ix t.E a) fun c=>
 if (c.B == 0) then (gO a true) else (if (decide (0 < a)) then (ob (ix t.E (wr (a - 1))) fun d=>
 if (d.F == c.F) then (gO a (d.B == c.B)) else (gO a false)) else (gO a false))) else (some (.inr (.inl ())))
def jS (t:aP):Option Bool:=
 ob (aAJ t) fun c=>
 if (!c) then (some false) else (ob (loop (fun (s:Int)=>jR t s) 0) fun r=>match r with|.inl r=>aAZ|.inr r=>some r)
def aFm:Option Bool:=
 some true
def rB (a:Int) (b:Bool):Option (Int ⊕ (Unit ⊕ Bool)):=
 if b then (some (.inr (.inr false))) else (some (.inl (wr (a+1))))
def nJ (t:aP) (b:(List Int)) (a:Int):Option (Int ⊕ (Unit ⊕ Bool)):=
 if (decide (a < (b.length:Int))) then (ob (ix b a) fun c=>
 ob (sF t c) fun e=>
 if (!e) then (rB a true) else (if (decide (0 < a)) then (ob (ix b (wr (a - 1))) fun f=>
 rB a (decide (c<=f))) else (rB a false))) else (some (.inr (.inl ())))
def xR (t:aP) (c:(List Int)):Option Bool:=
 ob (loop (fun (s:Int)=>nJ t c s) 0) fun r=>match r with|.inl r=>aFm|.inr r=>some r
def aGM (a:(List aH)):Option Bool:=
 some (decide ((a.length:Int)<=12))
def aBM (a:Int) (b:Bool):Option (Int ⊕ (Unit ⊕ Bool)):=
 if b then (some (.inr (.inr false))) else (some (.inl (wr (a+1))))
def aBN (b:(List aH)) (a:Int):Option (Int ⊕ (Unit ⊕ Bool)):=
 if (decide (a < (b.length:Int))) then (ob (ix b a) fun c=>
 ob (aCo c) fun e=>
 if (!e) then (aBM a true) else (if (decide (0 < a)) then (ob (ix b (wr (a - 1))) fun d=>
 aBM a (wY c d||c == d)) else (aBM a false))) else (some (.inr (.inl ())))
def aGj (b:(List aH)):Option Bool:=
 ob (loop (fun (s:Int)=>aBN b s) 0) fun r=>match r with|.inl r=>aGM b|.inr r=>some r
def vD (a:Bool):Option Bool:=
 some a
def rC (p:aO):Option Bool:=
 ob (jS p.S) fun b=>
 if b then (ob (xR p.S p.M) fun c=>
 if c then (ob (aGj p.C) fun d=>
 vD d) else (vD false)) else (vD false)
def aGN (a:List Edge):Option (List Edge):=
 some a
def aBO (a:Int) (b:List Edge):Option ((List Edge × Int) ⊕ (List Edge)):=
 some (.inl (b,wr (a+1)))
def aBP (t:aP) (k:Int) (b:List Edge) (a:Int):Option ((List Edge × Int) ⊕ (List Edge)):=
 if (decide (a < (t.E.length:Int))) then (ob (ix t.E a) fun d=>
 if (d.F == k) then (ob (rZ b ([d]:List Edge)) fun f=>
 aBO a f) else (aBO a b)) else (some (.inr b))
def pI (t:aP) (k:Int):Option (List Edge):=
 ob (loop (fun (s:(List Edge × Int))=>aBP t k s.1 s.2) ([],0)) fun r=>aGN r
def rD:Option Int:=
 some (-1)
def gK (b:(List Int)) (c a:Int):Option (Int ⊕ (Unit ⊕ Int)):=
 if (decide (a < (b.length:Int))) then (ob (ix b a) fun d=>
 if (c == d) then (some (.inr (.inr a))) else (some (.inl (wr (a+1))))) else (some (.inr (.inl ())))
def eC (b:(List Int)) (c:Int):Option Int:=
 ob (loop (fun (s:Int)=>gK b c s) 0) fun r=>match r with|.inl r=>rD|.inr r=>some r
def dA (a:(List Int)) (b:Int):Option Bool:=
 ob (eC a b) fun c=>
 some (decide (0<=c))
def pM (a:(List Int)):Option (List Int):=
 some a
def fK (a:Int):Option (Int ⊕ (Unit ⊕ (List Int))):=
 some (.inl (wr (a+1)))
def fL (a:List Int) (b:Int):Option (Int ⊕ (Unit ⊕ (List Int))):=
 ob (qT a b (a.length:Int)) fun c=>
 ob (ovw a b (List.replicate c.length (0:Int))) fun d=>
 ob (qT d 0 b) fun e=>
 some (.inr (.inr e))
def dU (a:Int) (b:List Int) (c:Int):Option ((List Int × Int × Int) ⊕ (List Int × Int)):=
 some (.inl (b,c,wr (a+1)))
def dV (e:Int) (d b:List Int) (c a:Int):Option ((List Int × Int × Int) ⊕ (List Int × Int)):=
 if (decide (a < (d.length:Int))) then (ob (ix d a) fun i=>
 ob (ix b (e+a)) fun f=>
 ob (ix d (wr (a - 1))) fun j=>
 ob (ix b (e+(wr (a - 1)))) fun g=>
 if (f != g) then (ob (ix b c) fun k=>
 ob (st b c (f:Int)) fun h=>
 dU a h (wr (c+1))) else (dU a b c)) else (some (.inr (b,c)))
def dW (b:(List Int)) (a:Int):Option (Int ⊕ (Unit ⊕ (List Int))):=
 if (decide (a < (b.length:Int))) then (ob (ix b a) fun d=>
 ob (ix b (wr (a - 1))) fun e=>
 if (d == e) then (ob (qT b a (b.length:Int)) fun f=>
 ob (loop (fun (s:(List Int × Int × Int))=>dV a f s.1 s.2.1 s.2.2) (b,a,1)) fun r=>fL r.1 r.2) else (fK a)) else (some (.inr (.inl ())))
def cQ (a:(List Int)):Option (List Int):=
 if (decide ((a.length:Int) < 2)) then (some a) else (ob (loop (fun (s:Int)=>dW a s) 1) fun r=>match r with|.inl r=>pM a|.inr r=>some r)
def qL (a:List Int):Option (List Int):=
 ob (aAT a) fun b=>
 ob (cQ b) fun c=>
 some c
def oA (a:Int) (b:List Int):Option ((List Int × Int) ⊕ (List Int)):=
 some (.inl (b,wr (a+1)))
def qM (a:List Int) (b:Int) (c:Edge) (d:Bool):Option ((List Int × Int) ⊕ (List Int)):=
 if d then (ob (rZ a ([c.To]:List Int)) fun e=>
 oA b e) else (oA b a)
def fR (t:aP) (e:(List Int)) (f:aH) (d:List Int) (a:Int):Option ((List Int × Int) ⊕ (List Int)):=
 if (decide (a < (t.E.length:Int))) then (ob (ix t.E a) fun b=>
 ob (ix t.L b.B) fun g=>
 if (g == f) then (ob (dA e b.F) fun h=>
 qM d a b h) else (qM d a b false)) else (some (.inr d))
def jK (t:aP) (b:(List Int)) (c:aH):Option (List Int):=
 ob (loop (fun (s:(List Int × Int))=>fR t b c s.1 s.2) ([],0)) fun r=>qL r
def aEC (t:aP) (k:Int) (d:aH):Option Int:=
 if (decide (k < 0)) then (some (-1)) else (ob (jK t ([k]:List Int) d) fun b=>
 if (decide (0 < (b.length:Int))) then (ob (ix b 0) fun e=>
 some e) else (some (-1)))
def pN:Option Int:=
 some (-1)
def fM (b:(List aH)) (c:aH) (a:Int):Option (Int ⊕ (Unit ⊕ Int)):=
 if (decide (a < (b.length:Int))) then (ob (ix b a) fun d=>
 if (c == d) then (some (.inr (.inr a))) else (some (.inl (wr (a+1))))) else (some (.inr (.inl ())))
def dL (b:(List aH)) (c:aH):Option Int:=
 ob (loop (fun (s:Int)=>fM b c s) 0) fun r=>match r with|.inl r=>pN|.inr r=>some r
def dX (a:(List aH)) (b:aH):Option Bool:=
 ob (dL a b) fun c=>
 some (decide (0<=c))
def jT (t:aP) (k:Int) (c:aH):Option (Int × Bool):=
 ob (dX t.L c) fun e=>
 if (!e) then (some (k,true)) else (ob (aEC t k c) fun d=>
 some (d,decide (0<=d)))
def oB (a:(Int × Int)) (e:(List aH)) (i j:Int) (k:(List aH)) (l:(List Edge)) (m:(List Int)) (n:(List aH)) (o p:Int) (q:(List aH)) (r:(List Edge)) (b:(List (List Int))) (c:(List ((Int × Int) × Int))) (d:(List (List aH))):Option ((List (List Int)) × (List ((Int × Int) × Int)) × (List (List aH))):=
 if (!((mU c a).isSome)) then (ob (some (wV c a (b.length:Int))) fun f=>
 ob (rZ b ([([a.1,a.2]:List Int)]:List (List Int))) fun g=>
 ob (rZ d ([e]:List (List aH))) fun h=>
 some (g,f,h)) else (some (b,c,d))
def bT (a:(List aH)):Option (List aH):=
 ob (rZ ([]:List aH) a) fun b=>
 some b
def aAK (a:List (List Int)) (b:(List ((Int × Int) × Int))) (c:List (List aH)):Option ((List (List Int)) × (List ((Int × Int) × Int)) × (List (List aH))):=
 some (a,b,c)
def aAu (c:aH) (d:(Int × Int)) (e f:Int) (g:(List aH)) (h:(List Edge)) (i:(List Int)) (j:(List aH)) (k l:Int) (m:(List aH)) (n:(List Edge)) (o:(List (List Int))) (q:(List ((Int × Int) × Int))) (b:(List (List aH))) (p:Int):Option ((List (List Int)) × (List ((Int × Int) × Int)) × (List (List aH))):=
 ob (ix b p) fun s=>
 ob (bT s) fun t=>
 ob (rZ t ([c]:List aH)) fun u=>
 ob (oB d u e f g h i j k l m n o q b) fun a=>
 aAK a.1 a.2.1 a.2.2
def aED (a:List (List Int)) (b:(List ((Int × Int) × Int))) (c:List (List aH)):Option ((List (List Int)) × (List ((Int × Int) × Int)) × (List (List aH))):=
 some (a,b,c)
def lW (a:Int) (b:List (List Int)) (c:(List ((Int × Int) × Int))) (d:List (List aH)):Option ((List (List Int) × (List ((Int × Int) × Int)) × List (List aH) × Int) ⊕ (List (List Int) × (List ((Int × Int) × Int)) × List (List aH))):=
 some (.inl (b,c,d,wr (a+1)))
def lX (o p:Int) (f:(List aH)) (q:(List Edge)) (r:(List Int)) (s:(List aH)) (g h:Int) (i:(List aH)) (j:(List Edge)) (t:(List Int)) (u:Int) (k:(List Edge)) (b:List (List Int)) (c:(List ((Int × Int) × Int))) (d:List (List aH)) (a:Int):Option ((List (List Int) × (List ((Int × Int) × Int)) × List (List aH) × Int) ⊕ (List (List Int) × (List ((Int × Int) × Int)) × List (List aH))):=
 if (decide (a < (k.length:Int))) then (ob (ix k a) fun l=>
 ob (ix f l.B) fun m=>
 ob (ix t 1) fun v=>
 ob (jT ⟨g,h,i,j⟩ v m) fun n=>
 if n.2 then (ob (aAu m ⟨l.To,n.1⟩ o p f q r s g h i j b c d u) fun e=>
 lW a e.1 e.2.1 e.2.2) else (lW a b c d)) else (some (.inr (b,c,d)))
def vE (b c:Int) (d:(List aH)) (e:(List Edge)) (g:(List Int)) (h:(List aH)) (i j:Int) (k:(List aH)) (l:(List Edge)) (m:(List (List Int))) (n:(List ((Int × Int) × Int))) (o:(List (List aH))) (f:(List Int)) (p:Int):Option ((List (List Int)) × (List ((Int × Int) × Int)) × (List (List aH))):=
 ob (ix f 0) fun q=>
 ob (pI ⟨b,c,d,e⟩ q) fun t=>
 ob (loop (fun (s:(List (List Int) × (List ((Int × Int) × Int)) × List (List aH) × Int))=>lX b c d e g h i j k l f p t s.1 s.2.1 s.2.2.1 s.2.2.2) (m,n,o,0)) fun r=>aED r.1 r.2.1 r.2.2
def aAv (a:List (List Int)) (b:(List ((Int × Int) × Int))) (c:List (List aH)):Option ((List (List Int)) × (List ((Int × Int) × Int)) × (List (List aH))):=
 some (a,b,c)
def aDm (a:Int) (b:List (List Int)) (c:(List ((Int × Int) × Int))) (d:List (List aH)):Option ((List (List Int) × (List ((Int × Int) × Int)) × List (List aH) × Int) ⊕ (List (List Int) × (List ((Int × Int) × Int)) × List (List aH))):=
 some (.inl (b,c,d,wr (a+1)))
def vF (p:aO) (b:aP) (c:List (List Int)) (f:(List ((Int × Int) × Int))) (g:List (List aH)) (d:Int):Option ((List (List Int) × (List ((Int × Int) × Int)) × List (List aH) × Int) ⊕ (List (List Int) × (List ((Int × Int) × Int)) × List (List aH))):=
 if (decide (d < (c.length:Int))) then (ob (ix c d) fun h=>
 ob (vE p.S.N p.S.I p.S.L p.S.E p.M p.C b.N b.I b.L b.E c f g h d) fun e=>
 aDm d e.1 e.2.1 e.2.2) else (some (.inr (c,f,g)))
def yQ (p:aO) (b:aP):Option ((List (List Int)) × (List ((Int × Int) × Int)) × (List (List aH))):=
 ob (oB ⟨p.S.I,b.I⟩ [] p.S.N p.S.I p.S.L p.S.E p.M p.C b.N b.I b.L b.E [] ([]:(List ((Int × Int) × Int))) []) fun c=>
 ob (loop (fun (s:(List (List Int) × (List ((Int × Int) × Int)) × List (List aH) × Int))=>vF p b s.1 s.2.1 s.2.2.1 s.2.2.2) (c.1,c.2.1,c.2.2,0)) fun r=>aAv r.1 r.2.1 r.2.2
def fN (a b:(List Int)):Option Int:=
 if (decide ((a.length:Int) < (b.length:Int))) then (some (-1)) else (some 0)
def bU (b c:(List Int)) (a:Int):Option (Int ⊕ (Unit ⊕ Int)):=
 if (decide (a < (b.length:Int))) then (ob (ix b a) fun e=>
 if (decide ((c.length:Int)<=a)) then (some (.inr (.inr 1))) else (ob (ix c a) fun f=>
 ob (dR e f) fun d=>
 if (d != 0) then (some (.inr (.inr d))) else (some (.inl (wr (a+1)))))) else (some (.inr (.inl ())))
def gX (b c:(List Int)):Option Int:=
 ob (loop (fun (s:Int)=>bU b c s) 0) fun r=>match r with|.inl r=>fN b c|.inr r=>some r
def aDn (a b:aH):Option Int:=
 if (a == b) then (some 0) else (if (a == ([116,97,117]:aH)) then (some (-1)) else (if (b == ([116,97,117]:aH)) then (some 1) else (ob (aOC a b) fun e=>
 some e)))
def kQ (a:(List Edge)):Option (List Edge):=
 some a
def dO (a:Int):Option (Int ⊕ (Unit ⊕ (List Edge))):=
 some (.inl (wr (a+1)))
def fO (a:List Edge) (b:Int):Option (Int ⊕ (Unit ⊕ (List Edge))):=
 ob (qT a b (a.length:Int)) fun c=>
 ob (ovw a b (List.replicate c.length (⟨0,0,0⟩:Edge))) fun d=>
 ob (qT d 0 b) fun e=>
 some (.inr (.inr e))
def dP (a:Int) (b:List Edge) (c:Int):Option ((List Edge × Int × Int) ⊕ (List Edge × Int)):=
 some (.inl (b,c,wr (a+1)))
def kR (f:Int) (e b:List Edge) (c a:Int):Option ((List Edge × Int × Int) ⊕ (List Edge × Int)):=
 if (decide (a < (e.length:Int))) then (ob (ix e a) fun i=>
 ob (ix b (f+a)) fun d=>
 ob (ix e (wr (a - 1))) fun j=>
 ob (ix b (f+(wr (a - 1)))) fun g=>
 if (!decide ((d:Edge)=g)) then (ob (ix b c) fun k=>
 ob (st b c (⟨d.F,d.B,d.To⟩:Edge)) fun h=>
 dP a h (wr (c+1))) else (dP a b c)) else (some (.inr (b,c)))
def cL (b:(List Edge)) (a:Int):Option (Int ⊕ (Unit ⊕ (List Edge))):=
 if (decide (a < (b.length:Int))) then (ob (ix b a) fun d=>
 ob (ix b (wr (a - 1))) fun e=>
 if (decide ((d:Edge)=e)) then (ob (qT b a (b.length:Int)) fun f=>
 ob (loop (fun (s:(List Edge × Int × Int))=>kR a f s.1 s.2.1 s.2.2) (b,a,1)) fun r=>fO r.1 r.2) else (dO a)) else (some (.inr (.inl ())))
def cT (a:(List Edge)):Option (List Edge):=
 if (decide ((a.length:Int) < 2)) then (some a) else (ob (loop (fun (s:Int)=>cL a s) 1) fun r=>match r with|.inl r=>kQ a|.inr r=>some r)
def oK (a:(List aH)):Option (List aH):=
 some a
def eV (a:Int):Option (Int ⊕ (Unit ⊕ (List aH))):=
 some (.inl (wr (a+1)))
def eW (a:List aH) (b:Int):Option (Int ⊕ (Unit ⊕ (List aH))):=
 ob (qT a b (a.length:Int)) fun c=>
 ob (ovw a b (List.replicate c.length ([]:aH))) fun d=>
 ob (qT d 0 b) fun e=>
 some (.inr (.inr e))
def dG (a:Int) (b:List aH) (c:Int):Option ((List aH × Int × Int) ⊕ (List aH × Int)):=
 some (.inl (b,c,wr (a+1)))
def dH (e:Int) (d b:List aH) (c a:Int):Option ((List aH × Int × Int) ⊕ (List aH × Int)):=
 if (decide (a < (d.length:Int))) then (ob (ix d a) fun i=>
 ob (ix b (e+a)) fun f=>
 ob (ix d (wr (a - 1))) fun j=>
 ob (ix b (e+(wr (a - 1)))) fun g=>
 if (!(f == g)) then (ob (ix b c) fun k=>
 ob (st b c (f:aH)) fun h=>
 dG a h (wr (c+1))) else (dG a b c)) else (some (.inr (b,c)))
def dI (b:(List aH)) (a:Int):Option (Int ⊕ (Unit ⊕ (List aH))):=
 if (decide (a < (b.length:Int))) then (ob (ix b a) fun d=>
 ob (ix b (wr (a - 1))) fun e=>
 if (d == e) then (ob (qT b a (b.length:Int)) fun f=>
 ob (loop (fun (s:(List aH × Int × Int))=>dH a f s.1 s.2.1 s.2.2) (b,a,1)) fun r=>eW r.1 r.2) else (eV a)) else (some (.inr (.inl ())))
def cY (a:(List aH)):Option (List aH):=
 if (decide ((a.length:Int) < 2)) then (some a) else (ob (loop (fun (s:Int)=>dI a s) 1) fun r=>match r with|.inl r=>oK a|.inr r=>some r)
def aJT (a b:Int) (c:(List aH)) (d:List Edge):Option aP:=
 ob (aAF d) fun e=>
 ob (cT e) fun f=>
 some ⟨a,b,c,f⟩
def aHR (c:(List Arc)) (e:(List aH)) (d:List Edge) (a:Int):Option ((List Edge × Int) ⊕ (List Edge)):=
 if (decide (a < (c.length:Int))) then (ob (ix c a) fun b=>
 ob (dL e b.label) fun f=>
 ob (rZ d ([⟨b.from_,f,b.to_⟩]:List Edge)) fun g=>
 some (.inl (g,wr (a+1)))) else (some (.inr d))
def i_lts (b c:Int) (d:(List aH)) (e:(List Arc)):Option aP:=
 ob (rZ ([([116,97,117]:aH)]:List aH) d) fun f=>
 ob (aCn f) fun g=>
 ob (cY g) fun a=>
 ob (loop (fun (s:(List Edge × Int))=>aHR e a s.1 s.2) ([],0)) fun r=>aJT b c a r
def aBQ (t:aP):Option Bool:=
 ob (jS t) fun b=>
 some (!b)
def kS:Option Int:=
 some (-1)
def bW (b:(List aP)) (a:Int):Option (Int ⊕ (Unit ⊕ Int)):=
 if (decide (a < (b.length:Int))) then (ob (ix b a) fun c=>
 ob (aBQ c) fun d=>
 if d then (some (.inr (.inr a))) else (some (.inl (wr (a+1))))) else (some (.inr (.inl ())))
def cD (b:(List aP)):Option Int:=
 ob (loop (fun (s:Int)=>bW b s) 0) fun r=>match r with|.inl r=>kS|.inr r=>some r
def cM (a:(List aP)):Option Bool:=
 ob (cD a) fun b=>
 some (decide (0<=b))
def xS (a:Bool):Option Int:=
 if a then (some 1) else (some 0)
def uJ (p:aO) (b:(List aP)):Option Int:=
 ob (rC p) fun c=>
 if (!c) then (xS true) else (ob (cM b) fun d=>
 xS d)
def nB (p:aO) (k:Int):Option Bool:=
 ob (dA p.M k) fun c=>
 some c
def gY (a:List Bool):Option (List Bool):=
 some a
def gZ (a:List Bool) (b:Int):Option ((List Bool × Int) ⊕ (List Bool)):=
 if (decide (b < (a.length:Int))) then (ob (qT a b (a.length:Int)) fun d=>
 ob (qT a 0 b) fun c=>
 ob (ovw a b (List.take (Nat.min c.length d.length) c)) fun e=>
 some (.inl (e,wr (b+((Nat.min c.length d.length):Int))))) else (some (.inr a))
def hJ (a:(List Bool)) (c:(Int × Int)):Option (List Bool):=
 ob (mkz (wr c.2) (false:Bool)) fun b=>
 ob (ovw b 0 (List.take (Nat.min a.length b.length) a)) fun d=>
 ob (loop (fun (s:(List Bool × Int))=>gZ s.1 s.2) (d,((Nat.min a.length b.length):Int))) fun r=>gY r
def eS (a:(List Bool)) (b:(Int × Int)) (c:Bool):Option (List Bool):=
 if c then (none) else (hJ a b)
def hQ (b:(List Bool)) (c:Int):Option (List Bool):=
 ob (aKX (rY (b.length:Int)) (rY c)) fun a=>
 if (decide (0 < a.1)) then (eS b a true) else (eS b a (decide (9223372036854775807 < a.2)))
def eK (b:(List Bool)) (a:Int):Option (List Bool):=
 if (decide (a < 0)) then (none) else (hQ b a)
def bP (a:(List Int)):Option (List Int):=
 ob (rZ ([]:List Int) a) fun b=>
 some b
def nC (d:aH) (a:(Int × Int)) (b:(List ((Int × Int) × Int))) (p:(List Arc)) (e:Int):Option (List Arc):=
 if ((mU b a).isSome) then (ob (rZ p ([⟨e,d,((mU b a).getD 0)⟩]:List Arc)) fun f=>
 some f) else (some p)
def aCf (a:List Arc):Option (List Arc):=
 some a
def gH (a:Int) (b:List Arc):Option ((List Arc × Int) ⊕ (List Arc)):=
 some (.inl (b,wr (a+1)))
def iZ (g:(List aH)) (h i:Int) (j:(List aH)) (k:(List Edge)) (l:(List Int)) (m:(List ((Int × Int) × Int))) (n:Int) (c:(List Edge)) (b:List Arc) (a:Int):Option ((List Arc × Int) ⊕ (List Arc)):=
 if (decide (a < (c.length:Int))) then (ob (ix c a) fun d=>
 ob (ix g d.B) fun e=>
 ob (ix l 1) fun o=>
 ob (jT ⟨h,i,j,k⟩ o e) fun f=>
 if f.2 then (ob (nC e ⟨d.To,f.1⟩ m b n) fun p=>
 gH a p) else (gH a b)) else (some (.inr b))
def pO (c d:Int) (a:(List aH)) (e:(List Edge)) (p:(List Int)) (q:(List aH)) (f g:Int) (h:(List aH)) (i:(List Edge)) (t:(List (List Int))) (u:(List ((Int × Int) × Int))) (v:(List (List aH))) (b:(List Int)) (j:(List ((Int × Int) × Int))) (k:(List Arc)) (l:Int):Option (List Arc):=
 ob (ix b 0) fun m=>
 ob (pI ⟨c,d,a,e⟩ m) fun n=>
 ob (loop (fun (s:(List Arc × Int))=>iZ a f g h i b j l n s.1 s.2) (k,0)) fun r=>aCf r
def nK (b:Int) (c:(List aH)) (d:Int) (a:(List (List Int))) (e:(List ((Int × Int) × Int))) (f:List Arc):Option (aP × (List (List Int))):=
 ob (i_lts (a.length:Int) ((mU e ⟨b,d⟩).getD 0) c f) fun g=>
 some (g,a)
def gP (d e:Int) (f:(List aH)) (g:(List Edge)) (h:(List Int)) (i:(List aH)) (j k:Int) (l:(List aH)) (m:(List Edge)) (n:(List (List Int))) (o:(List ((Int × Int) × Int))) (p:(List (List aH))) (b:(List (List Int))) (q:(List ((Int × Int) × Int))) (c:List Arc) (a:Int):Option ((List Arc × Int) ⊕ (List Arc)):=
 if (decide (a < (b.length:Int))) then (ob (ix b a) fun r=>
 ob (pO d e f g h i j k l m n o p r q c a) fun s=>
 some (.inl (s,wr (a+1)))) else (some (.inr c))
def nL (f a:Int) (b:(List aH)) (g:(List Edge)) (h:(List Int)) (i:(List aH)) (j c:Int) (k:(List aH)) (l:(List Edge)) (m:(List (List Int))) (n:(List ((Int × Int) × Int))) (o:(List (List aH))) (d:(List (List Int))) (e:(List ((Int × Int) × Int))):Option (aP × (List (List Int))):=
 ob (loop (fun (s:(List Arc × Int))=>gP f a b g h i j c k l m n o d e s.1 s.2) ([],0)) fun r=>nK a b c d e r
def gQ (b:(List (List Int))) (c:(List ((Int × Int) × Int))) (a:Int):Option (((List ((Int × Int) × Int)) × Int) ⊕ (List ((Int × Int) × Int))):=
 if (decide (a < (b.length:Int))) then (ob (ix b a) fun d=>
 ob (ix d 0) fun e=>
 ob (ix d 1) fun f=>
 ob (some (wV c ⟨e,f⟩ a)) fun g=>
 some (.inl (g,wr (a+1)))) else (some (.inr c))
def nM (b c:Int) (d:(List aH)) (e:(List Edge)) (f:(List Int)) (g:(List aH)) (h i:Int) (j:(List aH)) (k:(List Edge)) (l:(List (List Int))) (m:(List ((Int × Int) × Int))) (n:(List (List aH))) (o:List (List Int)):Option (aP × (List (List Int))):=
 ob (aEh o) fun a=>
 ob (loop (fun (s:((List ((Int × Int) × Int)) × Int))=>gQ a s.1 s.2) (([]:(List ((Int × Int) × Int))),0)) fun r=>nL b c d e f g h i j k l m n a r
def gR (a:Int) (b:List (List Int)):Option ((List (List Int) × Int) ⊕ (List (List Int))):=
 some (.inl (b,wr (a+1)))
def gS (c:(List (List Int))) (d:(List Bool)) (b:List (List Int)) (a:Int):Option ((List (List Int) × Int) ⊕ (List (List Int))):=
 if (decide (a < (c.length:Int))) then (ob (ix c a) fun e=>
 ob (ix d a) fun f=>
 if f then (ob (bP e) fun g=>
 ob (rZ b ([g]:List (List Int))) fun h=>
 gR a h) else (gR a b)) else (some (.inr b))
def jU (b c:Int) (d:(List aH)) (e:(List Edge)) (f:(List Int)) (g:(List aH)) (h i:Int) (j:(List aH)) (k:(List Edge)) (a:(List (List Int))) (l:(List ((Int × Int) × Int))) (m:(List (List aH))) (n:(List Bool)):Option (aP × (List (List Int))):=
 ob (loop (fun (s:(List (List Int) × Int))=>gS a n s.1 s.2) ([],0)) fun r=>nM b c d e f g h i j k a l m r
def wL (a:(aP × (List (List Int)))) (b:List aH) (c:List Int):Option (aO × (List (List Int)) × Int):=
 ob (rC ⟨⟨a.1.N,a.1.I,a.1.L,a.1.E⟩,c,b⟩) fun d=>
 if (!d) then (some (⟨⟨0,0,[],[]⟩,[],[]⟩,[],5)) else (some (⟨⟨a.1.N,a.1.I,a.1.L,a.1.E⟩,c,b⟩,a.2,0))
def nN (a:Int) (b:List Int):Option ((List Int × Int) ⊕ (List Int)):=
 some (.inl (b,wr (a+1)))
def nO (p:aO) (c:(aP × (List (List Int)))) (b:List Int) (a:Int):Option ((List Int × Int) ⊕ (List Int)):=
 if (decide (a < (c.2.length:Int))) then (ob (ix c.2 a) fun e=>
 ob (ix e 0) fun f=>
 ob (nB p f) fun g=>
 if g then (ob (rZ b ([a]:List Int)) fun h=>
 nN a h) else (nN a b)) else (some (.inr b))
def wM (p:aO) (a:(aP × (List (List Int)))) (c:List aH):Option (aO × (List (List Int)) × Int):=
 ob (loop (fun (s:(List Int × Int))=>nO p a s.1 s.2) ([],0)) fun r=>wL a c r
def nD (p:aO) (b:aP):Option (aO × (List (List Int)) × Int):=
 ob (uJ p ([b]:List aP)) fun d=>
 if (d != 0) then (some (⟨⟨0,0,[],[]⟩,[],[]⟩,[],d)) else (ob (yQ p b) fun c=>
 ob (eK ([true]:List Bool) (c.1.length:Int)) fun e=>
 ob (jU p.S.N p.S.I p.S.L p.S.E p.M p.C b.N b.I b.L b.E c.1 c.2.1 c.2.2 e) fun f=>
 ob (bT p.C) fun g=>
 wM p f g)
def aFn (a:aH):Option aH:=
 ob (xC a) fun b=>
 some b.1
def lY (p:aO) (b:aH):Option Bool:=
 ob (aFn b) fun c=>
 ob (dX p.C c) fun d=>
 some d
def vY (k:Int) (p:(List Int)):Option Int:=
 ob (eC p k) fun c=>
 some c
def aCI (a:(List Int)) (b:Int) (c:List aH) (d:List Edge):Option aP:=
 ob (aAF d) fun e=>
 some ⟨(a.length:Int),b,c,e⟩
def sI (a:Int) (b:List Edge):Option ((List Edge × Int) ⊕ (List Edge)):=
 some (.inl (b,wr (a+1)))
def vZ (a:List Edge) (b:Int) (c:Edge) (d e:Int) (f:Bool):Option ((List Edge × Int) ⊕ (List Edge)):=
 if f then (ob (rZ a ([⟨d,c.B,e⟩]:List Edge)) fun g=>
 sI b g) else (sI b a)
def wA (t:aP) (g:(List Int)) (c:List Edge) (a:Int):Option ((List Edge × Int) ⊕ (List Edge)):=
 if (decide (a < (t.E.length:Int))) then (ob (ix t.E a) fun b=>
 ob (vY b.F g) fun d=>
 ob (vY b.To g) fun e=>
 if (decide (0<=d)) then (vZ c a b d e (decide (0<=e))) else (vZ c a b d e false)) else (some (.inr c))
def aCJ (t:aP) (a:(List Int)) (c:Int) (d:List aH):Option aP:=
 ob (loop (fun (s:(List Edge × Int))=>wA t a s.1 s.2) ([],0)) fun r=>aCI a c d r
def aEE (t:aP) (b:(List Int)):Option aP:=
 ob (vY t.I b) fun c=>
 ob (bT t.L) fun d=>
 aCJ t b c d
def fX (a:List Int):Option (List Int):=
 some a
def fY (a:List Int) (b:Int):Option ((List Int × Int) ⊕ (List Int)):=
 if (decide (b < (a.length:Int))) then (ob (qT a b (a.length:Int)) fun d=>
 ob (qT a 0 b) fun c=>
 ob (ovw a b (List.take (Nat.min c.length d.length) c)) fun e=>
 some (.inl (e,wr (b+((Nat.min c.length d.length):Int))))) else (some (.inr a))
def fZ (a:(List Int)) (c:(Int × Int)):Option (List Int):=
 ob (mkz (wr c.2) (0:Int)) fun b=>
 ob (ovw b 0 (List.take (Nat.min a.length b.length) a)) fun d=>
 ob (loop (fun (s:(List Int × Int))=>fY s.1 s.2) (d,((Nat.min a.length b.length):Int))) fun r=>fX r
def eE (a:(List Int)) (b:(Int × Int)) (c:Bool):Option (List Int):=
 if c then (none) else (fZ a b)
def gA (b:(List Int)) (c:Int):Option (List Int):=
 ob (aKX (rY (b.length:Int)) (rY c)) fun a=>
 if (decide (0 < a.1)) then (eE b a true) else (eE b a (decide (9223372036854775807 < a.2)))
def fB (b:(List Int)) (a:Int):Option (List Int):=
 if (decide (a < 0)) then (none) else (gA b a)
def aEF (a:List Int):Option (List Int):=
 some a
def aAL (a b:List Int):Option ((List Int × List Int) ⊕ (List Int)):=
 some (.inl (a,b))
def aEG (a b:List Int):Option ((List Int × List Int) ⊕ (List Int)):=
 aAL a b
def eP (a:Int) (b c:List Int):Option ((List Int × List Int × Int) ⊕ (List Int × List Int)):=
 some (.inl (b,c,wr (a+1)))
def iA (e:Int) (a c:List Int) (d b:Int) (f:Bool):Option ((List Int × List Int × Int) ⊕ (List Int × List Int)):=
 if f then (ob (ix a e) fun g=>
 ob (ix a b) fun j=>
 ob (st a b (wr (g+1):Int)) fun h=>
 ob (rZ c ([b]:List Int)) fun i=>
 eP d h i) else (eP d a c)
def lZ (a:Int) (b d:List Int) (e f c:Int):Option ((List Int × List Int × Int) ⊕ (List Int × List Int)):=
 if (f == a) then (ob (ix b c) fun g=>
 iA a b d e c (decide (g < 0))) else (iA a b d e c false)
def iB (t:aP) (g:Bool) (f:Int) (c d:List Int) (a:Int):Option ((List Int × List Int × Int) ⊕ (List Int × List Int)):=
 if (decide (a < (t.E.length:Int))) then (ob (ix t.E a) fun b=>
 if (!g) then (lZ f c d a b.To b.F) else (lZ f c d a b.F b.To)) else (some (.inr (c,d)))
def mA (t:aP) (e:Bool) (b a:List Int):Option ((List Int × List Int) ⊕ (List Int)):=
 if (decide (0 < (a.length:Int))) then (ob (ix a 0) fun f=>
 ob (qT a 1 (a.length:Int)) fun g=>
 ob (loop (fun (s:(List Int × List Int × Int))=>iB t e f s.1 s.2.1 s.2.2) (b,g,0)) fun r=>aEG r.1 r.2) else (some (.inr b))
def pP (t:aP) (b:Bool) (c:(List Int)) (d:List Int):Option (List Int):=
 ob (loop (fun (s:(List Int × List Int))=>mA t b s.1 s.2) (d,c)) fun r=>aEF r
def gG (c:(List Int)) (a:List Int) (b:Int):Option ((List Int × Int) ⊕ (List Int)):=
 if (decide (b < (c.length:Int))) then (ob (ix c b) fun d=>
 ob (ix a d) fun f=>
 ob (st a d (0:Int)) fun e=>
 some (.inl (e,wr (b+1)))) else (some (.inr a))
def lA (t:aP) (b:(List Int)) (c:Bool):Option (List Int):=
 ob (fB ([(-1)]:List Int) t.N) fun d=>
 ob (bP b) fun e=>
 ob (loop (fun (s:(List Int × Int))=>gG b s.1 s.2) (d,0)) fun r=>pP t c e r
def aOI (a:List Int):Option (List Int):=
 some a
def aIo (n:Int) (b:List Int) (a:Int):Option ((List Int × Int) ⊕ (List Int)):=
 if (decide (a < n)) then (ob (rZ b ([a]:List Int)) fun d=>
 some (.inl (d,wr (a+1)))) else (some (.inr b))
def aMA (n:Int):Option (List Int):=
 ob (loop (fun (s:(List Int × Int))=>aIo n s.1 s.2) ([],0)) fun r=>aOI r
def pQ (k:Int) (p:(List Int)):Option Bool:=
 ob (ix p k) fun c=>
 some (decide (c < 0))
def mH:Option Int:=
 some (-1)
def cU (b c:(List Int)) (a:Int):Option (Int ⊕ (Unit ⊕ Int)):=
 if (decide (a < (b.length:Int))) then (ob (ix b a) fun d=>
 ob (pQ d c) fun e=>
 if e then (some (.inr (.inr a))) else (some (.inl (wr (a+1))))) else (some (.inr (.inl ())))
def dJ (b c:(List Int)):Option Int:=
 ob (loop (fun (s:Int)=>cU b c s) 0) fun r=>match r with|.inl r=>mH|.inr r=>some r
def eQ (a:List Int) (b:Int):Option (List Int):=
 ob (qT a b (a.length:Int)) fun c=>
 ob (ovw a b (List.replicate c.length (0:Int))) fun d=>
 ob (qT d 0 b) fun e=>
 some e
def dB (a:Int) (b:List Int) (c:Int):Option ((List Int × Int × Int) ⊕ (List Int × Int)):=
 some (.inl (b,c,wr (a+1)))
def cJ (e:(List Int)) (a:List Int) (b c:Int):Option ((List Int × Int × Int) ⊕ (List Int × Int)):=
 if (decide (c < (a.length:Int))) then (ob (ix a c) fun d=>
 ob (pQ d e) fun f=>
 if (!f) then (ob (ix a b) fun h=>
 ob (st a b (d:Int)) fun g=>
 dB c g (wr (b+1))) else (dB c a b)) else (some (.inr (a,b)))
def dY (a c:(List Int)):Option (List Int):=
 ob (dJ a c) fun b=>
 if (b == (-1)) then (some a) else (ob (loop (fun (s:(List Int × Int × Int))=>cJ c s.1 s.2.1 s.2.2) (a,b,wr (b+1))) fun r=>eQ r.1 r.2)
def qN (t:aP):Option (List Int):=
 ob (lA t ([t.I]:List Int) true) fun b=>
 ob (aMA t.N) fun c=>
 ob (dY c b) fun d=>
 some d
def qE (d:aH) (a:Int) (p:(List Bool)):Option Bool:=
 ob (ix p a) fun c=>
 some c
def oU (a:Bool):Option Bool:=
 some a
def sQ (a:aH) (b:(Int × Int)) (p:Bool) (d:(List Bool)) (g h:Int) (i:(List aH)) (j:(List Edge)) (k:(List Int)) (l:(List aH)) (m n:Int) (o:(List aH)) (q:(List Edge)) (r:(List (List Int))) (e:(List ((Int × Int) × Int))) (s:(List (List aH))):Option Bool:=
 if p then (oU true) else (ob (qE a ((mU e b).getD 0) d) fun f=>
 oU f)
def aCg (a:Bool):Option Bool:=
 some a
def jA (a:Int) (b:Bool):Option ((Bool × Int) ⊕ Bool):=
 some (.inl (b,wr (a+1)))
def lK (g:(List aH)) (h i:Int) (j:(List aH)) (k:(List Edge)) (l:(List Int)) (m:(List Bool)) (n o:Int) (p:(List aH)) (q:(List Edge)) (r:(List Int)) (s:(List aH)) (t u:Int) (v:(List aH)) (w:(List Edge)) (x:(List (List Int))) (y:(List ((Int × Int) × Int))) (z:(List (List aH))) (c:(List Edge)) (b:Bool) (a:Int):Option ((Bool × Int) ⊕ Bool):=
 if (decide (a < (c.length:Int))) then (ob (ix c a) fun d=>
 ob (ix g d.B) fun e=>
 ob (ix l 1) fun a0=>
 ob (jT ⟨h,i,j,k⟩ a0 e) fun f=>
 if f.2 then (ob (sQ e ⟨d.To,f.1⟩ b m n o p q r s t u v w x y z) fun a1=>
 jA a a1) else (jA a b)) else (some (.inr b))
def uO (c d:Int) (a:(List aH)) (e:(List Edge)) (a3:(List Int)) (a4:(List aH)) (f g:Int) (h:(List aH)) (i:(List Edge)) (a5:(List (List Int))) (a6:(List ((Int × Int) × Int))) (a7:(List (List aH))) (b:(List Int)) (j:Bool) (k:(List Bool)) (l m:Int) (n:(List aH)) (o:(List Edge)) (p:(List Int)) (q:(List aH)) (t u:Int) (v:(List aH)) (w:(List Edge)) (x:(List (List Int))) (y:(List ((Int × Int) × Int))) (z:(List (List aH))):Option Bool:=
 ob (ix b 0) fun a0=>
 ob (pI ⟨c,d,a,e⟩ a0) fun a1=>
 ob (loop (fun (s:(Bool × Int))=>lK a f g h i b k l m n o p q t u v w x y z a1 s.1 s.2) (j,0)) fun r=>aCg r
def tO (a b:Int) (c:(List aH)) (d:(List Edge)) (e:(List Int)) (f:(List aH)) (g h:Int) (i:(List aH)) (j:(List Edge)) (k:(List (List Int))) (l:(List ((Int × Int) × Int))) (m:(List (List aH))) (n:(List Int)) (o:(List Bool)):Option Bool:=
 ob (uO a b c d e f g h i j k l m n false o a b c d e f g h i j k l m) fun p=>
 some p
def vG (a:List Bool):Option (List Bool):=
 some a
def oC (a:List Bool) (b:Bool):Option ((List Bool × Bool) ⊕ (List Bool)):=
 some (.inl (a,b))
def vH (a:List Bool) (b:Bool):Option ((List Bool × Bool) ⊕ (List Bool)):=
 oC a b
def eM (a:Int) (b:List Bool) (c:Bool):Option ((List Bool × Bool × Int) ⊕ (List Bool × Bool)):=
 some (.inl (b,c,wr (a+1)))
def fS (b:List Bool) (c:Bool) (a:Int) (d:Bool):Option ((List Bool × Bool × Int) ⊕ (List Bool × Bool)):=
 if d then (ob (ix b a) fun f=>
 ob (st b a (true:Bool)) fun e=>
 eM a e true) else (eM a b c)
def fT (d e:Int) (f:(List aH)) (g:(List Edge)) (h:(List Int)) (i:(List aH)) (k l:Int) (m:(List aH)) (n:(List Edge)) (o:(List (List Int))) (p:(List ((Int × Int) × Int))) (q:(List (List aH))) (a:List Bool) (b:Bool) (c:Int) (j:(List Int)) (r:Bool):Option ((List Bool × Bool × Int) ⊕ (List Bool × Bool)):=
 if r then (eM c a b) else (ob (ix j 0) fun s=>
 ob (nB ⟨⟨d,e,f,g⟩,h,i⟩ s) fun t=>
 if t then (fS a b c true) else (ob (tO d e f g h i k l m n o p q j a) fun u=>
 fS a b c u))
def fU (e f:Int) (g:(List aH)) (h:(List Edge)) (i:(List Int)) (j:(List aH)) (k l:Int) (m:(List aH)) (n:(List Edge)) (b:(List (List Int))) (o:(List ((Int × Int) × Int))) (p:(List (List aH))) (r:(List Bool)) (c:List Bool) (d:Bool) (a:Int):Option ((List Bool × Bool × Int) ⊕ (List Bool × Bool)):=
 if (decide (a < (b.length:Int))) then (ob (ix b a) fun q=>
 ob (ix r a) fun s=>
 if (!s) then (fT e f g h i j k l m n b o p c d a q true) else (ob (ix c a) fun t=>
 fT e f g h i j k l m n b o p c d a q t)) else (some (.inr (c,d)))
def oD (c d:Int) (e:(List aH)) (f:(List Edge)) (g:(List Int)) (h:(List aH)) (i j:Int) (k:(List aH)) (l:(List Edge)) (m:(List (List Int))) (n:(List ((Int × Int) × Int))) (o:(List (List aH))) (p:(List Bool)) (a:List Bool) (q:Bool):Option ((List Bool × Bool) ⊕ (List Bool)):=
 if q then (ob (loop (fun (s:(List Bool × Bool × Int))=>fU c d e f g h i j k l m n o p s.1 s.2.1 s.2.2) (a,false,0)) fun r=>vH r.1 r.2) else (some (.inr a))
def iQ (b c:Int) (d:(List aH)) (e:(List Edge)) (f:(List Int)) (g:(List aH)) (h i:Int) (j:(List aH)) (k:(List Edge)) (a:(List (List Int))) (l:(List ((Int × Int) × Int))) (m:(List (List aH))) (n:(List Bool)):Option (List Bool):=
 ob (mkz (a.length:Int) (false:Bool)) fun o=>
 ob (loop (fun (s:(List Bool × Bool))=>oD b c d e f g h i j k a l m n s.1 s.2) (o,true)) fun r=>vG r
def kA (a:(List Bool)):Option (List Bool):=
 ob (rZ ([]:List Bool) a) fun b=>
 some b
def xT (a:List aH):Option (List aH):=
 some a
def fC (a:Int) (b:List aH):Option ((List aH × Int) ⊕ (List aH)):=
 some (.inl (b,wr (a+1)))
def fD (e:(List aH)) (f g:Int) (h:(List aH)) (i:(List Edge)) (j:(List Int)) (c:(List Edge)) (b:List aH) (a:Int):Option ((List aH × Int) ⊕ (List aH)):=
 if (decide (a < (c.length:Int))) then (ob (ix c a) fun k=>
 ob (ix e k.B) fun d=>
 ob (ix j 1) fun l=>
 ob (jT ⟨f,g,h,i⟩ l d) fun m=>
 if (!m.2) then (ob (rZ b ([d]:List aH)) fun n=>
 fC a n) else (fC a b)) else (some (.inr b))
def jV (c d:Int) (a:(List aH)) (e:(List Edge)) (m:(List Int)) (n:(List aH)) (f g:Int) (h:(List aH)) (i:(List Edge)) (o:(List (List Int))) (p:(List ((Int × Int) × Int))) (q:(List (List aH))) (b:(List Int)):Option (List aH):=
 ob (ix b 0) fun j=>
 ob (pI ⟨c,d,a,e⟩ j) fun k=>
 ob (loop (fun (s:(List aH × Int))=>fD a f g h i b k s.1 s.2) ([],0)) fun r=>xT r
def aBR:Option aH:=
 some ([]:aH)
def kT (d e:Int) (f:(List aH)) (g:(List Edge)) (h:(List Int)) (i b:(List aH)) (a:Int):Option (Int ⊕ (Unit ⊕ aH)):=
 if (decide (a < (b.length:Int))) then (ob (ix b a) fun c=>
 ob (lY ⟨⟨d,e,f,g⟩,h,i⟩ c) fun j=>
 if (!j) then (some (.inr (.inr c))) else (some (.inl (wr (a+1))))) else (some (.inr (.inl ())))
def oL (b c:Int) (d:(List aH)) (e:(List Edge)) (f:(List Int)) (g:(List aH)) (h i:Int) (j:(List aH)) (k:(List Edge)) (l:(List (List Int))) (m:(List ((Int × Int) × Int))) (n:(List (List aH))) (o:(List Int)):Option aH:=
 ob (jV b c d e f g h i j k l m n o) fun p=>
 ob (loop (fun (s:Int)=>kT b c d e f g p s) 0) fun r=>match r with|.inl r=>aBR|.inr r=>some r
def qA (a:Bool):Option Bool:=
 some a
def uP (a:aH) (b c d:Int) (e:(List aH)) (f:(List Edge)) (g:(List Int)) (h:(List aH)) (l m:Int) (n:(List aH)) (o:(List Edge)) (q:(List (List Int))) (r:(List ((Int × Int) × Int))) (s:(List (List aH))) (p:(List Bool)):Option Bool:=
 ob (lY ⟨⟨c,d,e,f⟩,g,h⟩ a) fun j=>
 if (!j) then (ob (ix p b) fun k=>
 qA (!k)) else (qA false)
def lF (a:Bool):Option Bool:=
 some a
def oV (a:aH) (b:(Int × Int)) (p:Bool) (d e:Int) (f:(List aH)) (g:(List Edge)) (h:(List Int)) (i:(List aH)) (j k:Int) (l:(List aH)) (m:(List Edge)) (n:(List (List Int))) (o:(List ((Int × Int) × Int))) (q:(List (List aH))) (r:(List Bool)) (u v:Int) (w:(List aH)) (x:(List Edge)) (y:(List Int)) (z:(List aH)) (a0 a1:Int) (a2:(List aH)) (a3:(List Edge)) (a4:(List (List Int))) (s:(List ((Int × Int) × Int))) (a5:(List (List aH))):Option Bool:=
 if p then (lF true) else (ob (uP a ((mU s b).getD 0) d e f g h i j k l m n o q r) fun t=>
 lF t)
def aCh (a:Bool):Option Bool:=
 some a
def jB (a:Int) (b:Bool):Option ((Bool × Int) ⊕ Bool):=
 some (.inl (b,wr (a+1)))
def lL (g:(List aH)) (h i:Int) (j:(List aH)) (k:(List Edge)) (l:(List Int)) (m n:Int) (o:(List aH)) (p:(List Edge)) (q:(List Int)) (r:(List aH)) (s t:Int) (u:(List aH)) (v:(List Edge)) (w:(List (List Int))) (x:(List ((Int × Int) × Int))) (y:(List (List aH))) (z:(List Bool)) (a0 a1:Int) (a2:(List aH)) (a3:(List Edge)) (a4:(List Int)) (a5:(List aH)) (a6 a7:Int) (a8:(List aH)) (a9:(List Edge)) (b0:(List (List Int))) (b1:(List ((Int × Int) × Int))) (b2:(List (List aH))) (c:(List Edge)) (b:Bool) (a:Int):Option ((Bool × Int) ⊕ Bool):=
 if (decide (a < (c.length:Int))) then (ob (ix c a) fun d=>
 ob (ix g d.B) fun e=>
 ob (ix l 1) fun b3=>
 ob (jT ⟨h,i,j,k⟩ b3 e) fun f=>
 if f.2 then (ob (oV e ⟨d.To,f.1⟩ b m n o p q r s t u v w x y z a0 a1 a2 a3 a4 a5 a6 a7 a8 a9 b0 b1 b2) fun b4=>
 jB a b4) else (jB a b)) else (some (.inr b))
def uQ (c d:Int) (a:(List aH)) (e:(List Edge)) (b6:(List Int)) (b7:(List aH)) (f g:Int) (h:(List aH)) (i:(List Edge)) (b8:(List (List Int))) (b9:(List ((Int × Int) × Int))) (c0:(List (List aH))) (b:(List Int)) (j:Bool) (k l:Int) (m:(List aH)) (n:(List Edge)) (o:(List Int)) (p:(List aH)) (q t:Int) (u:(List aH)) (v:(List Edge)) (w:(List (List Int))) (x:(List ((Int × Int) × Int))) (y:(List (List aH))) (z:(List Bool)) (a0 a1:Int) (a2:(List aH)) (a3:(List Edge)) (a4:(List Int)) (a5:(List aH)) (a6 a7:Int) (a8:(List aH)) (a9:(List Edge)) (b0:(List (List Int))) (b1:(List ((Int × Int) × Int))) (b2:(List (List aH))):Option Bool:=
 ob (ix b 0) fun b3=>
 ob (pI ⟨c,d,a,e⟩ b3) fun b4=>
 ob (loop (fun (s:(Bool × Int))=>lL a f g h i b k l m n o p q t u v w x y z a0 a1 a2 a3 a4 a5 a6 a7 a8 a9 b0 b1 b2 b4 s.1 s.2) (j,0)) fun r=>aCh r
def oM (a b:Int) (c:(List aH)) (d:(List Edge)) (e:(List Int)) (f:(List aH)) (g h:Int) (i:(List aH)) (j:(List Edge)) (k:(List (List Int))) (l:(List ((Int × Int) × Int))) (m:(List (List aH))) (n:(List Int)) (o p:Int) (q:(List aH)) (r:(List Edge)) (s:(List Int)) (t:(List aH)) (u v:Int) (w:(List aH)) (x:(List Edge)) (y:(List (List Int))) (z:(List ((Int × Int) × Int))) (a0:(List (List aH))) (a1:(List Bool)):Option Bool:=
 ob (uQ a b c d e f g h i j k l m n false o p q r s t u v w x y z a0 a1 a b c d e f g h i j k l m) fun a2=>
 some a2
def tP:Option Bool:=
 some true
def iK (b c:(List Bool)) (a:Int):Option (Int ⊕ (Unit ⊕ Bool)):=
 if (decide (a < (b.length:Int))) then (ob (ix b a) fun d=>
 ob (ix c a) fun e=>
 if (d != e) then (some (.inr (.inr false))) else (some (.inl (wr (a+1))))) else (some (.inr (.inl ())))
def gL (b c:(List Bool)):Option Bool:=
 if ((b.length:Int) != (c.length:Int)) then (some false) else (ob (loop (fun (s:Int)=>iK b c s) 0) fun r=>match r with|.inl r=>tP|.inr r=>some r)
def wF (a:List Bool):Option ((List Bool) ⊕ (List Bool)):=
 some (.inl a)
def lM (a b:List Bool):Option ((List Bool) ⊕ (List Bool)):=
 ob (gL b a) fun c=>
 if c then (some (.inr a)) else (wF b)
def lN (a:Int) (b:List Bool):Option ((List Bool × Int) ⊕ (List Bool)):=
 some (.inl (b,wr (a+1)))
def jC (b:List Bool) (a:Int) (c:Bool):Option ((List Bool × Int) ⊕ (List Bool)):=
 if c then (ob (ix b a) fun e=>
 ob (st b a (false:Bool)) fun d=>
 lN a d) else (lN a b)
def jD (d e:Int) (f:(List aH)) (g:(List Edge)) (h:(List Int)) (i:(List aH)) (j k:Int) (l:(List aH)) (m:(List Edge)) (b:(List (List Int))) (n:(List ((Int × Int) × Int))) (o:(List (List aH))) (q:List Bool) (r:(List Bool)) (c:List Bool) (a:Int):Option ((List Bool × Int) ⊕ (List Bool)):=
 if (decide (a < (b.length:Int))) then (ob (ix b a) fun p=>
 ob (ix r a) fun s=>
 if (!s) then (jC c a true) else (ob (oL d e f g h i j k l m b n o p) fun t=>
 if (!(t == ([]:aH))) then (jC c a true) else (ob (oM d e f g h i j k l m b n o p d e f g h i j k l m b n o q) fun u=>
 jC c a u))) else (some (.inr c))
def lO (b c:Int) (d:(List aH)) (e:(List Edge)) (f:(List Int)) (g:(List aH)) (h i:Int) (j:(List aH)) (k:(List Edge)) (l:(List (List Int))) (m:(List ((Int × Int) × Int))) (n:(List (List aH))) (a:List Bool):Option ((List Bool) ⊕ (List Bool)):=
 ob (iQ b c d e f g h i j k l m n a) fun o=>
 ob (kA a) fun p=>
 ob (loop (fun (s:(List Bool × Int))=>jD b c d e f g h i j k l m n a o s.1 s.2) (p,0)) fun r=>lM a r
def pR (b c:Int) (d:(List aH)) (e:(List Edge)) (f:(List Int)) (g:(List aH)) (h i:Int) (j:(List aH)) (k:(List Edge)) (a:(List (List Int))) (l:(List ((Int × Int) × Int))) (m:(List (List aH))):Option (List Bool):=
 ob (eK ([true]:List Bool) (a.length:Int)) fun n=>
 ob (loop (fun (s:List Bool)=>lO b c d e f g h i j k a l m s) n) fun r=>some r
def pS (p:aO) (b:aP):Option (aP × Int):=
 ob (nD p b) fun d=>
 if (d.2.2 != 0) then (some (⟨0,0,[],[]⟩,d.2.2)) else (ob (yQ p b) fun c=>
 ob (pR p.S.N p.S.I p.S.L p.S.E p.M p.C b.N b.I b.L b.E c.1 c.2.1 c.2.2) fun e=>
 ob (ix e 0) fun g=>
 if (!g) then (some (⟨0,0,[],[]⟩,3)) else (ob (jU p.S.N p.S.I p.S.L p.S.E p.M p.C b.N b.I b.L b.E c.1 c.2.1 c.2.2 e) fun f=>
 ob (qN f.1) fun h=>
 ob (aEE f.1 h) fun i=>
 some (i,0)))
def rE (a:Int) (b:List (Int × Int × Int)) (c:(List ((Int × Int × Int) × Int))) (d:List (List Int)):Option (Int × (List (Int × Int × Int)) × (List ((Int × Int × Int) × Int)) × (List (List Int))):=
 some (a,b,c,d)
def kU (a:(List (Int × Int × Int))) (b:(List ((Int × Int × Int) × Int))) (d:(List (List Int))) (t:(Int × Int × Int)):Option (Int × (List (Int × Int × Int)) × (List ((Int × Int × Int) × Int)) × (List (List Int))):=
 if (!((mU b t).isSome)) then (ob (some (wV b t (a.length:Int))) fun e=>
 ob (rZ a ([t]:List (Int × Int × Int))) fun f=>
 ob (rZ d ([([]:List Int)]:List (List Int))) fun g=>
 rE (a.length:Int) f e g) else (rE ((mU b t).getD 0) a b d)
def aCi (a:List (Int × Int × Int)) (b:(List ((Int × Int × Int) × Int))) (c:List (List Int)):Option (Bool × (List (Int × Int × Int)) × (List ((Int × Int × Int) × Int)) × (List (List Int))):=
 some (true,a,b,c)
def qB (a:Int) (b:List (Int × Int × Int)) (c:(List ((Int × Int × Int) × Int))) (d:List (List Int)):Option ((List (Int × Int × Int) × (List ((Int × Int × Int) × Int)) × List (List Int) × Int) ⊕ ((List (Int × Int × Int) × (List ((Int × Int × Int) × Int)) × List (List Int)) ⊕ (Bool × (List (Int × Int × Int)) × (List ((Int × Int × Int) × Int)) × (List (List Int))))):=
 some (.inl (b,c,d,wr (a+1)))
def wG (a:Int) (b:List (Int × Int × Int)) (c:(List ((Int × Int × Int) × Int))) (d:List (List Int)):Option ((List (Int × Int × Int) × (List ((Int × Int × Int) × Int)) × List (List Int) × Int) ⊕ ((List (Int × Int × Int) × (List ((Int × Int × Int) × Int)) × List (List Int)) ⊕ (Bool × (List (Int × Int × Int)) × (List ((Int × Int × Int) × Int)) × (List (List Int))))):=
 qB a b c d
def lP (a:Int) (b:List (Int × Int × Int)) (c:(List ((Int × Int × Int) × Int))) (d:List (List Int)):Option ((List (Int × Int × Int) × (List ((Int × Int × Int) × Int)) × List (List Int) × Int) ⊕ ((List (Int × Int × Int) × (List ((Int × Int × Int) × Int)) × List (List Int)) ⊕ (Bool × (List (Int × Int × Int)) × (List ((Int × Int × Int) × Int)) × (List (List Int))))):=
 some (.inl (b,c,d,wr (a+1)))
def wH (b:Int) (a:(Int × (List (Int × Int × Int)) × (List ((Int × Int × Int) × Int)) × (List (List Int)))) (c:List (List Int)):Option ((List (Int × Int × Int) × (List ((Int × Int × Int) × Int)) × List (List Int) × Int) ⊕ ((List (Int × Int × Int) × (List ((Int × Int × Int) × Int)) × List (List Int)) ⊕ (Bool × (List (Int × Int × Int)) × (List ((Int × Int × Int) × Int)) × (List (List Int))))):=
 lP b a.2.1 a.2.2.1 c
def gI (p:aO) (m n:aP) (o:Int) (h:(Int × Int × Int)) (i:(List Edge)) (a:List (Int × Int × Int)) (b:(List ((Int × Int × Int) × Int))) (c:List (List Int)) (e:Int):Option ((List (Int × Int × Int) × (List ((Int × Int × Int) × Int)) × List (List Int) × Int) ⊕ ((List (Int × Int × Int) × (List ((Int × Int × Int) × Int)) × List (List Int)) ⊕ (Bool × (List (Int × Int × Int)) × (List ((Int × Int × Int) × Int)) × (List (List Int))))):=
 if (decide (e < (i.length:Int))) then (ob (ix i e) fun j=>
 ob (ix p.S.L j.B) fun f=>
 ob (jT m h.2.1 f) fun k=>
 if (!k.2) then (ob (lY p f) fun q=>
 if (!q) then (some (.inr (.inr (false,a,b,c)))) else (lP e a b c)) else (ob (jT n h.2.2 f) fun l=>
 if (!l.2) then (some (.inr (.inr (false,a,b,c)))) else (ob (kU a b c ⟨j.To,k.1,l.1⟩) fun d=>
 ob (ix d.2.2.2 d.1) fun r=>
 ob (rZ r ([o]:List Int)) fun s=>
 ob (st d.2.2.2 d.1 s) fun t=>
 wH e d t))) else (some (.inr (.inl (a,b,c))))
def lQ (p:aO) (h i:aP) (b:List (Int × Int × Int)) (e:(List ((Int × Int × Int) × Int))) (f:List (List Int)) (c:Int):Option ((List (Int × Int × Int) × (List ((Int × Int × Int) × Int)) × List (List Int) × Int) ⊕ ((List (Int × Int × Int) × (List ((Int × Int × Int) × Int)) × List (List Int)) ⊕ (Bool × (List (Int × Int × Int)) × (List ((Int × Int × Int) × Int)) × (List (List Int))))):=
 if (decide (c < (b.length:Int))) then (ob (ix b c) fun g=>
 ob (pI p.S g.1) fun j=>
 ob (loop (fun (s:(List (Int × Int × Int) × (List ((Int × Int × Int) × Int)) × List (List Int) × Int))=>gI p h i c g j s.1 s.2.1 s.2.2.1 s.2.2.2) (b,e,f,0)) fun r=>match r with|.inl r=>wG c r.1 r.2.1 r.2.2|.inr r=>some (.inr (.inr r))) else (some (.inr (.inl (b,e,f))))
def pT (f:(List (Int × Int × Int))) (g:(List ((Int × Int × Int) × Int))) (h:(List (List Int))) (p:aO) (d e:aP):Option (Bool × (List (Int × Int × Int)) × (List ((Int × Int × Int) × Int)) × (List (List Int))):=
 ob (kU f g h ⟨p.S.I,d.I,e.I⟩) fun b=>
 ob (loop (fun (s:(List (Int × Int × Int) × (List ((Int × Int × Int) × Int)) × List (List Int) × Int))=>lQ p d e s.1 s.2.1 s.2.2.1 s.2.2.2) (b.2.1,b.2.2.1,b.2.2.2,0)) fun r=>match r with|.inl r=>aCi r.1 r.2.1 r.2.2|.inr r=>some r
def tQ:Option Int:=
 some (-1)
def iL (b:(List Bool)) (c:Bool) (a:Int):Option (Int ⊕ (Unit ⊕ Int)):=
 if (decide (a < (b.length:Int))) then (ob (ix b a) fun d=>
 if (c == d) then (some (.inr (.inr a))) else (some (.inl (wr (a+1))))) else (some (.inr (.inl ())))
def kB (b:(List Bool)) (c:Bool):Option Int:=
 ob (loop (fun (s:Int)=>iL b c s) 0) fun r=>match r with|.inl r=>tQ|.inr r=>some r
def iM (a:(List Bool)) (b:Bool):Option Bool:=
 ob (kB a b) fun c=>
 some (decide (0<=c))
def aBS (a:List Bool):Option Bool:=
 ob (iM a false) fun b=>
 some (!b)
def wN (a:List Bool) (b:List Int):Option ((List Bool × List Int) ⊕ (List Bool)):=
 some (.inl (a,b))
def aBT (a:List Bool) (b:List Int):Option ((List Bool × List Int) ⊕ (List Bool)):=
 wN a b
def rH (a:Int) (b:List Bool) (c:List Int):Option ((List Bool × List Int × Int) ⊕ (List Bool × List Int)):=
 some (.inl (b,c,wr (a+1)))
def nP (e:(List Int)) (a:List Bool) (c:List Int) (b:Int):Option ((List Bool × List Int × Int) ⊕ (List Bool × List Int)):=
 if (decide (b < (e.length:Int))) then (ob (ix e b) fun d=>
 ob (ix a d) fun f=>
 if (!f) then (ob (st a d (true:Bool)) fun g=>
 ob (rZ c ([d]:List Int)) fun h=>
 rH b g h) else (rH b a c)) else (some (.inr (a,c)))
def rI (d:List (List Int)) (b:List Bool) (a:List Int):Option ((List Bool × List Int) ⊕ (List Bool)):=
 if (decide (0 < (a.length:Int))) then (ob (ix a 0) fun e=>
 ob (qT a 1 (a.length:Int)) fun f=>
 ob (ix d e) fun g=>
 ob (loop (fun (s:(List Bool × List Int × Int))=>nP g s.1 s.2.1 s.2.2) (b,f,0)) fun r=>aBT r.1 r.2) else (some (.inr b))
def wO (a:List (List Int)) (b:List Bool) (c:List Int):Option Bool:=
 ob (loop (fun (s:(List Bool × List Int))=>rI a s.1 s.2) (b,c)) fun r=>aBS r
def rJ (a:Int) (b:List Bool) (c:List Int):Option ((List Bool × List Int × Int) ⊕ (List Bool × List Int)):=
 some (.inl (b,c,wr (a+1)))
def nR (p:aO) (d:List (Int × Int × Int)) (b:List Bool) (c:List Int) (a:Int):Option ((List Bool × List Int × Int) ⊕ (List Bool × List Int)):=
 if (decide (a < (d.length:Int))) then (ob (ix d a) fun f=>
 ob (nB p f.1) fun g=>
 if g then (ob (ix b a) fun j=>
 ob (st b a (true:Bool)) fun h=>
 ob (rZ c ([a]:List Int)) fun i=>
 rJ a h i) else (rJ a b c)) else (some (.inr (b,c)))
def mB (p:aO) (a:List (Int × Int × Int)) (g:(List ((Int × Int × Int) × Int))) (d:List (List Int)) (e:Bool):Option Bool:=
 if e then (some false) else (ob (mkz (a.length:Int) (false:Bool)) fun f=>
 ob (loop (fun (s:(List Bool × List Int × Int))=>nR p a s.1 s.2.1 s.2.2) (f,[],0)) fun r=>wO d r.1 r.2)
def tR (p:aO) (c d:aP):Option Bool:=
 ob (uJ p ([c,d]:List aP)) fun e=>
 if (e != 0) then (mB p [] ([]:(List ((Int × Int × Int) × Int))) [] true) else (ob (pT [] ([]:(List ((Int × Int × Int) × Int))) [] p d c) fun b=>
 mB p b.2.1 b.2.2.1 b.2.2.2 (!b.1))
def oN (k:Int) (p:(List Int)):Option Bool:=
 ob (ix p k) fun c=>
 some (decide (0<=c))
def mI:Option Int:=
 some (-1)
def cV (b c:(List Int)) (a:Int):Option (Int ⊕ (Unit ⊕ Int)):=
 if (decide (a < (b.length:Int))) then (ob (ix b a) fun d=>
 ob (oN d c) fun e=>
 if e then (some (.inr (.inr a))) else (some (.inl (wr (a+1))))) else (some (.inr (.inl ())))
def dK (b c:(List Int)):Option Int:=
 ob (loop (fun (s:Int)=>cV b c s) 0) fun r=>match r with|.inl r=>mI|.inr r=>some r
def eA (a:List Int) (b:Int):Option (List Int):=
 ob (qT a b (a.length:Int)) fun c=>
 ob (ovw a b (List.replicate c.length (0:Int))) fun d=>
 ob (qT d 0 b) fun e=>
 some e
def cS (a:Int) (b:List Int) (c:Int):Option ((List Int × Int × Int) ⊕ (List Int × Int)):=
 some (.inl (b,c,wr (a+1)))
def cB (e:(List Int)) (a:List Int) (b c:Int):Option ((List Int × Int × Int) ⊕ (List Int × Int)):=
 if (decide (c < (a.length:Int))) then (ob (ix a c) fun d=>
 ob (oN d e) fun f=>
 if (!f) then (ob (ix a b) fun h=>
 ob (st a b (d:Int)) fun g=>
 cS c g (wr (b+1))) else (cS c a b)) else (some (.inr (a,b)))
def dC (a c:(List Int)):Option (List Int):=
 ob (dK a c) fun b=>
 if (b == (-1)) then (some a) else (ob (loop (fun (s:(List Int × Int × Int))=>cB c s.1 s.2.1 s.2.2) (a,b,wr (b+1))) fun r=>eA r.1 r.2)
def tS (p:aO):Option ((List Int) × Int):=
 ob (rC p) fun b=>
 if (!b) then (some ([],1)) else (ob (lA p.S p.M false) fun c=>
 ob (qN p.S) fun d=>
 ob (dC d c) fun e=>
 some (e,0))
def aMB (a:Int):Option Bool:=
 ob (zN a 0 2) fun b=>
 some b
def sS (a:Int) (b:Bool):Option Int:=
 if b then (some 1) else (ob (aMB a) fun c=>
 if (!c) then (some 2) else (some 0))
def tT (a b:aP) (c:Int):Option Int:=
 ob (aAJ a) fun f=>
 if (!f) then (sS c true) else (ob (aAJ b) fun g=>
 sS c (!g))
def rK (a:List aH):Option (List aH):=
 ob (aCn a) fun b=>
 ob (cY b) fun c=>
 some c
def nE (t:aP) (b:(List Edge)) (c:List aH) (a:Int):Option ((List aH × Int) ⊕ (List aH)):=
 if (decide (a < (b.length:Int))) then (ob (ix b a) fun e=>
 ob (ix t.L e.B) fun f=>
 ob (rZ c ([f]:List aH)) fun g=>
 some (.inl (g,wr (a+1)))) else (some (.inr c))
def iY (t:aP) (k:Int):Option (List aH):=
 ob (pI t k) fun c=>
 ob (loop (fun (s:(List aH × Int))=>nE t c s.1 s.2) ([],0)) fun r=>rK r
def wP (a:List Int):Option (List Int):=
 ob (aAT a) fun b=>
 some b
def wQ (a:Int) (b:List Int):Option ((List Int × Int) ⊕ (List Int)):=
 some (.inl (b,wr (a+1)))
def aBU (a:Int) (b:List Int):Option ((List Int × Int) ⊕ (List Int)):=
 wQ a b
def rM (a:Int) (b:List Int):Option ((List Int × Int) ⊕ (List Int)):=
 some (.inl (b,wr (a+1)))
def nS (c:(List Int)) (a:List Int) (b:Int):Option ((List Int × Int) ⊕ (List Int)):=
 if (decide (b < (c.length:Int))) then (ob (ix c b) fun d=>
 ob (dA a d) fun e=>
 if (!e) then (ob (rZ a ([d]:List Int)) fun f=>
 rM b f) else (rM b a)) else (some (.inr a))
def rO (t:aP) (a:List Int) (b:Int):Option ((List Int × Int) ⊕ (List Int)):=
 if (decide (b < (a.length:Int))) then (ob (ix a b) fun d=>
 ob (jK t ([d]:List Int) ([116,97,117]:aH)) fun e=>
 ob (loop (fun (s:(List Int × Int))=>nS e s.1 s.2) (a,0)) fun r=>aBU b r) else (some (.inr a))
def tU (t:aP) (b:(List Int)):Option (List Int):=
 ob (bP b) fun c=>
 ob (loop (fun (s:(List Int × Int))=>rO t s.1 s.2) (c,0)) fun r=>wP r
def aAj (t:aP) (b:(List Int)) (c:aH):Option (List Int):=
 ob (jK t b c) fun d=>
 ob (tU t d) fun e=>
 some e
def aBV (t:aP) (k:Int) (b:aH):Option (List Int):=
 ob (tU t ([k]:List Int)) fun c=>
 if (b == ([116,97,117]:aH)) then (some c) else (ob (aAj t c b) fun e=>
 some e)
def pU:Option Bool:=
 some true
def fP (b c:(List aH)) (a:Int):Option (Int ⊕ (Unit ⊕ Bool)):=
 if (decide (a < (b.length:Int))) then (ob (ix b a) fun d=>
 ob (ix c a) fun e=>
 if (!(d == e)) then (some (.inr (.inr false))) else (some (.inl (wr (a+1))))) else (some (.inr (.inl ())))
def dM (b c:(List aH)):Option Bool:=
 if ((b.length:Int) != (c.length:Int)) then (some false) else (ob (loop (fun (s:Int)=>fP b c s) 0) fun r=>match r with|.inl r=>pU|.inr r=>some r)
def qO (a y:Int) (c:(List ((Int × Int) × Bool))):Option Bool:=
 some ((mU c ⟨a,y⟩).getD false)
def aDP (a e f:Int) (g:(List aH)) (h:(List Edge)) (i j:Int) (k:(List aH)) (l:(List Edge)) (b:(List ((Int × Int) × Bool))) (p:Int):Option Bool:=
 ob (qO p a b) fun d=>
 some d
def mJ:Option Int:=
 some (-1)
def cW (b:(List Int)) (c d:Int) (e:(List aH)) (f:(List Edge)) (g h:Int) (i:(List aH)) (j:(List Edge)) (k:(List ((Int × Int) × Bool))) (l a:Int):Option (Int ⊕ (Unit ⊕ Int)):=
 if (decide (a < (b.length:Int))) then (ob (ix b a) fun m=>
 ob (aDP m c d e f g h i j k l) fun n=>
 if n then (some (.inr (.inr a))) else (some (.inl (wr (a+1))))) else (some (.inr (.inl ())))
def eX (b:(List Int)) (c d:Int) (e:(List aH)) (f:(List Edge)) (g h:Int) (i:(List aH)) (j:(List Edge)) (k:(List ((Int × Int) × Bool))) (l:Int):Option Int:=
 ob (loop (fun (s:Int)=>cW b c d e f g h i j k l s) 0) fun r=>match r with|.inl r=>mJ|.inr r=>some r
def eH (a:(List Int)) (b c:Int) (d:(List aH)) (e:(List Edge)) (f g:Int) (h:(List aH)) (i:(List Edge)) (j:(List ((Int × Int) × Bool))) (k:Int):Option Bool:=
 ob (eX a b c d e f g h i j k) fun l=>
 some (decide (0<=l))
def yR (b a:aP) (c:(List ((Int × Int) × Bool))) (i y:Int) (e:aH) (f:Int):Option Bool:=
 ob (aBV a y e) fun g=>
 ob (eH g b.N b.I b.L b.E a.N a.I a.L a.E c f) fun h=>
 some h
def aBW:Option Bool:=
 some true
def kV (a b:aP) (f:(List ((Int × Int) × Bool))) (g y:Int) (d:(List Edge)) (c:Int):Option (Int ⊕ (Unit ⊕ Bool)):=
 if (decide (c < (d.length:Int))) then (ob (ix d c) fun e=>
 ob (ix a.L e.B) fun i=>
 ob (yR ⟨a.N,a.I,a.L,a.E⟩ ⟨b.N,b.I,b.L,b.E⟩ f g y i e.To) fun j=>
 if (!j) then (some (.inr (.inr false))) else (some (.inl (wr (c+1))))) else (some (.inr (.inl ())))
def kY (b d:aP) (e:(List ((Int × Int) × Bool))) (c y:Int):Option Bool:=
 ob (pI b c) fun g=>
 ob (loop (fun (s:Int)=>kV b d e c y g s) 0) fun r=>match r with|.inl r=>aBW|.inr r=>some r
def aCK (a e f:Int) (g:(List aH)) (h:(List Edge)) (i j:Int) (k:(List aH)) (l:(List Edge)) (b:(List ((Int × Int) × Bool))) (p:Int):Option Bool:=
 ob (qO p a b) fun d=>
 some d
def mK:Option Int:=
 some (-1)
def cX (b:(List Int)) (c d:Int) (e:(List aH)) (f:(List Edge)) (g h:Int) (i:(List aH)) (j:(List Edge)) (k:(List ((Int × Int) × Bool))) (l a:Int):Option (Int ⊕ (Unit ⊕ Int)):=
 if (decide (a < (b.length:Int))) then (ob (ix b a) fun m=>
 ob (aCK m c d e f g h i j k l) fun n=>
 if n then (some (.inr (.inr a))) else (some (.inl (wr (a+1))))) else (some (.inr (.inl ())))
def eY (b:(List Int)) (c d:Int) (e:(List aH)) (f:(List Edge)) (g h:Int) (i:(List aH)) (j:(List Edge)) (k:(List ((Int × Int) × Bool))) (l:Int):Option Int:=
 ob (loop (fun (s:Int)=>cX b c d e f g h i j k l s) 0) fun r=>match r with|.inl r=>mK|.inr r=>some r
def eI (a:(List Int)) (b c:Int) (d:(List aH)) (e:(List Edge)) (f g:Int) (h:(List aH)) (i:(List Edge)) (j:(List ((Int × Int) × Bool))) (k:Int):Option Bool:=
 ob (eY a b c d e f g h i j k) fun l=>
 some (decide (0<=l))
def wB (b a:aP) (c:(List ((Int × Int) × Bool))) (i y:Int) (e:aH) (f:Int):Option Bool:=
 ob (jK a ([y]:List Int) e) fun g=>
 ob (eI g b.N b.I b.L b.E a.N a.I a.L a.E c f) fun h=>
 some h
def yV:Option Bool:=
 some true
def iR (a b:aP) (f:(List ((Int × Int) × Bool))) (g y:Int) (d:(List Edge)) (c:Int):Option (Int ⊕ (Unit ⊕ Bool)):=
 if (decide (c < (d.length:Int))) then (ob (ix d c) fun e=>
 ob (ix a.L e.B) fun i=>
 ob (wB ⟨a.N,a.I,a.L,a.E⟩ ⟨b.N,b.I,b.L,b.E⟩ f g y i e.To) fun j=>
 if (!j) then (some (.inr (.inr false))) else (some (.inl (wr (c+1))))) else (some (.inr (.inl ())))
def iN (b d:aP) (e:(List ((Int × Int) × Bool))) (c y:Int):Option Bool:=
 ob (pI b c) fun g=>
 ob (loop (fun (s:Int)=>iR b d e c y g s) 0) fun r=>match r with|.inl r=>yV|.inr r=>some r
def iC (a b:aP) (c:(List ((Int × Int) × Bool))) (f d y:Int) (g:Bool):Option Bool:=
 if g then (some false) else (if (f == 2) then (ob (kY ⟨a.N,a.I,a.L,a.E⟩ ⟨b.N,b.I,b.L,b.E⟩ c d y) fun h=>
 some h) else (ob (iN ⟨a.N,a.I,a.L,a.E⟩ ⟨b.N,b.I,b.L,b.E⟩ c d y) fun i=>
 some i))
def gT (a b:aP) (f:(List ((Int × Int) × Bool))) (c d y:Int):Option Bool:=
 if (c == 1) then (ob (iY a d) fun g=>
 ob (iY b y) fun h=>
 ob (dM g h) fun i=>
 iC a b f c d y (!i)) else (iC a b f c d y false)
def aAw (a:Int) (b:(List ((Int × Int) × Bool))) (c:Int):Option (((List ((Int × Int) × Bool)) × Int × Int) ⊕ ((List ((Int × Int) × Bool)) × Int)):=
 some (.inl (b,c,wr (a+1)))
def aAx (a:(List ((Int × Int) × Bool))) (d b:Int) (c:(List ((Int × Int) × Bool))):Option (((List ((Int × Int) × Bool)) × Int × Int) ⊕ ((List ((Int × Int) × Bool)) × Int)):=
 if ((c.length:Int) == (a.length:Int)) then (some (.inr (a,b))) else (aAw d c b)
def fA (a b:aP) (f:Int) (g:(List ((Int × Int) × Bool))) (e:(Int × Int)):Option Bool:=
 ob (gT ⟨a.N,a.I,a.L,a.E⟩ ⟨b.N,b.I,b.L,b.E⟩ g f e.1 e.2) fun h=>
 if h then (some true) else (some false)
def qP (a b:aP) (f:Int) (c:(List ((Int × Int) × Bool))) (g h:Int):Option (((List ((Int × Int) × Bool)) × Int × Int) ⊕ ((List ((Int × Int) × Bool)) × Int)):=
 ob (mfil (fA a b f c) (List.map Prod.fst c)) fun i=>
 ob (some (aDr ([]:(List ((Int × Int) × Bool))) true i)) fun j=>
 aAx c g h j
def qQ (a b:aP) (f:Int) (g:(List ((Int × Int) × Bool))) (h c:Int) (i:Bool):Option (((List ((Int × Int) × Bool)) × Int × Int) ⊕ ((List ((Int × Int) × Bool)) × Int)):=
 if i then (qP a b f g c c) else (qP a b f g c h)
def vI (a b:aP) (g:Int) (e:(List ((Int × Int) × Bool))) (f h:Int):Option (((List ((Int × Int) × Bool)) × Int × Int) ⊕ ((List ((Int × Int) × Bool)) × Int)):=
 if (decide (f < 0)) then (qQ a b g e f h (!((mU e ⟨a.I,b.I⟩).getD false))) else (qQ a b g e f h false)
def aAy (a b:aP) (e:Int) (f:(List ((Int × Int) × Bool))):Option ((List ((Int × Int) × Bool)) × Int):=
 ob (loop (fun (s:((List ((Int × Int) × Bool)) × Int × Int))=>vI a b e s.1 s.2.1 s.2.2) (f,(-1),0)) fun r=>some r
def aAz (a:Int) (b:(List ((Int × Int) × Bool))):Option (((List ((Int × Int) × Bool)) × Int) ⊕ (List ((Int × Int) × Bool))):=
 some (.inl (b,wr (a+1)))
def aDo (a:Int) (b:(List ((Int × Int) × Bool))):Option (((List ((Int × Int) × Bool)) × Int) ⊕ (List ((Int × Int) × Bool))):=
 aAz a b
def tV (a:Int) (b:(List ((Int × Int) × Bool))):Option (((List ((Int × Int) × Bool)) × Int) ⊕ (List ((Int × Int) × Bool))):=
 some (.inl (b,wr (a+1)))
def pJ (c:Int) (b:(List ((Int × Int) × Bool))) (a:Int) (d:Bool):Option (((List ((Int × Int) × Bool)) × Int) ⊕ (List ((Int × Int) × Bool))):=
 if d then (ob (some (wV b ⟨c,a⟩ true)) fun e=>
 tV a e) else (tV a b)
def mC (a b:aP) (h d:Int) (e:(List ((Int × Int) × Bool))) (c:Int):Option (((List ((Int × Int) × Bool)) × Int) ⊕ (List ((Int × Int) × Bool))):=
 if (decide (c < b.N)) then (if (h != 1) then (pJ d e c true) else (ob (iY a d) fun i=>
 ob (iY b c) fun j=>
 ob (dM i j) fun k=>
 pJ d e c k)) else (some (.inr e))
def mD (a b:aP) (g:Int) (e:(List ((Int × Int) × Bool))) (c:Int):Option (((List ((Int × Int) × Bool)) × Int) ⊕ (List ((Int × Int) × Bool))):=
 if (decide (c < a.N)) then (ob (loop (fun (s:((List ((Int × Int) × Bool)) × Int))=>mC a b g c s.1 s.2) (e,0)) fun r=>aDo c r) else (some (.inr e))
def aBX (a b:aP) (e:Int):Option ((List ((Int × Int) × Bool)) × Int):=
 ob (loop (fun (s:((List ((Int × Int) × Bool)) × Int))=>mD a b e s.1 s.2) (([]:(List ((Int × Int) × Bool))),0)) fun r=>aAy a b e r
def aHS (a b:aP) (e:Int):Option Bool:=
 ob (aBX a b e) fun f=>
 some (decide (f.2 < 0))
def aFo (a b:aP) (e:Int):Option (Bool × Int):=
 ob (tT a b e) fun f=>
 if (f != 0) then (some (false,f)) else (ob (aHS a b e) fun g=>
 some (g,0))
def wR (a:Bool):Option Bool:=
 some a
def rP (b:(aO × aP × aP)) (d:Bool) (e:(aO × (List (List Int)) × Int)) (f:Bool):Option Bool:=
 if f then (some false) else (if (!d) then (some true) else (ob (nD b.1 b.2.2) fun a=>
 if (a.2.2 == 5) then (some true) else (ob (aFo a.1.S e.1.S 0) fun c=>
 if (a.2.2 == 0) then (if (c.2 == 0) then (wR c.1) else (wR false)) else (wR false))))
def rQ (b:(aO × aP × aP)) (c:Bool) (a:(aO × (List (List Int)) × Int)) (e:Bool):Option Bool:=
 if e then (some false) else (ob (tS a.1) fun d=>
 if (d.2 != 0) then (rP b c a true) else (rP b c a (decide (0 < (d.1.length:Int)))))
def rR (b:(aO × aP × aP)) (d:(aP × Int)) (c e:Bool):Option Bool:=
 if e then (some false) else (ob (nD b.1 d.1) fun a=>
 if (a.2.2 != 0) then (rQ b c a true) else (ob (rC a.1) fun f=>
 rQ b c a (!f)))
def aBY (d e:(List UInt8)):Option Bool:=
 ob (aHM d e) fun f=>
 if f then (some true) else (ob (aGi d) fun a=>
 ob (pS a.1 a.2.1) fun b=>
 ob (tR a.1 a.2.1 a.2.2) fun c=>
 if (b.2 == 5) then (some true) else (if (b.2 == 3) then (some (!c)) else (if (b.2 != 0) then (rR a b c true) else (ob (tR a.1 a.2.1 b.1) fun g=>
 rR a b c (!g)))))
end
end Gv
