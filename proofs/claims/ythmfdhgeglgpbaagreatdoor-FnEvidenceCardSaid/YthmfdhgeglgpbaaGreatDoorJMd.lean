/- Models of the functions, printed by program off their code. Plain Lean. -/
import Derived.Test.YthmfdhgeglgpbaaGreatDoorJLM
set_option linter.all false
namespace Gv
noncomputable section
def aFI (a:List Int):Option ((List Int) × Bool):=
 some (a,true)
def wG (b:(List aJ)) (c:List Int) (a:Int):Option ((List Int × Int) ⊕ (List Int ⊕ ((List Int) × Bool))):=
 if (decide (a < (b.length:Int))) then (ob (ix b a) fun e=>
 ob (xI e) fun d=>
 if (!d.2) then (some (.inr (.inr ([],false)))) else (ob (pS c ([d.1]:List Int)) fun f=>
 some (.inl (f,wr (a+1))))) else (some (.inr (.inl c)))
def xK (b:(List aJ)):Option ((List Int) × Bool):=
 ob (loop (fun (s:(List Int × Int))=>wG b s.1 s.2) ([],0)) fun r=>match r with|.inl r=>aFI r|.inr r=>some r
def aGu (a:Bool):Option Bool:=
 some a
def aIG (c:UInt8):Option Bool:=
 if (decide (48<=(c.toNat:Int))) then (aGu (decide ((c.toNat:Int)<=57))) else (aGu false)
def aHK (a:Bool):Option Bool:=
 some a
def aEH (a:aJ):Option Bool:=
 if (decide (1<=(a.length:Int))) then (aHK (decide ((a.length:Int)<=10))) else (aHK false)
def aBQ (a:Int) (b:Bool):Option (Int ⊕ (Unit ⊕ Bool)):=
 if b then (some (.inr (.inr false))) else (some (.inl (wr (a+1))))
def sS (b:aJ) (a:Int) (c:Bool):Option (Int ⊕ (Unit ⊕ Bool)):=
 if (!c) then (if (a == 0) then (aBQ a true) else (ob (ix b a) fun d=>
 ob (aIG d) fun e=>
 aBQ a (!e))) else (aBQ a false)
def zW (a:aJ) (b:Int):Option (Int ⊕ (Unit ⊕ Bool)):=
 if (decide (b < (a.length:Int))) then (ob (ix a b) fun c45=>
 if (decide (97<=(c45.toNat:Int))) then (sS a b (decide ((c45.toNat:Int)<=122))) else (sS a b false)) else (some (.inr (.inl ())))
def aHL (b:aJ):Option Bool:=
 ob (loop (fun (s:Int)=>zW b s) 0) fun r=>match r with|.inl r=>aEH b|.inr r=>some r
def aBA (a:Bool):Option Bool:=
 some a
def aBl (a:aJ):Option Bool:=
 ob (aHL a) fun b=>
 if b then (aBA (!(a == ([116,97,117]:aJ)))) else (aBA false)
def aHM (a:Bool):Option Bool:=
 some a
def tT (n low b:Int):Option Bool:=
 if (decide (low<=n)) then (aHM (decide (n<=b))) else (aHM false)
def aLa (n:Int):Option Bool:=
 ob (tT n 0 63) fun b=>
 some b
def aDI (n:Int):Option Bool:=
 ob (aLa n) fun b=>
 some (!b)
def nU:Option Int:=
 some (-1)
def dW (b:(List Int)) (a:Int):Option (Int ⊕ (Unit ⊕ Int)):=
 if (decide (a < (b.length:Int))) then (ob (ix b a) fun c=>
 ob (aDI c) fun d=>
 if d then (some (.inr (.inr a))) else (some (.inl (wr (a+1))))) else (some (.inr (.inl ())))
def gH (b:(List Int)):Option Int:=
 ob (loop (fun (s:Int)=>dW b s) 0) fun r=>match r with|.inl r=>nU|.inr r=>some r
def iZ (a:(List Int)):Option Bool:=
 ob (gH a) fun b=>
 some (decide (0<=b))
def aEI (a:(List Int)):Option Bool:=
 ob (iZ a) fun b=>
 some (!b)
def aHN (a:aJ) (b:List aJ):Option aJ:=
 ob (aPu b a) fun c=>
 some c
def aBR (c:(List Int)) (b:List aJ) (a:Int):Option ((List aJ × Int) ⊕ (List aJ)):=
 if (decide (a < (c.length:Int))) then (ob (ix c a) fun d=>
 ob (aFE d) fun e=>
 ob (ix b a) fun g=>
 ob (st b a (e:aJ)) fun f=>
 some (.inl (f,wr (a+1)))) else (some (.inr b))
def aHO (a:(List Int)) (b:aJ):Option aJ:=
 ob (mkz (a.length:Int) ([]:aJ)) fun c=>
 ob (loop (fun (s:(List aJ × Int))=>aBR a s.1 s.2) (c,0)) fun r=>aHN b r
def aAp (a:aJ) (b:(List Int)) (c:Bool):Option (aJ × Bool):=
 if c then (some (([]:aJ),false)) else (if ((b.length:Int) == 0) then (some (a,true)) else (ob (cat a ([40]:aJ)) fun d=>
 ob (aHO b ([44]:aJ)) fun e=>
 ob (cat d e) fun f=>
 ob (cat f ([41]:aJ)) fun g=>
 some (g,true)))
def aFJ (b:aJ) (a:(List Int)):Option (aJ × Bool):=
 if (b == ([116,97,117]:aJ)) then (some (([116,97,117]:aJ),(a.length:Int) == 0)) else (ob (aBl b) fun c=>
 if (!c) then (aAp b a true) else (if (decide (2 < (a.length:Int))) then (aAp b a true) else (ob (aEI a) fun d=>
 aAp b a (!d))))
def eH (a:Bool):Option Bool:=
 some a
def dS (a b:aJ):Option Bool:=
 if (decide ((b.length:Int)<=(a.length:Int))) then (ob (slc a (wr ((a.length:Int) - (b.length:Int))) (a.length:Int)) fun c=>
 eH (c == b)) else (eH false)
def kG (a b:aJ):Option aJ:=
 ob (dS a b) fun c=>
 if c then (ob (slc a 0 (wr ((a.length:Int) - (b.length:Int)))) fun d=>
 some d) else (some a)
def qE (a b:aJ):Option aJ:=
 ob (kG a b) fun c=>
 some c
def pA (a:(aJ × aJ × Bool)) (b:List Int) (c:Bool):Option (aJ × (List Int) × Bool):=
 if c then (some (([]:aJ),[],false)) else (some (a.1,b,true))
def mQ (d:aJ) (a:(aJ × aJ × Bool)) (b:List Int):Option (aJ × (List Int) × Bool):=
 ob (aFJ a.1 b) fun c=>
 if (!c.2) then (pA a b true) else (pA a b (!(c.1 == d)))
def vD (b:aJ):Option (aJ × (List Int) × Bool):=
 ob (l_Cut b ([40]:aJ)) fun a=>
 if a.2.2 then (ob (qE a.2.1 ([41]:aJ)) fun d=>
 ob (aKh d ([44]:aJ)) fun e=>
 ob (xK e) fun c=>
 if (!c.2) then (some (([]:aJ),[],false)) else (mQ b a c.1)) else (mQ b a [])
def aDn (a:aJ):Option Bool:=
 ob (vD a) fun b=>
 some b.2.2
def aLb (a:(List UInt8)):Option Bool:=
 some (decide (1048576 < (a.length:Int)))
def aLc (a:(List UInt8)):Option (Int × Int):=
 some (0,0)
def aFK (a b:Edge):Option Bool:=
 if (a.F != b.F) then (some (decide (a.F < b.F))) else (if (a.B != b.B) then (some (decide (a.B < b.B))) else (some (decide (a.To < b.To))))
def aEJ (e:Edge) (b:Int) (c:List Edge):Option (List Edge):=
 ob (ix c b) fun f=>
 ob (st c b (⟨e.F,e.B,e.To⟩:Edge)) fun d=>
 some d
def aBS (d:Int) (b:List Edge) (a:Int):Option ((List Edge × Int) ⊕ (List Edge)):=
 if (decide (d < a)) then (ob (ix b (wr (a - 1))) fun c=>
 ob (ix b a) fun f=>
 ob (st b a (⟨c.F,c.B,c.To⟩:Edge)) fun e=>
 some (.inl (e,wr (a - 1)))) else (some (.inr b))
def zX (a:(List Edge)) (e:Edge) (b:Int) (f:Bool):Option (List Edge):=
 if f then (some a) else (ob (pS a ([⟨0,0,0⟩]:List Edge)) fun c=>
 ob (loop (fun (s:(List Edge × Int))=>aBS b s.1 s.2) (c,wr ((c.length:Int) - 1))) fun r=>aEJ e b r)
def aEK (b:(List Edge)) (e:Edge) (a:Int):Option (List Edge):=
 if (decide (0 < a)) then (ob (ix b (wr (a - 1))) fun d=>
 zX b e a (decide ((d:Edge)=e))) else (zX b e a false)
def aBT (a:Int) (b:Bool):Option (Int ⊕ Int):=
 if b then (some (.inl (wr (a - 1)))) else (some (.inr a))
def zY (b:(List Edge)) (e:Edge) (a:Int):Option (Int ⊕ Int):=
 if (decide (0 < a)) then (ob (ix b (wr (a - 1))) fun d=>
 ob (aFK e d) fun f=>
 aBT a f) else (aBT a false)
def aHP (a:(List Edge)) (e:Edge):Option (List Edge):=
 ob (loop (fun (s:Int)=>zY a e s) (a.length:Int)) fun r=>aEK a e r
def aKn:Option Int:=
 some (-1)
def aCQ (b:(List aJ)) (c:aJ) (a:Int):Option (Int ⊕ (Unit ⊕ Int)):=
 if (decide (a < (b.length:Int))) then (ob (ix b a) fun d=>
 if (d == c) then (some (.inr (.inr a))) else (some (.inl (wr (a+1))))) else (some (.inr (.inl ())))
def aDo (b:(List aJ)) (c:aJ):Option Int:=
 ob (loop (fun (s:Int)=>aCQ b c s) 0) fun r=>match r with|.inl r=>aKn|.inr r=>some r
def aKo (a:List aJ):Option (List aJ):=
 some a
def wH (a:Int) (b:List aJ):Option ((List aJ × Int) ⊕ (List aJ)):=
 some (.inl (b,wr (a+1)))
def aCR (c:Int) (d:aJ) (a:Int) (b:List aJ):Option ((List aJ × Int) ⊕ (List aJ)):=
 ob (ix b a) fun f=>
 ob (st b a (d:aJ)) fun e=>
 wH c e
def aAq (c:Int) (b:List aJ) (a:Int):Option ((List aJ × Int) ⊕ (List aJ)):=
 if (decide (c < a)) then (ob (ix b (wr (a - 1))) fun d=>
 ob (ix b a) fun f=>
 ob (st b a (d:aJ)) fun e=>
 some (.inl (e,wr (a - 1)))) else (some (.inr b))
def aCS (c:List aJ) (d:Int) (e:aJ) (a:Int):Option ((List aJ × Int) ⊕ (List aJ)):=
 ob (pS c ([([]:aJ)]:List aJ)) fun b=>
 ob (loop (fun (s:(List aJ × Int))=>aAq a s.1 s.2) (b,wr ((b.length:Int) - 1))) fun r=>aCR d e a r
def aAr (a:Int) (b:Bool):Option (Int ⊕ Int):=
 if b then (some (.inl (wr (a+1)))) else (some (.inr a))
def wI (b:List aJ) (c:aJ) (a:Int):Option (Int ⊕ Int):=
 if (decide (a < (b.length:Int))) then (ob (ix b a) fun d=>
 aAr a (ltB d c)) else (aAr a false)
def sY (d:(List aJ)) (a:List aJ) (b:Int):Option ((List aJ × Int) ⊕ (List aJ)):=
 if (decide (b < (d.length:Int))) then (ob (ix d b) fun c=>
 ob (aDo a c) fun e=>
 if (decide (0<=e)) then (wH b a) else (ob (loop (fun (s:Int)=>wI a c s) 1) fun r=>aCS a b c r)) else (some (.inr a))
def aFL (a:(List aJ)):Option (List aJ):=
 ob (loop (fun (s:(List aJ × Int))=>sY a s.1 s.2) (([([116,97,117]:aJ)]:List aJ),0)) fun r=>aKo r
def aKp (a b:Int) (c:(List aJ)) (d:List Edge):Option cN:=
 some ⟨a,b,c,d⟩
def wJ (e:(List aJ)) (c:(List Edge)) (f:(List aJ)) (d:List Edge) (a:Int):Option ((List Edge × Int) ⊕ (List Edge)):=
 if (decide (a < (c.length:Int))) then (ob (ix c a) fun b=>
 ob (ix e b.B) fun g=>
 ob (aDo f g) fun h=>
 ob (aHP d ⟨b.F,h,b.To⟩) fun i=>
 some (.inl (i,wr (a+1)))) else (some (.inr d))
def aDp (c d:Int) (a:(List aJ)) (e:(List Edge)):Option cN:=
 ob (aFL a) fun b=>
 ob (loop (fun (s:(List Edge × Int))=>wJ a e b s.1 s.2) (([]:List Edge),0)) fun r=>aKp c d b r
def aHQ (t:cN):Option cN:=
 ob (pS ([]:List aJ) t.L) fun b=>
 ob (pS ([]:List Edge) t.E) fun c=>
 some ⟨t.N,t.I,b,c⟩
def aBU (a:(List Int)):Option (List Int):=
 ob (pS ([]:List Int) a) fun b=>
 some b
def aJA (a:Bool):Option Bool:=
 some a
def yE (n low b:Int):Option Bool:=
 if (decide (low<=n)) then (aJA (decide (n<=b))) else (aJA false)
def aBB (a:Bool):Option Int:=
 if a then (some 2) else (some 1)
def uB (a:Int) (b:Bool):Option Int:=
 if b then (some 0) else (if (a == 2) then (aBB (a == 2)) else (aBB (a == 3)))
def aBm (a:Int):Option Int:=
 if (a == 0) then (uB a (a == 0)) else (if (a == 1) then (uB a (a == 1)) else (uB a (a == 6)))
def aFl (a:Bool):Option Bool:=
 some a
def aDJ (c:UInt8):Option Bool:=
 if (decide (97<=(c.toNat:Int))) then (aFl (decide ((c.toNat:Int)<=122))) else (aFl false)
def aFm (a:Bool):Option Bool:=
 some a
def aDK (c:UInt8):Option Bool:=
 if (decide (48<=(c.toNat:Int))) then (aFm (decide ((c.toNat:Int)<=57))) else (aFm false)
def aGv:Option Bool:=
 some true
def aCT (a:Int) (b:Bool):Option (Int ⊕ (Unit ⊕ Bool)):=
 if b then (some (.inr (.inr false))) else (some (.inl (wr (a+1))))
def aAs (b:aJ) (a:Int):Option (Int ⊕ (Unit ⊕ Bool)):=
 if (decide (a < (b.length:Int))) then (ob (ix b a) fun c=>
 ob (aDJ c) fun d=>
 if (!d) then (ob (aDK c) fun e=>
 aCT a (!e)) else (aCT a false)) else (some (.inr (.inl ())))
def sZ (b:aJ) (c:Bool):Option Bool:=
 if c then (some false) else (ob (loop (fun (s:Int)=>aAs b s) 0) fun r=>match r with|.inl r=>aGv|.inr r=>some r)
def aDq (a:aJ):Option Bool:=
 if (a == ([]:aJ)) then (sZ a true) else (if (decide (10 < (a.length:Int))) then (sZ a true) else (ob (ix a 0) fun b=>
 ob (aDJ b) fun c=>
 sZ a (!c)))
def aAt (a:Bool):Option Bool:=
 some a
def zZ (a:aJ):Option Bool:=
 ob (aDq a) fun b=>
 if b then (aAt (!(a == ([116,97,117]:aJ)))) else (aAt false)
def aKq (a:aJ):Option Int:=
 some (a.length:Int)
def aCU (b:aJ) (a:Int):Option (Int ⊕ (Unit ⊕ Int)):=
 if (decide (a < (b.length:Int))) then (ob (ix b a) fun c=>
 if ((c.toNat:Int) == 40) then (some (.inr (.inr a))) else (some (.inl (wr (a+1))))) else (some (.inr (.inl ())))
def aDr (b:aJ):Option Int:=
 ob (loop (fun (s:Int)=>aCU b s) 0) fun r=>match r with|.inl r=>aKq b|.inr r=>some r
def aFn (a:aJ) (b:List aJ) (c:Int):Option (List aJ):=
 ob (slc a c (a.length:Int)) fun d=>
 ob (pS b ([d]:List aJ)) fun e=>
 some e
def uC (a:Int) (b:List aJ) (c:Int):Option ((List aJ × Int × Int) ⊕ (List aJ × Int)):=
 some (.inl (b,c,wr (a+1)))
def aBC (b:aJ) (e:UInt8) (c:List aJ) (d a:Int):Option ((List aJ × Int × Int) ⊕ (List aJ × Int)):=
 if (decide (a < (b.length:Int))) then (ob (ix b a) fun f=>
 if ((f.toNat:Int) == (e.toNat:Int)) then (ob (slc b d a) fun g=>
 ob (pS c ([g]:List aJ)) fun h=>
 uC a h (wr (a+1))) else (uC a c d)) else (some (.inr (c,d)))
def aDL (a:aJ) (c:UInt8):Option (List aJ):=
 ob (loop (fun (s:(List aJ × Int × Int))=>aBC a c s.1 s.2.1 s.2.2) (([]:List aJ),0,0)) fun r=>aFn a r.1 r.2
def aDM (a:Int):Option (Int × Bool):=
 some (a,true)
def aAu (b a:Int):Option (Int × Bool):=
 if (b == 1) then (aDM (wr (0 - a))) else (aDM a)
def rU (b:aJ) (c a:Int):Option ((Int × Int) ⊕ (Int ⊕ (Int × Bool))):=
 if (decide (a < (b.length:Int))) then (ob (ix b a) fun c45=>
 ob (aDK c45) fun d=>
 if (!d) then (some (.inr (.inr (0,false)))) else (some (.inl (wr ((wr (10 * c))+(wr ((c45 - (48:UInt8)).toNat:Int))),wr (a+1))))) else (some (.inr (.inl c)))
def mR (c:aJ) (b:Int) (d:Bool):Option (Int × Bool):=
 if d then (some (0,false)) else (ob (loop (fun (s:(Int × Int))=>rU c s.1 s.2) (0,b)) fun r=>match r with|.inl r=>aAu b r|.inr r=>some r)
def rV (a:aJ) (b:Int):Option (Int × Bool):=
 if ((a.length:Int) == b) then (mR a b true) else (if (decide (18 < wr ((a.length:Int) - b))) then (mR a b true) else (ob (ix a b) fun c=>
 if ((c.toNat:Int) == 48) then (mR a b (decide (1 < (a.length:Int)))) else (mR a b false)))
def vE (a:aJ) (b:Bool):Option (Int × Bool):=
 if b then (rV a 1) else (rV a 0)
def aAa (a:aJ):Option (Int × Bool):=
 if (decide (0 < (a.length:Int))) then (ob (ix a 0) fun b=>
 vE a ((b.toNat:Int) == 45)) else (vE a false)
def aDN (a:List Int):Option ((List Int) × Bool):=
 some (a,decide ((a.length:Int)<=2))
def aAv (a:List Int) (b:Int) (c:(Int × Bool)) (d:Bool):Option ((List Int × Int) ⊕ (List Int ⊕ ((List Int) × Bool))):=
 if d then (some (.inr (.inr ([],false)))) else (ob (pS a ([c.1]:List Int)) fun e=>
 some (.inl (e,wr (b+1))))
def vF (d:(List aJ)) (c:List Int) (a:Int):Option ((List Int × Int) ⊕ (List Int ⊕ ((List Int) × Bool))):=
 if (decide (a < (d.length:Int))) then (ob (ix d a) fun e=>
 ob (aAa e) fun b=>
 if (!b.2) then (aAv c a b true) else (ob (yE b.1 0 63) fun f=>
 aAv c a b (!f))) else (some (.inr (.inl c)))
def rW (b:aJ) (c:Int) (d:Bool):Option ((List Int) × Bool):=
 if d then (some ([],false)) else (ob (slc b (wr (c+1)) (wr ((b.length:Int) - 1))) fun e=>
 ob (aDL e (44:UInt8)) fun f=>
 ob (loop (fun (s:(List Int × Int))=>vF f s.1 s.2) (([]:List Int),0)) fun r=>match r with|.inl r=>aDN r|.inr r=>some r)
def aEL (a:aJ):Option ((List Int) × Bool):=
 ob (aDr a) fun b=>
 if (b == (a.length:Int)) then (ob (aDq a) fun c=>
 some (([]:List Int),c)) else (ob (slc a 0 b) fun d=>
 ob (zZ d) fun e=>
 if (!e) then (rW a b true) else (ob (ix a (wr ((a.length:Int) - 1))) fun f=>
 rW a b ((f.toNat:Int) != 41)))
def aDO (a:aJ):Option Bool:=
 ob (aEL a) fun b=>
 some b.2
def yF (a:Bool):Option Bool:=
 some a
def tU (a:aJ) (b:Bool):Option Bool:=
 if b then (some true) else (ob (ix a (wr ((a.length:Int) - 1))) fun c=>
 if ((c.toNat:Int) == 42) then (ob (slc a 0 (wr ((a.length:Int) - 1))) fun d=>
 ob (zZ d) fun e=>
 yF e) else (yF false))
def tA (a:aJ):Option Bool:=
 if (a == ([]:aJ)) then (tU a true) else (ob (aDO a) fun b=>
 tU a b)
def aFo (a:Int):Option Bool:=
 some (a == 0)
def mG (a b c:Int) (d:Bool):Option ((Int × Int) ⊕ (Int ⊕ Bool)):=
 if d then (some (.inr (.inr false))) else (some (.inl (wr (a+(wr (c - 1))),wr (b+1))))
def kI (a b:Int) (d:aT) (c:Int) (e:Bool):Option ((Int × Int) ⊕ (Int ⊕ Bool)):=
 if e then (ob (tA d.B) fun f=>
 if (!f) then (mG a b c true) else (mG a b c false)) else (if (!(d.B == ([]:aJ))) then (mG a b c true) else (mG a b c d.Not))
def uD (e:(List aT)) (c b:Int) (f:Bool):Option ((Int × Int) ⊕ (Int ⊕ Bool)):=
 if f then (some (.inr (.inr false))) else (ob (ix e b) fun a=>
 ob (aBm a.Kind) fun d=>
 if (a.Kind == 4) then (kI c b a d true) else (kI c b a d (a.Kind == 5)))
def dQ (a:(List aT)) (d b c:Int):Option ((Int × Int) ⊕ (Int ⊕ Bool)):=
 if (decide (c < (a.length:Int))) then (if (b == 0) then (uD a b c true) else (ob (ix a c) fun e=>
 ob (yE e.Kind 0 d) fun f=>
 uD a b c (!f))) else (some (.inr (.inl b)))
def xL (b:(List aT)) (c:Int) (d:Bool):Option Bool:=
 if d then (some false) else (ob (loop (fun (s:(Int × Int))=>dQ b c s.1 s.2) (1,0)) fun r=>match r with|.inl r=>aFo r|.inr r=>some r)
def aBn (a:(List aT)) (c b:Int):Option Bool:=
 if (decide ((a.length:Int) < 1)) then (xL a b true) else (xL a b (decide (c < (a.length:Int))))
def aBD (a:Bool):Option Bool:=
 some a
def yQ (n:aT):Option Bool:=
 if (n.Kind == 7) then (aBD true) else (aBD (n.Kind == 8))
def aHR (a:Int):Option Int:=
 some a
def oD (c:(List aT)) (a b:Int):Option ((Int × Int) ⊕ Int):=
 if (decide (0 < b)) then (ob (ix c a) fun d=>
 ob (aBm d.Kind) fun e=>
 some (.inl (wr (a+1),wr (b+(wr (e - 1)))))) else (some (.inr a))
def vG (a:(List aT)) (k:Int):Option Int:=
 ob (loop (fun (s:(Int × Int))=>oD a s.1 s.2) (k,1)) fun r=>aHR r
def aHS:Option Int:=
 some (-1)
def pB (a:Int) (b:Bool):Option (Int ⊕ (Unit ⊕ Int)):=
 if b then (some (.inr (.inr a))) else (some (.inl (wr (a - 1))))
def jI (b:(List aT)) (k a:Int):Option (Int ⊕ (Unit ⊕ Int)):=
 if (decide (0<=a)) then (ob (ix b a) fun d=>
 ob (yQ d) fun e=>
 if e then (ob (ix b k) fun f=>
 if (d.Variable == f.Variable) then (ob (vG b a) fun g=>
 pB a (decide (k < g))) else (pB a false)) else (pB a false)) else (some (.inr (.inl ())))
def eS (c:(List aT)) (k:Int):Option Int:=
 ob (loop (fun (s:Int)=>jI c k s) (wr (k - 1))) fun r=>match r with|.inl r=>aHS|.inr r=>some r
def aMX:Option Bool:=
 some true
def aDP (a:Int) (b:Bool):Option (Int ⊕ (Unit ⊕ Bool)):=
 if b then (some (.inr (.inr false))) else (some (.inl (wr (a+1))))
def yR (b:(List aT)) (a:Int):Option (Int ⊕ (Unit ⊕ Bool)):=
 ob (ix b a) fun c=>
 if (c.Kind == 6) then (ob (eS b a) fun d=>
 aDP a (decide (d < 0))) else (aDP a false)
def yS (a:(List aT)) (b:Int) (c:Bool):Option (Int ⊕ (Unit ⊕ Bool)):=
 if c then (ob (ix a b) fun d=>
 ob (yE d.Variable 0 2) fun e=>
 if (!e) then (some (.inr (.inr false))) else (yR a b)) else (ob (ix a b) fun f=>
 if (f.Variable != 0) then (some (.inr (.inr false))) else (yR a b))
def tB (a:(List aT)) (b:Int):Option (Int ⊕ (Unit ⊕ Bool)):=
 if (decide (b < (a.length:Int))) then (ob (ix a b) fun c=>
 ob (yQ c) fun d=>
 if d then (yS a b true) else (yS a b (c.Kind == 6))) else (some (.inr (.inl ())))
def aAw (b:(List aT)):Option Bool:=
 ob (aBn b 30 8) fun c=>
 if (!c) then (some false) else (ob (loop (fun (s:Int)=>tB b s) 0) fun r=>match r with|.inl r=>aMX|.inr r=>some r)
def aJg:Option Bool:=
 some true
def uE (a:Int) (b:Bool):Option (Int ⊕ (Unit ⊕ Bool)):=
 if b then (some (.inr (.inr false))) else (some (.inl (wr (a+1))))
def xM (b:(List aJ)) (a:Int):Option (Int ⊕ (Unit ⊕ Bool)):=
 if (decide (a < (b.length:Int))) then (ob (ix b a) fun c=>
 ob (aDO c) fun d=>
 if (!d) then (uE a true) else (if (c == ([116,97,117]:aJ)) then (uE a true) else (if (decide (1 < a)) then (ob (ix b (wr (a - 1))) fun e=>
 uE a (!ltB e c)) else (uE a false)))) else (some (.inr (.inl ())))
def uF (b:(List aJ)) (c:Bool):Option Bool:=
 if c then (some false) else (ob (loop (fun (s:Int)=>xM b s) 1) fun r=>match r with|.inl r=>aJg|.inr r=>some r)
def aDQ (a:(List aJ)):Option Bool:=
 if ((a.length:Int) == 0) then (uF a true) else (if (decide (12 < (a.length:Int))) then (uF a true) else (ob (ix a 0) fun b=>
 uF a (!(b == ([116,97,117]:aJ)))))
def aMY:Option Bool:=
 some true
def aGw (a:Int) (b:Bool):Option (Int ⊕ (Unit ⊕ Bool)):=
 if b then (some (.inr (.inr false))) else (some (.inl (wr (a+1))))
def aBo (t:cN) (a:Int) (c:Edge) (d:Bool):Option (Int ⊕ (Unit ⊕ Bool)):=
 if d then (some (.inr (.inr false))) else (if (decide (0 < a)) then (ob (ix t.E (wr (a - 1))) fun e=>
 ob (aFK e c) fun f=>
 aGw a (!f)) else (aGw a false))
def aDR (t:cN) (c:Int):Option (Int ⊕ (Unit ⊕ Bool)):=
 if (decide (c < (t.E.length:Int))) then (ob (ix t.E c) fun b=>
 ob (yE b.F 0 (wr (t.N - 1))) fun d=>
 if (!d) then (aBo t c b true) else (ob (yE b.To 0 (wr (t.N - 1))) fun e=>
 if (!e) then (aBo t c b true) else (ob (yE b.B 0 (wr ((t.L.length:Int) - 1))) fun f=>
 aBo t c b (!f)))) else (some (.inr (.inl ())))
def yT (t:cN) (c:Bool):Option Bool:=
 if c then (some false) else (ob (loop (fun (s:Int)=>aDR t s) 0) fun r=>match r with|.inl r=>aMY|.inr r=>some r)
def aIH (t:cN):Option Bool:=
 ob (yE t.N 1 40) fun b=>
 if (!b) then (yT t true) else (ob (yE t.I 0 (wr (t.N - 1))) fun c=>
 if (!c) then (yT t true) else (ob (aDQ t.L) fun d=>
 if (!d) then (yT t true) else (yT t (decide (300 < (t.E.length:Int))))))
def rX (d:(List UInt8)) (b c a:Int):Option (Int × Int × Int):=
 if (decide (wr (b+1)<=(d.length:Int))) then (some (a,wr (b+1),oV ((oV ((oV (c * 6364136223846793005))+(oV a)))+1442695040888963407))) else (ob (shU (oV ((oV ((oV (c * 6364136223846793005))+(oV a)))+1442695040888963407)) 40) fun e=>
 some (wr (anU e 255),wr (b+1),oV ((oV ((oV (c * 6364136223846793005))+(oV a)))+1442695040888963407)))
def uG (a:(List UInt8)) (b c:Int):Option (Int × Int × Int):=
 if (decide (b < (a.length:Int))) then (ob (ix a b) fun d=>
 rX a b c (wr (d.toNat:Int))) else (rX a b c 0)
def rY (n b c d:Int):Option (Int × Int × Int):=
 ob (rm b n) fun e=>
 some (e,c,d)
def bJ (d:(List UInt8)) (e f n:Int):Option (Int × Int × Int):=
 if (decide (n<=1)) then (some (0,e,f)) else (ob (uG d e f) fun a=>
 if (decide (200 < n)) then (ob (uG d a.2.1 a.2.2) fun c=>
 rY n (wr ((wr (a.1 * 256))+c.1)) c.2.1 c.2.2) else (rY n a.1 a.2.1 a.2.2))
def kM (b:(List UInt8)) (c d n:Int):Option (Bool × Int × Int):=
 ob (bJ b c d n) fun a=>
 some (a.1 == 0,a.2.1,a.2.2)
def uV (a b:Int) (c:List aJ):Option ((List aJ) × Int × Int):=
 some (c,a,b)
def uW (a:List aJ) (b c:Int):Option ((List aJ) × Int × Int):=
 if ((a.length:Int) == 1) then (ob (pS a ([([97]:aJ)]:List aJ)) fun d=>
 uV b c d) else (uV b c a)
def kN (a b c:Int) (d:List aJ):Option ((Int × Int × List aJ × Int) ⊕ (List aJ × Int × Int)):=
 some (.inl (b,c,d,wr (a+1)))
def qF (b:List aJ) (a c d:Int) (e:Bool):Option ((Int × Int × List aJ × Int) ⊕ (List aJ × Int × Int)):=
 if e then (ob (ix ([([97]:aJ),([98]:aJ),([99]:aJ),([103,101,116,40,48,41]:aJ),([103,101,116,40,49,41]:aJ)]:List aJ) a) fun f=>
 ob (pS b ([f]:List aJ)) fun g=>
 kN a c d g) else (kN a c d b)
def nG (f:(List UInt8)) (d e:Int) (b:List aJ) (c:Int):Option ((Int × Int × List aJ × Int) ⊕ (List aJ × Int × Int)):=
 if (decide (c < (([([97]:aJ),([98]:aJ),([99]:aJ),([103,101,116,40,48,41]:aJ),([103,101,116,40,49,41]:aJ)]:List aJ).length:Int))) then (ob (kM f d e 2) fun a=>
 if a.1 then (qF b c a.2.1 a.2.2 (decide ((b.length:Int) < 4))) else (qF b c a.2.1 a.2.2 false)) else (some (.inr (b,d,e)))
def vH (b:(List UInt8)) (c d:Int):Option ((List aJ) × Int × Int):=
 ob (loop (fun (s:(Int × Int × List aJ × Int))=>nG b s.1 s.2.1 s.2.2.1 s.2.2.2) (c,d,([([116,97,117]:aJ)]:List aJ),0)) fun r=>uW r.1 r.2.1 r.2.2
def fA (c:(List UInt8)) (d e:Int) (b:(List Int)):Option (Int × Int × Int):=
 ob (bJ c d e (b.length:Int)) fun a=>
 ob (ix b a.1) fun f=>
 some (f,a.2.1,a.2.2)
def vI (d:(List UInt8)) (b c:(Int × Int × Int)) (e:((List aJ) × Int × Int)) (f g:Int) (h:List Edge):Option (cN × Int × Int):=
 ob (bJ d f g (wr ((wr (1+b.1))+c.1))) fun a=>
 ob (aDp (wr ((wr (1+b.1))+c.1)) a.1 e.1 h) fun i=>
 some (i,a.2.1,a.2.2)
def vJ (a:(List UInt8)) (c d:(Int × Int × Int)) (e:((List aJ) × Int × Int)) (j k:Int) (i:List Edge):Option (cN × Int × Int):=
 ob (kM a j k 3) fun b=>
 if b.1 then (ob (bJ a b.2.1 b.2.2 (wr ((wr (1+c.1))+d.1))) fun f=>
 ob (bJ a f.2.1 f.2.2 (e.1.length:Int)) fun g=>
 ob (bJ a g.2.1 g.2.2 (wr ((wr (1+c.1))+d.1))) fun h=>
 ob (pS i ([⟨f.1,g.1,h.1⟩]:List Edge)) fun l=>
 vI a c d e h.2.1 h.2.2 l) else (vI a c d e b.2.1 b.2.2 i)
def aAx (a b c:Int) (d:List Edge):Option ((Int × Int × List Edge × Int) ⊕ (Int × Int × List Edge)):=
 some (.inl (b,c,d,wr (a - 1)))
def aAy (a b c:Int) (d:List Edge):Option ((Int × Int × List Edge × Int) ⊕ (Int × Int × List Edge)):=
 aAx a b c d
def vK (a b c:Int) (d:List Edge):Option ((Int × Int × List Edge × Int) ⊕ (Int × Int × List Edge)):=
 some (.inl (b,c,d,wr (a+1)))
def vL (c:(List UInt8)) (d:(Int × Int × Int)) (e f:Int) (g:List Edge) (b:Int) (h:List Int):Option ((Int × Int × List Edge × Int) ⊕ (Int × Int × List Edge)):=
 ob (fA c e f h) fun a=>
 ob (pS g ([⟨b,d.1,a.1⟩]:List Edge)) fun i=>
 vK b a.2.1 a.2.2 i
def vM (a:Int) (b:List Int):Option ((List Int × Int) ⊕ (List Int)):=
 some (.inl (b,wr (a+1)))
def mS (c d:(Int × Int × Int)) (e:List Int) (f:(Int × Int × Int)) (b:List Int) (a:Int):Option ((List Int × Int) ⊕ (List Int)):=
 if (decide (a < wr ((wr (1+c.1))+d.1))) then (ob (ix e a) fun g=>
 if (g == f.1) then (ob (pS b ([a]:List Int)) fun h=>
 vM a h) else (vM a b)) else (some (.inr b))
def rZ (h:(List UInt8)) (e f:(Int × Int × Int)) (g:List Int) (i j k:(Int × Int × Int)) (b c:Int) (d:List Edge) (a:Int):Option ((Int × Int × List Edge × Int) ⊕ (Int × Int × List Edge)):=
 if (decide (a < wr ((wr (1+e.1))+f.1))) then (ob (ix g a) fun l=>
 if (l != i.1) then (vK a b c d) else (ob (loop (fun (s:(List Int × Int))=>mS e f g k s.1 s.2) (([]:List Int),0)) fun r=>vL h j b c d a r)) else (some (.inr (b,c,d)))
def pT (a:(List UInt8)) (b k:(Int × Int × Int)) (l:((List aJ) × Int × Int)) (m:List Int) (g h:Int) (i:List Edge) (j:Int):Option ((Int × Int × List Edge × Int) ⊕ (Int × Int × List Edge)):=
 if (decide (0 < j)) then (ob (bJ a g h (wr (1+b.1))) fun c=>
 ob (bJ a c.2.1 c.2.2 (l.1.length:Int)) fun d=>
 ob (bJ a d.2.1 d.2.2 (wr (1+b.1))) fun e=>
 ob (loop (fun (s:(Int × Int × List Edge × Int))=>rZ a b k m c d e s.1 s.2.1 s.2.2.1 s.2.2.2) (e.2.1,e.2.2,i,0)) fun r=>aAy j r.1 r.2.1 r.2.2) else (some (.inr (g,h,i)))
def tV (a:(List UInt8)) (b e:(Int × Int × Int)) (f:((List aJ) × Int × Int)) (g h:Int) (i:List Int):Option (cN × Int × Int):=
 ob (bJ a g h (wr (2+(wr (2 * (wr (1+b.1))))))) fun c=>
 ob (loop (fun (s:(Int × Int × List Edge × Int))=>pT a b e f i s.1 s.2.1 s.2.2.1 s.2.2.2) (c.2.1,c.2.2,([]:List Edge),c.1)) fun r=>vJ a b e f r.1 r.2.1 r.2.2
def pU (a b c:Int) (d:List Int):Option ((Int × Int × List Int × Int) ⊕ (Int × Int × List Int)):=
 some (.inl (b,c,d,wr (a+1)))
def pV (g:(List UInt8)) (b h:(Int × Int × Int)) (c d:Int) (e:List Int) (a:Int):Option ((Int × Int × List Int × Int) ⊕ (Int × Int × List Int)):=
 if (decide (a < wr ((wr (1+b.1))+h.1))) then (if (decide (a < wr (1+b.1))) then (ob (pS e ([a]:List Int)) fun i=>
 pU a c d i) else (ob (bJ g c d (wr (1+b.1))) fun f=>
 ob (pS e ([f.1]:List Int)) fun j=>
 pU a f.2.1 f.2.2 j)) else (some (.inr (c,d,e)))
def aAb (a:(List UInt8)) (f g:Int):Option (cN × Int × Int):=
 ob (bJ a f g 4) fun b=>
 ob (bJ a b.2.1 b.2.2 (wr (7 - (wr (1+b.1))))) fun c=>
 ob (vH a c.2.1 c.2.2) fun d=>
 ob (loop (fun (s:(Int × Int × List Int × Int))=>pV a b c s.1 s.2.1 s.2.2.1 s.2.2.2) (d.2.1,d.2.2,([]:List Int),0)) fun r=>tV a b c d r.1 r.2.1 r.2.2
def qZ (c:(List UInt8)) (d e:Int) (b:(List aJ)):Option (aJ × Int × Int):=
 ob (bJ c d e (b.length:Int)) fun a=>
 ob (ix b a.1) fun f=>
 some (f,a.2.1,a.2.2)
def gA (a b:Int) (c:List aJ) (d:List Edge) (e f:Int):Option (cN × Int × Int):=
 some (⟨a,b,c,d⟩,e,f)
def aDs (c:(List UInt8)) (n o:Int) (t:cN):Option (cN × Int × Int):=
 ob (aHQ t) fun a=>
 ob (kM c n o 8) fun d=>
 if (!d.1) then (some (a,d.2.1,d.2.2)) else (ob (bJ c d.2.1 d.2.2 8) fun b=>
 if (b.1 == 0) then (ob (fA c b.2.1 b.2.2 ([0,(-1),41,40,wr (a.N - 1)]:List Int)) fun g=>
 gA g.1 a.I a.L a.E g.2.1 g.2.2) else (if (b.1 == 1) then (ob (fA c b.2.1 b.2.2 ([(-1),a.N]:List Int)) fun h=>
 gA a.N h.1 a.L a.E h.2.1 h.2.2) else (if (b.1 == 2) then (ob (ix a.L 0) fun x=>
 ob (st a.L 0 (([97]:aJ):aJ)) fun q=>
 gA a.N a.I q a.E b.2.1 b.2.2) else (if (b.1 == 3) then (ob (qZ c b.2.1 b.2.2 ([([116,97,117]:aJ),([97]:aJ),([122,122]:aJ),([65]:aJ),([]:aJ)]:List aJ)) fun i=>
 ob (pS a.L ([i.1]:List aJ)) fun r=>
 gA a.N a.I r a.E i.2.1 i.2.2) else (if (b.1 == 4) then (if (decide (0 < (a.E.length:Int))) then (ob (ix a.E 0) fun s=>
 ob (pS a.E ([s]:List Edge)) fun u=>
 gA a.N a.I a.L u b.2.1 b.2.2) else (gA a.N a.I a.L a.E b.2.1 b.2.2)) else (if (b.1 == 5) then (if (decide (0 < (a.E.length:Int))) then (ob (bJ c b.2.1 b.2.2 (a.E.length:Int)) fun e=>
 ob (fA c e.2.1 e.2.2 ([(-1),(a.L.length:Int),0]:List Int)) fun j=>
 ob (ix a.E e.1) fun l=>
 ob (st a.E e.1 (⟨l.F,j.1,l.To⟩:Edge)) fun v=>
 gA a.N a.I a.L v j.2.1 j.2.2) else (gA a.N a.I a.L a.E b.2.1 b.2.2)) else (if (b.1 == 6) then (if (decide (0 < (a.E.length:Int))) then (ob (bJ c b.2.1 b.2.2 (a.E.length:Int)) fun f=>
 ob (fA c f.2.1 f.2.2 ([(-1),a.N,0]:List Int)) fun k=>
 ob (ix a.E f.1) fun m=>
 ob (st a.E f.1 (⟨m.F,m.B,k.1⟩:Edge)) fun w=>
 gA a.N a.I a.L w k.2.1 k.2.2) else (gA a.N a.I a.L a.E b.2.1 b.2.2)) else (if (b.1 == 7) then (gA a.N a.I ([]:List aJ) a.E b.2.1 b.2.2) else (gA a.N a.I a.L a.E b.2.1 b.2.2)))))))))
def aII (c:(List UInt8)) (d e:Int):Option (cN × Int × Int):=
 ob (aAb c d e) fun a=>
 ob (aDs c a.2.1 a.2.2 a.1) fun b=>
 some (b.1,b.2.1,b.2.2)
def sA (a:(List UInt8)) (e f:Int):Option (aT × Int × Int):=
 ob (bJ a e f 2) fun b=>
 ob (qZ a b.2.1 b.2.2 ([([]:aJ),([]:aJ),([97]:aJ),([98]:aJ),([116,97,117]:aJ),([103,101,116,42]:aJ),([103,101,116,40,48,41]:aJ),([99]:aJ)]:List aJ)) fun c=>
 ob (kM a c.2.1 c.2.2 6) fun d=>
 some (⟨wr (4+b.1),0,c.1,d.1⟩,d.2.1,d.2.2)
def oN (c:(List UInt8)) (f:(List Int)) (d e:Int) (g:Bool):Option ((List aT) × Int × Int):=
 if g then (ob (fA c d e f) fun a=>
 some (([⟨6,a.1,([]:aJ),false⟩]:List aT),a.2.1,a.2.2)) else (ob (bJ c d e 2) fun b=>
 some (([⟨b.1,0,([]:aJ),false⟩]:List aT),b.2.1,b.2.2))
def aBp (a:List aT) (b c:Int):Option ((List aT) × Int × Int):=
 some (a,b,c)
def wK (c:(List UInt8)->Int->Int->(List Int)->Int->Option ((List aT) × Int × Int)) (d:(List UInt8)) (e:Int) (f a:(Int × Int × Int)) (g:List Int):Option ((List aT) × Int × Int):=
 ob (c d a.2.1 a.2.2 g (wr (e - 1))) fun b=>
 ob (pS ([⟨wr (7+f.1),a.1,([]:aJ),false⟩]:List aT) b.1) fun h=>
 aBp h b.2.1 b.2.2
def wL (e:(List UInt8)->Int->Int->(List Int)->Int->Option ((List aT) × Int × Int)) (d:(List UInt8)) (f:Int) (g a:(Int × Int × Int)) (h:Int) (i:List Int):Option ((List aT) × Int × Int):=
 ob (qu f 2) fun j=>
 ob (e d a.2.1 a.2.2 i j) fun b=>
 ob (pS ([⟨wr (7+g.1),a.1,([]:aJ),false⟩,⟨h,0,([]:aJ),false⟩]:List aT) b.1) fun k=>
 ob (sA d b.2.1 b.2.2) fun c=>
 ob (pS k ([c.1]:List aT)) fun l=>
 ob (pS l ([⟨6,a.1,([]:aJ),false⟩]:List aT)) fun m=>
 some (m,c.2.1,c.2.2)
def oO (b:(List UInt8)->Int->Int->(List Int)->Int->Option ((List aT) × Int × Int)) (c:(List UInt8)) (d:(List Int)) (e:Int) (f a:(Int × Int × Int)) (g:Int):Option ((List aT) × Int × Int):=
 ob (aBU d) fun h=>
 ob (pS h ([a.1]:List Int)) fun i=>
 wL b c e f a g i
def oP (c:(List UInt8)->Int->Int->(List Int)->Int->Option ((List aT) × Int × Int)) (a:(List UInt8)) (d:(List Int)) (e:Int) (b:(Int × Int × Int)) (o:Bool):Option ((List aT) × Int × Int):=
 if o then (ob (bJ a b.2.1 b.2.2 2) fun h=>
 ob (qu (wr (e - 1)) 2) fun p=>
 ob (c a h.2.1 h.2.2 d p) fun i=>
 ob (qu (wr (e - 1)) 2) fun q=>
 ob (c a i.2.1 i.2.2 d q) fun j=>
 ob (pS ([⟨wr (2+h.1),0,([]:aJ),false⟩]:List aT) i.1) fun r=>
 ob (pS r j.1) fun s=>
 some (s,j.2.1,j.2.2)) else (if (b.1 == 4) then (ob (bJ a b.2.1 b.2.2 2) fun k=>
 ob (bJ a k.2.1 k.2.2 3) fun m=>
 ob (aBU d) fun t=>
 ob (pS t ([m.1]:List Int)) fun u=>
 wK c a e k m u) else (ob (kM a b.2.1 b.2.2 2) fun f=>
 if f.1 then (ob (qu e 2) fun v=>
 ob (c a f.2.1 f.2.2 d v) fun l=>
 some (l.1,l.2.1,l.2.2)) else (ob (bJ a f.2.1 f.2.2 2) fun g=>
 ob (bJ a g.2.1 g.2.2 2) fun n=>
 if ((wr (7+g.1)) == 8) then (oO c a d e g n 2) else (oO c a d e g n 3))))
def jW (c:(List UInt8)->Int->Int->(List Int)->Int->Option ((List aT) × Int × Int)) (b:(List UInt8)) (d:(List Int)) (e:Int) (a:(Int × Int × Int)) (h:Bool):Option ((List aT) × Int × Int):=
 if h then (ob (sA b a.2.1 a.2.2) fun f=>
 ob (c b f.2.1 f.2.2 d (wr (e - 1))) fun g=>
 ob (pS ([f.1]:List aT) g.1) fun i=>
 some (i,g.2.1,g.2.2)) else (if (a.1 == 2) then (oP c b d e a (a.1 == 2)) else (oP c b d e a (a.1 == 3)))
def tW (h:(List UInt8)->Int->Int->(List Int)->Int->Option ((List aT) × Int × Int)) (a:(List UInt8)) (d e:Int) (b:(List Int)) (f:Int):Option ((List aT) × Int × Int):=
 if (decide (f<=0)) then (if (decide (0 < (b.length:Int))) then (ob (bJ a d e 4) fun g=>
 oN a b g.2.1 g.2.2 (decide (0 < g.1))) else (oN a b d e false)) else (ob (bJ a d e 6) fun c=>
 if (c.1 == 0) then (jW h a b f c (c.1 == 0)) else (jW h a b f c (c.1 == 1)))
def lJ:Nat->(List UInt8)->Int->Int->(List Int)->Int->Option ((List aT) × Int × Int)
 |0=>fun _ _ _ _ _=>none
 |n+1=>tW (lJ n)
def aFp (a:(List UInt8)) (b c:Int) (d:(List Int)) (e:Int):Option ((List aT) × Int × Int):=
 lJ 100000 a b c d e
def pC (c:((List aT) × Int × Int)) (d:Bool) (a b:Int):Option ((List aT) × Int × Int):=
 if d then (some (([⟨7,1,([]:aJ),false⟩,⟨4,0,([97]:aJ),false⟩,⟨6,1,([]:aJ),false⟩]:List aT),a,b)) else (some (c.1,a,b))
def aBV (c:(List UInt8)) (e f:Int):Option ((List aT) × Int × Int):=
 ob (bJ c e f 8) fun d=>
 ob (aFp c d.2.1 d.2.2 ([]:List Int) (wr (1+d.1))) fun a=>
 if (decide (16 < (a.1.length:Int))) then (ob (kM c a.2.1 a.2.2 4) fun b=>
 if (!b.1) then (pC a true b.2.1 b.2.2) else (pC a (decide (30 < (a.1.length:Int))) b.2.1 b.2.2)) else (pC a (decide (30 < (a.1.length:Int))) a.2.1 a.2.2)
def qG (a:List aT) (b c:Int):Option ((List aT) × Int × Int):=
 some (a,b,c)
def aGx (a:List aT) (b c:Int):Option ((List aT) × Int × Int):=
 qG a b c
def wM (c:(List UInt8)) (d e:Int) (b:List aT):Option ((Int × Int × List aT) ⊕ (List aT × Int × Int)):=
 ob (bJ c d e 3) fun a=>
 if (decide ((b.length:Int) < wr (29+a.1))) then (ob (pS ([⟨4,0,([]:aJ),false⟩]:List aT) b) fun f=>
 some (.inl (a.2.1,a.2.2,f))) else (some (.inr (b,a.2.1,a.2.2)))
def aFM (d:(List UInt8)) (n o:Int) (p:(List aT)):Option ((List aT) × Int × Int):=
 ob (pS ([]:List aT) p) fun b=>
 ob (kM d n o 8) fun e=>
 if (!e.1) then (some (b,e.2.1,e.2.2)) else (ob (bJ d e.2.1 e.2.2 (b.length:Int)) fun c=>
 ob (bJ d c.2.1 c.2.2 6) fun a=>
 if (a.1 == 0) then (ob (bJ d a.2.1 a.2.2 11) fun g=>
 ob (ix b c.1) fun h=>
 ob (st b c.1 (⟨wr (g.1 - 1),h.Variable,h.B,h.Not⟩:aT)) fun q=>
 qG q g.2.1 g.2.2) else (if (a.1 == 1) then (ob (fA d a.2.1 a.2.2 ([(-1),0,1,2,3]:List Int)) fun i=>
 ob (ix b c.1) fun j=>
 ob (st b c.1 (⟨j.Kind,i.1,j.B,j.Not⟩:aT)) fun t=>
 qG t i.2.1 i.2.2) else (if (a.1 == 2) then (ob (qZ d a.2.1 a.2.2 ([([97]:aJ),([]:aJ),([116,97,117,42]:aJ),([97,40,54,52,41]:aJ),([103,101,116,42]:aJ)]:List aJ)) fun k=>
 ob (ix b c.1) fun l=>
 ob (st b c.1 (⟨l.Kind,l.Variable,k.1,l.Not⟩:aT)) fun u=>
 qG u k.2.1 k.2.2) else (if (a.1 == 3) then (ob (ix b c.1) fun f=>
 ob (st b c.1 (⟨f.Kind,f.Variable,f.B,!f.Not⟩:aT)) fun v=>
 qG v a.2.1 a.2.2) else (if (a.1 == 4) then (ob (slc b 0 c.1) fun w=>
 some (w,a.2.1,a.2.2)) else (if (a.1 == 5) then (ob (loop (fun (s:(Int × Int × List aT))=>wM d s.1 s.2.1 s.2.2) (a.2.1,a.2.2,b)) fun r=>aGx r.1 r.2.1 r.2.2) else (qG b a.2.1 a.2.2)))))))
def aIJ (c:(List UInt8)) (d e:Int):Option ((List aT) × Int × Int):=
 ob (aBV c d e) fun a=>
 ob (aFM c a.2.1 a.2.2 a.1) fun b=>
 some (b.1,b.2.1,b.2.2)
def aEM (a:(Int × Int × Int)) (b:List Edge):Option (cN × Int × Int):=
 some (⟨wr (15+a.1),0,([([116,97,117]:aJ),([97]:aJ),([98]:aJ),([99]:aJ),([100]:aJ),([101]:aJ),([102]:aJ),([103]:aJ),([104]:aJ)]:List aJ),b⟩,a.2.1,a.2.2)
def uX (a:Int) (b:List Edge):Option ((List Edge × Int) ⊕ (List Edge)):=
 some (.inl (b,wr (a+1)))
def aAz (a:Int) (b:List Edge):Option ((List Edge × Int) ⊕ (List Edge)):=
 uX a b
def qH (d:(Int × Int × Int)) (b:Int) (c:List Edge) (a:Int) (e:Bool):Option ((List Edge × Int) ⊕ (List Edge)):=
 if e then (ob (rm (wr (b+a)) (wr (15+d.1))) fun f=>
 ob (pS c ([⟨b,a,f⟩]:List Edge)) fun g=>
 some (.inl (g,wr (a+1)))) else (some (.inr c))
def nH (c:(Int × Int × Int)) (d:Int) (a:List Edge) (b:Int):Option ((List Edge × Int) ⊕ (List Edge)):=
 if (decide (b < 8)) then (qH c d a b (decide ((a.length:Int) < 300))) else (qH c d a b false)
def nI (b:(Int × Int × Int)) (c:List Edge) (a:Int):Option ((List Edge × Int) ⊕ (List Edge)):=
 if (decide (a < wr (15+b.1))) then (ob (loop (fun (s:(List Edge × Int))=>nH b a s.1 s.2) (c,0)) fun r=>aAz a r) else (some (.inr c))
def vN (b:(List UInt8)) (c d:Int):Option (cN × Int × Int):=
 ob (bJ b c d 26) fun a=>
 ob (loop (fun (s:(List Edge × Int))=>nI a s.1 s.2) (([]:List Edge),0)) fun r=>aEM a r
def wN (a:(cN × Int × Int)) (b:List aT) (c d:Int):Option ((List aT) × cN × Int × Int):=
 some (b,a.1,c,d)
def xN (b:(List UInt8)) (g h:Int):Option ((List aT) × cN × Int × Int):=
 ob (aII b g h) fun c=>
 ob (aIJ b c.2.1 c.2.2) fun d=>
 ob (kM b d.2.1 d.2.2 40) fun a=>
 if a.1 then (ob (vN b a.2.1 a.2.2) fun e=>
 some (d.1,e.1,e.2.1,e.2.2)) else (if (decide (36 < wr ((d.1.length:Int) * c.1.N))) then (ob (bJ b a.2.1 a.2.2 4) fun f=>
 ob (ix ([([⟨7,0,([]:aJ),false⟩,⟨3,0,([]:aJ),false⟩,⟨5,0,([97]:aJ),false⟩,⟨1,0,([]:aJ),false⟩,⟨4,0,([]:aJ),false⟩,⟨6,0,([]:aJ),false⟩]:List aT),([⟨8,0,([]:aJ),false⟩,⟨2,0,([]:aJ),false⟩,⟨4,0,([97]:aJ),false⟩,⟨0,0,([]:aJ),false⟩,⟨5,0,([]:aJ),false⟩,⟨6,0,([]:aJ),false⟩]:List aT),([⟨8,0,([]:aJ),false⟩,⟨7,1,([]:aJ),false⟩,⟨3,0,([]:aJ),false⟩,⟨4,0,([97]:aJ),false⟩,⟨6,0,([]:aJ),false⟩,⟨4,0,([]:aJ),false⟩,⟨6,1,([]:aJ),false⟩]:List aT),([⟨5,0,([98]:aJ),false⟩,⟨4,0,([]:aJ),false⟩,⟨0,0,([]:aJ),false⟩]:List aT)]:List (List aT)) f.1) fun i=>
 wN c i f.2.1 f.2.2) else (wN c d.1 a.2.1 a.2.2))
def aCV (a:(List UInt8)) (b c:Int):Option ((List aT) × cN):=
 ob (aAb a b c) fun d=>
 some (([⟨4,0,([97]:aJ),false⟩,⟨0,0,([]:aJ),false⟩]:List aT),d.1)
def qI (b:Int) (a:((List aT) × cN × Int × Int)) (c:Bool):Option ((Int × Int × Int) ⊕ ((Int × Int) ⊕ ((List aT) × cN))):=
 if c then (some (.inr (.inr (a.1,a.2.1)))) else (some (.inl (a.2.2.1,a.2.2.2,wr (b+1))))
def wO (e:(List UInt8)) (c d b:Int):Option ((Int × Int × Int) ⊕ ((Int × Int) ⊕ ((List aT) × cN))):=
 if (decide (b < 6)) then (ob (xN e c d) fun a=>
 ob (aAw a.1) fun f=>
 if f then (ob (aIH a.2.1) fun g=>
 if g then (qI b a (decide (a.2.1.N < 8))) else (qI b a false)) else (qI b a false)) else (some (.inr (.inl (c,d))))
def aFN (b:(List UInt8)):Option ((List aT) × cN):=
 ob (aLc b) fun c=>
 ob (loop (fun (s:(Int × Int × Int))=>wO b s.1 s.2.1 s.2.2) (c.1,c.2,0)) fun r=>match r with|.inl r=>aCV b r.1 r.2|.inr r=>some r
def pD (a:Int):Option Bool:=
 some (a != a)
def eI (a y:Int):Option Int:=
 ob (pD a) fun d=>
 ob (pD y) fun c=>
 if d then (if c then (some 0) else (some (-1))) else (if c then (some 1) else (if (decide (a < y)) then (some (-1)) else (if (decide (y < a)) then (some 1) else (some 0))))
def aBq:Option Int:=
 some 0
def jX (b:(List Int)) (a:Int):Option (Int ⊕ (Unit ⊕ Int)):=
 if (decide (a < (b.length:Int))) then (ob (ix b a) fun c=>
 if (c != 0) then (some (.inr (.inr c))) else (some (.inl (wr (a+1))))) else (some (.inr (.inl ())))
def xO (b:(List Int)):Option Int:=
 ob (loop (fun (s:Int)=>jX b s) 0) fun r=>match r with|.inl r=>aBq|.inr r=>some r
def sB (a b:Edge):Option Int:=
 ob (eI a.F b.F) fun e=>
 ob (eI a.B b.B) fun f=>
 ob (eI a.To b.To) fun g=>
 ob (xO ([e,f,g]:List Int)) fun h=>
 some h
def uH (t:cN) (k:Int):Option Bool:=
 ob (tT k 0 (wr (t.N - 1))) fun c=>
 some c
def aMv (i many:Int):Option Bool:=
 ob (tT i 0 (wr (many - 1))) fun b=>
 some b
def aJh:Option Bool:=
 some true
def rA (a:Int) (b:Bool):Option (Int ⊕ (Unit ⊕ Bool)):=
 if b then (some (.inr (.inr false))) else (some (.inl (wr (a+1))))
def xP (t:cN) (a:Int):Option (Int ⊕ (Unit ⊕ Bool)):=
 if (decide (a < (t.E.length:Int))) then (ob (ix t.E a) fun c=>
 ob (uH t c.F) fun d=>
 if (!d) then (rA a true) else (ob (uH t c.To) fun e=>
 if (!e) then (rA a true) else (ob (aMv c.B (t.L.length:Int)) fun f=>
 if (!f) then (rA a true) else (if (decide (0 < a)) then (ob (ix t.E (wr (a - 1))) fun g=>
 ob (sB g c) fun h=>
 rA a (decide (0<=h))) else (rA a false))))) else (some (.inr (.inl ())))
def aBE (t:cN):Option Bool:=
 ob (loop (fun (s:Int)=>xP t s) 0) fun r=>match r with|.inl r=>aJh|.inr r=>some r
def uI (a:Int) (b:Bool):Option (Int ⊕ (Unit ⊕ Bool)):=
 if b then (some (.inr (.inr false))) else (some (.inl (wr (a+1))))
def xQ (t:cN) (a:Int):Option (Int ⊕ (Unit ⊕ Bool)):=
 if (decide (a < (t.L.length:Int))) then (ob (ix t.L a) fun b=>
 ob (aDn b) fun e=>
 if (!e) then (uI a true) else (if ((b == ([116,97,117]:aJ)) != (a == 0)) then (uI a true) else (if (decide (1 < a)) then (ob (ix t.L (wr (a - 1))) fun d=>
 uI a (ltB b d||b == d)) else (uI a false)))) else (some (.inr (.inl ())))
def rB (t:cN) (c:Bool):Option Bool:=
 if c then (some false) else (ob (loop (fun (s:Int)=>xQ t s) 0) fun r=>match r with|.inl r=>aBE t|.inr r=>some r)
def aDS (t:cN):Option Bool:=
 ob (tT t.N 1 40) fun b=>
 if (!b) then (rB t true) else (ob (uH t t.I) fun c=>
 if (!c) then (rB t true) else (ob (tT (t.L.length:Int) 1 12) fun d=>
 if (!d) then (rB t true) else (rB t (decide (300 < (t.E.length:Int))))))
def lW (a:Bool):Option Int:=
 if a then (some 1) else (some 0)
def pE (n:aT) (b:Bool):Option Int:=
 if b then (some 2) else (if (n.Kind == 4) then (lW (n.Kind == 4)) else (if (n.Kind == 5) then (lW (n.Kind == 5)) else (if (n.Kind == 7) then (lW (n.Kind == 7)) else (lW (n.Kind == 8)))))
def nL (n:aT):Option Int:=
 if (n.Kind == 2) then (pE n (n.Kind == 2)) else (pE n (n.Kind == 3))
def aKr (a:Int):Option Bool:=
 some (a == 0)
def tC (c:(List aT)) (a b:Int):Option ((Int × Int) ⊕ (Int ⊕ Bool)):=
 if (decide (b < (c.length:Int))) then (ob (ix c b) fun d=>
 if (a == 0) then (some (.inr (.inr false))) else (ob (nL d) fun e=>
 some (.inl (wr (a+(wr (e - 1))),wr (b+1))))) else (some (.inr (.inl a)))
def aFO (b:(List aT)):Option Bool:=
 ob (loop (fun (s:(Int × Int))=>tC b s.1 s.2) (1,0)) fun r=>match r with|.inl r=>aKr r|.inr r=>some r
def qJ (a:Bool):Option Bool:=
 some a
def kO (n:aT):Option Bool:=
 if (n.Kind == 4) then (qJ true) else (qJ (n.Kind == 5))
def kP (a b:aJ):Option (aJ × Bool):=
 ob (dS a b) fun c=>
 if (!c) then (some (a,false)) else (ob (slc a 0 (wr ((a.length:Int) - (b.length:Int)))) fun d=>
 some (d,true))
def jA (b c:aJ):Option (aJ × Bool):=
 ob (kP b c) fun a=>
 some (a.1,a.2)
def pF (a:Bool):Option Bool:=
 some a
def sT (a:aJ):Option Bool:=
 ob (jA a ([42]:aJ)) fun b=>
 if (a == ([]:aJ)) then (pF true) else (ob (aDn a) fun c=>
 if c then (pF true) else (if b.2 then (ob (aBl b.1) fun d=>
 pF d) else (pF false)))
def tD (a:Bool):Option Bool:=
 some a
def nM (n:aT):Option Bool:=
 ob (kO n) fun b=>
 if b then (ob (sT n.B) fun c=>
 some c) else (if (n.B == ([]:aJ)) then (tD (!n.Not)) else (tD false))
def uY (a:Bool):Option Bool:=
 some a
def kQ (n:aT):Option Bool:=
 if (n.Kind == 7) then (uY true) else (uY (n.Kind == 8))
def qK (n:aT) (b:Bool):Option Bool:=
 if b then (ob (tT n.Variable 0 2) fun c=>
 some c) else (some (n.Variable == 0))
def sC (n:aT):Option Bool:=
 ob (kQ n) fun b=>
 if b then (qK n true) else (qK n (n.Kind == 6))
def aCq (a:Int):Option Int:=
 some a
def nN (c:(List aT)) (a b:Int):Option ((Int × Int) ⊕ Int):=
 if (decide (0 < b)) then (ob (ix c a) fun d=>
 ob (nL d) fun e=>
 some (.inl (wr (a+1),wr (b+(wr (e - 1)))))) else (some (.inr a))
def mH (a:(List aT)) (k:Int):Option Int:=
 ob (loop (fun (s:(Int × Int))=>nN a s.1 s.2) (k,1)) fun r=>aCq r
def aLJ:Option Int:=
 some (-1)
def oE (a:Int) (b:Bool):Option (Int ⊕ (Unit ⊕ Int)):=
 if b then (some (.inr (.inr a))) else (some (.inl (wr (a - 1))))
def fB (b:(List aT)) (k a:Int):Option (Int ⊕ (Unit ⊕ Int)):=
 if (decide (0<=a)) then (ob (ix b a) fun d=>
 ob (kQ d) fun e=>
 if e then (ob (ix b k) fun f=>
 if (d.Variable == f.Variable) then (ob (mH b a) fun g=>
 oE a (decide (k < g))) else (oE a false)) else (oE a false)) else (some (.inr (.inl ())))
def sD (c:(List aT)) (k:Int):Option Int:=
 ob (loop (fun (s:Int)=>fB c k s) (wr (k - 1))) fun r=>match r with|.inl r=>aLJ|.inr r=>some r
def aEN:Option Bool:=
 some true
def jE (a:Int) (b:Bool):Option (Int ⊕ (Unit ⊕ Bool)):=
 if b then (some (.inr (.inr false))) else (some (.inl (wr (a+1))))
def jF (c:(List aT)) (a:Int):Option (Int ⊕ (Unit ⊕ Bool)):=
 if (decide (a < (c.length:Int))) then (ob (ix c a) fun b=>
 ob (tT b.Kind 0 8) fun d=>
 if (!d) then (jE a true) else (ob (nM b) fun e=>
 if (!e) then (jE a true) else (ob (sC b) fun f=>
 if (!f) then (jE a true) else (if (b.Kind == 6) then (ob (sD c a) fun g=>
 jE a (decide (g < 0))) else (jE a false))))) else (some (.inr (.inl ())))
def qL (b:(List aT)) (c:Bool):Option Bool:=
 if c then (some false) else (ob (loop (fun (s:Int)=>jF b s) 0) fun r=>match r with|.inl r=>aEN|.inr r=>some r)
def pG (a:(List aT)):Option Bool:=
 ob (tT (a.length:Int) 1 30) fun b=>
 if (!b) then (qL a true) else (ob (aFO a) fun c=>
 qL a (!c))
def aBr (a:(List aT)):Option Bool:=
 ob (pG a) fun b=>
 some (!b)
def iX:Option Int:=
 some (-1)
def cD (b:(List (List aT))) (a:Int):Option (Int ⊕ (Unit ⊕ Int)):=
 if (decide (a < (b.length:Int))) then (ob (ix b a) fun c=>
 ob (aBr c) fun d=>
 if d then (some (.inr (.inr a))) else (some (.inl (wr (a+1))))) else (some (.inr (.inl ())))
def cX (b:(List (List aT))):Option Int:=
 ob (loop (fun (s:Int)=>cD b s) 0) fun r=>match r with|.inl r=>iX|.inr r=>some r
def eY (a:(List (List aT))):Option Bool:=
 ob (cX a) fun b=>
 some (decide (0<=b))
def aBs (a:Bool):Option Int:=
 if a then (some 1) else (some 0)
def uJ (t:cN) (b:(List (List aT))):Option Int:=
 ob (aDS t) fun c=>
 if (!c) then (aBs true) else (ob (eY b) fun d=>
 aBs d)
def aEO (a:aJ):Option aJ:=
 ob (vD a) fun b=>
 some b.1
def kR (n:aT) (b:Bool):Option Bool:=
 some (b != n.Not)
def iF (n:aT) (b:aJ):Option Bool:=
 ob (jA n.B ([42]:aJ)) fun c=>
 if (n.B == ([]:aJ)) then (kR n true) else (if (n.B == b) then (kR n true) else (if c.2 then (ob (aEO b) fun d=>
 kR n (d == c.1)) else (kR n false)))
def yG (a:Bool):Option Int:=
 if a then (some 1) else (some 0)
def aGV (a:List Int):Option (List Int):=
 some a
def bX (d:(List aT)) (e:Int) (a:List Int) (b c:Int):Option ((List Int × Int × Int) ⊕ (List Int)):=
 if (decide (c < e)) then (ob (pS a ([b]:List Int)) fun f=>
 ob (mH d b) fun g=>
 some (.inl (f,g,wr (c+1)))) else (some (.inr a))
def jM (a:(List aT)) (k:Int):Option (List Int):=
 ob (ix a k) fun c=>
 ob (nL c) fun d=>
 ob (loop (fun (s:(List Int × Int × Int))=>bX a d s.1 s.2.1 s.2.2) ([],wr (k+1),0)) fun r=>aGV r
def aGy (a:List Edge):Option (List Edge):=
 some a
def aAA (a:Int) (b:List Edge):Option ((List Edge × Int) ⊕ (List Edge)):=
 some (.inl (b,wr (a+1)))
def aAB (t:cN) (k:Int) (b:List Edge) (a:Int):Option ((List Edge × Int) ⊕ (List Edge)):=
 if (decide (a < (t.E.length:Int))) then (ob (ix t.E a) fun d=>
 if (d.F == k) then (ob (pS b ([d]:List Edge)) fun f=>
 aAA a f) else (aAA a b)) else (some (.inr b))
def aFP (t:cN) (k:Int):Option (List Edge):=
 ob (loop (fun (s:(List Edge × Int))=>aAB t k s.1 s.2) ([],0)) fun r=>aGy r
def aKs (a:Int):Option Int:=
 some a
def wP (a b:Int):Option ((Int × Int) ⊕ Int):=
 some (.inl (b,wr (a+1)))
def tE (a b:Int) (c:Bool):Option ((Int × Int) ⊕ Int):=
 if c then (wP b (wr (a+1))) else (wP b a)
def gT (c:(List aT)) (k b a:Int):Option ((Int × Int) ⊕ Int):=
 if (decide (a < k)) then (ob (ix c a) fun e=>
 ob (kQ e) fun f=>
 if f then (ob (mH c a) fun g=>
 tE b a (decide (k < g))) else (tE b a false)) else (some (.inr b))
def aAc (a:(List aT)) (k:Int):Option Int:=
 ob (loop (fun (s:(Int × Int))=>gT a k s.1 s.2) (0,0)) fun r=>aKs r
def bL (a:(List Int)):Option (List Int):=
 ob (pS ([]:List Int) a) fun b=>
 some b
def pH (a:(List Int)):Option (List Int):=
 some a
def gB (a:Int):Option (Int ⊕ (Unit ⊕ (List Int))):=
 some (.inl (wr (a+1)))
def gC (a:List Int) (b:Int):Option (Int ⊕ (Unit ⊕ (List Int))):=
 ob (slc a b (a.length:Int)) fun c=>
 ob (ovw a b (List.replicate c.length (0:Int))) fun d=>
 ob (slc d 0 b) fun e=>
 some (.inr (.inr e))
def eM (a:Int) (b:List Int) (c:Int):Option ((List Int × Int × Int) ⊕ (List Int × Int)):=
 some (.inl (b,c,wr (a+1)))
def eN (e:Int) (d b:List Int) (c a:Int):Option ((List Int × Int × Int) ⊕ (List Int × Int)):=
 if (decide (a < (d.length:Int))) then (ob (ix d a) fun i=>
 ob (ix b (e+a)) fun f=>
 ob (ix d (wr (a - 1))) fun j=>
 ob (ix b (e+(wr (a - 1)))) fun g=>
 if (f != g) then (ob (ix b c) fun k=>
 ob (st b c (f:Int)) fun h=>
 eM a h (wr (c+1))) else (eM a b c)) else (some (.inr (b,c)))
def eO (b:(List Int)) (a:Int):Option (Int ⊕ (Unit ⊕ (List Int))):=
 if (decide (a < (b.length:Int))) then (ob (ix b a) fun d=>
 ob (ix b (wr (a - 1))) fun e=>
 if (d == e) then (ob (slc b a (b.length:Int)) fun f=>
 ob (loop (fun (s:(List Int × Int × Int))=>eN a f s.1 s.2.1 s.2.2) (b,a,1)) fun r=>gC r.1 r.2) else (gB a)) else (some (.inr (.inl ())))
def fG (a:(List Int)):Option (List Int):=
 if (decide ((a.length:Int) < 2)) then (some a) else (ob (loop (fun (s:Int)=>eO a s) 1) fun r=>match r with|.inl r=>pH a|.inr r=>some r)
def aAd (a:(List Int)):Option (List Int):=
 ob (bL a) fun b=>
 ob (aDl b) fun c=>
 ob (fG c) fun d=>
 some d
def oQ (a b f g:Int) (c:(List Int)) (p:cN):Option (List Int):=
 ob (pS c ([wr ((wr (a * p.N))+b)]:List Int)) fun e=>
 some e
def aDT (a:List (List Int)):Option (List (List Int)):=
 some a
def jR (b:Int) (c:aO) (d:List (List Int)) (a:Int):Option ((List (List Int) × Int) ⊕ (List (List Int))):=
 if (decide (a < (c.Next.length:Int))) then (ob (ix c.Next a) fun e=>
 ob (qu e b) fun f=>
 ob (rm e b) fun g=>
 ob (pS d ([([f,g]:List Int)]:List (List Int))) fun h=>
 some (.inl (h,wr (a+1)))) else (some (.inr d))
def tX (g:(List aO)) (a:Int) (p:(List Int)):Option (List (List Int)):=
 ob (ix p 0) fun d=>
 ob (ix p 1) fun e=>
 ob (ix g (wr ((wr (d * a))+e))) fun f=>
 ob (loop (fun (s:(List (List Int) × Int))=>jR a f s.1 s.2) ([],0)) fun r=>aDT r
def gD (a b:(List Int)):Option Int:=
 if (decide ((a.length:Int) < (b.length:Int))) then (some (-1)) else (some 0)
def cL (b c:(List Int)) (a:Int):Option (Int ⊕ (Unit ⊕ Int)):=
 if (decide (a < (b.length:Int))) then (ob (ix b a) fun e=>
 if (decide ((c.length:Int)<=a)) then (some (.inr (.inr 1))) else (ob (ix c a) fun f=>
 ob (eI e f) fun d=>
 if (d != 0) then (some (.inr (.inr d))) else (some (.inl (wr (a+1)))))) else (some (.inr (.inl ())))
def hJ (b c:(List Int)):Option Int:=
 ob (loop (fun (s:Int)=>cL b c s) 0) fun r=>match r with|.inl r=>gD b c|.inr r=>some r
def yU:Option Bool:=
 some false
def gE (b:(List aT)) (a:Int) (c:Bool):Option (Int ⊕ (Unit ⊕ Bool)):=
 if c then (ob (ix b a) fun d=>
 some (.inr (.inr (d.Kind == 8)))) else (some (.inl (wr (a - 1))))
def dA (b:(List aT)) (k a:Int):Option (Int ⊕ (Unit ⊕ Bool)):=
 if (decide (0<=a)) then (ob (ix b a) fun d=>
 ob (kQ d) fun e=>
 if e then (ob (mH b a) fun f=>
 gE b a (decide (k < f))) else (gE b a false)) else (some (.inr (.inl ())))
def jN (c:(List aT)) (k:Int):Option Bool:=
 ob (loop (fun (s:Int)=>dA c k s) k) fun r=>match r with|.inl r=>yU|.inr r=>some r
def qM:Option Int:=
 some (-1)
def gU (b:(List Int)) (c a:Int):Option (Int ⊕ (Unit ⊕ Int)):=
 if (decide (a < (b.length:Int))) then (ob (ix b a) fun d=>
 if (c == d) then (some (.inr (.inr a))) else (some (.inl (wr (a+1))))) else (some (.inr (.inl ())))
def eU (b:(List Int)) (c:Int):Option Int:=
 ob (loop (fun (s:Int)=>gU b c s) 0) fun r=>match r with|.inl r=>qM|.inr r=>some r
def aFq (a:List Int):Option (List Int):=
 ob (aAd a) fun b=>
 some b
def uK (d b:(List Int)) (c:List Int) (a:Int):Option ((List Int × Int) ⊕ (List Int)):=
 if (decide (a < (b.length:Int))) then (ob (ix b a) fun e=>
 ob (eU d e) fun f=>
 ob (pS c ([f]:List Int)) fun g=>
 some (.inl (g,wr (a+1)))) else (some (.inr c))
def aDU (a b:(List Int)):Option (List Int):=
 ob (loop (fun (s:(List Int × Int))=>uK a b s.1 s.2) ([],0)) fun r=>aFq r
def aCC (a:List Int):Option (List Int):=
 some a
def nV (b:List Int) (c a:Int):Option ((List Int × Int × Int) ⊕ (List Int)):=
 ob (pS b ([a]:List Int)) fun d=>
 some (.inl (d,a,wr (c+1)))
def rN (a:List Int) (b c:Int) (d:Bool):Option ((List Int × Int × Int) ⊕ (List Int)):=
 if d then (nV a c (wr (b+1))) else (nV a c b)
def gN (e:(List bB)) (c:List Int) (d a:Int):Option ((List Int × Int × Int) ⊕ (List Int)):=
 if (decide (a < (e.length:Int))) then (ob (ix e a) fun f=>
 if (decide (0 < a)) then (ob (ix e (wr (a - 1))) fun g=>
 rN c d a (f.Greatest != g.Greatest)) else (rN c d a false)) else (some (.inr c))
def oR (e:(List bB)):Option (List Int):=
 ob (loop (fun (s:(List Int × Int × Int))=>gN e s.1 s.2.1 s.2.2) ([],0,0)) fun r=>aCC r
def aFr (a:(List Int)):Option Int:=
 ob (ix a (wr ((a.length:Int) - 1))) fun b=>
 some b
def aEP (e:(List bB)):Option Bool:=
 ob (oR e) fun b=>
 ob (aFr b) fun c=>
 some (decide (c < 9))
def wZ (a:List aO):Option (List aO):=
 some a
def rO (a:Int) (b:List aO):Option ((List aO × Int) ⊕ (List aO)):=
 some (.inl (b,wr (a+1)))
def rP (a:Int) (b:List aO):Option ((List aO × Int) ⊕ (List aO)):=
 rO a b
def rQ (a:Int) (b:List aO):Option ((List aO × Int) ⊕ (List aO)):=
 some (.inl (b,wr (a+1)))
def lD (a:List aO) (b c:Int) (d:List Int) (e:Int):Option ((List aO × Int) ⊕ (List aO)):=
 ob (aAd d) fun f=>
 ob (pS a ([⟨c,e,f⟩]:List aO)) fun g=>
 rQ b g
def jB (f:(List aT)) (g:Int) (a:aT) (b:List aO) (c d:Int) (e:List Int):Option ((List aO × Int) ⊕ (List aO)):=
 ob (kQ a) fun h=>
 if h then (ob (aAc f g) fun i=>
 ob (yG (a.Kind == 7)) fun j=>
 lD b c d e (wr ((wr (2 * i))+j))) else (lD b c d e 1000)
def xA (a:(List aT)) (b:Int) (c:aT) (d:List aO) (e f:Int) (g:List Int):Option ((List aO × Int) ⊕ (List aO)):=
 jB a b c d e f g
def nW (a:Int) (b:List Int):Option ((List Int × Int) ⊕ (List Int)):=
 some (.inl (b,wr (a+1)))
def jC (t:cN) (f:aT) (g:(List Int)) (h:Int) (d:(List Edge)) (b:List Int) (a:Int):Option ((List Int × Int) ⊕ (List Int)):=
 if (decide (a < (d.length:Int))) then (ob (ix d a) fun e=>
 ob (ix t.L e.B) fun i=>
 ob (iF f i) fun j=>
 if j then (ob (ix g 0) fun k=>
 ob (oQ k e.To h 1000 b t) fun l=>
 nW a l) else (nW a b)) else (some (.inr b))
def vO (a:(List aT)) (b:Int) (c:aT) (d:List aO) (e f:Int) (g:List Int):Option ((List aO × Int) ⊕ (List aO)):=
 jB a b c d e f g
def iG (t:cN) (b:(List Int)) (e f:Int) (c:List Int) (a:Int):Option ((List Int × Int) ⊕ (List Int)):=
 if (decide (a < (b.length:Int))) then (ob (ix b a) fun g=>
 ob (oQ g e f 1000 c t) fun h=>
 some (.inl (h,wr (a+1)))) else (some (.inr c))
def jY (c:(List aT)) (t:cN) (d:Int) (e:aT) (h:(List Int)) (g:List aO) (a b:Int):Option ((List aO × Int) ⊕ (List aO)):=
 if (e.Kind == 6) then (ob (sD c d) fun i=>
 ob (oQ i a b 1000 [] t) fun j=>
 jB c d e g a b j) else (ob (loop (fun (s:(List Int × Int))=>iG t h a b s.1 s.2) ([],0)) fun r=>vO c d e g a b r)
def iH (e:(List aT)) (t:cN) (f:Int) (a:aT) (g:(List Int)) (h:List aO) (c d:Int):Option ((List aO × Int) ⊕ (List aO)):=
 ob (kO a) fun i=>
 if i then (ob (aFP t c) fun j=>
 ob (loop (fun (s:(List Int × Int))=>jC t a g d j s.1 s.2) ([],0)) fun r=>xA e f a h c d r) else (if (a.Kind == 6) then (jY e t f a g h c d) else (jY e t f a g h c d))
def fC (e:(List aT)) (t:cN) (f:Int) (a:aT) (g:(List Int)) (c:List aO) (d:Int):Option ((List aO × Int) ⊕ (List aO)):=
 if (decide (d < t.N)) then (if (a.Kind == 0) then (ob (yG true) fun h=>
 iH e t f a g c d h) else (if (a.Kind == 2) then (ob (yG true) fun i=>
 iH e t f a g c d i) else (ob (yG (a.Kind == 5)) fun j=>
 iH e t f a g c d j))) else (some (.inr c))
def fT (b:(List aT)) (t:cN) (c:List aO) (a:Int):Option ((List aO × Int) ⊕ (List aO)):=
 if (decide (a < (b.length:Int))) then (ob (ix b a) fun e=>
 ob (jM b a) fun f=>
 ob (loop (fun (s:(List aO × Int))=>fC b t a e f s.1 s.2) (c,0)) fun r=>rP a r) else (some (.inr c))
def oS (a:(List aT)) (t:cN):Option (List aO):=
 ob (loop (fun (s:(List aO × Int))=>fT a t s.1 s.2) ([],0)) fun r=>wZ r
def tF (b:(List (List Int))) (a:List bB):Option ((List bB) × (List (List Int)) × Bool):=
 ob (aEP a) fun c=>
 some (a,b,c)
def iI (f:(List aT)) (g:(List aO)) (b:(List (List Int))) (c:List Int) (d:List bB) (a:Int):Option ((List bB × Int) ⊕ (List bB)):=
 if (decide (a < (b.length:Int))) then (ob (ix b a) fun h=>
 ob (ix c a) fun i=>
 ob (ix g i) fun e=>
 ob (ix h 0) fun j=>
 ob (jN f j) fun k=>
 ob (aDU c e.Next) fun l=>
 ob (pS d ([⟨k,e.Owner == 1,l⟩]:List bB)) fun m=>
 some (.inl (m,wr (a+1)))) else (some (.inr d))
def tG (b:(List aT)) (c:(List aO)) (a:(List (List Int))) (d:List Int):Option ((List bB) × (List (List Int)) × Bool):=
 ob (loop (fun (s:(List bB × Int))=>iI b c a d s.1 s.2) ([],0)) fun r=>tF a r
def iJ (t:cN) (b:(List (List Int))) (c:List Int) (a:Int):Option ((List Int × Int) ⊕ (List Int)):=
 if (decide (a < (b.length:Int))) then (ob (ix b a) fun d=>
 ob (ix d 0) fun f=>
 ob (ix d 1) fun g=>
 ob (pS c ([wr ((wr (f * t.N))+g)]:List Int)) fun h=>
 some (.inl (h,wr (a+1)))) else (some (.inr c))
def tH (c:(List aT)) (t:cN) (e:(List aO)) (a:List (List Int)):Option ((List bB) × (List (List Int)) × Bool):=
 if (decide (120 < (a.length:Int))) then (some ([],[],false)) else (ob (aBP a) fun b=>
 ob (loop (fun (s:(List Int × Int))=>iJ t b s.1 s.2) ([],0)) fun r=>tG c e b r)
def tI (a:Int) (b:List (List Int)) (c:(List (Int × Bool))):Option ((List (List Int) × (List (Int × Bool)) × Int) ⊕ (List (List Int))):=
 some (.inl (b,c,wr (a+1)))
def yV (a:Int) (b:List (List Int)) (c:(List (Int × Bool))):Option ((List (List Int) × (List (Int × Bool)) × Int) ⊕ (List (List Int))):=
 tI a b c
def lX (a:Int) (b:List (List Int)) (c:(List (Int × Bool))):Option ((List (List Int) × (List (Int × Bool)) × Int) ⊕ (List (List Int) × (List (Int × Bool)))):=
 some (.inl (b,c,wr (a+1)))
def gF (t:cN) (f:(List (List Int))) (c:List (List Int)) (a:(List (Int × Bool))) (b:Int):Option ((List (List Int) × (List (Int × Bool)) × Int) ⊕ (List (List Int) × (List (Int × Bool)))):=
 if (decide (b < (f.length:Int))) then (ob (ix f b) fun d=>
 ob (ix d 0) fun g=>
 ob (ix d 1) fun h=>
 if (!((mF a (wr ((wr (g * t.N))+h))).getD false)) then (ob (some (wD a (wr ((wr (g * t.N))+h)) true)) fun i=>
 ob (pS c ([d]:List (List Int))) fun j=>
 lX b j i) else (lX b c a)) else (some (.inr (c,a)))
def lE (t:cN) (e:(List aO)) (a:List (List Int)) (f:(List (Int × Bool))) (c:Int) (g:Bool):Option ((List (List Int) × (List (Int × Bool)) × Int) ⊕ (List (List Int))):=
 if g then (ob (ix a c) fun h=>
 ob (tX e t.N h) fun i=>
 ob (loop (fun (s:(List (List Int) × (List (Int × Bool)) × Int))=>gF t i s.1 s.2.1 s.2.2) (a,f,0)) fun r=>yV c r.1 r.2) else (some (.inr a))
def gO (t:cN) (d:(List aO)) (a:List (List Int)) (e:(List (Int × Bool))) (b:Int):Option ((List (List Int) × (List (Int × Bool)) × Int) ⊕ (List (List Int))):=
 if (decide (b < (a.length:Int))) then (lE t d a e b (decide ((a.length:Int)<=120))) else (lE t d a e b false)
def pW (b:(List aT)) (t:cN):Option ((List bB) × (List (List Int)) × Bool):=
 ob (oS b t) fun c=>
 ob (some (wD ([]:(List (Int × Bool))) t.I true)) fun d=>
 ob (loop (fun (s:(List (List Int) × (List (Int × Bool)) × Int))=>gO t c s.1 s.2.1 s.2.2) (([([0,t.I]:List Int)]:List (List Int)),d,0)) fun r=>tH b t c r
def jO (b:(List aT)) (t:cN):Option ((List bB) × (List (List Int)) × Int):=
 ob (uJ t ([b]:List (List aT))) fun d=>
 if (d != 0) then (some ([],[],d)) else (ob (pW b t) fun a=>
 if (!a.2.2) then (some ([],[],5)) else (some (a.1,a.2.1,0)))
def aOE (a:List aO):Option (List aO):=
 some a
def aAe (e:(List bB)) (f:(List Int)) (c:List aO) (a:Int):Option ((List aO × Int) ⊕ (List aO)):=
 if (decide (a < (e.length:Int))) then (ob (ix e a) fun d=>
 ob (ix f a) fun g=>
 ob (ix e 0) fun h=>
 ob (yG d.All) fun i=>
 ob (yG (!h.Greatest)) fun j=>
 ob (bL d.Terms) fun k=>
 ob (pS c ([⟨i,wr (g+j),k⟩]:List aO)) fun l=>
 some (.inl (l,wr (a+1)))) else (some (.inr c))
def aJB (e:(List bB)):Option (List aO):=
 ob (oR e) fun b=>
 ob (loop (fun (s:(List aO × Int))=>aAe e b s.1 s.2) ([],0)) fun r=>aOE r
def yH (a:Bool):Option Bool:=
 some a
def aAC (p:(List Int)) (b:cN):Option Bool:=
 ob (ix p 0) fun c=>
 if (c == 0) then (ob (ix p 1) fun d=>
 yH (d == b.I)) else (yH false)
def lT:Option Int:=
 some (-1)
def cT (b:(List (List Int))) (c:cN) (a:Int):Option (Int ⊕ (Unit ⊕ Int)):=
 if (decide (a < (b.length:Int))) then (ob (ix b a) fun d=>
 ob (aAC d c) fun e=>
 if e then (some (.inr (.inr a))) else (some (.inl (wr (a+1))))) else (some (.inr (.inl ())))
def fD (b:(List (List Int))) (c:cN):Option Int:=
 ob (loop (fun (s:Int)=>cT b c s) 0) fun r=>match r with|.inl r=>lT|.inr r=>some r
def aDt (t:cN) (b:(List (List Int))):Option Int:=
 ob (fD b t) fun c=>
 some c
def mI (c:(List aT)) (t:cN):Option ((List bB) × (List (List Int)) × (List aO) × Int × Int):=
 ob (jO c t) fun a=>
 if (a.2.2 != 0) then (some (([]:(List bB)),([]:(List (List Int))),([]:(List aO)),0,a.2.2)) else (ob (aJB a.1) fun d=>
 ob (aDt t a.2.1) fun e=>
 some (a.1,a.2.1,d,e,0))
def hQ (a:List Bool):Option (List Bool):=
 some a
def hY (a:List Bool) (b:Int):Option ((List Bool × Int) ⊕ (List Bool)):=
 if (decide (b < (a.length:Int))) then (ob (slc a b (a.length:Int)) fun d=>
 ob (slc a 0 b) fun c=>
 ob (ovw a b (List.take (Nat.min c.length d.length) c)) fun e=>
 some (.inl (e,wr (b+((Nat.min c.length d.length):Int))))) else (some (.inr a))
def iA (a:(List Bool)) (c:(Int × Int)):Option (List Bool):=
 ob (mkz (wr c.2) (false:Bool)) fun b=>
 ob (ovw b 0 (List.take (Nat.min a.length b.length) a)) fun d=>
 ob (loop (fun (s:(List Bool × Int))=>hY s.1 s.2) (d,((Nat.min a.length b.length):Int))) fun r=>hQ r
def fH (a:(List Bool)) (b:(Int × Int)) (c:Bool):Option (List Bool):=
 if c then (none) else (iA a b)
def iB (b:(List Bool)) (c:Int):Option (List Bool):=
 ob (aLE (oV (b.length:Int)) (oV c)) fun a=>
 if (decide (0 < a.1)) then (fH b a true) else (fH b a (decide (9223372036854775807 < a.2)))
def gG (b:(List Bool)) (a:Int):Option (List Bool):=
 if (decide (a < 0)) then (none) else (iB b a)
def aJi (a:List Bool) (b:List (List Int)):Option ((List (List Int)) × (List Bool)):=
 some (b,a)
def aBF (a:Int) (b:List (List Int)):Option ((List (List Int) × Int) ⊕ (List (List Int))):=
 some (.inl (b,wr (a+1)))
def aFs (a:Int) (b:List (List Int)):Option ((List (List Int) × Int) ⊕ (List (List Int))):=
 aBF a b
def aBG (a:Int) (b:List (List Int)):Option ((List (List Int) × Int) ⊕ (List (List Int))):=
 some (.inl (b,wr (a+1)))
def oF (e:Int) (c:aO) (a:List (List Int)) (b:Int):Option ((List (List Int) × Int) ⊕ (List (List Int))):=
 if (decide (b < (c.Next.length:Int))) then (ob (ix c.Next b) fun d=>
 ob (ix a d) fun f=>
 ob (pS f ([e]:List Int)) fun g=>
 ob (st a d g) fun h=>
 aBG b h) else (some (.inr a))
def oG (g:(List aO)) (c:List (List Int)) (a:Int):Option ((List (List Int) × Int) ⊕ (List (List Int))):=
 if (decide (a < (g.length:Int))) then (ob (ix g a) fun d=>
 ob (loop (fun (s:(List (List Int) × Int))=>oF a d s.1 s.2) (c,0)) fun r=>aFs a r) else (some (.inr c))
def aBH (g:(List aO)) (b:List (List Int)) (c:List Bool):Option ((List (List Int)) × (List Bool)):=
 ob (loop (fun (s:(List (List Int) × Int))=>oG g s.1 s.2) (b,0)) fun r=>aJi c r
def aDV (g:(List aO)):Option ((List (List Int)) × (List Bool)):=
 ob (mkz (g.length:Int) ([]:(List Int))) fun b=>
 ob (gG ([true]:List Bool) (g.length:Int)) fun c=>
 aBH g b c
def aLK (a:List Int):Option (List Int):=
 some a
def aBW (a:Int) (b:List Int):Option ((List Int × Int) ⊕ (List Int)):=
 some (.inl (b,wr (a+1)))
def vP (c:(List Bool)) (b:List Int) (a:Int):Option ((List Int × Int) ⊕ (List Int)):=
 if (decide (a < (c.length:Int))) then (ob (ix c a) fun d=>
 if d then (ob (pS b ([a]:List Int)) fun e=>
 aBW a e) else (aBW a b)) else (some (.inr b))
def aFQ (a:(List Bool)):Option (List Int):=
 ob (loop (fun (s:(List Int × Int))=>vP a s.1 s.2) ([],0)) fun r=>aLK r
def aFR (a:Int):Option Int:=
 some a
def sE (a b:Int):Option ((Int × Int) ⊕ Int):=
 some (.inl (b,wr (a+1)))
def jZ (d:fS) (c:aO) (b a:Int):Option ((Int × Int) ⊕ Int):=
 if (decide (a < (c.Next.length:Int))) then (ob (ix c.Next a) fun e=>
 ob (ix d.in_ e) fun f=>
 if f then (sE a (wr (b+1))) else (sE a b)) else (some (.inr b))
def xR (a:fS) (k:Int):Option Int:=
 ob (ix a.g k) fun c=>
 ob (loop (fun (s:(Int × Int))=>jZ a c s.1 s.2) (0,0)) fun r=>aFR r
def fE (a:(List Bool)):Option (List Bool):=
 ob (pS ([]:List Bool) a) fun b=>
 some b
def yW (a:List Bool):Option (List Bool):=
 some a
def yX (a:List Bool) (b:(List (Int × Int))) (c:List Int):Option ((List Bool × (List (Int × Int)) × List Int) ⊕ (List Bool)):=
 some (.inl (a,b,c))
def aDW (a:List Bool) (b:(List (Int × Int))) (c:List Int):Option ((List Bool × (List (Int × Int)) × List Int) ⊕ (List Bool)):=
 yX a b c
def jS (a:Int) (b:List Bool) (c:(List (Int × Int))) (d:List Int):Option ((List Bool × (List (Int × Int)) × List Int × Int) ⊕ (List Bool × (List (Int × Int)) × List Int)):=
 some (.inl (b,c,d,wr (a+1)))
def lY (b:List Bool) (c:List Int) (d a:Int) (e:(List (Int × Int))):Option ((List Bool × (List (Int × Int)) × List Int × Int) ⊕ (List Bool × (List (Int × Int)) × List Int)):=
 ob (ix b a) fun h=>
 ob (st b a (true:Bool)) fun f=>
 ob (pS c ([a]:List Int)) fun g=>
 jS d f e g
def lZ (c:List Bool) (d:List Int) (e a:Int) (f:(List (Int × Int))):Option ((List Bool × (List (Int × Int)) × List Int × Int) ⊕ (List Bool × (List (Int × Int)) × List Int)):=
 ob (some (wD f a (wr (((mF f a).getD 0) - 1)))) fun b=>
 if (decide (0 < ((mF b a).getD 0))) then (jS e c b d) else (lY c d e a b)
def mA (f:fS) (h:Int) (c:List Bool) (b:(List (Int × Int))) (d:List Int) (e a:Int) (i:Bool):Option ((List Bool × (List (Int × Int)) × List Int × Int) ⊕ (List Bool × (List (Int × Int)) × List Int)):=
 if i then (jS e c b d) else (ob (ix f.g a) fun j=>
 if (j.Owner != h) then (if (!((mF b a).isSome)) then (ob (xR f a) fun k=>
 ob (some (wD b a k)) fun l=>
 lZ c d e a l) else (lZ c d e a b)) else (lY c d e a b))
def iK (d:fS) (g:Int) (h:(List Int)) (a:List Bool) (e:(List (Int × Int))) (f:List Int) (b:Int):Option ((List Bool × (List (Int × Int)) × List Int × Int) ⊕ (List Bool × (List (Int × Int)) × List Int)):=
 if (decide (b < (h.length:Int))) then (ob (ix h b) fun c=>
 ob (ix d.in_ c) fun i=>
 if (!i) then (mA d g a e f b c true) else (ob (ix a c) fun j=>
 mA d g a e f b c j)) else (some (.inr (a,e,f)))
def iL (c:fS) (e:Int) (d:List Bool) (f:(List (Int × Int))) (a:List Int):Option ((List Bool × (List (Int × Int)) × List Int) ⊕ (List Bool)):=
 if (decide (0 < (a.length:Int))) then (ob (ix a 0) fun g=>
 ob (slc a 1 (a.length:Int)) fun h=>
 ob (ix c.back g) fun i=>
 ob (loop (fun (s:(List Bool × (List (Int × Int)) × List Int × Int))=>iK c e i s.1 s.2.1 s.2.2.1 s.2.2.2) (d,f,h,0)) fun r=>aDW r.1 r.2.1 r.2.2) else (some (.inr d))
def lK (b:fS) (c:Int) (a:(List Bool)):Option (List Bool):=
 ob (fE a) fun d=>
 ob (aFQ a) fun e=>
 ob (loop (fun (s:(List Bool × (List (Int × Int)) × List Int))=>iL b c s.1 s.2.1 s.2.2) (d,([]:(List (Int × Int))),e)) fun r=>yW r
def aDX (a:List Bool):Option (List Bool):=
 some a
def pI (a:Int) (b:List Bool):Option ((List Bool × Int) ⊕ (List Bool)):=
 some (.inl (b,wr (a+1)))
def jT (c:(List Bool)) (b:List Bool) (a:Int):Option ((List Bool × Int) ⊕ (List Bool)):=
 if (decide (a < (c.length:Int))) then (ob (ix c a) fun d=>
 ob (ix b a) fun e=>
 if e then (ob (st b a (!d:Bool)) fun f=>
 pI a f) else (ob (st b a (false:Bool)) fun g=>
 pI a g)) else (some (.inr b))
def lL (a:fS) (b:(List Bool)):Option (List Bool):=
 ob (fE a.in_) fun c=>
 ob (loop (fun (s:(List Bool × Int))=>jT b s.1 s.2) (c,0)) fun r=>aDX r
def aDY (k:Int) (p:fS) (c:Int):Option Bool:=
 ob (ix p.g k) fun d=>
 some (d.Priority == c)
def aEQ (a:List Bool):Option (List Bool):=
 some a
def qN (a:Int) (b:List Bool):Option ((List Bool × Int) ⊕ (List Bool)):=
 some (.inl (b,wr (a+1)))
def kS (c d:fS) (e:Int) (b:List Bool) (a:Int):Option ((List Bool × Int) ⊕ (List Bool)):=
 if (decide (a < (c.in_.length:Int))) then (ob (ix c.in_ a) fun f=>
 if f then (ob (aDY a d e) fun g=>
 ob (ix b a) fun j=>
 ob (st b a (g:Bool)) fun h=>
 qN a h) else (ob (ix b a) fun k=>
 ob (st b a (false:Bool)) fun i=>
 qN a i)) else (some (.inr b))
def vQ (a b:fS) (c:Int):Option (List Bool):=
 ob (mkz (a.g.length:Int) (false:Bool)) fun d=>
 ob (loop (fun (s:(List Bool × Int))=>kS a b c s.1 s.2) (d,0)) fun r=>aEQ r
def aDZ (k:Int) (p:(List Bool)) (c:Int):Option Bool:=
 ob (ix p k) fun d=>
 some (d != (c == 1))
def aBX (a:List Bool):Option (List Bool):=
 some a
def mT (a:Int) (b:List Bool):Option ((List Bool × Int) ⊕ (List Bool)):=
 some (.inl (b,wr (a+1)))
def iM (c:fS) (d:(List Bool)) (e:Int) (b:List Bool) (a:Int):Option ((List Bool × Int) ⊕ (List Bool)):=
 if (decide (a < (c.in_.length:Int))) then (ob (ix c.in_ a) fun f=>
 if f then (ob (aDZ a d e) fun g=>
 ob (ix b a) fun j=>
 ob (st b a (g:Bool)) fun h=>
 mT a h) else (ob (ix b a) fun k=>
 ob (st b a (false:Bool)) fun i=>
 mT a i)) else (some (.inr b))
def qO (a:fS) (b:(List Bool)) (c:Int):Option (List Bool):=
 ob (mkz (a.g.length:Int) (false:Bool)) fun d=>
 ob (loop (fun (s:(List Bool × Int))=>iM a b c s.1 s.2) (d,0)) fun r=>aBX r
def sF:Option Int:=
 some (-1)
def iT (b:(List Bool)) (c:Bool) (a:Int):Option (Int ⊕ (Unit ⊕ Int)):=
 if (decide (a < (b.length:Int))) then (ob (ix b a) fun d=>
 if (c == d) then (some (.inr (.inr a))) else (some (.inl (wr (a+1))))) else (some (.inr (.inl ())))
def gV (b:(List Bool)) (c:Bool):Option Int:=
 ob (loop (fun (s:Int)=>iT b c s) 0) fun r=>match r with|.inl r=>sF|.inr r=>some r
def iU (a:(List Bool)) (b:Bool):Option Bool:=
 ob (gV a b) fun c=>
 some (decide (0<=c))
def aEa (p a:Int):Option Bool:=
 some (a == 1)
def aBY (a:List Bool):Option (List Bool):=
 some a
def mU (a:Int) (b:List Bool):Option ((List Bool × Int) ⊕ (List Bool)):=
 some (.inl (b,wr (a+1)))
def iN (c:fS) (d:Int) (b:List Bool) (a:Int):Option ((List Bool × Int) ⊕ (List Bool)):=
 if (decide (a < (c.in_.length:Int))) then (ob (ix c.in_ a) fun e=>
 if e then (ob (aEa a d) fun f=>
 ob (ix b a) fun i=>
 ob (st b a (f:Bool)) fun g=>
 mU a g) else (ob (ix b a) fun j=>
 ob (st b a (false:Bool)) fun h=>
 mU a h)) else (some (.inr b))
def qP (a:fS) (b:Int):Option (List Bool):=
 ob (mkz (a.g.length:Int) (false:Bool)) fun c=>
 ob (loop (fun (s:(List Bool × Int))=>iN a b s.1 s.2) (c,0)) fun r=>aBY r
def qQ (a:Bool):Option Bool:=
 some a
def vR (k:Int) (p:(List Bool)) (c:Int) (d:(List Bool)):Option Bool:=
 ob (ix p k) fun e=>
 if e then (if (c == 0) then (qQ true) else (qQ false)) else (ob (ix d k) fun f=>
 qQ f)
def aBZ (a:List Bool):Option (List Bool):=
 some a
def mV (a:Int) (b:List Bool):Option ((List Bool × Int) ⊕ (List Bool)):=
 some (.inl (b,wr (a+1)))
def iO (c:fS) (d:(List Bool)) (e:Int) (f:(List Bool)) (b:List Bool) (a:Int):Option ((List Bool × Int) ⊕ (List Bool)):=
 if (decide (a < (c.in_.length:Int))) then (ob (ix c.in_ a) fun g=>
 if g then (ob (vR a d e f) fun h=>
 ob (ix b a) fun k=>
 ob (st b a (h:Bool)) fun i=>
 mV a i) else (ob (ix b a) fun l=>
 ob (st b a (false:Bool)) fun j=>
 mV a j)) else (some (.inr b))
def qR (a:fS) (b:(List Bool)) (c:Int) (d:(List Bool)):Option (List Bool):=
 ob (mkz (a.g.length:Int) (false:Bool)) fun e=>
 ob (loop (fun (s:(List Bool × Int))=>iO a b c d s.1 s.2) (e,0)) fun r=>aBZ r
def vS (c:fS->Option (List Bool)) (a:fS) (d:Int):Option (List Bool):=
 ob (rm d 2) fun b=>
 ob (vQ a a d) fun i=>
 ob (lK a b i) fun j=>
 ob (lL a j) fun e=>
 ob (c ⟨a.g,a.back,e⟩) fun k=>
 ob (qO ⟨a.g,a.back,e⟩ k b) fun f=>
 ob (iU f true) fun l=>
 if (!l) then (ob (qP a b) fun m=>
 some m) else (ob (lK a (wr (1 - b)) f) fun h=>
 ob (lL a h) fun n=>
 ob (c ⟨a.g,a.back,n⟩) fun o=>
 ob (qR a h b o) fun p=>
 some p)
def kT (d:fS) (b:(List Int)) (c a:Int):Option ((Int × Int) ⊕ Int):=
 if (decide (a < (b.length:Int))) then (ob (ix b a) fun e=>
 ob (ix d.g e) fun f=>
 some (.inl (mnI c f.Priority,wr (a+1)))) else (some (.inr c))
def xS (c:fS->Option (List Bool)) (a:fS):Option (List Bool):=
 ob (aFQ a.in_) fun b=>
 if ((b.length:Int) == 0) then (ob (mkz (a.g.length:Int) (false:Bool)) fun d=>
 some d) else (ob (ix b 0) fun e=>
 ob (ix a.g e) fun f=>
 ob (loop (fun (s:(Int × Int))=>kT a b s.1 s.2) (f.Priority,0)) fun r=>vS c a r)
def rC:Nat->fS->Option (List Bool)
 |0=>fun _=>none
 |n+1=>xS (rC n)
def aHT (a:fS):Option (List Bool):=
 rC 100000 a
def tJ (a:Bool):Option Bool:=
 some a
def tY (k:Int) (p:(List aO)) (d:Int):Option Bool:=
 ob (ix p k) fun a=>
 if (a.Owner == d) then (tJ ((a.Next.length:Int) == 0)) else (tJ false)
def aCa (a:List Bool):Option (List Bool):=
 some a
def mW (a:Int) (b:List Bool):Option ((List Bool × Int) ⊕ (List Bool)):=
 some (.inl (b,wr (a+1)))
def iP (c:fS) (d:(List aO)) (e:Int) (b:List Bool) (a:Int):Option ((List Bool × Int) ⊕ (List Bool)):=
 if (decide (a < (c.in_.length:Int))) then (ob (ix c.in_ a) fun f=>
 if f then (ob (tY a d e) fun g=>
 ob (ix b a) fun j=>
 ob (st b a (g:Bool)) fun h=>
 mW a h) else (ob (ix b a) fun k=>
 ob (st b a (false:Bool)) fun i=>
 mW a i)) else (some (.inr b))
def kU (a:fS) (b:(List aO)) (c:Int):Option (List Bool):=
 ob (mkz (a.g.length:Int) (false:Bool)) fun d=>
 ob (loop (fun (s:(List Bool × Int))=>iP a b c s.1 s.2) (d,0)) fun r=>aCa r
def aAD (a:Int) (p:fS) (c:(List aO)):Option (List Bool):=
 ob (kU p c a) fun d=>
 some d
def aCW (a:List Int):Option (List Int):=
 some a
def wQ (a:Int) (b:List Int):Option ((List Int × Int) ⊕ (List Int)):=
 some (.inl (b,wr (a+1)))
def qS (g:(List aO)) (d e f:(List Bool)) (b:List Int) (a:Int):Option ((List Int × Int) ⊕ (List Int)):=
 if (decide (a < (g.length:Int))) then (ob (ix d a) fun h=>
 if h then (ob (yG true) fun i=>
 ob (ix b a) fun q=>
 ob (st b a (i:Int)) fun j=>
 wQ a j) else (ob (ix e a) fun k=>
 if (!k) then (ob (ix f a) fun l=>
 ob (yG l) fun m=>
 ob (ix b a) fun r=>
 ob (st b a (m:Int)) fun n=>
 wQ a n) else (ob (yG false) fun o=>
 ob (ix b a) fun s=>
 ob (st b a (o:Int)) fun p=>
 wQ a p))) else (some (.inr b))
def sG (g:(List aO)):Option (List Int):=
 ob (aDV g) fun b=>
 ob (aAD 0 ⟨g,b.1,b.2⟩ g) fun e=>
 ob (lK ⟨g,b.1,b.2⟩ 1 e) fun c=>
 ob (aAD 1 ⟨g,b.1,b.2⟩ g) fun f=>
 ob (lK ⟨g,b.1,b.2⟩ 0 f) fun d=>
 ob (lL ⟨g,b.1,b.2⟩ c) fun h=>
 ob (lL ⟨g,b.1,h⟩ d) fun i=>
 ob (aHT ⟨g,b.1,i⟩) fun j=>
 ob (mkz (g.length:Int) (0:Int)) fun k=>
 ob (loop (fun (s:(List Int × Int))=>qS g c d j s.1 s.2) (k,0)) fun r=>aCW r
def aMZ (a:List Bool):Option (List Bool):=
 some a
def aBt (b:(List Int)) (c:List Bool) (a:Int):Option ((List Bool × Int) ⊕ (List Bool)):=
 if (decide (a < (b.length:Int))) then (ob (ix b a) fun d=>
 ob (pS c ([d == 0]:List Bool)) fun e=>
 some (.inl (e,wr (a+1)))) else (some (.inr c))
def aIK (e:(List bB)):Option (List Bool):=
 ob (aJB e) fun b=>
 ob (sG b) fun c=>
 ob (loop (fun (s:(List Bool × Int))=>aBt c s.1 s.2) ([],0)) fun r=>aMZ r
def dE (a:(List aO)):Option (List aO):=
 ob (pS ([]:List aO) a) fun b=>
 some b
def aEb (a:List aO):Option (List aO):=
 some a
def mX (d:(List aO)) (b:List aO) (a:Int):Option ((List aO × Int) ⊕ (List aO)):=
 if (decide (a < (d.length:Int))) then (ob (ix b a) fun c=>
 ob (bL c.Next) fun e=>
 ob (st b a (⟨c.Owner,c.Priority,e⟩:aO)) fun f=>
 some (.inl (f,wr (a+1)))) else (some (.inr b))
def aCb (g:(List aO)):Option (List aO):=
 ob (dE g) fun a=>
 ob (loop (fun (s:(List aO × Int))=>mX a s.1 s.2) (a,0)) fun r=>aEb r
def gI (a:List Int):Option (List Int):=
 some a
def gJ (a:List Int) (b:Int):Option ((List Int × Int) ⊕ (List Int)):=
 if (decide (b < (a.length:Int))) then (ob (slc a b (a.length:Int)) fun d=>
 ob (slc a 0 b) fun c=>
 ob (ovw a b (List.take (Nat.min c.length d.length) c)) fun e=>
 some (.inl (e,wr (b+((Nat.min c.length d.length):Int))))) else (some (.inr a))
def gK (a:(List Int)) (c:(Int × Int)):Option (List Int):=
 ob (mkz (wr c.2) (0:Int)) fun b=>
 ob (ovw b 0 (List.take (Nat.min a.length b.length) a)) fun d=>
 ob (loop (fun (s:(List Int × Int))=>gJ s.1 s.2) (d,((Nat.min a.length b.length):Int))) fun r=>gI r
def eX (a:(List Int)) (b:(Int × Int)) (c:Bool):Option (List Int):=
 if c then (none) else (gK a b)
def gL (b:(List Int)) (c:Int):Option (List Int):=
 ob (aLE (oV (b.length:Int)) (oV c)) fun a=>
 if (decide (0 < a.1)) then (eX b a true) else (eX b a (decide (9223372036854775807 < a.2)))
def fO (b:(List Int)) (a:Int):Option (List Int):=
 if (decide (a < 0)) then (none) else (gL b a)
def xT (n:Int) (p:(List Int)) (c:aO):Option Bool:=
 ob (ix p n) fun d=>
 some (d != c.Owner)
def mD:Option Int:=
 some (-1)
def dM (b c:(List Int)) (d:aO) (a:Int):Option (Int ⊕ (Unit ⊕ Int)):=
 if (decide (a < (b.length:Int))) then (ob (ix b a) fun e=>
 ob (xT e c d) fun f=>
 if f then (some (.inr (.inr a))) else (some (.inl (wr (a+1))))) else (some (.inr (.inl ())))
def dX (b c:(List Int)) (d:aO):Option Int:=
 ob (loop (fun (s:Int)=>dM b c d s) 0) fun r=>match r with|.inl r=>mD|.inr r=>some r
def iV (a:List Int) (b:Int):Option (List Int):=
 ob (slc a b (a.length:Int)) fun c=>
 ob (ovw a b (List.replicate c.length (0:Int))) fun d=>
 ob (slc d 0 b) fun e=>
 some e
def dT (a:Int) (b:List Int) (c:Int):Option ((List Int × Int × Int) ⊕ (List Int × Int)):=
 some (.inl (b,c,wr (a+1)))
def dU (e:(List Int)) (f:aO) (a:List Int) (b c:Int):Option ((List Int × Int × Int) ⊕ (List Int × Int)):=
 if (decide (c < (a.length:Int))) then (ob (ix a c) fun d=>
 ob (xT d e f) fun g=>
 if (!g) then (ob (ix a b) fun i=>
 ob (st a b (d:Int)) fun h=>
 dT c h (wr (b+1))) else (dT c a b)) else (some (.inr (a,b)))
def eP (a c:(List Int)) (d:aO):Option (List Int):=
 ob (dX a c d) fun b=>
 if (b == (-1)) then (some a) else (ob (loop (fun (s:(List Int × Int × Int))=>dU c d s.1 s.2.1 s.2.2) (a,b,wr (b+1))) fun r=>iV r.1 r.2)
def qT:Option Bool:=
 some true
def gW (b c:(List Int)) (a:Int):Option (Int ⊕ (Unit ⊕ Bool)):=
 if (decide (a < (b.length:Int))) then (ob (ix b a) fun d=>
 ob (ix c a) fun e=>
 if (d != e) then (some (.inr (.inr false))) else (some (.inl (wr (a+1))))) else (some (.inr (.inl ())))
def fV (b c:(List Int)):Option Bool:=
 if ((b.length:Int) != (c.length:Int)) then (some false) else (ob (loop (fun (s:Int)=>gW b c s) 0) fun r=>match r with|.inl r=>qT|.inr r=>some r)
def aBI (a:List Int):Option (List Int):=
 some a
def uL (a:Int) (b:List aO) (c:List Int):Option ((List aO × List Int × Int) ⊕ (List Int)):=
 some (.inl (b,c,wr (a+1)))
def xU (a:Int) (b:List aO) (c:List Int):Option ((List aO × List Int × Int) ⊕ (List Int)):=
 uL a b c
def rD (a:List Int) (b d e:Int) (c:List aO) (f:Bool):Option ((List aO × Int) ⊕ (List aO × List Int)):=
 if f then (ob (ix a b) fun h=>
 ob (st a b (e:Int)) fun g=>
 some (.inr (c,g))) else (some (.inl (c,wr (d+1))))
def rE (i:(List Int)) (c:List Int) (b:Int) (d:(List Int)) (e:List aO) (a:Int):Option ((List aO × Int) ⊕ (List aO × List Int)):=
 if (decide (a < (d.length:Int))) then (ob (ix d a) fun f=>
 ob (ix e b) fun h=>
 ob (st e b (⟨h.Owner,h.Priority,([f]:List Int)⟩:aO)) fun g=>
 if (a == (wr ((d.length:Int) - 1))) then (rD c b a f g true) else (ob (sG g) fun j=>
 ob (fV j i) fun k=>
 rD c b a f g k)) else (some (.inr (e,c)))
def oH (g:(List aO)) (b:(List Int)) (f:List aO) (c:List Int) (a:Int):Option ((List aO × List Int × Int) ⊕ (List Int)):=
 if (decide (a < (g.length:Int))) then (ob (ix g a) fun d=>
 ob (ix b a) fun i=>
 if (d.Owner != i) then (uL a f c) else (ob (bL d.Next) fun j=>
 ob (eP j b d) fun k=>
 ob (loop (fun (s:(List aO × Int))=>rE b c a k s.1 s.2) (f,0)) fun r=>xU a r.1 r.2)) else (some (.inr c))
def yY (g:(List aO)):Option (List Int):=
 ob (sG g) fun b=>
 ob (aCb g) fun c=>
 ob (fO ([(-1)]:List Int) (g.length:Int)) fun d=>
 ob (loop (fun (s:(List aO × List Int × Int))=>oH g b s.1 s.2.1 s.2.2) (c,d,0)) fun r=>aBI r
def nX (a:gY) (b:Bool) (k:Int):Option Bool:=
 ob (ix a.equations k) fun d=>
 some (d.All != b)
def gX (a:(List Int)) (b:Int):Option Bool:=
 ob (eU a b) fun c=>
 some (decide (0<=c))
def aCc (a:Bool) (b:List (List Int)):Option aFF:=
 some ⟨a,b⟩
def mY (a:List (List Int)) (b:Int) (c:List Int):Option ((List (List Int) × Int) ⊕ (List (List Int))):=
 ob (pS a ([c]:List (List Int))) fun d=>
 some (.inl (d,wr (b+1)))
def fW (b:gY) (g:Bool) (h e:(List Int)) (c:List (List Int)) (a:Int):Option ((List (List Int) × Int) ⊕ (List (List Int))):=
 if (decide (a < (e.length:Int))) then (ob (ix e a) fun d=>
 ob (ix b.list d) fun i=>
 ob (bL i) fun f=>
 ob (nX b g d) fun j=>
 if j then (ob (ix h d) fun k=>
 ob (ix b.list k) fun l=>
 ob (pS f l) fun m=>
 mY c a m) else (mY c a f)) else (some (.inr c))
def qU (b:gY) (a:Bool) (c:(List Int)) (d:List Int):Option aFF:=
 ob (aDl d) fun e=>
 ob (loop (fun (s:(List (List Int) × Int))=>fW b a c e s.1 s.2) ([],0)) fun r=>aCc a r
def qV (a:Int) (b:List Int):Option ((List Int × Int) ⊕ (List Int)):=
 some (.inl (b,wr (a+1)))
def vT (a:Int) (b:List Int):Option ((List Int × Int) ⊕ (List Int)):=
 qV a b
def mZ (a:Int) (b:List Int):Option ((List Int × Int) ⊕ (List Int)):=
 some (.inl (b,wr (a+1)))
def fX (c a:List Int) (b:Int):Option ((List Int × Int) ⊕ (List Int)):=
 if (decide (b < (c.length:Int))) then (ob (ix c b) fun d=>
 ob (gX a d) fun e=>
 if (!e) then (ob (pS a ([d]:List Int)) fun f=>
 mZ b f) else (mZ b a)) else (some (.inr a))
def kA (a:List Int) (b:Int) (c:List Int):Option ((List Int × Int) ⊕ (List Int)):=
 ob (loop (fun (s:(List Int × Int))=>fX c s.1 s.2) (a,0)) fun r=>vT b r
def fJ (d:gY) (e:Bool) (f:(List Int)) (a:List Int) (b:Int):Option ((List Int × Int) ⊕ (List Int)):=
 if (decide (b < (a.length:Int))) then (ob (ix a b) fun c=>
 ob (ix d.equations c) fun g=>
 ob (nX d e c) fun h=>
 if h then (ob (ix f c) fun i=>
 kA a b ([i]:List Int)) else (kA a b g.Terms)) else (some (.inr a))
def pN (a:gY) (b:Bool):Option aFF:=
 ob (yY a.game) fun c=>
 ob (loop (fun (s:(List Int × Int))=>fJ a b c s.1 s.2) (([a.start]:List Int),0)) fun r=>qU a b c r
def jG (a:gY):Option aFF:=
 ob (aIK a.equations) fun b=>
 ob (ix b a.start) fun c=>
 pN a c
def cP (a:(List Edge)):Option (List Edge):=
 ob (pS ([]:List Edge) a) fun b=>
 some b
def iC (a:(List aJ)):Option (List aJ):=
 ob (pS ([]:List aJ) a) fun b=>
 some b
def nO (t:cN) (b:(List Edge)):Option cN:=
 ob (iC t.L) fun c=>
 ob (cP b) fun d=>
 some ⟨t.N,t.I,c,d⟩
def kV (a:(List Edge)):Option (List Edge):=
 some a
def eD (a:Int):Option (Int ⊕ (Unit ⊕ (List Edge))):=
 some (.inl (wr (a+1)))
def eE (a:List Edge) (b:Int):Option (Int ⊕ (Unit ⊕ (List Edge))):=
 ob (slc a b (a.length:Int)) fun c=>
 ob (ovw a b (List.replicate c.length (⟨0,0,0⟩:Edge))) fun d=>
 ob (slc d 0 b) fun e=>
 some (.inr (.inr e))
def dB (a:Int) (b:List Edge) (c:Int):Option ((List Edge × Int × Int) ⊕ (List Edge × Int)):=
 some (.inl (b,c,wr (a+1)))
def dC (f:Int) (e b:List Edge) (c a:Int):Option ((List Edge × Int × Int) ⊕ (List Edge × Int)):=
 if (decide (a < (e.length:Int))) then (ob (ix e a) fun i=>
 ob (ix b (f+a)) fun d=>
 ob (ix e (wr (a - 1))) fun j=>
 ob (ix b (f+(wr (a - 1)))) fun g=>
 if (!decide ((d:Edge)=g)) then (ob (ix b c) fun k=>
 ob (st b c (⟨d.F,d.B,d.To⟩:Edge)) fun h=>
 dB a h (wr (c+1))) else (dB a b c)) else (some (.inr (b,c)))
def dD (b:(List Edge)) (a:Int):Option (Int ⊕ (Unit ⊕ (List Edge))):=
 if (decide (a < (b.length:Int))) then (ob (ix b a) fun d=>
 ob (ix b (wr (a - 1))) fun e=>
 if (decide ((d:Edge)=e)) then (ob (slc b a (b.length:Int)) fun f=>
 ob (loop (fun (s:(List Edge × Int × Int))=>dC a f s.1 s.2.1 s.2.2) (b,a,1)) fun r=>eE r.1 r.2) else (eD a)) else (some (.inr (.inl ())))
def dN (a:(List Edge)):Option (List Edge):=
 if (decide ((a.length:Int) < 2)) then (some a) else (ob (loop (fun (s:Int)=>dD a s) 1) fun r=>match r with|.inl r=>kV a|.inr r=>some r)
def kW (a:Bool):Option Bool:=
 some a
def nY (e:Edge) (p:(List Int)) (c:aT) (d:gY):Option Bool:=
 ob (ix p 1) fun f=>
 if (e.F == f) then (ob (ix p 3) fun g=>
 if (e.To == g) then (ob (ix d.t.L e.B) fun h=>
 ob (iF c h) fun i=>
 kW i) else (kW false)) else (kW false)
def kB:Option Int:=
 some (-1)
def cZ (b:(List Edge)) (c:(List Int)) (d:aT) (e:gY) (a:Int):Option (Int ⊕ (Unit ⊕ Int)):=
 if (decide (a < (b.length:Int))) then (ob (ix b a) fun f=>
 ob (nY f c d e) fun g=>
 if g then (some (.inr (.inr a))) else (some (.inl (wr (a+1))))) else (some (.inr (.inl ())))
def dF (b:(List Edge)) (c:(List Int)) (d:aT) (e:gY):Option Int:=
 ob (loop (fun (s:Int)=>cZ b c d e s) 0) fun r=>match r with|.inl r=>kB|.inr r=>some r
def rR (a:List Edge):Option (List Edge):=
 ob (aGr a) fun b=>
 ob (dN b) fun c=>
 some c
def lF (a:Int) (b:List Edge):Option ((List Edge × Int) ⊕ (List Edge)):=
 some (.inl (b,wr (a+1)))
def jD (a:gY) (b:List Edge) (c:Int) (d:(List Int)) (e:aT) (f:Bool):Option ((List Edge × Int) ⊕ (List Edge)):=
 if f then (lF c b) else (ob (dF a.t.E d e a) fun g=>
 ob (ix a.t.E g) fun h=>
 ob (pS b ([h]:List Edge)) fun i=>
 lF c i)
def dY (c:gY) (p:aFF) (d:List Edge) (a:Int):Option ((List Edge × Int) ⊕ (List Edge)):=
 if (decide (a < (p.Rows.length:Int))) then (ob (ix p.Rows a) fun b=>
 ob (ix b 0) fun h=>
 ob (ix c.f h) fun e=>
 if ((b.length:Int) != 4) then (jD c d a b e true) else (ob (kO e) fun i=>
 jD c d a b e (!i))) else (some (.inr d))
def kC (a:gY) (p:aFF):Option (List Edge):=
 ob (loop (fun (s:(List Edge × Int))=>dY a p s.1 s.2) ([],0)) fun r=>rR r
def mB (c:(List aT)) (t:cN):Option (cN × Bool × Int):=
 ob (mI c t) fun b=>
 if (b.2.2.2.2 != 0) then (some (⟨0,0,[],[]⟩,false,b.2.2.2.2)) else (ob (jG ⟨c,⟨t.N,t.I,t.L,t.E⟩,b.1,b.2.1,b.2.2.1,b.2.2.2.1⟩) fun d=>
 ob (kC ⟨c,⟨t.N,t.I,t.L,t.E⟩,b.1,b.2.1,b.2.2.1,b.2.2.2.1⟩ d) fun e=>
 ob (nO t e) fun f=>
 some (f,d.Verdict,0))
def aJj:Option Int:=
 some (-1)
def aBJ (b:(List Int)) (n a:Int):Option (Int ⊕ (Unit ⊕ Int)):=
 if (decide (a < (b.length:Int))) then (ob (ix b a) fun d=>
 if (d == n) then (some (.inr (.inr a))) else (some (.inl (wr (a+1))))) else (some (.inr (.inl ())))
def aEc (b:(List Int)) (n:Int):Option Int:=
 ob (loop (fun (s:Int)=>aBJ b n s) 0) fun r=>match r with|.inl r=>aJj|.inr r=>some r
def aAE (a:aJ):Option aJ:=
 ob (aDr a) fun b=>
 ob (slc a 0 b) fun c=>
 some c
def aAF (a:aJ) (b:Bool) (c:aJ):Option Bool:=
 if ((a.length:Int) == 0) then (some (!b)) else (ob (ix a (wr ((a.length:Int) - 1))) fun d=>
 if ((d.toNat:Int) == 42) then (ob (aAE c) fun e=>
 ob (slc a 0 (wr ((a.length:Int) - 1))) fun f=>
 some ((e == f) != b)) else (some ((a == c) != b)))
def aER (a:List Int):Option (List Int):=
 some a
def aES (n:Int) (a:List Int) (c:Bool):Option (List Int):=
 if (!c) then (ob (pS a ([n]:List Int)) fun d=>
 aER d) else (aER a)
def aCd (b:(List Int)) (a:Int) (c:List Int) (d:Bool):Option ((List Int × Bool × Int) ⊕ (List Int × Bool)):=
 ob (ix b a) fun e=>
 ob (pS c ([e]:List Int)) fun f=>
 some (.inl (f,d,wr (a+1)))
def aCe (a:(List Int)) (n:Int) (c:List Int) (e:Bool) (b:Int) (f:Bool):Option ((List Int × Bool × Int) ⊕ (List Int × Bool)):=
 if f then (ob (ix a b) fun g=>
 if (decide (n < g)) then (ob (pS c ([n]:List Int)) fun h=>
 aCd a b h true) else (aCd a b c true)) else (aCd a b c e)
def sU (a:(List Int)) (n:Int) (e:List Int) (b:Bool) (c:Int):Option ((List Int × Bool × Int) ⊕ (List Int × Bool)):=
 if (decide (c < (a.length:Int))) then (if (!b) then (ob (ix a c) fun f=>
 aCe a n e b c (decide (n<=f))) else (aCe a n e b c false)) else (some (.inr (e,b)))
def aHU (c:(List Int)) (n:Int):Option (List Int):=
 ob (loop (fun (s:(List Int × Bool × Int))=>sU c n s.1 s.2.1 s.2.2) (([]:List Int),false,0)) fun r=>aES n r.1 r.2
def mJ (a:List Int):Option (List Int):=
 some a
def aFt (a:List Int):Option (List Int):=
 mJ a
def uM (a:Int) (b:List Int):Option ((List Int × Int) ⊕ (List Int)):=
 some (.inl (b,wr (a+1)))
def uN (t:cN) (d:Int) (a:List Int) (b:Int) (e:Edge) (f:Bool):Option ((List Int × Int) ⊕ (List Int)):=
 if f then (ob (aHU a (wr ((wr ((wr (d+1)) * t.N))+e.To))) fun g=>
 uM b g) else (uM b a)
def oI (t:cN) (e g:Int) (f:aT) (d:List Int) (b:Int):Option ((List Int × Int) ⊕ (List Int)):=
 if (decide (b < (t.E.length:Int))) then (ob (ix t.E b) fun c=>
 if (c.F == g) then (ob (ix t.L c.B) fun h=>
 ob (aAF f.B f.Not h) fun i=>
 uN t e d b c i) else (uN t e d b c false)) else (some (.inr d))
def uO (t:cN) (b c:Int) (d:Bool):Option (List Int):=
 if d then (ob (pS ([]:List Int) ([wr ((wr ((wr (b+1)) * t.N))+c)]:List Int)) fun e=>
 mJ e) else (mJ ([]:List Int))
def rF (e:(List aT)) (t:cN) (c d:Int) (a:aT) (f:Bool):Option (List Int):=
 if f then (ob (loop (fun (s:(List Int × Int))=>oI t c d a s.1 s.2) (([]:List Int),0)) fun r=>aFt r) else (if (a.Kind == 6) then (ob (eS e c) fun h=>
 ob (pS ([]:List Int) ([wr ((wr (h * t.N))+d)]:List Int)) fun i=>
 mJ i) else (if (a.Kind == 7) then (uO t c d (a.Kind == 7)) else (uO t c d (a.Kind == 8))))
def rG (e:(List aT)) (t:cN) (c d:Int) (a:aT) (f:Bool):Option (List Int):=
 if f then (ob (vG e (wr (c+1))) fun g=>
 ob (pS ([]:List Int) ([wr ((wr ((wr (c+1)) * t.N))+d),wr ((wr (g * t.N))+d)]:List Int)) fun h=>
 mJ h) else (if (a.Kind == 4) then (rF e t c d a (a.Kind == 4)) else (rF e t c d a (a.Kind == 5)))
def aBu (b:(List aT)) (t:cN) (c e:Int):Option (List Int):=
 ob (ix b c) fun a=>
 if (a.Kind == 2) then (rG b t c e a (a.Kind == 2)) else (rG b t c e a (a.Kind == 3))
def aKt (a:List Int):Option (List Int):=
 some a
def aAG (a:Int) (b:List Int):Option ((List Int × Int) ⊕ (List Int)):=
 some (.inl (b,wr (a+1)))
def aAH (c:(List Bool)) (b:List Int) (a:Int):Option ((List Int × Int) ⊕ (List Int)):=
 if (decide (a < (c.length:Int))) then (ob (ix c a) fun d=>
 if d then (ob (pS b ([a]:List Int)) fun e=>
 aAG a e) else (aAG a b)) else (some (.inr b))
def aDu (a:(List Bool)):Option (List Int):=
 ob (loop (fun (s:(List Int × Int))=>aAH a s.1 s.2) (([]:List Int),0)) fun r=>aKt r
def aFS (a:Bool):Option Bool:=
 some a
def sH (a:Int) (b:Bool):Option ((Bool × Int) ⊕ Bool):=
 some (.inl (b,wr (a+1)))
def sI (b:(List aT)) (c:Bool) (a:Int) (d:Bool):Option ((Bool × Int) ⊕ Bool):=
 if d then (ob (ix b a) fun e=>
 sH a (e.Kind == 8)) else (sH a c)
def kD (b:(List aT)) (d:Int) (c:Bool) (a:Int):Option ((Bool × Int) ⊕ Bool):=
 if (decide (a<=d)) then (ob (ix b a) fun e=>
 ob (yQ e) fun f=>
 if f then (ob (vG b a) fun g=>
 sI b c a (decide (d < g))) else (sI b c a false)) else (some (.inr c))
def xV (a:(List aT)) (b:Int):Option Bool:=
 ob (loop (fun (s:(Bool × Int))=>kD a b s.1 s.2) (false,0)) fun r=>aFS r
def aJk (a:Int):Option Int:=
 some a
def xW (a b:Int):Option ((Int × Int) ⊕ Int):=
 some (.inl (b,wr (a+1)))
def oJ (e:(List bB)) (c a:Int):Option ((Int × Int) ⊕ Int):=
 if (decide (a < (e.length:Int))) then (ob (ix e a) fun d=>
 ob (ix e (wr (a - 1))) fun f=>
 if (d.Greatest != f.Greatest) then (xW a (wr (c+1))) else (xW a c)) else (some (.inr c))
def aEd (e:(List bB)):Option Int:=
 ob (loop (fun (s:(Int × Int))=>oJ e s.1 s.2) (1,1)) fun r=>aJk r
def aGz (b:(List Int)) (a:List bB):Option ((List bB) × (List Int) × Bool):=
 ob (aEd a) fun c=>
 some (a,b,decide (c<=9))
def aCX (a:Int) (b:List bB):Option ((List bB × Int) ⊕ (List bB)):=
 some (.inl (b,wr (a+1)))
def aCY (a:List bB) (b:Int) (c d:Bool) (e:List Int):Option ((List bB × Int) ⊕ (List bB)):=
 ob (pS a ([⟨c,d,e⟩]:List bB)) fun f=>
 aCX b f
def tK (d b:(List Int)) (c:List Int) (a:Int):Option ((List Int × Int) ⊕ (List Int)):=
 if (decide (a < (b.length:Int))) then (ob (ix b a) fun e=>
 ob (aEc d e) fun f=>
 ob (pS c ([f]:List Int)) fun g=>
 some (.inl (g,wr (a+1)))) else (some (.inr c))
def tL (a:(List Int)) (b:List bB) (c:Int) (d:(List Int)) (e f:Bool):Option ((List bB × Int) ⊕ (List bB)):=
 ob (loop (fun (s:(List Int × Int))=>tK a d s.1 s.2) ([],0)) fun r=>aCY b c e f r
def qW (d:(List aT)) (t:cN) (a:(List Int)) (c:List bB) (b:Int):Option ((List bB × Int) ⊕ (List bB)):=
 if (decide (b < (a.length:Int))) then (ob (ix a b) fun j=>
 ob (qu j t.N) fun f=>
 ob (rm j t.N) fun k=>
 ob (aBu d t f k) fun g=>
 ob (xV d f) fun h=>
 ob (ix d f) fun i=>
 if (i.Kind == 0) then (tL a c b g h true) else (if (i.Kind == 2) then (tL a c b g h true) else (tL a c b g h (i.Kind == 5)))) else (some (.inr c))
def aCZ (b:(List aT)) (t:cN) (d:List Bool):Option ((List bB) × (List Int) × Bool):=
 ob (aDu d) fun a=>
 if (decide (120 < (a.length:Int))) then (some ([],[],false)) else (ob (loop (fun (s:(List bB × Int))=>qW b t a s.1 s.2) (([]:List bB),0)) fun r=>aGz a r)
def aDa (a:Int) (b:List Bool) (c:List Int):Option ((List Bool × List Int × Int) ⊕ (List Bool)):=
 some (.inl (b,c,wr (a+1)))
def aGA (a:Int) (b:List Bool) (c:List Int):Option ((List Bool × List Int × Int) ⊕ (List Bool)):=
 aDa a b c
def uP (a:Int) (b:List Bool) (c:List Int):Option ((List Bool × List Int × Int) ⊕ (List Bool × List Int)):=
 some (.inl (b,c,wr (a+1)))
def mK (e:(List Int)) (a:List Bool) (c:List Int) (b:Int):Option ((List Bool × List Int × Int) ⊕ (List Bool × List Int)):=
 if (decide (b < (e.length:Int))) then (ob (ix e b) fun d=>
 ob (ix a d) fun f=>
 if (!f) then (ob (st a d (true:Bool)) fun g=>
 ob (pS c ([d]:List Int)) fun h=>
 uP b g h) else (uP b a c)) else (some (.inr (a,c)))
def oK (g:(List aT)) (t:cN) (d:List Bool) (b:List Int) (c:Int):Option ((List Bool × List Int × Int) ⊕ (List Bool)):=
 if (decide (c < (b.length:Int))) then (ob (ix b c) fun e=>
 ob (qu e t.N) fun h=>
 ob (rm e t.N) fun i=>
 ob (aBu g t h i) fun j=>
 ob (loop (fun (s:(List Bool × List Int × Int))=>mK j s.1 s.2.1 s.2.2) (d,b,0)) fun r=>aGA c r.1 r.2) else (some (.inr d))
def aDv (b:(List aT)) (t:cN):Option ((List bB) × (List Int) × Bool):=
 ob (mkz (wr ((b.length:Int) * t.N)) (false:Bool)) fun c=>
 ob (ix c t.I) fun f=>
 ob (st c t.I (true:Bool)) fun d=>
 ob (loop (fun (s:(List Bool × List Int × Int))=>oK b t s.1 s.2.1 s.2.2) (d,([t.I]:List Int),0)) fun r=>aCZ b t r
def aHV (a:List Int):Option (List Int):=
 some a
def aEe (a:List Int) (b c:Int):Option ((List Int × Int) ⊕ (List Int)):=
 ob (pS a ([c]:List Int)) fun d=>
 some (.inl (d,wr (b+1)))
def aHW (e:(List bB)) (b:List Int) (a:Int):Option ((List Int × Int) ⊕ (List Int)):=
 if (decide (a < (e.length:Int))) then (ob (ix b (wr (a - 1))) fun d=>
 ob (ix e a) fun f=>
 ob (ix e (wr (a - 1))) fun g=>
 if (f.Greatest != g.Greatest) then (aEe b a (wr (d+1))) else (aEe b a d)) else (some (.inr b))
def aHX (e:(List bB)):Option (List Int):=
 ob (loop (fun (s:(List Int × Int))=>aHW e s.1 s.2) (([0]:List Int),1)) fun r=>aHV r
def aKu (a:List aO):Option (List aO):=
 some a
def aDb (a:List aO) (b:Int) (c:List Int) (d e:Int):Option ((List aO × Int) ⊕ (List aO)):=
 ob (pS a ([⟨d,e,c⟩]:List aO)) fun f=>
 some (.inl (f,wr (b+1)))
def aDc (e:(List bB)) (a:List aO) (b c:Int) (d:List Int) (f:Int):Option ((List aO × Int) ⊕ (List aO)):=
 ob (ix e 0) fun h=>
 if (!h.Greatest) then (aDb a b d f (wr (c+1))) else (aDb a b d f c)
def aGB (e:(List bB)) (c:List aO) (b d:Int) (f:List Int):Option ((List aO × Int) ⊕ (List aO)):=
 ob (ix e b) fun g=>
 if g.All then (aDc e c b d f 1) else (aDc e c b d f 0)
def aKv (e:(List bB)) (d:(List Int)) (c:List aO) (a:Int):Option ((List aO × Int) ⊕ (List aO)):=
 if (decide (a < (e.length:Int))) then (ob (ix d a) fun f=>
 ob (ix e a) fun g=>
 ob (aBU g.Terms) fun h=>
 aGB e c a f h) else (some (.inr c))
def aOF (e:(List bB)):Option (List aO):=
 ob (aHX e) fun b=>
 ob (loop (fun (s:(List aO × Int))=>aKv e b s.1 s.2) (([]:List aO),0)) fun r=>aKu r
def aIL (a:(List aT)) (t:cN):Option ((List bB) × (List Int) × (List aO) × Int × Bool):=
 ob (aDv a t) fun c=>
 if (!c.2.2) then (some (([]:(List bB)),([]:(List Int)),([]:(List aO)),0,false)) else (none)
def aGC (b:Bool):Option Int:=
 if b then (some 1) else (some 0)
def aJl (a:List Bool):Option (List Bool):=
 some a
def aJm (n:Int) (b:List Bool) (a:Int):Option ((List Bool × Int) ⊕ (List Bool)):=
 if (decide (a < n)) then (ob (ix b a) fun e=>
 ob (st b a (true:Bool)) fun d=>
 some (.inl (d,wr (a+1)))) else (some (.inr b))
def aJC (n:Int):Option (List Bool):=
 ob (mkz n (false:Bool)) fun b=>
 ob (loop (fun (s:(List Bool × Int))=>aJm n s.1 s.2) (b,0)) fun r=>aJl r
def aGW (a:List Bool):Option (List Bool):=
 some a
def aCr (a:List Bool) (b:Bool):Option ((List Bool × Bool) ⊕ (List Bool)):=
 some (.inl (a,b))
def aGX (a:List Bool) (b:Bool):Option ((List Bool × Bool) ⊕ (List Bool)):=
 aCr a b
def tZ (a:Int) (b:List Bool) (c:Bool):Option ((List Bool × Bool × Int) ⊕ (List Bool × Bool)):=
 some (.inl (b,c,wr (a+1)))
def jP (b:List Bool) (c:Bool) (a:Int) (d:Bool):Option ((List Bool × Bool × Int) ⊕ (List Bool × Bool)):=
 if d then (ob (ix b a) fun f=>
 ob (st b a (true:Bool)) fun e=>
 tZ a e true) else (tZ a b c)
def aCs (g:(List aO)) (d:Int) (b:List Bool) (c:Bool) (a:Int) (j f h:Bool):Option ((List Bool × Bool × Int) ⊕ (List Bool × Bool)):=
 ob (ix g a) fun e=>
 if (e.Owner == d) then (if j then (jP b c a true) else (if (e.Owner != d) then (if h then (jP b c a f) else (jP b c a false)) else (jP b c a false))) else (if (e.Owner != d) then (if h then (jP b c a f) else (jP b c a false)) else (jP b c a false))
def yI (a:Int) (b c d:Bool):Option ((Bool × Bool × Bool × Int) ⊕ (Bool × Bool × Bool)):=
 some (.inl (b,c,d,wr (a+1)))
def aCt (a:Int) (b c:Bool):Option ((Bool × Bool × Bool × Int) ⊕ (Bool × Bool × Bool)):=
 yI a b c true
def yJ (c:List Bool) (d:Bool) (a e:Int) (b:Bool):Option ((Bool × Bool × Bool × Int) ⊕ (Bool × Bool × Bool)):=
 if d then (ob (ix c e) fun f=>
 aCt a b f) else (aCt a b false)
def aFT (g:(List aO)) (j:(List Bool)) (d:List Bool) (k:Int) (e b f:Bool) (a:Int):Option ((Bool × Bool × Bool × Int) ⊕ (Bool × Bool × Bool)):=
 ob (ix g k) fun h=>
 if (decide (a < (h.Next.length:Int))) then (ob (ix h.Next a) fun c=>
 ob (ix j c) fun l=>
 if l then (if e then (yJ d b a c true) else (ob (ix d c) fun m=>
 yJ d b a c m)) else (yI a e b f)) else (some (.inr (e,b,f)))
def wR (g:(List aO)) (f:(List Bool)) (h:Int) (a:List Bool) (e:Bool) (b:Int) (i:Bool):Option ((List Bool × Bool × Int) ⊕ (List Bool × Bool)):=
 if i then (tZ b a e) else (ob (loop (fun (s:(Bool × Bool × Bool × Int))=>aFT g f a b s.1 s.2.1 s.2.2.1 s.2.2.2) (false,true,false,0)) fun r=>aCs g h a e b r.1 r.2.1 r.2.2)
def aFU (g:(List aO)) (d:(List Bool)) (f:Int) (b:List Bool) (e:Bool) (a:Int):Option ((List Bool × Bool × Int) ⊕ (List Bool × Bool)):=
 if (decide (a < (g.length:Int))) then (ob (ix d a) fun h=>
 if (!h) then (wR g d f b e a true) else (ob (ix b a) fun i=>
 wR g d f b e a i)) else (some (.inr (b,e)))
def aFV (g:(List aO)) (d:(List Bool)) (e:Int) (a:List Bool) (f:Bool):Option ((List Bool × Bool) ⊕ (List Bool)):=
 if f then (ob (loop (fun (s:(List Bool × Bool × Int))=>aFU g d e s.1 s.2.1 s.2.2) (a,false,0)) fun r=>aGX r.1 r.2) else (some (.inr a))
def wS (g:(List aO)) (b:(List Bool)) (c:Int) (d:(List Bool)):Option (List Bool):=
 ob (pS ([]:List Bool) d) fun e=>
 ob (loop (fun (s:(List Bool × Bool))=>aFV g b c s.1 s.2) (e,true)) fun r=>aGW r
def aKw (a:List Bool):Option (List Bool):=
 some a
def aAI (a:Int) (b:List Bool):Option ((List Bool × Int) ⊕ (List Bool)):=
 some (.inl (b,wr (a+1)))
def aKx (g:(List aO)) (e:(List Bool)) (f:Int) (b:List Bool) (a:Int):Option ((List Bool × Int) ⊕ (List Bool)):=
 if (decide (a < (g.length:Int))) then (ob (ix e a) fun h=>
 if h then (ob (ix g a) fun d=>
 if (d.Owner == f) then (ob (ix b a) fun l=>
 ob (st b a ((d.Next.length:Int) == 0:Bool)) fun i=>
 aAI a i) else (ob (ix b a) fun m=>
 ob (st b a (false:Bool)) fun j=>
 aAI a j)) else (ob (ix b a) fun n=>
 ob (st b a (false:Bool)) fun k=>
 aAI a k)) else (some (.inr b))
def aIM (g:(List aO)) (b:(List Bool)) (c:Int):Option (List Bool):=
 ob (mkz (g.length:Int) (false:Bool)) fun d=>
 ob (loop (fun (s:(List Bool × Int))=>aKx g b c s.1 s.2) (d,0)) fun r=>aKw r
def aKy (a:List Bool):Option (List Bool):=
 some a
def aDd (a:Int) (b:List Bool):Option ((List Bool × Int) ⊕ (List Bool)):=
 some (.inl (b,wr (a+1)))
def aKz (a b:(List Bool)) (d:List Bool) (c:Int):Option ((List Bool × Int) ⊕ (List Bool)):=
 if (decide (c < (a.length:Int))) then (ob (ix a c) fun g=>
 if g then (ob (ix b c) fun h=>
 ob (pS d ([!h]:List Bool)) fun i=>
 aDd c i) else (ob (pS d ([false]:List Bool)) fun j=>
 aDd c j)) else (some (.inr d))
def aBv (a b:(List Bool)):Option (List Bool):=
 ob (loop (fun (s:(List Bool × Int))=>aKz a b s.1 s.2) (([]:List Bool),0)) fun r=>aKy r
def aKA (a:List Int):Option (List Int):=
 some a
def aDe (a:Int) (b:List Int):Option ((List Int × Int) ⊕ (List Int)):=
 some (.inl (b,wr (a+1)))
def aKB (c:(List Bool)) (b:List Int) (a:Int):Option ((List Int × Int) ⊕ (List Int)):=
 if (decide (a < (c.length:Int))) then (ob (ix c a) fun d=>
 if d then (ob (pS b ([a]:List Int)) fun e=>
 aDe a e) else (aDe a b)) else (some (.inr b))
def aLd (a:(List Bool)):Option (List Int):=
 ob (loop (fun (s:(List Int × Int))=>aKB a s.1 s.2) (([]:List Int),0)) fun r=>aKA r
def aEf (a:List Bool):Option (List Bool):=
 some a
def aEg (a:List Bool):Option (List Bool):=
 aEf a
def aAJ (a:Int) (b:List Bool):Option ((List Bool × Int) ⊕ (List Bool)):=
 some (.inl (b,wr (a+1)))
def aHY (g:(List aO)) (d:(List Bool)) (b:List Bool) (a:Int):Option ((List Bool × Int) ⊕ (List Bool)):=
 if (decide (a < (g.length:Int))) then (ob (ix b a) fun e=>
 if e then (ob (st b a (true:Bool)) fun f=>
 aAJ a f) else (ob (ix d a) fun h=>
 ob (st b a (h:Bool)) fun i=>
 aAJ a i)) else (some (.inr b))
def aAK (h:(List aO)->(List Bool)->Option (List Bool)) (g:(List aO)) (b:(List Bool)) (c:Int) (d:List Bool):Option (List Bool):=
 ob (aLd d) fun i=>
 if ((i.length:Int) == 0) then (if (c == 1) then (ob (pS ([]:List Bool) b) fun j=>
 some j) else (ob (mkz (g.length:Int) (false:Bool)) fun k=>
 some k)) else (ob (wS g b (wr (1 - c)) d) fun e=>
 ob (aBv b e) fun l=>
 ob (h g l) fun f=>
 if (c == 0) then (ob (loop (fun (s:(List Bool × Int))=>aHY g e s.1 s.2) (f,0)) fun r=>aEg r) else (aEf f))
def aEh (d:(List aO)->(List Bool)->Option (List Bool)) (g:(List aO)) (b:(List Bool)) (c:Int) (h:List Bool):Option (List Bool):=
 ob (wS g b c h) fun i=>
 ob (aBv b i) fun e=>
 ob (d g e) fun f=>
 if (c == 1) then (ob (aBv e f) fun j=>
 aAK d g b c j) else (aAK d g b c f)
def aAL (a:Int) (b:List Bool):Option ((List Bool × Int) ⊕ (List Bool)):=
 some (.inl (b,wr (a+1)))
def aHZ (g:(List aO)) (d:(List Bool)) (e:Int) (b:List Bool) (a:Int):Option ((List Bool × Int) ⊕ (List Bool)):=
 if (decide (a < (g.length:Int))) then (ob (ix d a) fun f=>
 if f then (ob (ix g a) fun h=>
 ob (ix b a) fun k=>
 ob (st b a (h.Priority == e:Bool)) fun i=>
 aAL a i) else (ob (ix b a) fun l=>
 ob (st b a (false:Bool)) fun j=>
 aAL a j)) else (some (.inr b))
def aEi (d:(List aO)->(List Bool)->Option (List Bool)) (g:(List aO)) (c:(List Bool)) (b:Int):Option (List Bool):=
 if (decide (b < 0)) then (ob (mkz (g.length:Int) (false:Bool)) fun e=>
 some e) else (ob (rm b 2) fun f=>
 ob (mkz (g.length:Int) (false:Bool)) fun h=>
 ob (loop (fun (s:(List Bool × Int))=>aHZ g c b s.1 s.2) (h,0)) fun r=>aEh d g c f r)
def yK (a b:Int):Option ((Int × Int) ⊕ Int):=
 some (.inl (b,wr (a+1)))
def yL (g:(List aO)) (c a:Int) (d:Bool):Option ((Int × Int) ⊕ Int):=
 if d then (ob (ix g a) fun e=>
 yK a e.Priority) else (yK a c)
def aGY (g:(List aO)) (d:(List Bool)) (a b:Int):Option ((Int × Int) ⊕ Int):=
 if (decide (b < (g.length:Int))) then (ob (ix d b) fun e=>
 if e then (if (decide (a < 0)) then (yL g a b true) else (ob (ix g b) fun f=>
 yL g a b (decide (f.Priority < a)))) else (yL g a b false)) else (some (.inr a))
def aFu (c:(List aO)->(List Bool)->Option (List Bool)) (g:(List aO)) (b:(List Bool)):Option (List Bool):=
 ob (loop (fun (s:(Int × Int))=>aGY g b s.1 s.2) ((-1),0)) fun r=>aEi c g b r
def xX:Nat->(List aO)->(List Bool)->Option (List Bool)
 |0=>fun _ _=>none
 |n+1=>aFu (xX n)
def aLL (g:(List aO)) (b:(List Bool)):Option (List Bool):=
 xX 100000 g b
def aGZ (a:List Int):Option (List Int):=
 some a
def yM (a:Int) (b:List Int):Option ((List Int × Int) ⊕ (List Int)):=
 some (.inl (b,wr (a+1)))
def aHa (g:(List aO)) (d e:(List Bool)) (b:List Int) (a:Int):Option ((List Int × Int) ⊕ (List Int)):=
 if (decide (a < (g.length:Int))) then (ob (ix d a) fun f=>
 if f then (ob (aGC true) fun h=>
 ob (pS b ([h]:List Int)) fun i=>
 yM a i) else (ob (ix e a) fun j=>
 ob (aGC j) fun k=>
 ob (pS b ([k]:List Int)) fun l=>
 yM a l)) else (some (.inr b))
def aDf (g:(List aO)):Option (List Int):=
 ob (aJC (g.length:Int)) fun b=>
 ob (aIM g b 1) fun e=>
 ob (wS g b 0 e) fun f=>
 ob (aBv b f) fun c=>
 ob (aIM g c 0) fun h=>
 ob (wS g c 1 h) fun d=>
 ob (aBv c d) fun i=>
 ob (aLL g i) fun j=>
 ob (loop (fun (s:(List Int × Int))=>aHa g d j s.1 s.2) (([]:List Int),0)) fun r=>aGZ r
def aLM (a:List aO):Option (List aO):=
 some a
def aLN (g:(List aO)) (d:List aO) (a:Int):Option ((List aO × Int) ⊕ (List aO)):=
 if (decide (a < (g.length:Int))) then (ob (ix g a) fun b=>
 ob (aBU b.Next) fun e=>
 ob (pS d ([⟨b.Owner,b.Priority,e⟩]:List aO)) fun f=>
 some (.inl (f,wr (a+1)))) else (some (.inr d))
def aNa (g:(List aO)):Option (List aO):=
 ob (loop (fun (s:(List aO × Int))=>aLN g s.1 s.2) (([]:List aO),0)) fun r=>aLM r
def aKC:Option Bool:=
 some true
def aPD (a b:(List Int)) (c:Int):Option (Int ⊕ (Unit ⊕ Bool)):=
 if (decide (c < (a.length:Int))) then (ob (ix a c) fun f=>
 ob (ix b c) fun g=>
 if (f != g) then (some (.inr (.inr false))) else (some (.inl (wr (c+1))))) else (some (.inr (.inl ())))
def aLe (a b:(List Int)):Option Bool:=
 if ((a.length:Int) != (b.length:Int)) then (some false) else (ob (loop (fun (s:Int)=>aPD a b s) 0) fun r=>match r with|.inl r=>aKC|.inr r=>some r)
def aJn (a:(List Int)) (b:List Int):Option ((List Int) × (List Int)):=
 some (a,b)
def aFv (a:Int) (b:List aO) (c:List Int):Option ((List aO × List Int × Int) ⊕ (List Int)):=
 some (.inl (b,c,wr (a+1)))
def aBK (a:List Int) (b c:Int) (d:List aO):Option ((List aO × List Int × Int) ⊕ (List Int)):=
 ob (pS a ([c]:List Int)) fun e=>
 aFv b d e
def aFw (d:List Int) (a:Int) (f:(List Int)) (b:List aO) (c:Int):Option ((List aO × List Int × Int) ⊕ (List Int)):=
 if (decide (c < 0)) then (ob (ix b a) fun e=>
 ob (st b a (⟨e.Owner,e.Priority,f⟩:aO)) fun g=>
 aBK d a c g) else (aBK d a c b)
def aBL (a:Int) (b:List aO) (c:Int):Option ((List aO × Int × Int) ⊕ (List aO × Int)):=
 some (.inl (b,c,wr (a+1)))
def xY (h:(List Int)) (d:Int) (i:(List Int)) (a:List aO) (e b:Int) (j:Bool):Option ((List aO × Int × Int) ⊕ (List aO × Int)):=
 if j then (ob (ix i b) fun f=>
 ob (ix a d) fun g=>
 ob (st a d (⟨g.Owner,g.Priority,([f]:List Int)⟩:aO)) fun c=>
 ob (aDf c) fun k=>
 ob (aLe k h) fun l=>
 if l then (aBL b c f) else (aBL b c e)) else (some (.inr (a,e)))
def aJo (g:(List aO)) (b:(List Int)) (a:Int) (c:(List Int)) (f:List aO) (d e:Int):Option ((List aO × Int × Int) ⊕ (List aO × Int)):=
 if (decide (e < (c.length:Int))) then (if (decide (d < 0)) then (ob (ix b a) fun i=>
 ob (ix g a) fun j=>
 xY b a c f d e (i == j.Owner)) else (xY b a c f d e false)) else (xY b a c f d e false)
def aJp (g:(List aO)) (h:(List Int)) (c:List aO) (d:List Int) (a:Int):Option ((List aO × List Int × Int) ⊕ (List Int)):=
 if (decide (a < (g.length:Int))) then (ob (ix c a) fun i=>
 ob (aBU i.Next) fun e=>
 ob (loop (fun (s:(List aO × Int × Int))=>aJo g h a e s.1 s.2.1 s.2.2) (c,(-1),0)) fun r=>aFw d a e r.1 r.2) else (some (.inr d))
def aNb (g:(List aO)):Option ((List Int) × (List Int)):=
 ob (aDf g) fun b=>
 ob (aNa g) fun c=>
 ob (loop (fun (s:(List aO × List Int × Int))=>aJp g b s.1 s.2.1 s.2.2) (c,([]:List Int),0)) fun r=>aJn b r
def aRJ (a:Bool):Option Int:=
 ob (aGC a) fun b=>
 some (wr (1 - b))
def aNc (a:aMR) (t:cN):Option aFF:=
 none
def aQz (t:cN) (b:(List Edge)):Option cN:=
 none
def aNd (a:(List aT)) (t:cN) (p:aFF):Option (List Edge):=
 none
def nZ (c:(List aT)) (t:cN) (e:Bool):Option (cN × Bool × Int):=
 if e then (some (⟨0,0,[],[]⟩,false,1)) else (ob (aIL c t) fun a=>
 if a.2.2.2.2 then (ob (aNc ⟨a.1,a.2.1,a.2.2.1,a.2.2.2.1⟩ t) fun d=>
 ob (aNd c t d) fun f=>
 ob (aQz t f) fun g=>
 some (g,d.Verdict,0)) else (some (⟨0,0,[],[]⟩,false,5)))
def sJ (a:(List aT)) (t:cN):Option (cN × Bool × Int):=
 ob (aAw a) fun c=>
 if (!c) then (nZ a t true) else (ob (aIH t) fun d=>
 nZ a t (!d))
def aET (a:List Bool):Option (List Bool):=
 some a
def kX (t:cN) (k:Int) (e:List Bool) (f:(List Int)) (b:List Bool) (a:Int):Option ((List Bool × Int) ⊕ (List Bool)):=
 if (decide (a < (e.length:Int))) then (ob (ix f (wr ((wr (k * t.N))+a))) fun g=>
 ob (ix b a) fun i=>
 ob (st b a (g == 0:Bool)) fun h=>
 some (.inl (h,wr (a+1)))) else (some (.inr b))
def kY (c:(List aT)) (t:cN) (k:Int):Option (List Bool):=
 ob (mkz t.N (false:Bool)) fun b=>
 ob (oS c t) fun e=>
 ob (sG e) fun f=>
 ob (loop (fun (s:(List Bool × Int))=>kX t k b f s.1 s.2) (b,0)) fun r=>aET r
def sK (b:(List aT)) (t:cN):Option (Bool × Int):=
 ob (uJ t ([b]:List (List aT))) fun c=>
 if (c != 0) then (some (false,c)) else (ob (kY b t 0) fun d=>
 ob (ix d t.I) fun e=>
 some (e,0))
def nP (b:(List aT)) (t:cN) (c:(List Edge)):Option Bool:=
 ob (kY b t 0) fun d=>
 ob (ix d t.I) fun e=>
 ob (nO t c) fun f=>
 ob (kY b f 0) fun g=>
 ob (ix g t.I) fun h=>
 some (e == h)
def xB (a:List Edge):Option ((List Edge) × Int):=
 some (a,0)
def oA (a:List Edge) (b:Int):Option ((List Edge × Int) ⊕ (List Edge)):=
 some (.inl (a,b))
def gP (d:(List aT)) (t:cN) (b:List Edge) (a:Int):Option ((List Edge × Int) ⊕ (List Edge)):=
 if (decide (a < (b.length:Int))) then (ob (cP b) fun f=>
 ob (aOA f a (wr (a+1))) fun c=>
 ob (nP d t c) fun g=>
 if g then (oA c a) else (oA b (wr (a+1)))) else (some (.inr b))
def sL (c:(List aT)) (t:cN):Option ((List Edge) × Int):=
 ob (mI c t) fun b=>
 if (b.2.2.2.2 != 0) then (some ([],b.2.2.2.2)) else (ob (jG ⟨c,⟨t.N,t.I,t.L,t.E⟩,b.1,b.2.1,b.2.2.1,b.2.2.2.1⟩) fun d=>
 ob (kC ⟨c,⟨t.N,t.I,t.L,t.E⟩,b.1,b.2.1,b.2.2.1,b.2.2.2.1⟩ d) fun e=>
 ob (loop (fun (s:(List Edge × Int))=>gP c t s.1 s.2) (e,0)) fun r=>xB r)
def lU:Option Int:=
 some (-1)
def dI (b:(List Edge)) (c:Edge) (a:Int):Option (Int ⊕ (Unit ⊕ Int)):=
 if (decide (a < (b.length:Int))) then (ob (ix b a) fun d=>
 if (decide ((c:Edge)=d)) then (some (.inr (.inr a))) else (some (.inl (wr (a+1))))) else (some (.inr (.inl ())))
def fF (b:(List Edge)) (c:Edge):Option Int:=
 ob (loop (fun (s:Int)=>dI b c s) 0) fun r=>match r with|.inl r=>lU|.inr r=>some r
def eR (a:(List Edge)) (b:Edge):Option Bool:=
 ob (fF a b) fun c=>
 some (decide (0<=c))
def aFW:Option Bool:=
 some true
def oT (a:Int) (b:Bool):Option (Int ⊕ (Unit ⊕ Bool)):=
 if b then (some (.inr (.inr false))) else (some (.inl (wr (a+1))))
def kE (t:cN) (b:(List Edge)) (a:Int):Option (Int ⊕ (Unit ⊕ Bool)):=
 if (decide (a < (b.length:Int))) then (ob (ix b a) fun c=>
 ob (eR t.E c) fun e=>
 if (!e) then (oT a true) else (if (decide (0 < a)) then (ob (ix b (wr (a - 1))) fun f=>
 ob (sB f c) fun g=>
 oT a (decide (0<=g))) else (oT a false))) else (some (.inr (.inl ())))
def xZ (t:cN) (c:(List Edge)):Option Bool:=
 ob (loop (fun (s:Int)=>kE t c s) 0) fun r=>match r with|.inl r=>aFW|.inr r=>some r
def aDg (b:(List aT)) (t:cN) (c:(List Edge)):Option (Bool × Int):=
 ob (mI b t) fun d=>
 if (d.2.2.2.2 != 0) then (some (false,d.2.2.2.2)) else (ob (xZ t c) fun e=>
 if (!e) then (some (false,2)) else (ob (nP b t c) fun f=>
 some (f,0)))
def nR (a:Bool):Option Bool:=
 some a
def lM (a:((List aT) × cN)) (c:(cN × Bool × Int)) (e:Bool):Option Bool:=
 if e then (some false) else (ob (sL a.1 a.2) fun b=>
 ob (aDg a.1 a.2 b.1) fun d=>
 if (b.2 == 0) then (if (d.2 == 0) then (if d.1 then (if (decide ((b.1.length:Int)<=(c.1.E.length:Int))) then (nR (decide ((c.1.E.length:Int)<=(a.2.E.length:Int)))) else (nR false)) else (nR false)) else (nR false)) else (nR false))
def aDh (c:(List UInt8)):Option Bool:=
 ob (aLb c) fun f=>
 if f then (some true) else (ob (aFN c) fun a=>
 ob (mB a.1 a.2) fun b=>
 if (b.2.2 != 0) then (ob (sJ a.1 a.2) fun g=>
 some (b.2.2 == g.2.2)) else (ob (sK a.1 a.2) fun d=>
 ob (sK a.1 b.1) fun e=>
 if (d.2 != 0) then (lM a b true) else (if (e.2 != 0) then (lM a b true) else (if (d.1 != b.2.1) then (lM a b true) else (if (e.1 != b.2.1) then (lM a b true) else (lM a b (b.1.N != a.2.N)))))))
end
end Gv
