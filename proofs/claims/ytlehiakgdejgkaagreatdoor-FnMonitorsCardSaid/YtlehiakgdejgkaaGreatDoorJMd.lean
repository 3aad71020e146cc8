/- Models of the functions, printed by program off their code. Plain Lean. -/
import Derived.Test.YtlehiakgdejgkaaGreatDoorJLM
set_option linter.all false
namespace Gv
noncomputable section
def aGg (a:List Int):Option ((List Int) × Bool):=
 some (a,true)
def xM (b:(List aJ)) (c:List Int) (a:Int):Option ((List Int × Int) ⊕ (List Int ⊕ ((List Int) × Bool))):=
 if (decide (a < (b.length:Int))) then (ob (ix b a) fun e=>
 ob (zH e) fun d=>
 if (!d.2) then (some (.inr (.inr ([],false)))) else (ob (tG c ([d.1]:List Int)) fun f=>
 some (.inl (f,wr (a+1))))) else (some (.inr (.inl c)))
def zN (b:(List aJ)):Option ((List Int) × Bool):=
 ob (loop (fun (s:(List Int × Int))=>xM b s.1 s.2) ([],0)) fun r=>match r with|.inl r=>aGg r|.inr r=>some r
def aHL (a:aJ) (b:List aJ):Option aJ:=
 ob (aPf b a) fun c=>
 some c
def aCw (c:(List Int)) (b:List aJ) (a:Int):Option ((List aJ × Int) ⊕ (List aJ)):=
 if (decide (a < (c.length:Int))) then (ob (ix c a) fun d=>
 ob (uT d) fun e=>
 ob (ix b a) fun g=>
 ob (st b a (e:aJ)) fun f=>
 some (.inl (f,wr (a+1)))) else (some (.inr b))
def aEi (a:(List Int)) (b:aJ):Option aJ:=
 ob (mkz (a.length:Int) ([]:aJ)) fun c=>
 ob (loop (fun (s:(List aJ × Int))=>aCw a s.1 s.2) (c,0)) fun r=>aHL b r
def aGI (a:Bool):Option Bool:=
 some a
def aII (c:UInt8):Option Bool:=
 if (decide (48<=(c.toNat:Int))) then (aGI (decide ((c.toNat:Int)<=57))) else (aGI false)
def aHM (a:Bool):Option Bool:=
 some a
def aFh (a:aJ):Option Bool:=
 if (decide (1<=(a.length:Int))) then (aHM (decide ((a.length:Int)<=10))) else (aHM false)
def aCx (a:Int) (b:Bool):Option (Int ⊕ (Unit ⊕ Bool)):=
 if b then (some (.inr (.inr false))) else (some (.inl (wr (a+1))))
def tI (b:aJ) (a:Int) (c:Bool):Option (Int ⊕ (Unit ⊕ Bool)):=
 if (!c) then (if (a == 0) then (aCx a true) else (ob (ix b a) fun d=>
 ob (aII d) fun e=>
 aCx a (!e))) else (aCx a false)
def aAG (a:aJ) (b:Int):Option (Int ⊕ (Unit ⊕ Bool)):=
 if (decide (b < (a.length:Int))) then (ob (ix a b) fun c45=>
 if (decide (97<=(c45.toNat:Int))) then (tI a b (decide ((c45.toNat:Int)<=122))) else (tI a b false)) else (some (.inr (.inl ())))
def aHN (b:aJ):Option Bool:=
 ob (loop (fun (s:Int)=>aAG b s) 0) fun r=>match r with|.inl r=>aFh b|.inr r=>some r
def aCh (a:Bool):Option Bool:=
 some a
def aEj (a:aJ):Option Bool:=
 ob (aHN a) fun b=>
 if b then (aCh (!(a == ([116,97,117]:aJ)))) else (aCh false)
def aFi (a:Bool):Option Bool:=
 some a
def uD (n low b:Int):Option Bool:=
 if (decide (low<=n)) then (aFi (decide (n<=b))) else (aFi false)
def aKT (n:Int):Option Bool:=
 ob (uD n 0 63) fun b=>
 some b
def aEk (n:Int):Option Bool:=
 ob (aKT n) fun b=>
 some (!b)
def nJ:Option Int:=
 some (-1)
def dH (b:(List Int)) (a:Int):Option (Int ⊕ (Unit ⊕ Int)):=
 if (decide (a < (b.length:Int))) then (ob (ix b a) fun c=>
 ob (aEk c) fun d=>
 if d then (some (.inr (.inr a))) else (some (.inl (wr (a+1))))) else (some (.inr (.inl ())))
def gI (b:(List Int)):Option Int:=
 ob (loop (fun (s:Int)=>dH b s) 0) fun r=>match r with|.inl r=>nJ|.inr r=>some r
def iU (a:(List Int)):Option Bool:=
 ob (gI a) fun b=>
 some (decide (0<=b))
def aFj (a:(List Int)):Option Bool:=
 ob (iU a) fun b=>
 some (!b)
def aBc (a:aJ) (b:(List Int)) (c:Bool):Option (aJ × Bool):=
 if c then (some (([]:aJ),false)) else (if ((b.length:Int) == 0) then (some (a,true)) else (ob (cat a ([40]:aJ)) fun d=>
 ob (aEi b ([44]:aJ)) fun e=>
 ob (cat d e) fun f=>
 ob (cat f ([41]:aJ)) fun g=>
 some (g,true)))
def aGh (b:aJ) (a:(List Int)):Option (aJ × Bool):=
 if (b == ([116,97,117]:aJ)) then (some (([116,97,117]:aJ),(a.length:Int) == 0)) else (ob (aEj b) fun c=>
 if (!c) then (aBc b a true) else (if (decide (2 < (a.length:Int))) then (aBc b a true) else (ob (aFj a) fun d=>
 aBc b a (!d))))
def fK (a:Bool):Option Bool:=
 some a
def gN (a b:aJ):Option Bool:=
 if (decide ((b.length:Int)<=(a.length:Int))) then (ob (pQ a (wr ((a.length:Int) - (b.length:Int))) (a.length:Int)) fun c=>
 fK (c == b)) else (fK false)
def kF (a b:aJ):Option aJ:=
 ob (gN a b) fun c=>
 if c then (ob (pQ a 0 (wr ((a.length:Int) - (b.length:Int)))) fun d=>
 some d) else (some a)
def pW (a b:aJ):Option aJ:=
 ob (kF a b) fun c=>
 some c
def wJ (a:(aJ × aJ × Bool)) (b:List Int) (c:Bool):Option (aJ × (List Int) × Bool):=
 if c then (some (([]:aJ),[],false)) else (some (a.1,b,true))
def rW (d:aJ) (a:(aJ × aJ × Bool)) (b:List Int):Option (aJ × (List Int) × Bool):=
 ob (aGh a.1 b) fun c=>
 if (!c.2) then (wJ a b true) else (wJ a b (!(c.1 == d)))
def aFk (b:aJ):Option (aJ × (List Int) × Bool):=
 ob (l_Cut b ([40]:aJ)) fun a=>
 if a.2.2 then (ob (pW a.2.1 ([41]:aJ)) fun d=>
 ob (aJX d ([44]:aJ)) fun e=>
 ob (zN e) fun c=>
 if (!c.2) then (some (([]:aJ),[],false)) else (rW b a c.1)) else (rW b a [])
def aGi (a:aJ):Option Bool:=
 ob (aFk a) fun b=>
 some b.2.2
def aKU (a:(List UInt8)):Option Bool:=
 some (decide (1048576 < (a.length:Int)))
def aKV (a:(List UInt8)):Option (Int × Int):=
 some (0,0)
def aCy (t:aS):Option aS:=
 ob (tG ([]:List aJ) t.L) fun b=>
 ob (tG ([]:List Edge) t.E) fun c=>
 some ⟨t.N,t.I,b,c⟩
def aKa:Option Int:=
 some (-1)
def aDw (b:(List aJ)) (c:aJ) (a:Int):Option (Int ⊕ (Unit ⊕ Int)):=
 if (decide (a < (b.length:Int))) then (ob (ix b a) fun d=>
 if (d == c) then (some (.inr (.inr a))) else (some (.inl (wr (a+1))))) else (some (.inr (.inl ())))
def aDR (b:(List aJ)) (c:aJ):Option Int:=
 ob (loop (fun (s:Int)=>aDw b c s) 0) fun r=>match r with|.inl r=>aKa|.inr r=>some r
def aKb (a:List aJ):Option (List aJ):=
 some a
def xN (a:Int) (b:List aJ):Option ((List aJ × Int) ⊕ (List aJ)):=
 some (.inl (b,wr (a+1)))
def aDx (c:Int) (d:aJ) (a:Int) (b:List aJ):Option ((List aJ × Int) ⊕ (List aJ)):=
 ob (ix b a) fun f=>
 ob (st b a (d:aJ)) fun e=>
 xN c e
def aBd (c:Int) (b:List aJ) (a:Int):Option ((List aJ × Int) ⊕ (List aJ)):=
 if (decide (c < a)) then (ob (ix b (wr (a - 1))) fun d=>
 ob (ix b a) fun f=>
 ob (st b a (d:aJ)) fun e=>
 some (.inl (e,wr (a - 1)))) else (some (.inr b))
def aDy (c:List aJ) (d:Int) (e:aJ) (a:Int):Option ((List aJ × Int) ⊕ (List aJ)):=
 ob (tG c ([([]:aJ)]:List aJ)) fun b=>
 ob (loop (fun (s:(List aJ × Int))=>aBd a s.1 s.2) (b,wr ((b.length:Int) - 1))) fun r=>aDx d e a r
def aBe (a:Int) (b:Bool):Option (Int ⊕ Int):=
 if b then (some (.inl (wr (a+1)))) else (some (.inr a))
def xO (b:List aJ) (c:aJ) (a:Int):Option (Int ⊕ Int):=
 if (decide (a < (b.length:Int))) then (ob (ix b a) fun d=>
 aBe a (ltB d c)) else (aBe a false)
def tM (d:(List aJ)) (a:List aJ) (b:Int):Option ((List aJ × Int) ⊕ (List aJ)):=
 if (decide (b < (d.length:Int))) then (ob (ix d b) fun c=>
 ob (aDR a c) fun e=>
 if (decide (0<=e)) then (xN b a) else (ob (loop (fun (s:Int)=>xO a c s) 1) fun r=>aDy a b c r)) else (some (.inr a))
def aDS (a:(List aJ)):Option (List aJ):=
 ob (loop (fun (s:(List aJ × Int))=>tM a s.1 s.2) (([([116,97,117]:aJ)]:List aJ),0)) fun r=>aKb r
def aGj (a b:Edge):Option Bool:=
 if (a.F != b.F) then (some (decide (a.F < b.F))) else (if (a.B != b.B) then (some (decide (a.B < b.B))) else (some (decide (a.To < b.To))))
def aFl (e:Edge) (b:Int) (c:List Edge):Option (List Edge):=
 ob (ix c b) fun f=>
 ob (st c b (⟨e.F,e.B,e.To⟩:Edge)) fun d=>
 some d
def aCz (d:Int) (b:List Edge) (a:Int):Option ((List Edge × Int) ⊕ (List Edge)):=
 if (decide (d < a)) then (ob (ix b (wr (a - 1))) fun c=>
 ob (ix b a) fun f=>
 ob (st b a (⟨c.F,c.B,c.To⟩:Edge)) fun e=>
 some (.inl (e,wr (a - 1)))) else (some (.inr b))
def aAH (a:(List Edge)) (e:Edge) (b:Int) (f:Bool):Option (List Edge):=
 if f then (some a) else (ob (tG a ([⟨0,0,0⟩]:List Edge)) fun c=>
 ob (loop (fun (s:(List Edge × Int))=>aCz b s.1 s.2) (c,wr ((c.length:Int) - 1))) fun r=>aFl e b r)
def aFm (b:(List Edge)) (e:Edge) (a:Int):Option (List Edge):=
 if (decide (0 < a)) then (ob (ix b (wr (a - 1))) fun d=>
 aAH b e a (decide ((d:Edge)=e))) else (aAH b e a false)
def aCA (a:Int) (b:Bool):Option (Int ⊕ Int):=
 if b then (some (.inl (wr (a - 1)))) else (some (.inr a))
def aAI (b:(List Edge)) (e:Edge) (a:Int):Option (Int ⊕ Int):=
 if (decide (0 < a)) then (ob (ix b (wr (a - 1))) fun d=>
 ob (aGj e d) fun f=>
 aCA a f) else (aCA a false)
def aHO (a:(List Edge)) (e:Edge):Option (List Edge):=
 ob (loop (fun (s:Int)=>aAI a e s) (a.length:Int)) fun r=>aFm a e r
def aKc (a b:Int) (c:(List aJ)) (d:List Edge):Option aS:=
 some ⟨a,b,c,d⟩
def xP (e:(List aJ)) (c:(List Edge)) (f:(List aJ)) (d:List Edge) (a:Int):Option ((List Edge × Int) ⊕ (List Edge)):=
 if (decide (a < (c.length:Int))) then (ob (ix c a) fun b=>
 ob (ix e b.B) fun g=>
 ob (aDR f g) fun h=>
 ob (aHO d ⟨b.F,h,b.To⟩) fun i=>
 some (.inl (i,wr (a+1)))) else (some (.inr d))
def aAJ (c d:Int) (a:(List aJ)) (e:(List Edge)):Option aS:=
 ob (aDS a) fun b=>
 ob (loop (fun (s:(List Edge × Int))=>xP a e b s.1 s.2) (([]:List Edge),0)) fun r=>aKc c d b r
def aJz (a:Bool):Option Bool:=
 some a
def aCi (n low b:Int):Option Bool:=
 if (decide (low<=n)) then (aJz (decide (n<=b))) else (aJz false)
def aKd (a:aJ):Option Int:=
 some (a.length:Int)
def aDz (b:aJ) (a:Int):Option (Int ⊕ (Unit ⊕ Int)):=
 if (decide (a < (b.length:Int))) then (ob (ix b a) fun c=>
 if ((c.toNat:Int) == 40) then (some (.inr (.inr a))) else (some (.inl (wr (a+1))))) else (some (.inr (.inl ())))
def aGk (b:aJ):Option Int:=
 ob (loop (fun (s:Int)=>aDz b s) 0) fun r=>match r with|.inl r=>aKd b|.inr r=>some r
def aFM (a:Bool):Option Bool:=
 some a
def aEl (c:UInt8):Option Bool:=
 if (decide (97<=(c.toNat:Int))) then (aFM (decide ((c.toNat:Int)<=122))) else (aFM false)
def aFN (a:Bool):Option Bool:=
 some a
def aEm (c:UInt8):Option Bool:=
 if (decide (48<=(c.toNat:Int))) then (aFN (decide ((c.toNat:Int)<=57))) else (aFN false)
def aGJ:Option Bool:=
 some true
def aDA (a:Int) (b:Bool):Option (Int ⊕ (Unit ⊕ Bool)):=
 if b then (some (.inr (.inr false))) else (some (.inl (wr (a+1))))
def aBf (b:aJ) (a:Int):Option (Int ⊕ (Unit ⊕ Bool)):=
 if (decide (a < (b.length:Int))) then (ob (ix b a) fun c=>
 ob (aEl c) fun d=>
 if (!d) then (ob (aEm c) fun e=>
 aDA a (!e)) else (aDA a false)) else (some (.inr (.inl ())))
def tN (b:aJ) (c:Bool):Option Bool:=
 if c then (some false) else (ob (loop (fun (s:Int)=>aBf b s) 0) fun r=>match r with|.inl r=>aGJ|.inr r=>some r)
def aDT (a:aJ):Option Bool:=
 if (a == ([]:aJ)) then (tN a true) else (if (decide (10 < (a.length:Int))) then (tN a true) else (ob (ix a 0) fun b=>
 ob (aEl b) fun c=>
 tN a (!c)))
def aBg (a:Bool):Option Bool:=
 some a
def aCB (a:aJ):Option Bool:=
 ob (aDT a) fun b=>
 if b then (aBg (!(a == ([116,97,117]:aJ)))) else (aBg false)
def aFO (a:aJ) (b:List aJ) (c:Int):Option (List aJ):=
 ob (pQ a c (a.length:Int)) fun d=>
 ob (tG b ([d]:List aJ)) fun e=>
 some e
def uU (a:Int) (b:List aJ) (c:Int):Option ((List aJ × Int × Int) ⊕ (List aJ × Int)):=
 some (.inl (b,c,wr (a+1)))
def aCj (b:aJ) (e:UInt8) (c:List aJ) (d a:Int):Option ((List aJ × Int × Int) ⊕ (List aJ × Int)):=
 if (decide (a < (b.length:Int))) then (ob (ix b a) fun f=>
 if ((f.toNat:Int) == (e.toNat:Int)) then (ob (pQ b d a) fun g=>
 ob (tG c ([g]:List aJ)) fun h=>
 uU a h (wr (a+1))) else (uU a c d)) else (some (.inr (c,d)))
def aEn (a:aJ) (c:UInt8):Option (List aJ):=
 ob (loop (fun (s:(List aJ × Int × Int))=>aCj a c s.1 s.2.1 s.2.2) (([]:List aJ),0,0)) fun r=>aFO a r.1 r.2
def aEo (a:Int):Option (Int × Bool):=
 some (a,true)
def aBh (b a:Int):Option (Int × Bool):=
 if (b == 1) then (aEo (wr (0 - a))) else (aEo a)
def rX (b:aJ) (c a:Int):Option ((Int × Int) ⊕ (Int ⊕ (Int × Bool))):=
 if (decide (a < (b.length:Int))) then (ob (ix b a) fun c45=>
 ob (aEm c45) fun d=>
 if (!d) then (some (.inr (.inr (0,false)))) else (some (.inl (wr ((wr (10 * c))+(wr ((c45 - (48:UInt8)).toNat:Int))),wr (a+1))))) else (some (.inr (.inl c)))
def mG (c:aJ) (b:Int) (d:Bool):Option (Int × Bool):=
 if d then (some (0,false)) else (ob (loop (fun (s:(Int × Int))=>rX c s.1 s.2) (0,b)) fun r=>match r with|.inl r=>aBh b r|.inr r=>some r)
def rY (a:aJ) (b:Int):Option (Int × Bool):=
 if ((a.length:Int) == b) then (mG a b true) else (if (decide (18 < wr ((a.length:Int) - b))) then (mG a b true) else (ob (ix a b) fun c=>
 if ((c.toNat:Int) == 48) then (mG a b (decide (1 < (a.length:Int)))) else (mG a b false)))
def wK (a:aJ) (b:Bool):Option (Int × Bool):=
 if b then (rY a 1) else (rY a 0)
def aAK (a:aJ):Option (Int × Bool):=
 if (decide (0 < (a.length:Int))) then (ob (ix a 0) fun b=>
 wK a ((b.toNat:Int) == 45)) else (wK a false)
def aEp (a:List Int):Option ((List Int) × Bool):=
 some (a,decide ((a.length:Int)<=2))
def aBi (a:List Int) (b:Int) (c:(Int × Bool)) (d:Bool):Option ((List Int × Int) ⊕ (List Int ⊕ ((List Int) × Bool))):=
 if d then (some (.inr (.inr ([],false)))) else (ob (tG a ([c.1]:List Int)) fun e=>
 some (.inl (e,wr (b+1))))
def wL (d:(List aJ)) (c:List Int) (a:Int):Option ((List Int × Int) ⊕ (List Int ⊕ ((List Int) × Bool))):=
 if (decide (a < (d.length:Int))) then (ob (ix d a) fun e=>
 ob (aAK e) fun b=>
 if (!b.2) then (aBi c a b true) else (ob (aCi b.1 0 63) fun f=>
 aBi c a b (!f))) else (some (.inr (.inl c)))
def rZ (b:aJ) (c:Int) (d:Bool):Option ((List Int) × Bool):=
 if d then (some ([],false)) else (ob (pQ b (wr (c+1)) (wr ((b.length:Int) - 1))) fun e=>
 ob (aEn e (44:UInt8)) fun f=>
 ob (loop (fun (s:(List Int × Int))=>wL f s.1 s.2) (([]:List Int),0)) fun r=>match r with|.inl r=>aEp r|.inr r=>some r)
def aFn (a:aJ):Option ((List Int) × Bool):=
 ob (aGk a) fun b=>
 if (b == (a.length:Int)) then (ob (aDT a) fun c=>
 some (([]:List Int),c)) else (ob (pQ a 0 b) fun d=>
 ob (aCB d) fun e=>
 if (!e) then (rZ a b true) else (ob (ix a (wr ((a.length:Int) - 1))) fun f=>
 rZ a b ((f.toNat:Int) != 41)))
def aGK (a:aJ):Option Bool:=
 ob (aFn a) fun b=>
 some b.2
def aJc:Option Bool:=
 some true
def uV (a:Int) (b:Bool):Option (Int ⊕ (Unit ⊕ Bool)):=
 if b then (some (.inr (.inr false))) else (some (.inl (wr (a+1))))
def zO (b:(List aJ)) (a:Int):Option (Int ⊕ (Unit ⊕ Bool)):=
 if (decide (a < (b.length:Int))) then (ob (ix b a) fun c=>
 ob (aGK c) fun d=>
 if (!d) then (uV a true) else (if (c == ([116,97,117]:aJ)) then (uV a true) else (if (decide (1 < a)) then (ob (ix b (wr (a - 1))) fun e=>
 uV a (!ltB e c)) else (uV a false)))) else (some (.inr (.inl ())))
def uW (b:(List aJ)) (c:Bool):Option Bool:=
 if c then (some false) else (ob (loop (fun (s:Int)=>zO b s) 1) fun r=>match r with|.inl r=>aJc|.inr r=>some r)
def aEq (a:(List aJ)):Option Bool:=
 if ((a.length:Int) == 0) then (uW a true) else (if (decide (12 < (a.length:Int))) then (uW a true) else (ob (ix a 0) fun b=>
 uW a (!(b == ([116,97,117]:aJ)))))
def aMJ:Option Bool:=
 some true
def aGL (a:Int) (b:Bool):Option (Int ⊕ (Unit ⊕ Bool)):=
 if b then (some (.inr (.inr false))) else (some (.inl (wr (a+1))))
def aBZ (t:aS) (a:Int) (c:Edge) (d:Bool):Option (Int ⊕ (Unit ⊕ Bool)):=
 if d then (some (.inr (.inr false))) else (if (decide (0 < a)) then (ob (ix t.E (wr (a - 1))) fun e=>
 ob (aGj e c) fun f=>
 aGL a (!f)) else (aGL a false))
def aEr (t:aS) (c:Int):Option (Int ⊕ (Unit ⊕ Bool)):=
 if (decide (c < (t.E.length:Int))) then (ob (ix t.E c) fun b=>
 ob (aCi b.F 0 (wr (t.N - 1))) fun d=>
 if (!d) then (aBZ t c b true) else (ob (aCi b.To 0 (wr (t.N - 1))) fun e=>
 if (!e) then (aBZ t c b true) else (ob (aCi b.B 0 (wr ((t.L.length:Int) - 1))) fun f=>
 aBZ t c b (!f)))) else (some (.inr (.inl ())))
def aAw (t:aS) (c:Bool):Option Bool:=
 if c then (some false) else (ob (loop (fun (s:Int)=>aEr t s) 0) fun r=>match r with|.inl r=>aMJ|.inr r=>some r)
def aFo (t:aS):Option Bool:=
 ob (aCi t.N 1 40) fun b=>
 if (!b) then (aAw t true) else (ob (aCi t.I 0 (wr (t.N - 1))) fun c=>
 if (!c) then (aAw t true) else (ob (aEq t.L) fun d=>
 if (!d) then (aAw t true) else (aAw t (decide (300 < (t.E.length:Int))))))
def aJd (a:List Bool):Option (List Bool):=
 some a
def aCk (c:(List Int)) (a:List Bool) (b:Int):Option ((List Bool × Int) ⊕ (List Bool)):=
 if (decide (b < (c.length:Int))) then (ob (ix c b) fun d=>
 ob (ix a d) fun f=>
 ob (st a d (true:Bool)) fun e=>
 some (.inl (e,wr (b+1)))) else (some (.inr a))
def aEs (t:aS) (b:(List Int)):Option (List Bool):=
 ob (mkz t.N (false:Bool)) fun c=>
 ob (loop (fun (s:(List Bool × Int))=>aCk b s.1 s.2) (c,0)) fun r=>aJd r
def aJe (a:List Bool):Option (List Bool):=
 some a
def aCl (a:List Bool) (b:Bool):Option ((List Bool × Bool) ⊕ (List Bool)):=
 some (.inl (a,b))
def aFP (a:List Bool) (b:Bool):Option ((List Bool × Bool) ⊕ (List Bool)):=
 aCl a b
def zQ (a:Int) (b:List Bool) (c:Bool):Option ((List Bool × Bool × Int) ⊕ (List Bool × Bool)):=
 some (.inl (b,c,wr (a+1)))
def uX (a:List Bool) (d:Bool) (b:Int) (c:Edge) (e:Bool):Option ((List Bool × Bool × Int) ⊕ (List Bool × Bool)):=
 if e then (ob (ix a c.To) fun g=>
 ob (st a c.To (true:Bool)) fun f=>
 zQ b f true) else (zQ b a d)
def zU (t:aS) (a:List Bool) (d:Bool) (c:Int):Option ((List Bool × Bool × Int) ⊕ (List Bool × Bool)):=
 if (decide (c < (t.E.length:Int))) then (ob (ix t.E c) fun b=>
 if (b.B == 0) then (ob (ix a b.F) fun f=>
 if f then (ob (ix a b.To) fun g=>
 uX a d c b (!g)) else (uX a d c b false)) else (uX a d c b false)) else (some (.inr (a,d)))
def uY (t:aS) (a:List Bool) (d:Bool):Option ((List Bool × Bool) ⊕ (List Bool)):=
 if d then (ob (loop (fun (s:(List Bool × Bool × Int))=>zU t s.1 s.2.1 s.2.2) (a,false,0)) fun r=>aFP r.1 r.2) else (some (.inr a))
def aAx (t:aS) (b:(List Bool)):Option (List Bool):=
 ob (loop (fun (s:(List Bool × Bool))=>uY t s.1 s.2) (b,true)) fun r=>aJe r
def aKe (a:List Int):Option (List Int):=
 some a
def aBj (a:Int) (b:List Int):Option ((List Int × Int) ⊕ (List Int)):=
 some (.inl (b,wr (a+1)))
def aBk (c:(List Bool)) (b:List Int) (a:Int):Option ((List Int × Int) ⊕ (List Int)):=
 if (decide (a < (c.length:Int))) then (ob (ix c a) fun d=>
 if d then (ob (tG b ([a]:List Int)) fun e=>
 aBj a e) else (aBj a b)) else (some (.inr b))
def aCa (a:(List Bool)):Option (List Int):=
 ob (loop (fun (s:(List Int × Int))=>aBk a s.1 s.2) (([]:List Int),0)) fun r=>aKe r
def tO (t:aS):Option (List Int):=
 ob (aEs t ([t.I]:List Int)) fun b=>
 ob (aAx t b) fun c=>
 ob (aCa c) fun d=>
 some d
def aLA:Option Bool:=
 some false
def aFp (b:(List Int)) (n a:Int):Option (Int ⊕ (Unit ⊕ Bool)):=
 if (decide (a < (b.length:Int))) then (ob (ix b a) fun d=>
 if (d == n) then (some (.inr (.inr true))) else (some (.inl (wr (a+1))))) else (some (.inr (.inl ())))
def aHP (b:(List Int)) (n:Int):Option Bool:=
 ob (loop (fun (s:Int)=>aFp b n s) 0) fun r=>match r with|.inl r=>aLA|.inr r=>some r
def aDB (t:aS) (b:List Bool):Option (List Int):=
 ob (aAx t b) fun c=>
 ob (aCa c) fun d=>
 some d
def aBl (a:Int) (b:List Bool):Option ((List Bool × Int) ⊕ (List Bool)):=
 some (.inl (b,wr (a+1)))
def aBm (t:aS) (a:List Bool) (b:Int) (e:Bool):Option ((List Bool × Int) ⊕ (List Bool)):=
 if e then (ob (ix t.E b) fun c=>
 ob (ix a c.To) fun g=>
 ob (st a c.To (true:Bool)) fun f=>
 aBl b f) else (aBl b a)
def xQ (t:aS) (e:(List Int)) (f:Int) (c:List Bool) (b:Int):Option ((List Bool × Int) ⊕ (List Bool)):=
 if (decide (b < (t.E.length:Int))) then (ob (ix t.E b) fun d=>
 if (d.B == f) then (ob (aHP e d.F) fun g=>
 aBm t c b g) else (aBm t c b false)) else (some (.inr c))
def xR (t:aS) (b:(List Int)) (c:Int):Option (List Int):=
 ob (mkz t.N (false:Bool)) fun d=>
 ob (loop (fun (s:(List Bool × Int))=>xQ t b c s.1 s.2) (d,0)) fun r=>aDB t r
def aKf:Option Bool:=
 some true
def aDC (a b:(List Int)) (c:Int):Option (Int ⊕ (Unit ⊕ Bool)):=
 if (decide (c < (a.length:Int))) then (ob (ix a c) fun f=>
 ob (ix b c) fun g=>
 if (f != g) then (some (.inr (.inr false))) else (some (.inl (wr (c+1))))) else (some (.inr (.inl ())))
def aDU (a b:(List Int)):Option Bool:=
 if ((a.length:Int) != (b.length:Int)) then (some false) else (ob (loop (fun (s:Int)=>aDC a b s) 0) fun r=>match r with|.inl r=>aKf|.inr r=>some r)
def aBn (t:aS) (a:List (List Int)) (c:List Edge):Option (aS × (List (List Int)) × Bool):=
 ob (tG ([]:List aJ) t.L) fun d=>
 some (⟨(a.length:Int),0,d,c⟩,a,true)
def aDD (a:Int) (b:List (List Int)) (c:List Edge):Option ((List (List Int) × List Edge × Int) ⊕ ((List (List Int) × List Edge) ⊕ (aS × (List (List Int)) × Bool))):=
 some (.inl (b,c,wr (a+1)))
def aDE (a:Int) (b:List (List Int)) (c:List Edge):Option ((List (List Int) × List Edge × Int) ⊕ ((List (List Int) × List Edge) ⊕ (aS × (List (List Int)) × Bool))):=
 aDD a b c
def xS (a:Int) (b:List (List Int)) (c:List Edge):Option ((List (List Int) × List Edge × Int) ⊕ ((List (List Int) × List Edge) ⊕ (aS × (List (List Int)) × Bool))):=
 some (.inl (b,c,wr (a+1)))
def aBo (c:Int) (a:List Edge) (b:Int) (d:List (List Int)) (e:Int):Option ((List (List Int) × List Edge × Int) ⊕ ((List (List Int) × List Edge) ⊕ (aS × (List (List Int)) × Bool))):=
 if ((a.length:Int) == 300) then (some (.inr (.inr (⟨0,0,[],[]⟩,[],false)))) else (ob (tG a ([⟨c,b,e⟩]:List Edge)) fun f=>
 xS b d f)
def tP (b:Int) (a:List (List Int)) (c:List Edge) (d:Int) (f:(List Int)) (e:Int):Option ((List (List Int) × List Edge × Int) ⊕ ((List (List Int) × List Edge) ⊕ (aS × (List (List Int)) × Bool))):=
 if (decide (e < 0)) then (if ((a.length:Int) == 40) then (some (.inr (.inr (⟨0,0,[],[]⟩,[],false)))) else (ob (tG a ([f]:List (List Int))) fun g=>
 aBo b c d g (a.length:Int))) else (aBo b c d a e)
def aBp (a b:Int):Option ((Int × Int) ⊕ Int):=
 some (.inl (b,wr (a+1)))
def tQ (b:List (List Int)) (d:(List Int)) (c a:Int):Option ((Int × Int) ⊕ Int):=
 if (decide (a < (b.length:Int))) then (ob (ix b a) fun e=>
 ob (aDU e d) fun f=>
 if f then (aBp a a) else (aBp a c)) else (some (.inr c))
def tR (t:aS) (f:Int) (a:List (List Int)) (c:List Edge) (b:Int):Option ((List (List Int) × List Edge × Int) ⊕ ((List (List Int) × List Edge) ⊕ (aS × (List (List Int)) × Bool))):=
 if (decide (b < (t.L.length:Int))) then (ob (ix a f) fun g=>
 ob (xR t g b) fun d=>
 if ((d.length:Int) == 0) then (xS b a c) else (ob (loop (fun (s:(Int × Int))=>tQ a d s.1 s.2) ((-1),0)) fun r=>tP f a c b d r)) else (some (.inr (.inl (a,c))))
def jC (t:aS) (b:List (List Int)) (d:List Edge) (c:Int):Option ((List (List Int) × List Edge × Int) ⊕ ((List (List Int) × List Edge) ⊕ (aS × (List (List Int)) × Bool))):=
 if (decide (c < (b.length:Int))) then (ob (loop (fun (s:(List (List Int) × List Edge × Int))=>tR t c s.1 s.2.1 s.2.2) (b,d,1)) fun r=>match r with|.inl r=>aDE c r.1 r.2|.inr r=>some (.inr (.inr r))) else (some (.inr (.inl (b,d))))
def aDV (t:aS):Option (aS × (List (List Int)) × Bool):=
 ob (tO t) fun c=>
 ob (loop (fun (s:(List (List Int) × List Edge × Int))=>jC t s.1 s.2.1 s.2.2) (([c]:List (List Int)),([]:List Edge),0)) fun r=>match r with|.inl r=>aBn t r.1 r.2|.inr r=>some r
def aHQ:Option Bool:=
 some true
def sA (a:Int) (b:Bool):Option (Int ⊕ (Unit ⊕ Bool)):=
 if b then (some (.inr (.inr false))) else (some (.inl (wr (a+1))))
def wM (t:aS) (a:Int):Option (Int ⊕ (Unit ⊕ Bool)):=
 if (decide (a < (t.E.length:Int))) then (ob (ix t.E a) fun c=>
 if (c.B == 0) then (sA a true) else (if (decide (0 < a)) then (ob (ix t.E (wr (a - 1))) fun d=>
 if (c.F == d.F) then (sA a (c.B == d.B)) else (sA a false)) else (sA a false))) else (some (.inr (.inl ())))
def aCC (t:aS):Option Bool:=
 ob (loop (fun (s:Int)=>wM t s) 0) fun r=>match r with|.inl r=>aHQ|.inr r=>some r
def aCD (p:aS) (b:Bool):Option Int:=
 if b then (some 1) else (ob (aCC p) fun c=>
 if (!c) then (some 6) else (some 0))
def aBq (t p:aS):Option Int:=
 ob (aFo t) fun c=>
 if (!c) then (aCD p true) else (ob (aFo p) fun d=>
 aCD p (!d))
def sB (d:(List UInt8)) (b c a:Int):Option (Int × Int × Int):=
 if (decide (wr (b+1)<=(d.length:Int))) then (some (a,wr (b+1),oM ((oM ((oM (c * 6364136223846793005))+(oM a)))+1442695040888963407))) else (ob (shU (oM ((oM ((oM (c * 6364136223846793005))+(oM a)))+1442695040888963407)) 40) fun e=>
 some (wr (anU e 255),wr (b+1),oM ((oM ((oM (c * 6364136223846793005))+(oM a)))+1442695040888963407)))
def uZ (a:(List UInt8)) (b c:Int):Option (Int × Int × Int):=
 if (decide (b < (a.length:Int))) then (ob (ix a b) fun d=>
 sB a b c (wr (d.toNat:Int))) else (sB a b c 0)
def sC (n b c d:Int):Option (Int × Int × Int):=
 ob (rm b n) fun e=>
 some (e,c,d)
def bH (d:(List UInt8)) (e f n:Int):Option (Int × Int × Int):=
 if (decide (n<=1)) then (some (0,e,f)) else (ob (uZ d e f) fun a=>
 if (decide (200 < n)) then (ob (uZ d a.2.1 a.2.2) fun c=>
 sC n (wr ((wr (a.1 * 256))+c.1)) c.2.1 c.2.2) else (sC n a.1 a.2.1 a.2.2))
def jG (b:(List UInt8)) (c d n:Int):Option (Bool × Int × Int):=
 ob (bH b c d n) fun a=>
 some (a.1 == 0,a.2.1,a.2.2)
def vV (a b:Int) (c:List aJ):Option ((List aJ) × Int × Int):=
 some (c,a,b)
def vW (a:List aJ) (b c:Int):Option ((List aJ) × Int × Int):=
 if ((a.length:Int) == 1) then (ob (tG a ([([97]:aJ)]:List aJ)) fun d=>
 vV b c d) else (vV b c a)
def kN (a b c:Int) (d:List aJ):Option ((Int × Int × List aJ × Int) ⊕ (List aJ × Int × Int)):=
 some (.inl (b,c,d,wr (a+1)))
def pX (b:List aJ) (a c d:Int) (e:Bool):Option ((Int × Int × List aJ × Int) ⊕ (List aJ × Int × Int)):=
 if e then (ob (ix ([([97]:aJ),([98]:aJ),([99]:aJ),([103,101,116,40,48,41]:aJ),([103,101,116,40,49,41]:aJ)]:List aJ) a) fun f=>
 ob (tG b ([f]:List aJ)) fun g=>
 kN a c d g) else (kN a c d b)
def mT (f:(List UInt8)) (d e:Int) (b:List aJ) (c:Int):Option ((Int × Int × List aJ × Int) ⊕ (List aJ × Int × Int)):=
 if (decide (c < (([([97]:aJ),([98]:aJ),([99]:aJ),([103,101,116,40,48,41]:aJ),([103,101,116,40,49,41]:aJ)]:List aJ).length:Int))) then (ob (jG f d e 2) fun a=>
 if a.1 then (pX b c a.2.1 a.2.2 (decide ((b.length:Int) < 4))) else (pX b c a.2.1 a.2.2 false)) else (some (.inr (b,d,e)))
def wN (b:(List UInt8)) (c d:Int):Option ((List aJ) × Int × Int):=
 ob (loop (fun (s:(Int × Int × List aJ × Int))=>mT b s.1 s.2.1 s.2.2.1 s.2.2.2) (c,d,([([116,97,117]:aJ)]:List aJ),0)) fun r=>vW r.1 r.2.1 r.2.2
def gF (c:(List UInt8)) (d e:Int) (b:(List Int)):Option (Int × Int × Int):=
 ob (bH c d e (b.length:Int)) fun a=>
 ob (ix b a.1) fun f=>
 some (f,a.2.1,a.2.2)
def wO (d:(List UInt8)) (b c:(Int × Int × Int)) (e:((List aJ) × Int × Int)) (f g:Int) (h:List Edge):Option (aS × Int × Int):=
 ob (bH d f g (wr ((wr (1+b.1))+c.1))) fun a=>
 ob (aAJ (wr ((wr (1+b.1))+c.1)) a.1 e.1 h) fun i=>
 some (i,a.2.1,a.2.2)
def wP (a:(List UInt8)) (c d:(Int × Int × Int)) (e:((List aJ) × Int × Int)) (j k:Int) (i:List Edge):Option (aS × Int × Int):=
 ob (jG a j k 3) fun b=>
 if b.1 then (ob (bH a b.2.1 b.2.2 (wr ((wr (1+c.1))+d.1))) fun f=>
 ob (bH a f.2.1 f.2.2 (e.1.length:Int)) fun g=>
 ob (bH a g.2.1 g.2.2 (wr ((wr (1+c.1))+d.1))) fun h=>
 ob (tG i ([⟨f.1,g.1,h.1⟩]:List Edge)) fun l=>
 wO a c d e h.2.1 h.2.2 l) else (wO a c d e b.2.1 b.2.2 i)
def aBr (a b c:Int) (d:List Edge):Option ((Int × Int × List Edge × Int) ⊕ (Int × Int × List Edge)):=
 some (.inl (b,c,d,wr (a - 1)))
def aBs (a b c:Int) (d:List Edge):Option ((Int × Int × List Edge × Int) ⊕ (Int × Int × List Edge)):=
 aBr a b c d
def wQ (a b c:Int) (d:List Edge):Option ((Int × Int × List Edge × Int) ⊕ (Int × Int × List Edge)):=
 some (.inl (b,c,d,wr (a+1)))
def wR (c:(List UInt8)) (d:(Int × Int × Int)) (e f:Int) (g:List Edge) (b:Int) (h:List Int):Option ((Int × Int × List Edge × Int) ⊕ (Int × Int × List Edge)):=
 ob (gF c e f h) fun a=>
 ob (tG g ([⟨b,d.1,a.1⟩]:List Edge)) fun i=>
 wQ b a.2.1 a.2.2 i
def wS (a:Int) (b:List Int):Option ((List Int × Int) ⊕ (List Int)):=
 some (.inl (b,wr (a+1)))
def mH (c d:(Int × Int × Int)) (e:List Int) (f:(Int × Int × Int)) (b:List Int) (a:Int):Option ((List Int × Int) ⊕ (List Int)):=
 if (decide (a < wr ((wr (1+c.1))+d.1))) then (ob (ix e a) fun g=>
 if (g == f.1) then (ob (tG b ([a]:List Int)) fun h=>
 wS a h) else (wS a b)) else (some (.inr b))
def sD (h:(List UInt8)) (e f:(Int × Int × Int)) (g:List Int) (i j k:(Int × Int × Int)) (b c:Int) (d:List Edge) (a:Int):Option ((Int × Int × List Edge × Int) ⊕ (Int × Int × List Edge)):=
 if (decide (a < wr ((wr (1+e.1))+f.1))) then (ob (ix g a) fun l=>
 if (l != i.1) then (wQ a b c d) else (ob (loop (fun (s:(List Int × Int))=>mH e f g k s.1 s.2) (([]:List Int),0)) fun r=>wR h j b c d a r)) else (some (.inr (b,c,d)))
def pI (a:(List UInt8)) (b k:(Int × Int × Int)) (l:((List aJ) × Int × Int)) (m:List Int) (g h:Int) (i:List Edge) (j:Int):Option ((Int × Int × List Edge × Int) ⊕ (Int × Int × List Edge)):=
 if (decide (0 < j)) then (ob (bH a g h (wr (1+b.1))) fun c=>
 ob (bH a c.2.1 c.2.2 (l.1.length:Int)) fun d=>
 ob (bH a d.2.1 d.2.2 (wr (1+b.1))) fun e=>
 ob (loop (fun (s:(Int × Int × List Edge × Int))=>sD a b k m c d e s.1 s.2.1 s.2.2.1 s.2.2.2) (e.2.1,e.2.2,i,0)) fun r=>aBs j r.1 r.2.1 r.2.2) else (some (.inr (g,h,i)))
def uE (a:(List UInt8)) (b e:(Int × Int × Int)) (f:((List aJ) × Int × Int)) (g h:Int) (i:List Int):Option (aS × Int × Int):=
 ob (bH a g h (wr (2+(wr (2 * (wr (1+b.1))))))) fun c=>
 ob (loop (fun (s:(Int × Int × List Edge × Int))=>pI a b e f i s.1 s.2.1 s.2.2.1 s.2.2.2) (c.2.1,c.2.2,([]:List Edge),c.1)) fun r=>wP a b e f r.1 r.2.1 r.2.2
def pJ (a b c:Int) (d:List Int):Option ((Int × Int × List Int × Int) ⊕ (Int × Int × List Int)):=
 some (.inl (b,c,d,wr (a+1)))
def pK (g:(List UInt8)) (b h:(Int × Int × Int)) (c d:Int) (e:List Int) (a:Int):Option ((Int × Int × List Int × Int) ⊕ (Int × Int × List Int)):=
 if (decide (a < wr ((wr (1+b.1))+h.1))) then (if (decide (a < wr (1+b.1))) then (ob (tG e ([a]:List Int)) fun i=>
 pJ a c d i) else (ob (bH g c d (wr (1+b.1))) fun f=>
 ob (tG e ([f.1]:List Int)) fun j=>
 pJ a f.2.1 f.2.2 j)) else (some (.inr (c,d,e)))
def aAL (a:(List UInt8)) (f g:Int):Option (aS × Int × Int):=
 ob (bH a f g 4) fun b=>
 ob (bH a b.2.1 b.2.2 (wr (7 - (wr (1+b.1))))) fun c=>
 ob (wN a c.2.1 c.2.2) fun d=>
 ob (loop (fun (s:(Int × Int × List Int × Int))=>pK a b c s.1 s.2.1 s.2.2.1 s.2.2.2) (d.2.1,d.2.2,([]:List Int),0)) fun r=>uE a b c d r.1 r.2.1 r.2.2
def yP (d:(List UInt8)) (b c a:Int):Option (Int × Int × Int):=
 if (decide (wr (b+1)<=(d.length:Int))) then (some (a,wr (b+1),oM ((oM ((oM (c * 6364136223846793005))+(oM a)))+1442695040888963407))) else (ob (shU (oM ((oM ((oM (c * 6364136223846793005))+(oM a)))+1442695040888963407)) 40) fun e=>
 some (wr (anU e 255),wr (b+1),oM ((oM ((oM (c * 6364136223846793005))+(oM a)))+1442695040888963407)))
def oF (a:(List UInt8)) (b c:Int):Option (Int × Int × Int):=
 if (decide (b < (a.length:Int))) then (ob (ix a b) fun d=>
 yP a b c (wr (d.toNat:Int))) else (yP a b c 0)
def yQ (a:(List UInt8)) (n c d e:Int):Option (Int × (List UInt8) × Int × Int):=
 ob (rm c n) fun f=>
 some (f,a,d,e)
def aGl (b:(List UInt8)) (e f n:Int):Option (Int × (List UInt8) × Int × Int):=
 if (decide (n<=1)) then (some (0,b,e,f)) else (ob (oF b e f) fun a=>
 if (decide (200 < n)) then (ob (oF b a.2.1 a.2.2) fun d=>
 yQ b n (wr ((wr (a.1 * 256))+d.1)) d.2.1 d.2.2) else (yQ b n a.1 a.2.1 a.2.2))
def aEt (a:(aS × Int × Int)) (b:List Edge) (c d:Int):Option (aS × Int × Int):=
 ob (aAJ a.1.N a.1.I a.1.L b) fun e=>
 some (e,c,d)
def sE (c:(List UInt8)) (d:(aS × Int × Int)) (e f:Int) (g:List Edge) (h:Int):Option ((Int × Int × List Edge × Int) ⊕ (List Edge × Int × Int)):=
 if (decide (0 < h)) then (ob (bH c e f d.1.N) fun a=>
 ob (bH c a.2.1 a.2.2 d.1.N) fun b=>
 ob (tG g ([⟨a.1,0,b.1⟩]:List Edge)) fun i=>
 some (.inl (b.2.1,b.2.2,i,wr (h - 1)))) else (some (.inr (g,e,f)))
def aBt (c:(List UInt8)) (d:(aS × Int × Int)) (e f:Int) (g:List Edge):Option (aS × Int × Int):=
 ob (bH c e f 3) fun a=>
 ob (loop (fun (s:(Int × Int × List Edge × Int))=>sE c d s.1 s.2.1 s.2.2.1 s.2.2.2) (a.2.1,a.2.2,g,a.1)) fun r=>aEt d r.1 r.2.1 r.2.2
def wT (b:List Edge) (c:Int) (a:Edge) (d e f:Int):Option ((Int × Int × List Edge × Int) ⊕ (Int × Int × List Edge)):=
 ob (tG b ([⟨a.F,f,a.To⟩]:List Edge)) fun g=>
 some (.inl (d,e,g,wr (c+1)))
def sF (h:(List UInt8)) (e:(aS × Int × Int)) (f g:Int) (c:List Edge) (b:Int):Option ((Int × Int × List Edge × Int) ⊕ (Int × Int × List Edge)):=
 if (decide (b < (e.1.E.length:Int))) then (ob (ix e.1.E b) fun d=>
 ob (jG h f g 3) fun a=>
 if a.1 then (wT c b d a.2.1 a.2.2 0) else (wT c b d a.2.1 a.2.2 d.B)) else (some (.inr (f,g,c)))
def aCE (b:(List UInt8)) (d e:Int):Option (aS × Int × Int):=
 ob (aAL b d e) fun a=>
 ob (loop (fun (s:(Int × Int × List Edge × Int))=>sF b a s.1 s.2.1 s.2.2.1 s.2.2.2) (a.2.1,a.2.2,([]:List Edge),0)) fun r=>aBt b a r.1 r.2.1 r.2.2
def zV (c:(List UInt8)) (d e:Int) (b:(List aJ)):Option (aJ × Int × Int):=
 ob (bH c d e (b.length:Int)) fun a=>
 ob (ix b a.1) fun f=>
 some (f,a.2.1,a.2.2)
def fX (a b:Int) (c:List aJ) (d:List Edge) (e f:Int):Option (aS × Int × Int):=
 some (⟨a,b,c,d⟩,e,f)
def aAM (c:(List UInt8)) (n o:Int) (t:aS):Option (aS × Int × Int):=
 ob (aCy t) fun a=>
 ob (jG c n o 8) fun d=>
 if (!d.1) then (some (a,d.2.1,d.2.2)) else (ob (bH c d.2.1 d.2.2 8) fun b=>
 if (b.1 == 0) then (ob (gF c b.2.1 b.2.2 ([0,(-1),41,40,wr (a.N - 1)]:List Int)) fun g=>
 fX g.1 a.I a.L a.E g.2.1 g.2.2) else (if (b.1 == 1) then (ob (gF c b.2.1 b.2.2 ([(-1),a.N]:List Int)) fun h=>
 fX a.N h.1 a.L a.E h.2.1 h.2.2) else (if (b.1 == 2) then (ob (ix a.L 0) fun x=>
 ob (st a.L 0 (([97]:aJ):aJ)) fun q=>
 fX a.N a.I q a.E b.2.1 b.2.2) else (if (b.1 == 3) then (ob (zV c b.2.1 b.2.2 ([([116,97,117]:aJ),([97]:aJ),([122,122]:aJ),([65]:aJ),([]:aJ)]:List aJ)) fun i=>
 ob (tG a.L ([i.1]:List aJ)) fun r=>
 fX a.N a.I r a.E i.2.1 i.2.2) else (if (b.1 == 4) then (if (decide (0 < (a.E.length:Int))) then (ob (ix a.E 0) fun s=>
 ob (tG a.E ([s]:List Edge)) fun u=>
 fX a.N a.I a.L u b.2.1 b.2.2) else (fX a.N a.I a.L a.E b.2.1 b.2.2)) else (if (b.1 == 5) then (if (decide (0 < (a.E.length:Int))) then (ob (bH c b.2.1 b.2.2 (a.E.length:Int)) fun e=>
 ob (gF c e.2.1 e.2.2 ([(-1),(a.L.length:Int),0]:List Int)) fun j=>
 ob (ix a.E e.1) fun l=>
 ob (st a.E e.1 (⟨l.F,j.1,l.To⟩:Edge)) fun v=>
 fX a.N a.I a.L v j.2.1 j.2.2) else (fX a.N a.I a.L a.E b.2.1 b.2.2)) else (if (b.1 == 6) then (if (decide (0 < (a.E.length:Int))) then (ob (bH c b.2.1 b.2.2 (a.E.length:Int)) fun f=>
 ob (gF c f.2.1 f.2.2 ([(-1),a.N,0]:List Int)) fun k=>
 ob (ix a.E f.1) fun m=>
 ob (st a.E f.1 (⟨m.F,m.B,k.1⟩:Edge)) fun w=>
 fX a.N a.I a.L w k.2.1 k.2.2) else (fX a.N a.I a.L a.E b.2.1 b.2.2)) else (if (b.1 == 7) then (fX a.N a.I ([]:List aJ) a.E b.2.1 b.2.2) else (fX a.N a.I a.L a.E b.2.1 b.2.2)))))))))
def aIJ (c:(List UInt8)) (d e:Int):Option (aS × Int × Int):=
 ob (aCE c d e) fun a=>
 ob (aAM c a.2.1 a.2.2 a.1) fun b=>
 some (b.1,b.2.1,b.2.2)
def aCb (a:(Int × Int × Int)) (b:List Edge):Option (aS × Int × Int):=
 ob (aAJ (wr ((wr (4+a.1))+1)) 0 ([([116,97,117]:aJ),([97]:aJ),([98]:aJ)]:List aJ) b) fun c=>
 some (c,a.2.1,a.2.2)
def xT (c:(Int × Int × Int)) (b:List Edge) (a:Int):Option ((List Edge × Int) ⊕ (List Edge)):=
 if (decide (a < wr (4+c.1))) then (ob (tG b ([⟨a,1,wr (a+1)⟩,⟨a,2,wr (a+1)⟩]:List Edge)) fun d=>
 some (.inl (d,wr (a+1)))) else (some (.inr b))
def vA (b:(List UInt8)) (c d:Int):Option (aS × Int × Int):=
 ob (bH b c d 4) fun a=>
 ob (loop (fun (s:(List Edge × Int))=>xT a s.1 s.2) (([⟨0,1,0⟩,⟨0,2,0⟩,⟨0,1,1⟩]:List Edge),1)) fun r=>aCb a r
def yR (n b c d:Int):Option (Int × Int × Int):=
 ob (rm b n) fun e=>
 some (e,c,d)
def jR (d:(List UInt8)) (e f n:Int):Option (Int × Int × Int):=
 if (decide (n<=1)) then (some (0,e,f)) else (ob (oF d e f) fun a=>
 if (decide (200 < n)) then (ob (oF d a.2.1 a.2.2) fun c=>
 yR n (wr ((wr (a.1 * 256))+c.1)) c.2.1 c.2.2) else (yR n a.1 a.2.1 a.2.2))
def aHj (b:(List UInt8)) (c d n:Int):Option (Bool × Int × Int):=
 ob (jR b c d n) fun a=>
 some (a.1 == 0,a.2.1,a.2.2)
def pY (c:(List UInt8)) (d e:Int) (b:(List Int)):Option (Int × Int × Int):=
 ob (jR c d e (b.length:Int)) fun a=>
 ob (ix b a.1) fun f=>
 some (f,a.2.1,a.2.2)
def aGm (c:(List UInt8)) (d e:Int) (b:(List aJ)):Option (aJ × Int × Int):=
 ob (jR c d e (b.length:Int)) fun a=>
 ob (ix b a.1) fun f=>
 some (f,a.2.1,a.2.2)
def eK (a:(List UInt8)) (b c:Int) (d:List aJ) (e:List Edge) (f g:Int):Option (aS × (List UInt8) × Int × Int):=
 some (⟨b,c,d,e⟩,a,f,g)
def aKg (c:(List UInt8)) (n o:Int) (t:aS):Option (aS × (List UInt8) × Int × Int):=
 ob (aCy t) fun a=>
 ob (aHj c n o 8) fun d=>
 if (!d.1) then (some (a,c,d.2.1,d.2.2)) else (ob (jR c d.2.1 d.2.2 8) fun b=>
 if (b.1 == 0) then (ob (pY c b.2.1 b.2.2 ([0,(-1),41,40,wr (a.N - 1)]:List Int)) fun g=>
 eK c g.1 a.I a.L a.E g.2.1 g.2.2) else (if (b.1 == 1) then (ob (pY c b.2.1 b.2.2 ([(-1),a.N]:List Int)) fun h=>
 eK c a.N h.1 a.L a.E h.2.1 h.2.2) else (if (b.1 == 2) then (ob (ix a.L 0) fun x=>
 ob (st a.L 0 (([97]:aJ):aJ)) fun q=>
 eK c a.N a.I q a.E b.2.1 b.2.2) else (if (b.1 == 3) then (ob (aGm c b.2.1 b.2.2 ([([116,97,117]:aJ),([97]:aJ),([122,122]:aJ),([65]:aJ),([]:aJ)]:List aJ)) fun i=>
 ob (tG a.L ([i.1]:List aJ)) fun r=>
 eK c a.N a.I r a.E i.2.1 i.2.2) else (if (b.1 == 4) then (if (decide (0 < (a.E.length:Int))) then (ob (ix a.E 0) fun s=>
 ob (tG a.E ([s]:List Edge)) fun u=>
 eK c a.N a.I a.L u b.2.1 b.2.2) else (eK c a.N a.I a.L a.E b.2.1 b.2.2)) else (if (b.1 == 5) then (if (decide (0 < (a.E.length:Int))) then (ob (jR c b.2.1 b.2.2 (a.E.length:Int)) fun e=>
 ob (pY c e.2.1 e.2.2 ([(-1),(a.L.length:Int),0]:List Int)) fun j=>
 ob (ix a.E e.1) fun l=>
 ob (st a.E e.1 (⟨l.F,j.1,l.To⟩:Edge)) fun v=>
 eK c a.N a.I a.L v j.2.1 j.2.2) else (eK c a.N a.I a.L a.E b.2.1 b.2.2)) else (if (b.1 == 6) then (if (decide (0 < (a.E.length:Int))) then (ob (jR c b.2.1 b.2.2 (a.E.length:Int)) fun f=>
 ob (pY c f.2.1 f.2.2 ([(-1),a.N,0]:List Int)) fun k=>
 ob (ix a.E f.1) fun m=>
 ob (st a.E f.1 (⟨m.F,m.B,k.1⟩:Edge)) fun w=>
 eK c a.N a.I a.L w k.2.1 k.2.2) else (eK c a.N a.I a.L a.E b.2.1 b.2.2)) else (if (b.1 == 7) then (eK c a.N a.I ([]:List aJ) a.E b.2.1 b.2.2) else (eK c a.N a.I a.L a.E b.2.1 b.2.2)))))))))
def oG (b:(List UInt8)) (c d:Int) (e:List aJ) (f:List Edge) (g h:Int) (i:List aJ) (j k:Int) (l:List Edge):Option (aS × aS × Int × Int):=
 ob (aAM b j k ⟨g,h,i,l⟩) fun a=>
 some (⟨c,d,e,f⟩,a.1,a.2.1,a.2.2)
def oH (c:(List UInt8)) (d e:Int) (f:List aJ) (g:List Edge) (h i:Int) (j:List aJ) (a:List Edge) (k l:Int) (m:Bool):Option (aS × aS × Int × Int):=
 if m then (ob (bH c k l (a.length:Int)) fun b=>
 ob (pQ a 0 b.1) fun n=>
 ob (pQ a (wr (b.1+1)) (a.length:Int)) fun o=>
 ob (tG n o) fun p=>
 oG c d e f g h i j b.2.1 b.2.2 p) else (oG c d e f g h i j k l a)
def lP (b:(List UInt8)) (d e:Int) (f:List aJ) (g:List Edge) (k l h i:Int) (j:List aJ) (c:List Edge):Option (aS × aS × Int × Int):=
 ob (jG b k l 4) fun a=>
 if a.1 then (oH b d e f g h i j c a.2.1 a.2.2 (decide (0 < (c.length:Int)))) else (oH b d e f g h i j c a.2.1 a.2.2 false)
def lQ (c:(List UInt8)) (d e:Int) (f:List aJ) (g:List Edge) (l m h i:Int) (j:List aJ) (k:List Edge):Option (aS × aS × Int × Int):=
 ob (jG c l m 10) fun a=>
 if (!a.1) then (ob (aDV ⟨h,i,j,k⟩) fun b=>
 if b.2.2 then (lP c d e f g a.2.1 a.2.2 b.1.N b.1.I b.1.L b.1.E) else (lP c d e f g a.2.1 a.2.2 h i j k)) else (lP c d e f g a.2.1 a.2.2 h i j k)
def oI (c:(List UInt8)) (d e:Int) (f:List aJ) (g:List Edge) (a:aS) (h i:Int) (j:Bool):Option (aS × aS × Int × Int):=
 if j then (ob (bH c h i (a.E.length:Int)) fun b=>
 ob (pQ a.E 0 b.1) fun k=>
 ob (pQ a.E (wr (b.1+1)) (a.E.length:Int)) fun l=>
 ob (tG k l) fun m=>
 lQ c d e f g b.2.1 b.2.2 a.N a.I a.L m) else (lQ c d e f g h i a.N a.I a.L a.E)
def jS (b:(List UInt8)) (c d:Int) (e:List aJ) (f:List Edge) (g:(aS × Int × Int)) (i j:Int) (k:Bool):Option (aS × aS × Int × Int):=
 if k then (ob (aCy ⟨c,d,e,f⟩) fun h=>
 ob (jG b i j 2) fun a=>
 if a.1 then (oI b c d e f h a.2.1 a.2.2 (decide (0 < (h.E.length:Int)))) else (oI b c d e f h a.2.1 a.2.2 false)) else (lQ b c d e f i j g.1.N g.1.I g.1.L g.1.E)
def oJ (b:(List UInt8)) (h i c d:Int) (e:List aJ) (f:List Edge):Option (aS × aS × Int × Int):=
 ob (aAL b h i) fun a=>
 ob (aFo ⟨c,d,e,f⟩) fun j=>
 if j then (ob (bH b a.2.1 a.2.2 3) fun g=>
 jS b c d e f a g.2.1 g.2.2 (decide (0 < g.1))) else (jS b c d e f a a.2.1 a.2.2 false)
def zW (c:(List UInt8)) (e f:Int):Option (aS × aS × Int × Int):=
 ob (aIJ c e f) fun a=>
 ob (jG c a.2.1 a.2.2 25) fun d=>
 if d.1 then (ob (vA c d.2.1 d.2.2) fun b=>
 oJ c b.2.1 b.2.2 b.1.N b.1.I b.1.L b.1.E) else (oJ c d.2.1 d.2.2 a.1.N a.1.I a.1.L a.1.E)
def aCU:Option (aS × aS):=
 some (⟨1,0,([([116,97,117]:aJ),([97]:aJ)]:List aJ),([⟨0,1,0⟩]:List Edge)⟩,⟨1,0,([([116,97,117]:aJ),([97]:aJ)]:List aJ),([⟨0,1,0⟩]:List Edge)⟩)
def uF (c:(List UInt8)) (d e b:Int):Option ((Int × Int × Int) ⊕ (Unit ⊕ (aS × aS))):=
 if (decide (b < 6)) then (ob (zW c d e) fun a=>
 ob (aBq a.1 a.2.1) fun f=>
 if (f == 0) then (some (.inr (.inr (a.1,a.2.1)))) else (some (.inl (a.2.2.1,a.2.2.2,wr (b+1))))) else (some (.inr (.inl ())))
def aBu (b:(List UInt8)):Option (aS × aS):=
 ob (aKV b) fun c=>
 ob (loop (fun (s:(Int × Int × Int))=>uF b s.1 s.2.1 s.2.2) (c.1,c.2,0)) fun r=>match r with|.inl r=>aCU|.inr r=>some r
def vB (t:aS) (k:Int):Option Bool:=
 ob (uD k 0 (wr (t.N - 1))) fun c=>
 some c
def aMd (i many:Int):Option Bool:=
 ob (uD i 0 (wr (many - 1))) fun b=>
 some b
def oP (a:Int):Option Bool:=
 some (a != a)
def iD (a y:Int):Option Int:=
 ob (oP a) fun d=>
 ob (oP y) fun c=>
 if d then (if c then (some 0) else (some (-1))) else (if c then (some 1) else (if (decide (a < y)) then (some (-1)) else (if (decide (y < a)) then (some 1) else (some 0))))
def sG:Option Int:=
 some 0
def iO (b:(List Int)) (a:Int):Option (Int ⊕ (Unit ⊕ Int)):=
 if (decide (a < (b.length:Int))) then (ob (ix b a) fun c=>
 if (c != 0) then (some (.inr (.inr c))) else (some (.inl (wr (a+1))))) else (some (.inr (.inl ())))
def zX (b:(List Int)):Option Int:=
 ob (loop (fun (s:Int)=>iO b s) 0) fun r=>match r with|.inl r=>sG|.inr r=>some r
def wU (a b:Edge):Option Int:=
 ob (iD a.F b.F) fun e=>
 ob (iD a.B b.B) fun f=>
 ob (iD a.To b.To) fun g=>
 ob (zX ([e,f,g]:List Int)) fun h=>
 some h
def aJf:Option Bool:=
 some true
def rF (a:Int) (b:Bool):Option (Int ⊕ (Unit ⊕ Bool)):=
 if b then (some (.inr (.inr false))) else (some (.inl (wr (a+1))))
def zY (t:aS) (a:Int):Option (Int ⊕ (Unit ⊕ Bool)):=
 if (decide (a < (t.E.length:Int))) then (ob (ix t.E a) fun c=>
 ob (vB t c.F) fun d=>
 if (!d) then (rF a true) else (ob (vB t c.To) fun e=>
 if (!e) then (rF a true) else (ob (aMd c.B (t.L.length:Int)) fun f=>
 if (!f) then (rF a true) else (if (decide (0 < a)) then (ob (ix t.E (wr (a - 1))) fun g=>
 ob (wU g c) fun h=>
 rF a (decide (0<=h))) else (rF a false))))) else (some (.inr (.inl ())))
def aCm (t:aS):Option Bool:=
 ob (loop (fun (s:Int)=>zY t s) 0) fun r=>match r with|.inl r=>aJf|.inr r=>some r
def vC (a:Int) (b:Bool):Option (Int ⊕ (Unit ⊕ Bool)):=
 if b then (some (.inr (.inr false))) else (some (.inl (wr (a+1))))
def zZ (t:aS) (a:Int):Option (Int ⊕ (Unit ⊕ Bool)):=
 if (decide (a < (t.L.length:Int))) then (ob (ix t.L a) fun b=>
 ob (aGi b) fun e=>
 if (!e) then (vC a true) else (if ((b == ([116,97,117]:aJ)) != (a == 0)) then (vC a true) else (if (decide (1 < a)) then (ob (ix t.L (wr (a - 1))) fun d=>
 vC a (ltB b d||b == d)) else (vC a false)))) else (some (.inr (.inl ())))
def rG (t:aS) (c:Bool):Option Bool:=
 if c then (some false) else (ob (loop (fun (s:Int)=>zZ t s) 0) fun r=>match r with|.inl r=>aCm t|.inr r=>some r)
def nC (t:aS):Option Bool:=
 ob (uD t.N 1 40) fun b=>
 if (!b) then (rG t true) else (ob (vB t t.I) fun c=>
 if (!c) then (rG t true) else (ob (uD (t.L.length:Int) 1 12) fun d=>
 if (!d) then (rG t true) else (rG t (decide (300 < (t.E.length:Int))))))
def aAN:Option Bool:=
 some true
def gV (a:Int) (b:Bool):Option (Int ⊕ (Unit ⊕ Bool)):=
 if b then (some (.inr (.inr false))) else (some (.inl (wr (a+1))))
def jT (t:aS) (a:Int):Option (Int ⊕ (Unit ⊕ Bool)):=
 if (decide (a < (t.E.length:Int))) then (ob (ix t.E a) fun c=>
 if (c.B == 0) then (gV a true) else (if (decide (0 < a)) then (ob (ix t.E (wr (a - 1))) fun d=>
 if (d.F == c.F) then (gV a (d.B == c.B)) else (gV a false)) else (gV a false))) else (some (.inr (.inl ())))
def jU (t:aS):Option Bool:=
 ob (nC t) fun c=>
 if (!c) then (some false) else (ob (loop (fun (s:Int)=>jT t s) 0) fun r=>match r with|.inl r=>aAN|.inr r=>some r)
def vX (p:aS) (b:Bool):Option Int:=
 if b then (some 1) else (ob (jU p) fun c=>
 if (!c) then (some 6) else (some 0))
def sH (t p:aS):Option Int:=
 ob (nC t) fun c=>
 if (!c) then (vX p true) else (ob (nC p) fun d=>
 vX p (!d))
def aDF (a:List Edge):Option (List Edge):=
 some a
def xU (a:Int) (b:List Edge):Option ((List Edge × Int) ⊕ (List Edge)):=
 some (.inl (b,wr (a+1)))
def pZ (t:aS) (k:Int) (b:List Edge) (a:Int):Option ((List Edge × Int) ⊕ (List Edge)):=
 if (decide (a < (t.E.length:Int))) then (ob (ix t.E a) fun d=>
 if (d.F == k) then (ob (tG b ([d]:List Edge)) fun f=>
 xU a f) else (xU a b)) else (some (.inr b))
def pL (t:aS) (k:Int):Option (List Edge):=
 ob (loop (fun (s:(List Edge × Int))=>pZ t k s.1 s.2) ([],0)) fun r=>aDF r
def qA:Option Int:=
 some (-1)
def gO (b:(List Int)) (c a:Int):Option (Int ⊕ (Unit ⊕ Int)):=
 if (decide (a < (b.length:Int))) then (ob (ix b a) fun d=>
 if (c == d) then (some (.inr (.inr a))) else (some (.inl (wr (a+1))))) else (some (.inr (.inl ())))
def fT (b:(List Int)) (c:Int):Option Int:=
 ob (loop (fun (s:Int)=>gO b c s) 0) fun r=>match r with|.inl r=>qA|.inr r=>some r
def eN (a:(List Int)) (b:Int):Option Bool:=
 ob (fT a b) fun c=>
 some (decide (0<=c))
def oQ (a:(List Int)):Option (List Int):=
 some a
def fY (a:Int):Option (Int ⊕ (Unit ⊕ (List Int))):=
 some (.inl (wr (a+1)))
def fZ (a:List Int) (b:Int):Option (Int ⊕ (Unit ⊕ (List Int))):=
 ob (pQ a b (a.length:Int)) fun c=>
 ob (ovw a b (List.replicate c.length (0:Int))) fun d=>
 ob (pQ d 0 b) fun e=>
 some (.inr (.inr e))
def dY (a:Int) (b:List Int) (c:Int):Option ((List Int × Int × Int) ⊕ (List Int × Int)):=
 some (.inl (b,c,wr (a+1)))
def dZ (e:Int) (d b:List Int) (c a:Int):Option ((List Int × Int × Int) ⊕ (List Int × Int)):=
 if (decide (a < (d.length:Int))) then (ob (ix d a) fun i=>
 ob (ix b (e+a)) fun f=>
 ob (ix d (wr (a - 1))) fun j=>
 ob (ix b (e+(wr (a - 1)))) fun g=>
 if (f != g) then (ob (ix b c) fun k=>
 ob (st b c (f:Int)) fun h=>
 dY a h (wr (c+1))) else (dY a b c)) else (some (.inr (b,c)))
def eA (b:(List Int)) (a:Int):Option (Int ⊕ (Unit ⊕ (List Int))):=
 if (decide (a < (b.length:Int))) then (ob (ix b a) fun d=>
 ob (ix b (wr (a - 1))) fun e=>
 if (d == e) then (ob (pQ b a (b.length:Int)) fun f=>
 ob (loop (fun (s:(List Int × Int × Int))=>dZ a f s.1 s.2.1 s.2.2) (b,a,1)) fun r=>fZ r.1 r.2) else (fY a)) else (some (.inr (.inl ())))
def cV (a:(List Int)):Option (List Int):=
 if (decide ((a.length:Int) < 2)) then (some a) else (ob (loop (fun (s:Int)=>eA a s) 1) fun r=>match r with|.inl r=>oQ a|.inr r=>some r)
def pM (a:List Int):Option (List Int):=
 ob (aAF a) fun b=>
 ob (cV b) fun c=>
 some c
def nD (a:Int) (b:List Int):Option ((List Int × Int) ⊕ (List Int)):=
 some (.inl (b,wr (a+1)))
def pN (a:List Int) (b:Int) (c:Edge) (d:Bool):Option ((List Int × Int) ⊕ (List Int)):=
 if d then (ob (tG a ([c.To]:List Int)) fun e=>
 nD b e) else (nD b a)
def gG (t:aS) (e:(List Int)) (f:aJ) (d:List Int) (a:Int):Option ((List Int × Int) ⊕ (List Int)):=
 if (decide (a < (t.E.length:Int))) then (ob (ix t.E a) fun b=>
 ob (ix t.L b.B) fun g=>
 if (g == f) then (ob (eN e b.F) fun h=>
 pN d a b h) else (pN d a b false)) else (some (.inr d))
def kO (t:aS) (b:(List Int)) (c:aJ):Option (List Int):=
 ob (loop (fun (s:(List Int × Int))=>gG t b c s.1 s.2) ([],0)) fun r=>pM r
def lR (t:aS) (k:Int) (d:aJ):Option Int:=
 if (decide (k < 0)) then (some (-1)) else (ob (kO t ([k]:List Int) d) fun b=>
 if (decide (0 < (b.length:Int))) then (ob (ix b 0) fun e=>
 some e) else (some (-1)))
def gZ (a:List Bool):Option (List Bool):=
 some a
def hY (a:List Bool) (b:Int):Option ((List Bool × Int) ⊕ (List Bool)):=
 if (decide (b < (a.length:Int))) then (ob (pQ a b (a.length:Int)) fun d=>
 ob (pQ a 0 b) fun c=>
 ob (ovw a b (List.take (Nat.min c.length d.length) c)) fun e=>
 some (.inl (e,wr (b+((Nat.min c.length d.length):Int))))) else (some (.inr a))
def iA (a:(List Bool)) (c:(Int × Int)):Option (List Bool):=
 ob (mkz (wr c.2) (false:Bool)) fun b=>
 ob (ovw b 0 (List.take (Nat.min a.length b.length) a)) fun d=>
 ob (loop (fun (s:(List Bool × Int))=>hY s.1 s.2) (d,((Nat.min a.length b.length):Int))) fun r=>gZ r
def eW (a:(List Bool)) (b:(Int × Int)) (c:Bool):Option (List Bool):=
 if c then (none) else (iA a b)
def iB (b:(List Bool)) (c:Int):Option (List Bool):=
 ob (l_Mul (oM (b.length:Int)) (oM c)) fun a=>
 if (decide (0 < a.1)) then (eW b a true) else (eW b a (decide (9223372036854775807 < a.2)))
def eL (b:(List Bool)) (a:Int):Option (List Bool):=
 if (decide (a < 0)) then (none) else (iB b a)
def sI (a:Bool):Option Bool:=
 some a
def jV (b a:Int) (p:(List (List Bool))):Option Bool:=
 if (decide (0<=a)) then (ob (ix p b) fun d=>
 ob (ix d a) fun e=>
 sI e) else (sI false)
def pE (a:Bool):Option Bool:=
 some a
def nT (b a:Int) (c:(List (List Bool))):Option Bool:=
 if (decide (a < 0)) then (pE true) else (ob (jV b a c) fun d=>
 pE d)
def wV (a:Bool):Option Bool:=
 some a
def mU (a b:Int) (p:Bool) (d:(List (List Bool))):Option Bool:=
 if p then (wV true) else (ob (nT a b d) fun e=>
 wV e)
def yS (a:Bool):Option Bool:=
 some a
def nK (a:Int) (b:Bool):Option ((Bool × Int) ⊕ Bool):=
 some (.inl (b,wr (a+1)))
def lB (o:bZ) (y:Int) (f:(List (List Bool))) (g:(List Edge)) (c:Bool) (a:Int):Option ((Bool × Int) ⊕ Bool):=
 if (decide (a < (g.length:Int))) then (ob (ix g a) fun b=>
 if (b.B == 0) then (ob (mU b.To y c f) fun h=>
 nK a h) else (ob (ix o.t.L b.B) fun i=>
 ob (lR o.p y i) fun j=>
 ob (mU b.To j c f) fun k=>
 nK a k)) else (some (.inr c))
def sJ (o:bZ) (b y:Int) (d:Bool) (e:(List (List Bool))):Option Bool:=
 ob (pL o.t b) fun f=>
 ob (loop (fun (s:(Bool × Int))=>lB o y e f s.1 s.2) (d,0)) fun r=>yS r
def aBv (o:bZ) (b y:Int) (d:(List (List Bool))):Option Bool:=
 ob (sJ o b y false d) fun e=>
 some e
def rT (a y:Int) (c:(List (List Bool))) (p:bZ):Option Bool:=
 ob (aBv p a y c) fun e=>
 some e
def wW (a:List (List Bool)):Option (List (List Bool)):=
 some a
def wX (a:List (List Bool)) (b:Bool):Option ((List (List Bool) × Bool) ⊕ (List (List Bool))):=
 some (.inl (a,b))
def aCF (a:List (List Bool)) (b:Bool):Option ((List (List Bool) × Bool) ⊕ (List (List Bool))):=
 wX a b
def qB (a:Int) (b:List (List Bool)) (c:Bool):Option ((List (List Bool) × Bool × Int) ⊕ (List (List Bool) × Bool)):=
 some (.inl (b,c,wr (a+1)))
def wY (a:Int) (b:List (List Bool)) (c:Bool):Option ((List (List Bool) × Bool × Int) ⊕ (List (List Bool) × Bool)):=
 qB a b c
def iE (a:Int) (b:List (List Bool)) (c:Bool):Option ((List (List Bool) × Bool × Int) ⊕ (List (List Bool) × Bool)):=
 some (.inl (b,c,wr (a+1)))
def iF (e:Bool) (c:Int) (b:List (List Bool)) (f:Bool) (a:Int) (g:Bool):Option ((List (List Bool) × Bool × Int) ⊕ (List (List Bool) × Bool)):=
 if g then (ob (ix b c) fun d=>
 ob (ix d a) fun j=>
 ob (st d a (!e:Bool)) fun h=>
 ob (st b c h) fun i=>
 iE a i true) else (iE a b f)
def fU (d:Bool) (f:bZ) (c:Int) (g:(List Bool)) (a:List (List Bool)) (e:Bool) (b:Int):Option ((List (List Bool) × Bool × Int) ⊕ (List (List Bool) × Bool)):=
 if (decide (b < (g.length:Int))) then (ob (ix a c) fun h=>
 ob (ix h b) fun i=>
 if (i == d) then (ob (rT c b a f) fun j=>
 iF d c a e b j) else (iF d c a e b false)) else (some (.inr (a,e)))
def mI (e:Bool) (f:bZ) (g b:List (List Bool)) (c:Bool) (a:Int):Option ((List (List Bool) × Bool × Int) ⊕ (List (List Bool) × Bool)):=
 if (decide (a < (g.length:Int))) then (ob (ix b a) fun h=>
 ob (loop (fun (s:(List (List Bool) × Bool × Int))=>fU e f a h s.1 s.2.1 s.2.2) (b,c,0)) fun r=>wY a r.1 r.2) else (some (.inr (b,c)))
def oX (c:Bool) (d:bZ) (a:List (List Bool)) (e:Bool):Option ((List (List Bool) × Bool) ⊕ (List (List Bool))):=
 if e then (ob (loop (fun (s:(List (List Bool) × Bool × Int))=>mI c d a s.1 s.2.1 s.2.2) (a,false,0)) fun r=>aCF r.1 r.2) else (some (.inr a))
def oY (a:Bool) (b:bZ) (c:List (List Bool)):Option (List (List Bool)):=
 ob (loop (fun (s:(List (List Bool) × Bool))=>oX a b s.1 s.2) (c,true)) fun r=>wW r
def lL (o:bZ) (d:Bool) (e b:List (List Bool)) (a:Int):Option ((List (List Bool) × Int) ⊕ (List (List Bool))):=
 if (decide (a < (e.length:Int))) then (ob (eL ([d]:List Bool) o.p.N) fun f=>
 ob (ix b a) fun h=>
 ob (st b a f) fun g=>
 some (.inl (g,wr (a+1)))) else (some (.inr b))
def vY (o:bZ) (b:Bool) (d:bZ):Option (List (List Bool)):=
 ob (mkz o.t.N ([]:(List Bool))) fun c=>
 ob (loop (fun (s:(List (List Bool) × Int))=>lL o b c s.1 s.2) (c,0)) fun r=>oY b d r
def sK (o:bZ):Option (List (List Bool)):=
 ob (vY o false o) fun b=>
 some b
def sL (a:Bool):Option Bool:=
 some a
def jW (a b:Int) (p:Bool) (d:(List (List Bool))):Option Bool:=
 if p then (sL true) else (ob (jV a b d) fun e=>
 sL e)
def tS (a:Bool):Option Bool:=
 some a
def kP (a:Int) (b:Bool):Option ((Bool × Int) ⊕ Bool):=
 some (.inl (b,wr (a+1)))
def iP (o:bZ) (y:Int) (f:(List (List Bool))) (g:(List Edge)) (c:Bool) (a:Int):Option ((Bool × Int) ⊕ Bool):=
 if (decide (a < (g.length:Int))) then (ob (ix g a) fun b=>
 if (b.B == 0) then (ob (jW b.To y c f) fun h=>
 kP a h) else (ob (ix o.t.L b.B) fun i=>
 ob (lR o.p y i) fun j=>
 ob (jW b.To j c f) fun k=>
 kP a k)) else (some (.inr c))
def nL (o:bZ) (b y:Int) (d:Bool) (e:(List (List Bool))):Option Bool:=
 ob (pL o.t b) fun f=>
 ob (loop (fun (s:(Bool × Int))=>iP o y e f s.1 s.2) (d,0)) fun r=>tS r
def vZ (o:bZ) (b y:Int) (d:(List (List Bool))):Option Bool:=
 ob (nL o b y false d) fun e=>
 some e
def vL (a:Bool):Option Bool:=
 some a
def oR (a y:Int) (d:(List (List Bool))) (p:bZ):Option Bool:=
 ob (pL p.t a) fun e=>
 if (decide (0 < (e.length:Int))) then (ob (vZ p a y d) fun f=>
 vL (!f)) else (vL false)
def sM (a:List (List Bool)):Option (List (List Bool)):=
 some a
def sO (a:List (List Bool)) (b:Bool):Option ((List (List Bool) × Bool) ⊕ (List (List Bool))):=
 some (.inl (a,b))
def aAO (a:List (List Bool)) (b:Bool):Option ((List (List Bool) × Bool) ⊕ (List (List Bool))):=
 sO a b
def mV (a:Int) (b:List (List Bool)) (c:Bool):Option ((List (List Bool) × Bool × Int) ⊕ (List (List Bool) × Bool)):=
 some (.inl (b,c,wr (a+1)))
def sP (a:Int) (b:List (List Bool)) (c:Bool):Option ((List (List Bool) × Bool × Int) ⊕ (List (List Bool) × Bool)):=
 mV a b c
def fG (a:Int) (b:List (List Bool)) (c:Bool):Option ((List (List Bool) × Bool × Int) ⊕ (List (List Bool) × Bool)):=
 some (.inl (b,c,wr (a+1)))
def fH (e:Bool) (c:Int) (b:List (List Bool)) (f:Bool) (a:Int) (g:Bool):Option ((List (List Bool) × Bool × Int) ⊕ (List (List Bool) × Bool)):=
 if g then (ob (ix b c) fun d=>
 ob (ix d a) fun j=>
 ob (st d a (!e:Bool)) fun h=>
 ob (st b c h) fun i=>
 fG a i true) else (fG a b f)
def eD (d:Bool) (f:bZ) (c:Int) (g:(List Bool)) (a:List (List Bool)) (e:Bool) (b:Int):Option ((List (List Bool) × Bool × Int) ⊕ (List (List Bool) × Bool)):=
 if (decide (b < (g.length:Int))) then (ob (ix a c) fun h=>
 ob (ix h b) fun i=>
 if (i == d) then (ob (oR c b a f) fun j=>
 fH d c a e b j) else (fH d c a e b false)) else (some (.inr (a,e)))
def jX (e:Bool) (f:bZ) (g b:List (List Bool)) (c:Bool) (a:Int):Option ((List (List Bool) × Bool × Int) ⊕ (List (List Bool) × Bool)):=
 if (decide (a < (g.length:Int))) then (ob (ix b a) fun h=>
 ob (loop (fun (s:(List (List Bool) × Bool × Int))=>eD e f a h s.1 s.2.1 s.2.2) (b,c,0)) fun r=>sP a r.1 r.2) else (some (.inr (b,c)))
def lZ (c:Bool) (d:bZ) (a:List (List Bool)) (e:Bool):Option ((List (List Bool) × Bool) ⊕ (List (List Bool))):=
 if e then (ob (loop (fun (s:(List (List Bool) × Bool × Int))=>jX c d a s.1 s.2.1 s.2.2) (a,false,0)) fun r=>aAO r.1 r.2) else (some (.inr a))
def mA (a:Bool) (b:bZ) (c:List (List Bool)):Option (List (List Bool)):=
 ob (loop (fun (s:(List (List Bool) × Bool))=>lZ a b s.1 s.2) (c,true)) fun r=>sM r
def jD (o:bZ) (d:Bool) (e b:List (List Bool)) (a:Int):Option ((List (List Bool) × Int) ⊕ (List (List Bool))):=
 if (decide (a < (e.length:Int))) then (ob (eL ([d]:List Bool) o.p.N) fun f=>
 ob (ix b a) fun h=>
 ob (st b a f) fun g=>
 some (.inl (g,wr (a+1)))) else (some (.inr b))
def qC (o:bZ) (b:Bool) (d:bZ):Option (List (List Bool)):=
 ob (mkz o.t.N ([]:(List Bool))) fun c=>
 ob (loop (fun (s:(List (List Bool) × Int))=>jD o b c s.1 s.2) (c,0)) fun r=>mA b d r
def uG (o:bZ):Option (List (List Bool)):=
 ob (qC o true o) fun b=>
 some b
def oK (o:bZ):Option pV:=
 ob (sK o) fun b=>
 ob (uG o) fun c=>
 some ⟨b,c⟩
def tT (a:Int) (p:pV) (c:Int):Option Bool:=
 ob (ix p.leave a) fun d=>
 ob (ix d c) fun e=>
 some e
def lV:Option Int:=
 some (-1)
def cY (b:(List Int)) (c:pV) (d a:Int):Option (Int ⊕ (Unit ⊕ Int)):=
 if (decide (a < (b.length:Int))) then (ob (ix b a) fun e=>
 ob (tT e c d) fun f=>
 if f then (some (.inr (.inr a))) else (some (.inl (wr (a+1))))) else (some (.inr (.inl ())))
def eY (b:(List Int)) (c:pV) (d:Int):Option Int:=
 ob (loop (fun (s:Int)=>cY b c d s) 0) fun r=>match r with|.inl r=>lV|.inr r=>some r
def eG (a:(List Int)) (b:pV) (c:Int):Option Bool:=
 ob (eY a b c) fun d=>
 some (decide (0<=d))
def tU (a:Int) (p:pV) (c:Int):Option Bool:=
 ob (ix p.stay a) fun d=>
 ob (ix d c) fun e=>
 some e
def lW:Option Int:=
 some (-1)
def cZ (b:(List Int)) (c:pV) (d a:Int):Option (Int ⊕ (Unit ⊕ Int)):=
 if (decide (a < (b.length:Int))) then (ob (ix b a) fun e=>
 ob (tU e c d) fun f=>
 if f then (some (.inr (.inr a))) else (some (.inl (wr (a+1))))) else (some (.inr (.inl ())))
def eZ (b:(List Int)) (c:pV) (d:Int):Option Int:=
 ob (loop (fun (s:Int)=>cZ b c d s) 0) fun r=>match r with|.inl r=>lW|.inr r=>some r
def eH (a:(List Int)) (b:pV) (c:Int):Option Bool:=
 ob (eZ a b c) fun d=>
 some (decide (0<=d))
def jH (j:pV) (c:(List Int)) (y:Int):Option Int:=
 if (decide (y < 0)) then (some 2) else (ob (eG c j y) fun d=>
 if (!d) then (some 1) else (ob (eH c j y) fun e=>
 if (!e) then (some 2) else (some 0)))
def iZ (a:(List Int)):Option (List Int):=
 ob (tG ([]:List Int) a) fun b=>
 some b
def wA (a:List Int):Option (List Int):=
 ob (aAF a) fun b=>
 some b
def wB (a:Int) (b:List Int):Option ((List Int × Int) ⊕ (List Int)):=
 some (.inl (b,wr (a+1)))
def aBw (a:Int) (b:List Int):Option ((List Int × Int) ⊕ (List Int)):=
 wB a b
def qD (a:Int) (b:List Int):Option ((List Int × Int) ⊕ (List Int)):=
 some (.inl (b,wr (a+1)))
def mW (c:(List Int)) (a:List Int) (b:Int):Option ((List Int × Int) ⊕ (List Int)):=
 if (decide (b < (c.length:Int))) then (ob (ix c b) fun d=>
 ob (eN a d) fun e=>
 if (!e) then (ob (tG a ([d]:List Int)) fun f=>
 qD b f) else (qD b a)) else (some (.inr a))
def qG (t:aS) (a:List Int) (b:Int):Option ((List Int × Int) ⊕ (List Int)):=
 if (decide (b < (a.length:Int))) then (ob (ix a b) fun d=>
 ob (kO t ([d]:List Int) ([116,97,117]:aJ)) fun e=>
 ob (loop (fun (s:(List Int × Int))=>mW e s.1 s.2) (a,0)) fun r=>aBw b r) else (some (.inr a))
def iG (t:aS) (b:(List Int)):Option (List Int):=
 ob (iZ b) fun c=>
 ob (loop (fun (s:(List Int × Int))=>qG t s.1 s.2) (c,0)) fun r=>wA r
def oZ (a:bG):Option aJ:=
 ob (aEi a.states ([44]:aJ)) fun b=>
 ob (cat b ([32]:aJ)) fun c=>
 ob (uT a.y) fun d=>
 ob (cat c d) fun e=>
 some e
def aAl (a b:aJ):Option Int:=
 if (a == b) then (some 0) else (if (a == ([116,97,117]:aJ)) then (some (-1)) else (if (b == ([116,97,117]:aJ)) then (some 1) else (ob (aOq a b) fun e=>
 some e)))
def kQ (a:(List Edge)):Option (List Edge):=
 some a
def dP (a:Int):Option (Int ⊕ (Unit ⊕ (List Edge))):=
 some (.inl (wr (a+1)))
def gA (a:List Edge) (b:Int):Option (Int ⊕ (Unit ⊕ (List Edge))):=
 ob (pQ a b (a.length:Int)) fun c=>
 ob (ovw a b (List.replicate c.length (⟨0,0,0⟩:Edge))) fun d=>
 ob (pQ d 0 b) fun e=>
 some (.inr (.inr e))
def dQ (a:Int) (b:List Edge) (c:Int):Option ((List Edge × Int × Int) ⊕ (List Edge × Int)):=
 some (.inl (b,c,wr (a+1)))
def kR (f:Int) (e b:List Edge) (c a:Int):Option ((List Edge × Int × Int) ⊕ (List Edge × Int)):=
 if (decide (a < (e.length:Int))) then (ob (ix e a) fun i=>
 ob (ix b (f+a)) fun d=>
 ob (ix e (wr (a - 1))) fun j=>
 ob (ix b (f+(wr (a - 1)))) fun g=>
 if (!decide ((d:Edge)=g)) then (ob (ix b c) fun k=>
 ob (st b c (⟨d.F,d.B,d.To⟩:Edge)) fun h=>
 dQ a h (wr (c+1))) else (dQ a b c)) else (some (.inr (b,c)))
def cO (b:(List Edge)) (a:Int):Option (Int ⊕ (Unit ⊕ (List Edge))):=
 if (decide (a < (b.length:Int))) then (ob (ix b a) fun d=>
 ob (ix b (wr (a - 1))) fun e=>
 if (decide ((d:Edge)=e)) then (ob (pQ b a (b.length:Int)) fun f=>
 ob (loop (fun (s:(List Edge × Int × Int))=>kR a f s.1 s.2.1 s.2.2) (b,a,1)) fun r=>gA r.1 r.2) else (dP a)) else (some (.inr (.inl ())))
def dA (a:(List Edge)):Option (List Edge):=
 if (decide ((a.length:Int) < 2)) then (some a) else (ob (loop (fun (s:Int)=>cO a s) 1) fun r=>match r with|.inl r=>kQ a|.inr r=>some r)
def nM (a:(List aJ)):Option (List aJ):=
 some a
def fA (a:Int):Option (Int ⊕ (Unit ⊕ (List aJ))):=
 some (.inl (wr (a+1)))
def fB (a:List aJ) (b:Int):Option (Int ⊕ (Unit ⊕ (List aJ))):=
 ob (pQ a b (a.length:Int)) fun c=>
 ob (ovw a b (List.replicate c.length ([]:aJ))) fun d=>
 ob (pQ d 0 b) fun e=>
 some (.inr (.inr e))
def dI (a:Int) (b:List aJ) (c:Int):Option ((List aJ × Int × Int) ⊕ (List aJ × Int)):=
 some (.inl (b,c,wr (a+1)))
def dJ (e:Int) (d b:List aJ) (c a:Int):Option ((List aJ × Int × Int) ⊕ (List aJ × Int)):=
 if (decide (a < (d.length:Int))) then (ob (ix d a) fun i=>
 ob (ix b (e+a)) fun f=>
 ob (ix d (wr (a - 1))) fun j=>
 ob (ix b (e+(wr (a - 1)))) fun g=>
 if (!(f == g)) then (ob (ix b c) fun k=>
 ob (st b c (f:aJ)) fun h=>
 dI a h (wr (c+1))) else (dI a b c)) else (some (.inr (b,c)))
def dK (b:(List aJ)) (a:Int):Option (Int ⊕ (Unit ⊕ (List aJ))):=
 if (decide (a < (b.length:Int))) then (ob (ix b a) fun d=>
 ob (ix b (wr (a - 1))) fun e=>
 if (d == e) then (ob (pQ b a (b.length:Int)) fun f=>
 ob (loop (fun (s:(List aJ × Int × Int))=>dJ a f s.1 s.2.1 s.2.2) (b,a,1)) fun r=>fB r.1 r.2) else (fA a)) else (some (.inr (.inl ())))
def eF (a:(List aJ)):Option (List aJ):=
 if (decide ((a.length:Int) < 2)) then (some a) else (ob (loop (fun (s:Int)=>dK a s) 1) fun r=>match r with|.inl r=>nM a|.inr r=>some r)
def oS:Option Int:=
 some (-1)
def gB (b:(List aJ)) (c:aJ) (a:Int):Option (Int ⊕ (Unit ⊕ Int)):=
 if (decide (a < (b.length:Int))) then (ob (ix b a) fun d=>
 if (c == d) then (some (.inr (.inr a))) else (some (.inl (wr (a+1))))) else (some (.inr (.inl ())))
def dL (b:(List aJ)) (c:aJ):Option Int:=
 ob (loop (fun (s:Int)=>gB b c s) 0) fun r=>match r with|.inl r=>oS|.inr r=>some r
def aHR (a b:Int) (c:(List aJ)) (d:List Edge):Option aS:=
 ob (aAu d) fun e=>
 ob (dA e) fun f=>
 some ⟨a,b,c,f⟩
def aCG (c:(List fD)) (e:(List aJ)) (d:List Edge) (a:Int):Option ((List Edge × Int) ⊕ (List Edge)):=
 if (decide (a < (c.length:Int))) then (ob (ix c a) fun b=>
 ob (dL e b.label) fun f=>
 ob (tG d ([⟨b.from_,f,b.to_⟩]:List Edge)) fun g=>
 some (.inl (g,wr (a+1)))) else (some (.inr d))
def aEu (b c:Int) (d:(List aJ)) (e:(List fD)):Option aS:=
 ob (tG ([([116,97,117]:aJ)]:List aJ) d) fun f=>
 ob (aBY f) fun g=>
 ob (eF g) fun a=>
 ob (loop (fun (s:(List Edge × Int))=>aCG e a s.1 s.2) ([],0)) fun r=>aHR b c a r
def aJg (a:List aJ):Option (List aJ):=
 some a
def aCn (b:(List fD)) (c:List aJ) (a:Int):Option ((List aJ × Int) ⊕ (List aJ)):=
 if (decide (a < (b.length:Int))) then (ob (ix b a) fun d=>
 ob (tG c ([d.label]:List aJ)) fun e=>
 some (.inl (e,wr (a+1)))) else (some (.inr c))
def aAy (a:(List fD)):Option (List aJ):=
 ob (loop (fun (s:(List aJ × Int))=>aCn a s.1 s.2) ([],0)) fun r=>aJg r
def iJ (t:aS) (b:(List Int)) (c:aJ):Option (List Int):=
 ob (kO t b c) fun d=>
 ob (iG t d) fun e=>
 some e
def aJh (a:List fD):Option (List fD):=
 some a
def aAa (t:aS) (d:List fD) (b:Int):Option ((List fD × Int) ⊕ (List fD)):=
 if (decide (b < (t.E.length:Int))) then (ob (ix t.E b) fun c=>
 ob (ix t.L c.B) fun e=>
 ob (tG d ([⟨c.F,e,c.To⟩]:List fD)) fun f=>
 some (.inl (f,wr (b+1)))) else (some (.inr d))
def aAz (t:aS):Option (List fD):=
 ob (loop (fun (s:(List fD × Int))=>aAa t s.1 s.2) ([],0)) fun r=>aJh r
def fL (a:Int) (b:List bG) (c:(List (aJ × Int))):Option (Int × (List bG) × (List (aJ × Int))):=
 some (a,b,c)
def cP (a:(List bG)) (b:(List (aJ × Int))) (g:(List fD)) (d:bG):Option (Int × (List bG) × (List (aJ × Int))):=
 ob (oZ d) fun c=>
 if (!((vJ b c).isSome)) then (ob (some (yX b c (a.length:Int))) fun e=>
 ob (tG a ([d]:List bG)) fun f=>
 fL (a.length:Int) f e) else (fL ((vJ b c).getD 0) a b)
def lS (a:List bG) (b:(List (aJ × Int))) (c:List fD):Option ((List bG) × (List (aJ × Int)) × (List fD)):=
 some (a,b,c)
def eT (c:aJ) (d:bG) (e:(List bG)) (f:(List (aJ × Int))) (b:(List fD)) (p:Int):Option ((List bG) × (List (aJ × Int)) × (List fD)):=
 ob (cP e f b d) fun a=>
 ob (tG b ([⟨p,c,a.1⟩]:List fD)) fun h=>
 lS a.2.1 a.2.2 h
def rH (a:List bG) (b:(List (aJ × Int))) (c:List fD):Option (Bool × (List bG) × (List (aJ × Int)) × (List fD)):=
 some (true,a,b,c)
def gJ (a:Int) (b:List bG) (c:(List (aJ × Int))) (d:List fD):Option ((List bG × (List (aJ × Int)) × List fD × Int) ⊕ (List bG × (List (aJ × Int)) × List fD)):=
 some (.inl (b,c,d,wr (a+1)))
def gK (g:bG) (k:Int) (p:pV) (h:bZ) (i:List aJ) (b:List bG) (c:(List (aJ × Int))) (d:List fD) (a:Int):Option ((List bG × (List (aJ × Int)) × List fD × Int) ⊕ (List bG × (List (aJ × Int)) × List fD)):=
 if (decide (a < (i.length:Int))) then (ob (ix i a) fun e=>
 ob (iJ h.t g.states e) fun j=>
 if (decide (0 < (j.length:Int))) then (ob (lR h.p g.y e) fun l=>
 ob (eT e ⟨j,l⟩ b c d k) fun f=>
 gJ a f.1 f.2.1 f.2.2) else (gJ a b c d)) else (some (.inr (b,c,d)))
def lM (a:bG) (d:(List bG)) (e:(List (aJ × Int))) (f:(List fD)) (h:Int) (p:pV) (b:bZ):Option (Bool × (List bG) × (List (aJ × Int)) × (List fD)):=
 ob (jH p a.states a.y) fun i=>
 if (i != 0) then (some (true,d,e,f)) else (ob (pQ b.t.L 1 (b.t.L.length:Int)) fun j=>
 ob (loop (fun (s:(List bG × (List (aJ × Int)) × List fD × Int))=>gK a h p b j s.1 s.2.1 s.2.2.1 s.2.2.2) (d,e,f,0)) fun r=>rH r.1 r.2.1 r.2.2)
def kE (e:List bG) (a b:Int) (c:List aJ) (d:List Edge):Option (aS × (List bG) × Bool):=
 ob (nC ⟨a,b,c,d⟩) fun f=>
 some (⟨a,b,c,d⟩,e,f)
def gP (b:List bG) (e:(List (aJ × Int))) (c:List fD):Option (aS × (List bG) × Bool):=
 ob (aAy c) fun d=>
 ob (aEu (b.length:Int) 0 d c) fun a=>
 kE b a.N a.I a.L a.E
def gQ (b:Int) (a:(Bool × (List bG) × (List (aJ × Int)) × (List fD))) (c:Bool):Option ((List bG × (List (aJ × Int)) × List fD × Int) ⊕ ((List bG × (List (aJ × Int)) × List fD) ⊕ (aS × (List bG) × Bool))):=
 if c then (some (.inr (.inr (⟨0,0,[],[]⟩,[],false)))) else (some (.inl (a.2.1,a.2.2.1,a.2.2.2,wr (b+1))))
def bY (f:pV) (g:bZ) (b:List bG) (d:(List (aJ × Int))) (e:List fD) (a:Int):Option ((List bG × (List (aJ × Int)) × List fD × Int) ⊕ ((List bG × (List (aJ × Int)) × List fD) ⊕ (aS × (List bG) × Bool))):=
 if (decide (a < (b.length:Int))) then (ob (ix b a) fun h=>
 ob (lM h b d e a f g) fun c=>
 if (!c.1) then (gQ a c true) else (gQ a c (decide (40 < (c.2.1.length:Int))))) else (some (.inr (.inl (b,d,e))))
def gL (c:bG) (d:pV) (e:bZ):Option (aS × (List bG) × Bool):=
 ob (cP [] ([]:(List (aJ × Int))) [] c) fun b=>
 ob (loop (fun (s:(List bG × (List (aJ × Int)) × List fD × Int))=>bY d e s.1 s.2.1 s.2.2.1 s.2.2.2) (b.2.1,b.2.2,[],0)) fun r=>match r with|.inl r=>gP r.1 r.2.1 r.2.2|.inr r=>some r
def vM (a b:Int) (c:List aJ) (d:List Edge) (e:List Int):Option (aZ × Bool):=
 some (⟨⟨a,b,c,d⟩,e⟩,true)
def jB (e:pV) (b:(aS × (List bG) × Bool)) (c:List Int) (a:Int):Option ((List Int × Int) ⊕ (List Int)):=
 if (decide (a < (b.2.1.length:Int))) then (ob (ix b.2.1 a) fun d=>
 ob (jH e d.states d.y) fun f=>
 ob (tG c ([f]:List Int)) fun g=>
 some (.inl (g,wr (a+1)))) else (some (.inr c))
def pA (a:pV) (b:(aS × (List bG) × Bool)) (c d:Int) (e:List aJ) (f:List Edge):Option (aZ × Bool):=
 ob (loop (fun (s:(List Int × Int))=>jB a b s.1 s.2) ([],0)) fun r=>vM c d e f r
def pB (o:bZ) (d:pV) (e:List Int):Option (aZ × Bool):=
 ob (gL ⟨e,o.p.I⟩ d o) fun a=>
 if (!a.2.2) then (some (⟨⟨0,0,[],[]⟩,[]⟩,false)) else (ob (aAz a.1) fun f=>
 ob (aEu a.1.N 0 o.t.L f) fun b=>
 pA d a b.N b.I b.L b.E)
def oT (o:bZ):Option (aZ × Bool):=
 ob (oK o) fun b=>
 ob (iG o.t ([o.t.I]:List Int)) fun c=>
 pB o b c
def vD (t p:aS):Option (aZ × Int):=
 ob (sH t p) fun c=>
 if (c != 0) then (some (⟨⟨0,0,[],[]⟩,[]⟩,c)) else (ob (oT ⟨t,p⟩) fun d=>
 if (!d.2) then (some (⟨⟨0,0,[],[]⟩,[]⟩,5)) else (some (d.1,0)))
def aMK:Option Int:=
 some (-1)
def aGM (d:aS) (a:Int) (c:Bool):Option (Int ⊕ (Unit ⊕ Int)):=
 if c then (ob (ix d.E a) fun e=>
 some (.inr (.inr e.To))) else (some (.inl (wr (a+1))))
def aEv (d:aS) (e:Int) (f:aJ) (b:Int) (g:Bool):Option (Int ⊕ (Unit ⊕ Int)):=
 if g then (ob (ix d.E b) fun c=>
 if (c.F == e) then (ob (ix d.L c.B) fun h=>
 aGM d b (h == f)) else (aGM d b false)) else (some (.inr (.inl ())))
def wZ (d:aS) (b:Int) (e:aJ) (c:Int):Option (Int ⊕ (Unit ⊕ Int)):=
 if (decide (c < (d.E.length:Int))) then (aEv d b e c (decide (0<=b))) else (aEv d b e c false)
def aIK (d:aS) (c:Int) (e:aJ):Option Int:=
 ob (loop (fun (s:Int)=>wZ d c e s) 0) fun r=>match r with|.inl r=>aMK|.inr r=>some r
def aKh (t p:aS) (e:Edge) (q:Int):Option Int:=
 if (e.B == 0) then (some q) else (ob (ix t.L e.B) fun f=>
 ob (aIK p q f) fun g=>
 some g)
def aFQ (a:List Bool):Option (List Bool):=
 some a
def aFR (a:List Bool) (b:Bool):Option ((List Bool × Bool) ⊕ (List Bool)):=
 some (.inl (a,b))
def aJi (a:List Bool) (b:Bool):Option ((List Bool × Bool) ⊕ (List Bool)):=
 aFR a b
def aFS (a:Int) (b:List Bool) (c:Bool):Option ((List Bool × Bool × Int) ⊕ (List Bool × Bool)):=
 some (.inl (b,c,wr (a+1)))
def aJj (a:Int) (b:List Bool) (c:Bool):Option ((List Bool × Bool × Int) ⊕ (List Bool × Bool)):=
 aFS a b c
def mB (a:Int) (b:List Bool) (c:Bool):Option ((List Bool × Bool × Int) ⊕ (List Bool × Bool)):=
 some (.inl (b,c,wr (a+1)))
def rI (p:aS) (d:Edge) (b:List Bool) (e:Bool) (a:Int) (f:Bool):Option ((List Bool × Bool × Int) ⊕ (List Bool × Bool)):=
 if f then (ob (st b (wr ((wr (d.F * p.N))+a)) (true:Bool)) fun g=>
 mB a g true) else (mB a b e)
def vE (t p:aS) (d:Edge) (b:List Bool) (e:Bool) (c:Int):Option ((List Bool × Bool × Int) ⊕ (List Bool × Bool)):=
 if (decide (c < p.N)) then (ob (ix b (wr ((wr (d.F * p.N))+c))) fun h=>
 if h then (mB c b e) else (ob (aKh t p d c) fun f=>
 if (decide (f < 0)) then (rI p d b e c true) else (ob (ix b (wr ((wr (d.To * p.N))+f))) fun i=>
 rI p d b e c i))) else (some (.inr (b,e)))
def aAb (t p:aS) (c:List Bool) (d:Bool) (b:Int):Option ((List Bool × Bool × Int) ⊕ (List Bool × Bool)):=
 if (decide (b < (t.E.length:Int))) then (ob (ix t.E b) fun g=>
 ob (loop (fun (s:(List Bool × Bool × Int))=>vE t p g s.1 s.2.1 s.2.2) (c,d,0)) fun r=>aJj b r.1 r.2) else (some (.inr (c,d)))
def aBx (t p:aS) (a:List Bool) (e:Bool):Option ((List Bool × Bool) ⊕ (List Bool)):=
 if e then (ob (loop (fun (s:(List Bool × Bool × Int))=>aAb t p s.1 s.2.1 s.2.2) (a,false,0)) fun r=>aJi r.1 r.2) else (some (.inr a))
def aEw (t p:aS):Option (List Bool):=
 ob (mkz (wr (t.N * p.N)) (false:Bool)) fun c=>
 ob (loop (fun (s:(List Bool × Bool))=>aBx t p s.1 s.2) (c,true)) fun r=>aFQ r
def aHS (a:List Edge):Option (List Edge):=
 some a
def aCH (a:Int) (b:List Edge):Option ((List Edge × Int) ⊕ (List Edge)):=
 some (.inl (b,wr (a+1)))
def aCI (t:aS) (k:Int) (b:List Edge) (a:Int):Option ((List Edge × Int) ⊕ (List Edge)):=
 if (decide (a < (t.E.length:Int))) then (ob (ix t.E a) fun d=>
 if (d.F == k) then (ob (tG b ([d]:List Edge)) fun f=>
 aCH a f) else (aCH a b)) else (some (.inr b))
def aHT (t:aS) (k:Int):Option (List Edge):=
 ob (loop (fun (s:(List Edge × Int))=>aCI t k s.1 s.2) (([]:List Edge),0)) fun r=>aHS r
def aGN (a:List Bool):Option (List Bool):=
 some a
def aGO (a:List Bool) (b:Bool):Option ((List Bool × Bool) ⊕ (List Bool)):=
 some (.inl (a,b))
def aKi (a:List Bool) (b:Bool):Option ((List Bool × Bool) ⊕ (List Bool)):=
 aGO a b
def aDG (a:Int) (b:List Bool) (c:Bool):Option ((List Bool × Bool × Int) ⊕ (List Bool × Bool)):=
 some (.inl (b,c,wr (a+1)))
def aGP (a:Int) (b:List Bool) (c:Bool):Option ((List Bool × Bool × Int) ⊕ (List Bool × Bool)):=
 aDG a b c
def nU (a:Int) (b:List Bool) (c:Bool):Option ((List Bool × Bool × Int) ⊕ (List Bool × Bool)):=
 some (.inl (b,c,wr (a+1)))
def aBy (p:aS) (d:Int) (b:List Bool) (e:Bool) (a:Int) (f:Bool):Option ((List Bool × Bool × Int) ⊕ (List Bool × Bool)):=
 if (!f) then (ob (ix b (wr ((wr (d * p.N))+a))) fun h=>
 ob (st b (wr ((wr (d * p.N))+a)) (false:Bool)) fun g=>
 nU a g true) else (nU a b e)
def xV (a:Int) (b:Bool):Option ((Bool × Int) ⊕ Bool):=
 some (.inl (b,wr (a+1)))
def xW (t p:aS) (c:(List Edge)) (h:List Bool) (i:Int) (d:Bool) (a:Int):Option ((Bool × Int) ⊕ Bool):=
 if (decide (a < (c.length:Int))) then (ob (ix c a) fun e=>
 ob (aKh t p e i) fun f=>
 if d then (xV a true) else (if (decide (0<=f)) then (ob (ix h (wr ((wr (e.To * p.N))+f))) fun j=>
 xV a j) else (xV a false))) else (some (.inr d))
def vF (t p:aS) (f:Int) (g:(List Edge)) (a:List Bool) (d:Bool) (b:Int) (h:Bool):Option ((List Bool × Bool × Int) ⊕ (List Bool × Bool)):=
 if h then (nU b a d) else (ob (loop (fun (s:(Bool × Int))=>xW t p g a b s.1 s.2) (false,0)) fun r=>aBy p f a d b r)
def aAc (t p:aS) (d:Int) (e:(List Edge)) (b:List Bool) (f:Bool) (c:Int):Option ((List Bool × Bool × Int) ⊕ (List Bool × Bool)):=
 if (decide (c < p.N)) then (ob (ix b (wr ((wr (d * p.N))+c))) fun h=>
 if (!h) then (vF t p d e b f c true) else (vF t p d e b f c ((e.length:Int) == 0))) else (some (.inr (b,f)))
def aAd (t p:aS) (c:List Bool) (d:Bool) (a:Int):Option ((List Bool × Bool × Int) ⊕ (List Bool × Bool)):=
 if (decide (a < t.N)) then (ob (aHT t a) fun g=>
 ob (loop (fun (s:(List Bool × Bool × Int))=>aAc t p a g s.1 s.2.1 s.2.2) (c,d,0)) fun r=>aGP a r.1 r.2) else (some (.inr (c,d)))
def aCo (t p:aS) (a:List Bool) (e:Bool):Option ((List Bool × Bool) ⊕ (List Bool)):=
 if e then (ob (loop (fun (s:(List Bool × Bool × Int))=>aAd t p s.1 s.2.1 s.2.2) (a,false,0)) fun r=>aKi r.1 r.2) else (some (.inr a))
def aCp (t p:aS) (c:List Bool):Option (List Bool):=
 ob (loop (fun (s:(List Bool × Bool))=>aCo t p s.1 s.2) (c,true)) fun r=>aGN r
def aAe (a:List Bool) (b:Int):Option ((List Bool × Int) ⊕ (List Bool)):=
 if (decide (b < (a.length:Int))) then (ob (ix a b) fun d=>
 ob (st a b (true:Bool)) fun c=>
 some (.inl (c,wr (b+1)))) else (some (.inr a))
def aGn (t p:aS):Option (List Bool):=
 ob (mkz (wr (t.N * p.N)) (false:Bool)) fun c=>
 ob (loop (fun (s:(List Bool × Int))=>aAe s.1 s.2) (c,0)) fun r=>aCp t p r
def aCV (a b:Bool):Option Int:=
 if (!a) then (some 1) else (if (!b) then (some 2) else (some 0))
def uH (a:Int) (b c:Bool):Option ((Bool × Bool × Int) ⊕ (Bool × Bool)):=
 some (.inl (b,c,wr (a+1)))
def uI (p:aS) (d:(List Bool)) (e:(List Int)) (q:Int) (g:Bool) (a:Int) (b:Bool):Option ((Bool × Bool × Int) ⊕ (Bool × Bool)):=
 if g then (uH a b true) else (ob (ix e a) fun h=>
 ob (ix d (wr ((wr (h * p.N))+q))) fun i=>
 uH a b i)
def pO (p:aS) (h f:(List Bool)) (a:(List Int)) (q:Int) (g e:Bool) (b:Int):Option ((Bool × Bool × Int) ⊕ (Bool × Bool)):=
 if (decide (b < (a.length:Int))) then (if g then (uI p f a q e b true) else (ob (ix a b) fun i=>
 ob (ix h (wr ((wr (i * p.N))+q))) fun j=>
 uI p f a q e b j)) else (some (.inr (g,e)))
def aBz (p:aS) (d e:(List Bool)) (f:(List Int)) (q:Int):Option Int:=
 if (decide (q < 0)) then (some 2) else (ob (loop (fun (s:(Bool × Bool × Int))=>pO p d e f q s.1 s.2.1 s.2.2) (false,false,0)) fun r=>aCV r.1 r.2)
def xX (t:aS) (b:List (List Int)) (c:List Int) (d:List Edge):Option (aZ × Bool):=
 ob (tG ([]:List aJ) t.L) fun e=>
 some (⟨⟨(b.length:Int),0,e,d⟩,c⟩,true)
def aDH (a:Int) (b:List (List Int)) (c d:List Int) (e:List Edge):Option ((List (List Int) × List Int × List Int × List Edge × Int) ⊕ ((List (List Int) × List Int × List Edge) ⊕ (aZ × Bool))):=
 some (.inl (b,c,d,e,wr (a+1)))
def aGQ (a:Int) (b:List Int) (c:List (List Int)) (d:List Int) (e:List Edge):Option ((List (List Int) × List Int × List Int × List Edge × Int) ⊕ ((List (List Int) × List Int × List Edge) ⊕ (aZ × Bool))):=
 aDH a c d b e
def xY (a:Int) (b:List (List Int)) (c:List Int) (d:List Edge):Option ((List (List Int) × List Int × List Edge × Int) ⊕ ((List (List Int) × List Int × List Edge) ⊕ (aZ × Bool))):=
 some (.inl (b,c,d,wr (a+1)))
def aDI (a:Int) (b:List (List Int)) (c:List Int) (d:List Edge) (e:Bool):Option ((List (List Int) × List Int × List Edge × Int) ⊕ ((List (List Int) × List Int × List Edge) ⊕ (aZ × Bool))):=
 if e then (some (.inr (.inr (⟨⟨0,0,[],[]⟩,[]⟩,false)))) else (xY a b c d)
def aBA (e:Int) (f:List Edge) (a:Int) (b:List (List Int)) (d:List Int) (g:Int):Option ((List (List Int) × List Int × List Edge × Int) ⊕ ((List (List Int) × List Int × List Edge) ⊕ (aZ × Bool))):=
 ob (tG f ([⟨e,a,g⟩]:List Edge)) fun c=>
 if (decide (40 < (b.length:Int))) then (aDI a b d c true) else (aDI a b d c (decide (300 < (c.length:Int))))
def xZ (b:Int) (a:List (List Int)) (c:List Int) (d:List Edge) (e:Int) (g:(List Int)) (h f:Int):Option ((List (List Int) × List Int × List Edge × Int) ⊕ ((List (List Int) × List Int × List Edge) ⊕ (aZ × Bool))):=
 if (decide (f < 0)) then (ob (tG a ([g]:List (List Int))) fun i=>
 ob (tG c ([h]:List Int)) fun j=>
 aBA b d e i j (a.length:Int)) else (aBA b d e a c f)
def aBB (a b:Int):Option ((Int × Int) ⊕ Int):=
 some (.inl (b,wr (a+1)))
def aDJ (b a:Int) (c:Bool):Option ((Int × Int) ⊕ Int):=
 if c then (aBB a a) else (aBB a b)
def nZ (c:List (List Int)) (d:List Int) (e:(List Int)) (f b a:Int):Option ((Int × Int) ⊕ Int):=
 if (decide (a < (c.length:Int))) then (ob (ix d a) fun g=>
 if (g == f) then (ob (ix c a) fun h=>
 ob (aDU h e) fun i=>
 aDJ b a i) else (aDJ b a false)) else (some (.inr b))
def rJ (t p:aS) (d:Int) (a:List (List Int)) (b:List Int) (e:List Edge) (c:Int) (j:Bool):Option ((List (List Int) × List Int × List Edge × Int) ⊕ ((List (List Int) × List Int × List Edge) ⊕ (aZ × Bool))):=
 if j then (ob (ix a d) fun k=>
 ob (xR t k c) fun f=>
 if ((f.length:Int) == 0) then (xY c a b e) else (ob (ix b d) fun l=>
 ob (ix t.L c) fun m=>
 ob (aIK p l m) fun h=>
 ob (loop (fun (s:(Int × Int))=>nZ a b f h s.1 s.2) ((-1),0)) fun r=>xZ d a b e c f h r)) else (some (.inr (.inl (a,b,e))))
def rK (t p:aS) (d h:Int) (e:List (List Int)) (f:List Int) (g:List Edge) (b:Int):Option ((List (List Int) × List Int × List Edge × Int) ⊕ ((List (List Int) × List Int × List Edge) ⊕ (aZ × Bool))):=
 if (decide (b < (t.L.length:Int))) then (rJ t p d e f g b (h == 0)) else (rJ t p d e f g b false)
def kJ (t p:aS) (j k:(List Bool)) (c:List (List Int)) (e f:List Int) (g:List Edge) (b:Int):Option ((List (List Int) × List Int × List Int × List Edge × Int) ⊕ ((List (List Int) × List Int × List Edge) ⊕ (aZ × Bool))):=
 if (decide (b < (c.length:Int))) then (ob (ix c b) fun l=>
 ob (ix e b) fun m=>
 ob (aBz p j k l m) fun h=>
 ob (tG f ([h]:List Int)) fun n=>
 ob (loop (fun (s:(List (List Int) × List Int × List Edge × Int))=>rK t p b h s.1 s.2.1 s.2.2.1 s.2.2.2) (c,e,g,1)) fun r=>match r with|.inl r=>aGQ b n r.1 r.2.1 r.2.2|.inr r=>some (.inr (.inr r))) else (some (.inr (.inl (c,f,g))))
def aGo (t p:aS):Option (aZ × Bool):=
 ob (aEw t p) fun d=>
 ob (aGn t p) fun e=>
 ob (tO t) fun f=>
 ob (loop (fun (s:(List (List Int) × List Int × List Int × List Edge × Int))=>kJ t p d e s.1 s.2.1 s.2.2.1 s.2.2.2.1 s.2.2.2.2) (([f]:List (List Int)),([p.I]:List Int),[],([]:List Edge),0)) fun r=>match r with|.inl r=>xX t r.1 r.2.1 r.2.2|.inr r=>some r
def vG (t p:aS):Option (aZ × Int):=
 ob (aBq t p) fun c=>
 if (c != 0) then (some (⟨⟨0,0,[],[]⟩,[]⟩,c)) else (ob (aGo t p) fun d=>
 if (!d.2) then (some (⟨⟨0,0,[],[]⟩,[]⟩,5)) else (some (d.1,0)))
def aBC (a:Int):Option Bool:=
 ob (uD a 0 2) fun b=>
 some (!b)
def lX:Option Int:=
 some (-1)
def dB (b:(List Int)) (a:Int):Option (Int ⊕ (Unit ⊕ Int)):=
 if (decide (a < (b.length:Int))) then (ob (ix b a) fun c=>
 ob (aBC c) fun d=>
 if d then (some (.inr (.inr a))) else (some (.inl (wr (a+1))))) else (some (.inr (.inl ())))
def fC (b:(List Int)):Option Int:=
 ob (loop (fun (s:Int)=>dB b s) 0) fun r=>match r with|.inl r=>lX|.inr r=>some r
def eI (a:(List Int)):Option Bool:=
 ob (fC a) fun b=>
 some (decide (0<=b))
def aBD (e:Edge) (p:aZ):Option Bool:=
 ob (ix p.Verdicts e.F) fun c=>
 some (c != 0)
def jY:Option Int:=
 some (-1)
def cH (b:(List Edge)) (c:aZ) (a:Int):Option (Int ⊕ (Unit ⊕ Int)):=
 if (decide (a < (b.length:Int))) then (ob (ix b a) fun d=>
 ob (aBD d c) fun e=>
 if e then (some (.inr (.inr a))) else (some (.inl (wr (a+1))))) else (some (.inr (.inl ())))
def dW (b:(List Edge)) (c:aZ):Option Int:=
 ob (loop (fun (s:Int)=>cH b c s) 0) fun r=>match r with|.inl r=>jY|.inr r=>some r
def dD (a:(List Edge)) (b:aZ):Option Bool:=
 ob (dW a b) fun c=>
 some (decide (0<=c))
def qH (m:aZ) (b:Bool):Option Bool:=
 if b then (some false) else (ob (eI m.Verdicts) fun c=>
 if c then (some false) else (ob (dD m.S.E m) fun d=>
 some (!d)))
def jE (m:aZ):Option Bool:=
 ob (jU m.S) fun b=>
 if (!b) then (qH m true) else (qH m ((m.Verdicts.length:Int) != m.S.N))
def aLB (a:List Int):Option (List Int):=
 some a
def aCJ (b:List Int) (a:Int) (c:(List (Int × Int))) (d:Int):Option (((List (Int × Int)) × List Int × Int) ⊕ (List Int)):=
 ob (ix b a) fun f=>
 ob (st b a (d:Int)) fun e=>
 some (.inl (c,e,wr (a+1)))
def tJ (e:(List Int)) (a:(List (Int × Int))) (c:List Int) (b:Int):Option (((List (Int × Int)) × List Int × Int) ⊕ (List Int)):=
 if (decide (b < (e.length:Int))) then (ob (ix e b) fun d=>
 if (!((vJ a d).isSome)) then (ob (some (yX a d (a.length:Int))) fun f=>
 aCJ c b f (a.length:Int)) else (aCJ c b a ((vJ a d).getD 0))) else (some (.inr c))
def aGp (a:(List Int)):Option (List Int):=
 ob (mkz (a.length:Int) (0:Int)) fun b=>
 ob (loop (fun (s:((List (Int × Int)) × List Int × Int))=>tJ a s.1 s.2.1 s.2.2) (([]:(List (Int × Int))),b,0)) fun r=>aLB r
def qI:Option Bool:=
 some true
def gR (b c:(List Int)) (a:Int):Option (Int ⊕ (Unit ⊕ Bool)):=
 if (decide (a < (b.length:Int))) then (ob (ix b a) fun d=>
 ob (ix c a) fun e=>
 if (d != e) then (some (.inr (.inr false))) else (some (.inl (wr (a+1))))) else (some (.inr (.inl ())))
def eE (b c:(List Int)):Option Bool:=
 if ((b.length:Int) != (c.length:Int)) then (some false) else (ob (loop (fun (s:Int)=>gR b c s) 0) fun r=>match r with|.inl r=>qI|.inr r=>some r)
def aCW (k p:(List Int)):Option Bool:=
 ob (eE k p) fun c=>
 some c
def lN:Option Int:=
 some (-1)
def bW (b:(List (List Int))) (c:(List Int)) (a:Int):Option (Int ⊕ (Unit ⊕ Int)):=
 if (decide (a < (b.length:Int))) then (ob (ix b a) fun d=>
 ob (aCW d c) fun e=>
 if e then (some (.inr (.inr a))) else (some (.inl (wr (a+1))))) else (some (.inr (.inl ())))
def dE (b:(List (List Int))) (c:(List Int)):Option Int:=
 ob (loop (fun (s:Int)=>bW b c s) 0) fun r=>match r with|.inl r=>lN|.inr r=>some r
def aCX (a:List Int):Option (List Int):=
 ob (aGp a) fun b=>
 some b
def aAm (a:List Int) (b c:Int):Option ((List Int × Int) ⊕ (List Int)):=
 ob (tG a ([c]:List Int)) fun d=>
 some (.inl (d,wr (b+1)))
def lE (b:(List (List Int))) (c:List Int) (a:Int):Option ((List Int × Int) ⊕ (List Int)):=
 if (decide (a < (b.length:Int))) then (ob (ix b a) fun e=>
 ob (pQ b 0 a) fun f=>
 ob (dE f e) fun d=>
 if (decide (d < 0)) then (aAm c a a) else (aAm c a d)) else (some (.inr c))
def aBE (a:(List (List Int))):Option (List Int):=
 ob (loop (fun (s:(List Int × Int))=>lE a s.1 s.2) ([],0)) fun r=>aCX r
def qJ (k:Int) (p:(List Int)):Option aJ:=
 ob (ix p k) fun c=>
 ob (uT c) fun d=>
 some d
def nE (a:Int) (b:List Int) (c:(List (aJ × Int))):Option (Int × (List Int) × (List (aJ × Int))):=
 some (a,b,c)
def eJ (a:(List Int)) (b:(List (aJ × Int))) (h:(List fD)) (e:(List Int)) (d:Int):Option (Int × (List Int) × (List (aJ × Int))):=
 ob (qJ d e) fun c=>
 if (!((vJ b c).isSome)) then (ob (some (yX b c (a.length:Int))) fun f=>
 ob (tG a ([d]:List Int)) fun g=>
 nE (a.length:Int) g f) else (nE ((vJ b c).getD 0) a b)
def sQ (a:List Int) (b:(List (aJ × Int))) (c:List fD):Option ((List Int) × (List (aJ × Int)) × (List fD)):=
 some (a,b,c)
def mJ (c:aJ) (d:Int) (e:(List Int)) (f:(List (aJ × Int))) (b:(List fD)) (g:(List Int)) (p:Int):Option ((List Int) × (List (aJ × Int)) × (List fD)):=
 ob (eJ e f b g d) fun a=>
 ob (tG b ([⟨p,c,a.1⟩]:List fD)) fun i=>
 sQ a.2.1 a.2.2 i
def sS (a:List Int) (b:(List (aJ × Int))) (c:List fD):Option (Bool × (List Int) × (List (aJ × Int)) × (List fD)):=
 some (true,a,b,c)
def gW (h:(List Int)) (i:Int) (p:aS) (c:(List Edge)) (d:List Int) (e:(List (aJ × Int))) (f:List fD) (a:Int):Option ((List Int × (List (aJ × Int)) × List fD × Int) ⊕ (List Int × (List (aJ × Int)) × List fD)):=
 if (decide (a < (c.length:Int))) then (ob (ix c a) fun g=>
 ob (ix p.L g.B) fun k=>
 ob (mJ k g.To d e f h i) fun b=>
 some (.inl (b.1,b.2.1,b.2.2,wr (a+1)))) else (some (.inr (d,e,f)))
def mK (k:Int) (d:(List Int)) (e:(List (aJ × Int))) (f:(List fD)) (g:(List Int)) (h:Int) (p:aS):Option (Bool × (List Int) × (List (aJ × Int)) × (List fD)):=
 ob (pL p k) fun i=>
 ob (loop (fun (s:(List Int × (List (aJ × Int)) × List fD × Int))=>gW g h p i s.1 s.2.1 s.2.2.1 s.2.2.2) (d,e,f,0)) fun r=>sS r.1 r.2.1 r.2.2
def qK (e:List Int) (a b:Int) (c:List aJ) (d:List Edge):Option (aS × (List Int) × Bool):=
 ob (nC ⟨a,b,c,d⟩) fun f=>
 some (⟨a,b,c,d⟩,e,f)
def mL (b:List Int) (e:(List (aJ × Int))) (c:List fD):Option (aS × (List Int) × Bool):=
 ob (aAy c) fun d=>
 ob (aEu (b.length:Int) 0 d c) fun a=>
 qK b a.N a.I a.L a.E
def qL (b:Int) (a:(Bool × (List Int) × (List (aJ × Int)) × (List fD))) (c:Bool):Option ((List Int × (List (aJ × Int)) × List fD × Int) ⊕ ((List Int × (List (aJ × Int)) × List fD) ⊕ (aS × (List Int) × Bool))):=
 if c then (some (.inr (.inr (⟨0,0,[],[]⟩,[],false)))) else (some (.inl (a.2.1,a.2.2.1,a.2.2.2,wr (b+1))))
def dU (f:(List Int)) (g:aS) (b:List Int) (d:(List (aJ × Int))) (e:List fD) (a:Int):Option ((List Int × (List (aJ × Int)) × List fD × Int) ⊕ ((List Int × (List (aJ × Int)) × List fD) ⊕ (aS × (List Int) × Bool))):=
 if (decide (a < (b.length:Int))) then (ob (ix b a) fun h=>
 ob (mK h b d e f a g) fun c=>
 if (!c.1) then (qL a c true) else (qL a c (decide (40 < (c.2.1.length:Int))))) else (some (.inr (.inl (b,d,e))))
def qM (d:Int) (b:(List Int)) (e:aS):Option (aS × (List Int) × Bool):=
 ob (eJ [] ([]:(List (aJ × Int))) [] b d) fun c=>
 ob (loop (fun (s:(List Int × (List (aJ × Int)) × List fD × Int))=>dU b e s.1 s.2.1 s.2.2.1 s.2.2.2) (c.2.1,c.2.2,[],0)) fun r=>match r with|.inl r=>mL r.1 r.2.1 r.2.2|.inr r=>some r
def qN (t:aS) (c:List Int):Option (aS × (List Int)):=
 ob (qM t.I c t) fun b=>
 some (b.1,b.2.1)
def qO (a:List Int):Option ((List Int) ⊕ (List Int)):=
 some (.inl a)
def qP (a:List Int) (c:List (List Int)):Option ((List Int) ⊕ (List Int)):=
 ob (aBE c) fun b=>
 ob (eE b a) fun d=>
 if d then (some (.inr a)) else (qO b)
def qQ (a:Int) (b:List (List Int)):Option ((List (List Int) × Int) ⊕ (List (List Int))):=
 some (.inl (b,wr (a+1)))
def qR (a:List (List Int)) (b:Int) (c:List Int):Option ((List (List Int) × Int) ⊕ (List (List Int))):=
 ob (tG a ([c]:List (List Int))) fun d=>
 qQ b d
def qS (a:List Int) (b c:Int):Option ((List Int × Int) ⊕ (List Int)):=
 ob (tG a ([c]:List Int)) fun d=>
 some (.inl (d,wr (b+1)))
def fV (t:aS) (f:List Int) (g:Int) (c:List aJ) (b:List Int) (a:Int):Option ((List Int × Int) ⊕ (List Int)):=
 if (decide (a < (c.length:Int))) then (ob (ix c a) fun h=>
 ob (lR t g h) fun d=>
 if (decide (0<=d)) then (ob (ix f d) fun i=>
 qS b a i) else (qS b a (-1))) else (some (.inr b))
def eO (t:aS) (c:List Int) (d:List (List Int)) (b:Int):Option ((List (List Int) × Int) ⊕ (List (List Int))):=
 if (decide (b < t.N)) then (ob (ix c b) fun e=>
 ob (pQ t.L 1 (t.L.length:Int)) fun f=>
 ob (loop (fun (s:(List Int × Int))=>fV t c b f s.1 s.2) (([e]:List Int),0)) fun r=>qR d b r) else (some (.inr d))
def jZ (t:aS) (a:List Int):Option ((List Int) ⊕ (List Int)):=
 ob (loop (fun (s:(List (List Int) × Int))=>eO t a s.1 s.2) ([],0)) fun r=>qP a r
def qT (t:aS) (b:(List Int)):Option (aS × (List Int)):=
 ob (aGp b) fun c=>
 ob (loop (fun (s:List Int)=>jZ t s) c) fun r=>qN t r
def aDj (a:(aS × (List Int))) (b:List Int):Option (aZ × Int):=
 some (⟨⟨a.1.N,a.1.I,a.1.L,a.1.E⟩,b⟩,0)
def iV (m:aZ) (b:(aS × (List Int))) (c:List Int) (a:Int):Option ((List Int × Int) ⊕ (List Int)):=
 if (decide (a < (b.2.length:Int))) then (ob (ix b.2 a) fun e=>
 ob (ix m.Verdicts e) fun f=>
 ob (tG c ([f]:List Int)) fun g=>
 some (.inl (g,wr (a+1)))) else (some (.inr c))
def oL (m:aZ):Option (aZ × Int):=
 ob (jE m) fun c=>
 if (!c) then (some (⟨⟨0,0,[],[]⟩,[]⟩,1)) else (ob (qT m.S m.Verdicts) fun b=>
 ob (loop (fun (s:(List Int × Int))=>iV m b s.1 s.2) ([],0)) fun r=>aDj b r)
def oA (a:List aJ):Option (List aJ):=
 some a
def bL (b:(List (List aJ))) (c:List aJ) (a:Int):Option ((List aJ × Int) ⊕ (List aJ)):=
 if (decide (a < (b.length:Int))) then (ob (ix b a) fun d=>
 ob (tG c d) fun e=>
 some (.inl (e,wr (a+1)))) else (some (.inr c))
def fM (a:(List (List aJ))) (b:Int):Option (List aJ):=
 ob (aIC [] b) fun c=>
 ob (loop (fun (s:(List aJ × Int))=>bL a s.1 s.2) (c,0)) fun r=>oA r
def dV (a b:Int):Option ((Int × Int) ⊕ Int):=
 some (.inl (b,wr (a+1)))
def aX (c:(List (List aJ))) (a b:Int):Option ((Int × Int) ⊕ Int):=
 if (decide (b < (c.length:Int))) then (ob (ix c b) fun d=>
 if (decide (wr (a+(d.length:Int)) < 0)) then (none) else (dV b (wr (a+(d.length:Int))))) else (some (.inr a))
def cQ (a:(List (List aJ))):Option (List aJ):=
 ob (loop (fun (s:(Int × Int))=>aX a s.1 s.2) (0,0)) fun r=>fM a r
def mM (a:Bool):Option Bool:=
 some a
def qU (p q:Int) (c d:aZ):Option Bool:=
 if (decide (p < 0)) then (mM true) else (if (decide (q < 0)) then (mM true) else (ob (ix c.Verdicts p) fun e=>
 ob (ix d.Verdicts q) fun f=>
 mM (e != f)))
def dM (a:(List aJ)):Option (List aJ):=
 ob (tG ([]:List aJ) a) fun b=>
 some b
def aHk:Option ((List aJ) × Bool):=
 some ([],false)
def aAn (a:(List ((Int × Int) × Bool))) (b:List aN):Option (((List ((Int × Int) × Bool)) × List aN) ⊕ (Unit ⊕ ((List aJ) × Bool))):=
 some (.inl (a,b))
def aCY (a:(List ((Int × Int) × Bool))) (b:List aN):Option (((List ((Int × Int) × Bool)) × List aN) ⊕ (Unit ⊕ ((List aJ) × Bool))):=
 aAn a b
def aAo (a:Int) (b:List aN):Option ((List aN × Int) ⊕ (List aN)):=
 some (.inl (b,wr (a+1)))
def lF (a b:aS) (f:List aJ) (c:aN) (g:List aN) (d:Int):Option ((List aN × Int) ⊕ (List aN)):=
 if (decide (d < (f.length:Int))) then (ob (ix f d) fun e=>
 ob (lR a c.a e) fun j=>
 ob (lR b c.b e) fun k=>
 ob (dM c.trace) fun l=>
 ob (tG l ([e]:List aJ)) fun m=>
 ob (tG g ([⟨j,k,m⟩]:List aN)) fun n=>
 aAo d n) else (some (.inr g))
def lG (a b:aS) (h i:aZ) (j:List aJ) (d:(List ((Int × Int) × Bool))) (c:aN) (e:List aN) (k:Bool):Option (((List ((Int × Int) × Bool)) × List aN) ⊕ (Unit ⊕ ((List aJ) × Bool))):=
 if k then (aAn d e) else (ob (some (yX d ⟨c.a,c.b⟩ true)) fun l=>
 ob (qU c.a c.b h i) fun m=>
 if m then (some (.inr (.inr (c.trace,true)))) else (ob (loop (fun (s:(List aN × Int))=>lF a b j c s.1 s.2) (e,0)) fun r=>aCY l r))
def gH (a b:aS) (h i:aZ) (j:List aJ) (d:(List ((Int × Int) × Bool))) (e:List aN):Option (((List ((Int × Int) × Bool)) × List aN) ⊕ (Unit ⊕ ((List aJ) × Bool))):=
 if (decide (0 < (e.length:Int))) then (ob (ix e 0) fun c=>
 ob (pQ e 1 (e.length:Int)) fun k=>
 if (decide (c.a < 0)) then (if (decide (c.b < 0)) then (lG a b h i j d c k true) else (lG a b h i j d c k ((vJ d ⟨c.a,c.b⟩).getD false))) else (lG a b h i j d c k ((vJ d ⟨c.a,c.b⟩).getD false))) else (some (.inr (.inl ())))
def aBF (a b:aS) (g h:aZ):Option ((List aJ) × Bool):=
 ob (cQ ([a.L,b.L]:List (List aJ))) fun i=>
 ob (aEu 1 0 i []) fun f=>
 ob (pQ f.L 1 (f.L.length:Int)) fun j=>
 ob (loop (fun (s:((List ((Int × Int) × Bool)) × List aN))=>gH a b g h j s.1 s.2) (([]:(List ((Int × Int) × Bool))),([⟨a.I,b.I,[]⟩]:List aN))) fun r=>match r with|.inl r=>aHk|.inr r=>some r
def qV (a b:aZ) (f:Bool):Option (Bool × (List aJ) × Int):=
 if f then (some (false,[],1)) else (ob (aBF a.S b.S a b) fun e=>
 some (!e.2,e.1,0))
def sT (a b:aZ):Option (Bool × (List aJ) × Int):=
 ob (jE a) fun e=>
 if (!e) then (qV a b true) else (ob (jE b) fun f=>
 qV a b (!f))
def qW (a:(List Int)):Option aJ:=
 ob (aEi a ([44]:aJ)) fun b=>
 some b
def lT (a:Int) (b:List (List Int)) (c:(List (aJ × Int))):Option (Int × (List (List Int)) × (List (aJ × Int))):=
 some (a,b,c)
def dR (a:(List (List Int))) (b:(List (aJ × Int))) (g:(List fD)) (d:(List Int)):Option (Int × (List (List Int)) × (List (aJ × Int))):=
 ob (qW d) fun c=>
 if (!((vJ b c).isSome)) then (ob (some (yX b c (a.length:Int))) fun e=>
 ob (tG a ([d]:List (List Int))) fun f=>
 lT (a.length:Int) f e) else (lT ((vJ b c).getD 0) a b)
def pF (a:List (List Int)) (b:(List (aJ × Int))) (c:List fD):Option ((List (List Int)) × (List (aJ × Int)) × (List fD)):=
 some (a,b,c)
def kU (c:aJ) (d:(List Int)) (e:(List (List Int))) (f:(List (aJ × Int))) (b:(List fD)) (p:Int):Option ((List (List Int)) × (List (aJ × Int)) × (List fD)):=
 ob (dR e f b d) fun a=>
 ob (tG b ([⟨p,c,a.1⟩]:List fD)) fun h=>
 pF a.2.1 a.2.2 h
def sU (a:List (List Int)) (b:(List (aJ × Int))) (c:List fD):Option (Bool × (List (List Int)) × (List (aJ × Int)) × (List fD)):=
 some (true,a,b,c)
def gX (a:Int) (b:List (List Int)) (c:(List (aJ × Int))) (d:List fD):Option ((List (List Int) × (List (aJ × Int)) × List fD × Int) ⊕ (List (List Int) × (List (aJ × Int)) × List fD)):=
 some (.inl (b,c,d,wr (a+1)))
def gY (i:(List Int)) (j:Int) (p:aS) (f:List aJ) (b:List (List Int)) (c:(List (aJ × Int))) (d:List fD) (a:Int):Option ((List (List Int) × (List (aJ × Int)) × List fD × Int) ⊕ (List (List Int) × (List (aJ × Int)) × List fD)):=
 if (decide (a < (f.length:Int))) then (ob (ix f a) fun g=>
 ob (iJ p i g) fun h=>
 if (decide (0 < (h.length:Int))) then (ob (kU g h b c d j) fun e=>
 gX a e.1 e.2.1 e.2.2) else (gX a b c d)) else (some (.inr (b,c,d)))
def mN (c:(List Int)) (d:(List (List Int))) (e:(List (aJ × Int))) (f:(List fD)) (g:Int) (p:aS):Option (Bool × (List (List Int)) × (List (aJ × Int)) × (List fD)):=
 ob (pQ p.L 1 (p.L.length:Int)) fun h=>
 ob (loop (fun (s:(List (List Int) × (List (aJ × Int)) × List fD × Int))=>gY c g p h s.1 s.2.1 s.2.2.1 s.2.2.2) (d,e,f,0)) fun r=>sU r.1 r.2.1 r.2.2
def nV (e:List (List Int)) (a b:Int) (c:List aJ) (d:List Edge):Option (aS × (List (List Int)) × Bool):=
 ob (nC ⟨a,b,c,d⟩) fun f=>
 some (⟨a,b,c,d⟩,e,f)
def kV (b:List (List Int)) (e:(List (aJ × Int))) (c:List fD):Option (aS × (List (List Int)) × Bool):=
 ob (aAy c) fun d=>
 ob (aEu (b.length:Int) 0 d c) fun a=>
 nV b a.N a.I a.L a.E
def kX (b:Int) (a:(Bool × (List (List Int)) × (List (aJ × Int)) × (List fD))) (c:Bool):Option ((List (List Int) × (List (aJ × Int)) × List fD × Int) ⊕ ((List (List Int) × (List (aJ × Int)) × List fD) ⊕ (aS × (List (List Int)) × Bool))):=
 if c then (some (.inr (.inr (⟨0,0,[],[]⟩,[],false)))) else (some (.inl (a.2.1,a.2.2.1,a.2.2.2,wr (b+1))))
def cR (f:aS) (b:List (List Int)) (d:(List (aJ × Int))) (e:List fD) (a:Int):Option ((List (List Int) × (List (aJ × Int)) × List fD × Int) ⊕ ((List (List Int) × (List (aJ × Int)) × List fD) ⊕ (aS × (List (List Int)) × Bool))):=
 if (decide (a < (b.length:Int))) then (ob (ix b a) fun g=>
 ob (mN g b d e a f) fun c=>
 if (!c.1) then (kX a c true) else (kX a c (decide (40 < (c.2.1.length:Int))))) else (some (.inr (.inl (b,d,e))))
def nN (c:(List Int)) (d:aS):Option (aS × (List (List Int)) × Bool):=
 ob (dR [] ([]:(List (aJ × Int))) [] c) fun b=>
 ob (loop (fun (s:(List (List Int) × (List (aJ × Int)) × List fD × Int))=>cR d s.1 s.2.1 s.2.2.1 s.2.2.2) (b.2.1,b.2.2,[],0)) fun r=>match r with|.inl r=>kV r.1 r.2.1 r.2.2|.inr r=>some r
def qX (t:aS):Option (aS × (List (List Int)) × Bool):=
 ob (iG t ([t.I]:List Int)) fun c=>
 ob (nN c t) fun b=>
 if (!b.2.2) then (some (⟨0,0,[],[]⟩,[],false)) else (ob (aAz b.1) fun d=>
 ob (aEu b.1.N 0 t.L d) fun e=>
 some (e,b.2.1,true))
def aFq (t:aS) (n:Int):Option (aS × Int):=
 ob (nC t) fun d=>
 if (!d) then (some (⟨0,0,[],[]⟩,1)) else (ob (uD n 0 12) fun e=>
 if (!e) then (some (⟨0,0,[],[]⟩,2)) else (ob (qX t) fun b=>
 if (!b.2.2) then (some (⟨0,0,[],[]⟩,5)) else (some (b.1,0))))
def aFT (a:List (List aJ)):Option ((List (List aJ)) × Int):=
 some (a,0)
def oB (b:List aN) (c:List (List aJ)) (a:Int):Option ((List (List aJ) × Int) ⊕ (List (List aJ))):=
 if (decide (a < (b.length:Int))) then (ob (ix b a) fun d=>
 ob (tG c ([d.trace]:List (List aJ))) fun e=>
 some (.inl (e,wr (a+1)))) else (some (.inr c))
def aCq (a:List aN):Option ((List (List aJ)) × Int):=
 if (decide (200 < (a.length:Int))) then (some ([],5)) else (ob (loop (fun (s:(List (List aJ) × Int))=>oB a s.1 s.2) ([],0)) fun r=>aFT r)
def vH (a:Int) (b:List aN):Option ((List aN × Int) ⊕ (List aN)):=
 some (.inl (b,wr (a+1)))
def aFU (a:Int) (b:List aN):Option ((List aN × Int) ⊕ (List aN)):=
 vH a b
def aCr (a:Int) (b:List aN):Option ((List aN × Int) ⊕ (List aN)):=
 some (.inl (b,wr (a+1)))
def oC (e:(aS × Int)) (f:aN) (b:(List Edge)) (c:List aN) (a:Int):Option ((List aN × Int) ⊕ (List aN)):=
 if (decide (a < (b.length:Int))) then (ob (ix b a) fun d=>
 ob (ix e.1.L d.B) fun g=>
 ob (dM f.trace) fun h=>
 ob (tG h ([g]:List aJ)) fun i=>
 ob (tG c ([⟨d.To,0,i⟩]:List aN)) fun j=>
 aCr a j) else (some (.inr c))
def rL (n:Int) (e:(aS × Int)) (b:List aN) (c:Int) (g:Bool):Option ((List aN × Int) ⊕ (List aN)):=
 if g then (ob (ix b c) fun d=>
 if ((d.trace.length:Int) == n) then (vH c b) else (ob (pL e.1 d.a) fun h=>
 ob (loop (fun (s:(List aN × Int))=>oC e d h s.1 s.2) (b,0)) fun r=>aFU c r)) else (some (.inr b))
def kK (n:Int) (d:(aS × Int)) (a:List aN) (b:Int):Option ((List aN × Int) ⊕ (List aN)):=
 if (decide (b < (a.length:Int))) then (rL n d a b (decide ((a.length:Int)<=200))) else (rL n d a b false)
def aAA (t:aS) (n:Int):Option ((List (List aJ)) × Int):=
 ob (aFq t n) fun a=>
 if (a.2 != 0) then (some ([],a.2)) else (ob (loop (fun (s:(List aN × Int))=>kK n a s.1 s.2) (([⟨0,0,[]⟩]:List aN),0)) fun r=>aCq r)
def aEx (a:aJ):Option Bool:=
 ob (aGi a) fun b=>
 some (!b)
def mO:Option Int:=
 some (-1)
def dC (b:(List aJ)) (a:Int):Option (Int ⊕ (Unit ⊕ Int)):=
 if (decide (a < (b.length:Int))) then (ob (ix b a) fun c=>
 ob (aEx c) fun d=>
 if d then (some (.inr (.inr a))) else (some (.inl (wr (a+1))))) else (some (.inr (.inl ())))
def fN (b:(List aJ)):Option Int:=
 ob (loop (fun (s:Int)=>dC b s) 0) fun r=>match r with|.inl r=>mO|.inr r=>some r
def iH (a:(List aJ)):Option Bool:=
 ob (fN a) fun b=>
 some (decide (0<=b))
def aFr (a:(List aJ)):Option Bool:=
 ob (iH a) fun b=>
 some (!b)
def gC (a:(List aJ)) (b:aJ):Option Bool:=
 ob (dL a b) fun c=>
 some (decide (0<=c))
def aCZ (a:Bool):Option Bool:=
 some a
def tV (a:(List aJ)):Option Bool:=
 ob (aFr a) fun b=>
 if b then (ob (gC a ([116,97,117]:aJ)) fun c=>
 aCZ (!c)) else (aCZ false)
def aFV (m:aZ) (b:(List aJ)):Option Int:=
 ob (jE m) fun c=>
 if (!c) then (some 1) else (ob (tV b) fun d=>
 if (!d) then (some 2) else (some 0))
def aBG (m:aZ) (k:Int) (c:aJ):Option Int:=
 ob (ix m.Verdicts k) fun d=>
 if (d != 0) then (some k) else (ob (lR m.S k c) fun e=>
 some e)
def aHl (m:aZ) (b c:Int):Option (Int × Int × Int):=
 ob (ix m.Verdicts b) fun d=>
 some (d,c,0)
def uJ (m:aZ) (e:(List aJ)) (b a:Int) (f:Bool):Option ((Int × Int) ⊕ ((Int × Int) ⊕ (Int × Int × Int))):=
 if f then (ob (ix e a) fun g=>
 ob (aBG m b g) fun c=>
 if (decide (c < 0)) then (some (.inr (.inr (0,0,3)))) else (some (.inl (c,wr (a+1))))) else (some (.inr (.inl (b,a))))
def uK (m:aZ) (b:(List aJ)) (c d:Int):Option ((Int × Int) ⊕ ((Int × Int) ⊕ (Int × Int × Int))):=
 if (decide (d < (b.length:Int))) then (ob (ix m.Verdicts c) fun e=>
 uJ m b c d (e == 0)) else (uJ m b c d false)
def aBH (m:aZ) (c:(List aJ)):Option (Int × Int × Int):=
 ob (aFV m c) fun d=>
 if (d != 0) then (some (0,0,d)) else (ob (loop (fun (s:(Int × Int))=>uK m c s.1 s.2) (m.S.I,0)) fun r=>match r with|.inl r=>aHl m r.1 r.2|.inr r=>some r)
def aHU (a:List Int):Option (List Int):=
 some a
def oU (t:aS) (b:(List aJ)) (c:List Int) (a:Int):Option ((List Int × Int) ⊕ (List Int)):=
 if (decide (a < (b.length:Int))) then (ob (ix b a) fun e=>
 ob (iJ t c e) fun f=>
 some (.inl (f,wr (a+1)))) else (some (.inr c))
def aCK (t:aS) (b:(List aJ)):Option (List Int):=
 ob (iG t ([t.I]:List Int)) fun c=>
 ob (loop (fun (s:(List Int × Int))=>oU t b s.1 s.2) (c,0)) fun r=>aHU r
def aDK (t:aS) (b:(List aJ)):Option ((List Int) × Int):=
 ob (nC t) fun d=>
 if (!d) then (some ([],1)) else (ob (tV b) fun e=>
 if (!e) then (some ([],2)) else (ob (aCK t b) fun c=>
 if ((c.length:Int) == 0) then (some ([],3)) else (some (c,0))))
def qY (t p:aS) (c:((List Int) × Int)) (d:Int):Option (Int × Int):=
 ob (oK ⟨t,p⟩) fun e=>
 ob (jH e c.1 d) fun f=>
 some (f,0)
def jA (p:aS) (b:(List aJ)) (c a:Int):Option ((Int × Int) ⊕ Int):=
 if (decide (a < (b.length:Int))) then (ob (ix b a) fun e=>
 ob (lR p c e) fun f=>
 some (.inl (f,wr (a+1)))) else (some (.inr c))
def sV (t p:aS) (d:(List aJ)):Option (Int × Int):=
 ob (sH t p) fun e=>
 if (e != 0) then (some (0,e)) else (ob (aDK t d) fun c=>
 if (c.2 != 0) then (some (0,c.2)) else (ob (loop (fun (s:(Int × Int))=>jA p d s.1 s.2) (p.I,0)) fun r=>qY t p c r))
def aDa (a:((List (List aJ)) × Int)):Option Bool:=
 some (decide (0 < (a.1.length:Int)))
def aAp (a:Int):Option (Int ⊕ (Unit ⊕ Bool)):=
 some (.inl (wr (a+1)))
def aAq (a:Int) (b:Bool):Option (Int ⊕ (Unit ⊕ Bool)):=
 if b then (some (.inr (.inr false))) else (aAp a)
def nF (b:(aS × aS)) (a:Int) (e:(List aJ)) (c:(Int × Int × Int)) (f:Bool):Option (Int ⊕ (Unit ⊕ Bool)):=
 if f then (some (.inr (.inr false))) else (if (decide (0 < c.2.1)) then (ob (pQ e 0 (wr (c.2.1 - 1))) fun g=>
 ob (sV b.1 b.2 g) fun d=>
 if (d.2 != 0) then (aAq a true) else (aAq a (d.1 != 0))) else (aAp a))
def lH (c:(aS × aS)) (d:Int) (b:(List aJ)) (a:(Int × Int × Int)) (e:Bool):Option (Int ⊕ (Unit ⊕ Bool)):=
 if e then (some (.inr (.inr false))) else (if (a.1 == 0) then (nF c d b a (a.2.1 != (b.length:Int))) else (nF c d b a false))
def pP (c:(aS × aS)) (g:(aZ × Int)) (e:((List (List aJ)) × Int)) (d:Int):Option (Int ⊕ (Unit ⊕ Bool)):=
 if (decide (d < (e.1.length:Int))) then (ob (ix e.1 d) fun b=>
 ob (aBH g.1 b) fun a=>
 ob (sV c.1 c.2 b) fun f=>
 if (a.2.2 != 0) then (lH c d b a true) else (if (f.2 != 0) then (lH c d b a true) else (if (f.1 != a.1) then (lH c d b a true) else (if (decide (a.2.1 < 0)) then (lH c d b a true) else (lH c d b a (decide ((b.length:Int) < a.2.1))))))) else (some (.inr (.inl ())))
def jI (c:(aS × aS)) (d:(aZ × Int)) (e:Bool):Option Bool:=
 if e then (some false) else (ob (aAA c.1 3) fun a=>
 if (a.2 != 0) then (some (a.2 == 5)) else (ob (loop (fun (s:Int)=>pP c d a s) 0) fun r=>match r with|.inl r=>aDa a|.inr r=>some r))
def aDL (d:(List UInt8)):Option Bool:=
 ob (aKU d) fun f=>
 if f then (some true) else (ob (aBu d) fun b=>
 ob (vD b.1 b.2) fun a=>
 if (a.2 != 0) then (ob (vG b.1 b.2) fun g=>
 some (a.2 == g.2)) else (ob (oL a.1) fun c=>
 ob (sT ⟨⟨a.1.S.N,a.1.S.I,a.1.S.L,a.1.S.E⟩,a.1.Verdicts⟩ ⟨⟨c.1.S.N,c.1.S.I,c.1.S.L,c.1.S.E⟩,c.1.Verdicts⟩) fun e=>
 if (c.2 != 0) then (jI b a true) else (if (e.2.2 != 0) then (jI b a true) else (if (!e.1) then (jI b a true) else (ob (jE a.1) fun h=>
 if (!h) then (jI b a true) else (jI b a (decide (a.1.S.N < c.1.S.N))))))))
end
end Gv
