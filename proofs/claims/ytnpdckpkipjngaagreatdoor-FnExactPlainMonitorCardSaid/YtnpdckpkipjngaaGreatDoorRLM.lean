/- What functions of Go's library compute, as plain functions. -/
import Derived.Test.YtnpdckpkipjngaaGreatDoorRS
import Derived.Lib.IndexMore
import Derived.Lib.Join
import Derived.Lib.ItoaNum
import Derived.Lib.ParseIntB
import Derived.Lib.SlicesCompact
set_option linter.all false
namespace Gv
open Go
def cmpB (a b : bF) : Int := if a == b then 0 else if vI a b then -1 else 1
def yI (sep : bF) : Nat → bF → List bF
 | 0, s => [s]
 | n + 1, s => match Lib.cut s sep with
  | (a, b, true) => a :: yI sep n b
  | (_, _, false) => [s]
def l_Cut (s sep : bF) : Option (bF × bF × Bool) := if s.length < 4294967281 then some (Lib.cut s sep) else none
def aDm (s sep : bF) : Option (List bF) := if s.length < 4294967281 ∧ sep ≠ [] then some (yI sep s.length s) else none
def aGM (xs : List bF) (sep : bF) : Option bF := if xs.length < nX ∧ (Lib.join xs sep).length < nX then some (Lib.join xs sep) else none
def aGr (a b : bF) : Option Int := some (cmpB a b)
def tI (n : Int) : Option bF := if -9223372036854775808 ≤ n ∧ n ≤ 9223372036854775807 then some (Lib.itoa n) else none
def aBQ (s : bF) : bF := match s with | 45 :: s' => s' | s => s
def iT (s : bF) : Int × Bool :=
 if (aBQ s).length > 18 then (0, false)
 else match Lib.parseIntB 64 s with
  | .ok v => if Lib.itoa v = s then (v, true) else (0, false)
  | _ => (0, false)
def sB (s : bF) : Option (Int × Bool) := if s.length < nX then some (iT s) else none
def srt {α : Type} (lt : α → α → Bool) (xs : List α) : List α := xs.mergeSort fun a b => !lt b a
def eL : bF := [116, 97, 117]
def sC (a b : bF) : Bool := if a == b then false else if a == eL then true else if b == eL then false else vI a b
def gC (a b : Edge) : Bool := decide (a.From < b.From) || (a.From == b.From && (decide (a.Label < b.Label) || (a.Label == b.Label && decide (a.To < b.To))))
def mT {α : Type} [DecidableEq α] : List α → List α
 | [] => []
 | [a] => [a]
 | a :: b :: l => if a = b then mT (b :: l) else a :: mT (b :: l)
def aAt (xs : List bF) : Option (List bF) := if xs.length < nX then some (srt sC xs) else none
def yJ (xs : List Edge) : Option (List Edge) := if xs.length < nX then some (srt gC xs) else none
def xZ (xs : List Int) : Option (List Int) := if xs.length < nX then some (srt (fun a b => decide (a < b)) xs) else none
def l_Mul (a b : Int) : Option (Int × Int) := if 0 ≤ a ∧ a < 18446744073709551616 ∧ 0 ≤ b ∧ b < 18446744073709551616 then some (a * b / 18446744073709551616, a * b % 18446744073709551616) else none
end Gv
