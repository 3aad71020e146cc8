/- Trees: what stands at a node, and the branches. No program in sight. -/
import Derived.Test.YtpkpcpikpobloaaGreatDoorJM
set_option linter.all false
namespace Gv
inductive Tr (N:Type) where
 |mk (n:N) (l:List (Tr N))
def Tr.val {N:Type}:Tr N->N
 |.mk n _=>n
def Tr.kids {N:Type}:Tr N->List (Tr N)
 |.mk _ l=>l
end Gv
namespace Gv
structure Edge where
 F:Int
 B:Int
 To:Int
 deriving DecidableEq,Inhabited
structure gM where
 N:Int
 I:Int
 L:(List aK)
 E:(List Edge)
 deriving DecidableEq,Inhabited
structure bI where
 Kind:Int
 Variable:Int
 B:aK
 Not:Bool
 deriving DecidableEq,Inhabited
structure aS where
 Kind:Int
 Value:Int
 deriving DecidableEq,Inhabited
structure bH where
 Kind:Int
 Number:Int
 Name:aK
 Arguments:(List (List aS))
 deriving DecidableEq,Inhabited
structure Definition where
 Name:aK
 Parameters:Int
 Body:(List bH)
 deriving DecidableEq,Inhabited
structure bA where
 Definition:Int
 Values:(List Int)
 deriving DecidableEq,Inhabited
structure bD where
 Left:aK
 Right:aK
 Result:aK
 deriving DecidableEq,Inhabited
structure bM where
 Definitions:(List Definition)
 Components:(List bA)
 Meetings:(List bD)
 Allowed:(List aK)
 Hidden:(List aK)
 deriving DecidableEq,Inhabited
structure Kept where
 Name:aK
 Kind:Int
 S:gM
 Formula:(List bI)
 Source:bM
 deriving DecidableEq,Inhabited
structure pR where
 Kept:(List Kept)
 deriving DecidableEq,Inhabited
structure dK where
 scope:Int
 behind:Bool
 deriving DecidableEq,Inhabited
def aIP:List aK:=[[43],[45],[42],[61],[35],[60],[60,61],[38],[124]]
def aLc:List Int:=[4,4,5,3,3,3,3,2,1]
end Gv
