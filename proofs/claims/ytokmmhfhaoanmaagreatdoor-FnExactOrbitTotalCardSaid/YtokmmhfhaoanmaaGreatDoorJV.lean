/- What the program reads of the library's variables, said of a world. -/
import Derived.Lib.LaidTab
import Derived.Lib.ItoaNum
set_option linter.all false
namespace Gv
open Go
def aKA (w:World):Prop:=
 (∃ m,w.cell? ⟨0,0,none⟩=some (.int .i64 m))/\(∃ E fr,w.heap[1]?=some (.cells (Lib.pow10Tab.map fun z=>Value.int .u64 z).toArray E fr))/\
 (∃ v,w.cell? ⟨2,0,none⟩=some v/\(v=.nilIface\/∃ te pe,v=.iface te pe))/\
 (∃ v,w.cell? ⟨3,0,none⟩=some v/\(v=.nilIface\/∃ te pe,v=.iface te pe))
end Gv
