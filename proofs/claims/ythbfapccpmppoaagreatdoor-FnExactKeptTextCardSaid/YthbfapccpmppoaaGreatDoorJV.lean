/- What the program reads of the library's variables, said of a world. -/
import Derived.Lib.LaidTab
import Derived.Lib.ItoaNum
set_option linter.all false
namespace Gv
open Go
def aIe (w:World):Prop:=
 (∃ m,w.cell? ⟨0,0,none⟩=some (.int .i64 m))/\(∃ E fr,w.heap[4]?=some (.cells (Lib.pow10Tab.map fun z=>Value.int .u64 z).toArray E fr))/\
 (∃ v,w.cell? ⟨8,0,none⟩=some v/\(v=.nilIface\/∃ te pe,v=.iface te pe))/\
 (∃ v,w.cell? ⟨9,0,none⟩=some v/\(v=.nilIface\/∃ te pe,v=.iface te pe))/\(∃ E fr,w.heap[3]?=some (.cells (([[43],[45],[42],[61],[35],[60],[60,61],[38],[124]]:List (List UInt8)).map fun s=>Value.string ⟨⟨s⟩⟩).toArray E fr))/\(∃ E fr,w.heap[5]?=some (.cells (([4,4,5,3,3,3,3,2,1]:List Int).map fun n=>Value.int .i64 n).toArray E fr))
end Gv
