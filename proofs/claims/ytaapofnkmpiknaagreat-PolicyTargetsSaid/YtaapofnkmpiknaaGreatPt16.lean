/- Part 16 of the proof: contracts -/
import Derived.Test.YtaapofnkmpiknaaGreatPt15
import Derived.Below
set_option linter.unusedVariables false
set_option linter.unusedSimpArgs false
namespace Go.Ab
open Go Go.RowKit
def st0:St:=fun _=>none
theorem C5l (w:World):H9 st0 w:=fun b x h=>by cases h
theorem B4P {w w':World} {st':St} (h:Evo st0 w st' w'):Below w.heap.size w w' :=
 ⟨h.os,h.tape,h.output,h.size,fun k hk=>(h.blk k hk rfl).1⟩
theorem law_of_S {P:Program} {f:FuncId} {args:List AV} {cargs:Array Value} {w:World}
  (h:S P f args st0 fun v st'=>v=.bool true) (hr:A7s w st0 args cargs):Calls P f cargs w fun e w'=>e=.returned (.bool true)∧Below w.heap.size w w':=by
 refine (h.2 cargs w hr (C5l w)).mono ?_
 rintro e w' ⟨v,c,st',rfl,rfl,h3,h4,h5⟩
 cases h3
 exact ⟨rfl,B4P h5⟩
end Go.Ab
