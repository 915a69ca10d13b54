/- Part 16 of the proof: contracts of the functions that the law reaches -/
import Derived.Test.YtaapofnkmpiknaaGreatPl15
import Derived.Below
set_option linter.unusedVariables false
set_option linter.unusedSimpArgs false
namespace Go.Ab
open Go Go.RowKit
def st0:St:=fun _=>none
theorem C4L (w:World):I3 st0 w:=fun b x h=>by cases h
theorem B4v {w w':World} {st':St} (h:Evo st0 w st' w'):Below w.heap.size w w' :=
 ⟨h.os,h.tape,h.output,h.size,fun k hk=>(h.blk k hk rfl).1⟩
theorem law_of_S {P:Program} {f:FuncId} {args:List AV} {cargs:Array Value} {w:World}
  (h:S P f args st0 fun v st'=>v=.bool true) (hr:A7l w st0 args cargs):Calls P f cargs w fun e w'=>e=.returned (.bool true)∧Below w.heap.size w w':=by
 refine (h.2 cargs w hr (C4L w)).mono ?_
 rintro e w' ⟨v,c,st',rfl,rfl,h3,h4,h5⟩
 cases h3
 exact ⟨rfl,B4v h5⟩
end Go.Ab
