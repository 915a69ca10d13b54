/-
  No cell of these rows narrows 'for every input' (looked for: loops, veiled, ifaces, maps, wideKeys, modest, calm, conditions, laid).
  DERIVED. THE GIVEN ROWS OF THIS SEAT. 6 by the template 'for every input the law returns true; each argument reads behind the call as it read before'; 0 by the template 'total and deterministic' (their statements: YtfajkgonocpddaaGreatTotals.lean).
  GIVEN WITH THE SEED: the statements are not yours to turn. If you find one false, say at which input.
  Laid BY PROGRAM, IN A SANDBOX (cutbox-rows.mjs): the forced cells as the released guide's own fill.sh prints them over the translation e6cadc4f110c4f4e… (all of the seat's roots in one cut). By AI agents, Wed Nov 11 2026. No macro, syntax, notation, axiom, sorry.
-/
import Derived.Test.YtfajkgonocpddaaGreatChecked
import GoSem.Claim
import GoSem.ClaimJoined
import GoSem.ClaimMapViews
import Derived.JoinedTies
import Derived.KernelRfl
namespace Go.Proofs.YtfajkgonocpddaaGreat
/- THE CELL 'sum', in the pinned program and in every row, IS THE sha256 OF THE DUMP (.gsa) THAT YtfajkgonocpddaaGreatProg.lean LOADS. Nothing in Lean hashes anything: it is a label: what it is worth is what the hold of that sum in a sandbox is worth. -/
noncomputable def Tryz.pinned : Pinned := { name := "ytfajkgonocpddaagreat", sum := "e6cadc4f110c4f4e0bed9e28326d62abdeac548715e70f9a29d3b54948bba533", checked := Tryz.checked }
namespace Rows
def none {H : Type} : Left H := { results := [], args := [] }

/-- 'haberdashlaw20.QuoteLines': WHATEVER THE INPUT: true; the input reads as it did. -/
def quoteLinesSpec : ChangeSpec := { name := "quoteLines", fn := fun _ => fun
  | [d1, d2, d3] => { results := [.lit (.bool true)], args := [d1, d2, d3] }
  | _ => none }
def quoteLinesRow : OpenClaim := { program := "ytfajkgonocpddaagreat", sum := "e6cadc4f110c4f4e0bed9e28326d62abdeac548715e70f9a29d3b54948bba533", func := "haberdash/haberdashlaw20.QuoteLines", spec := "quoteLines", unfollowed := true, recurses := true, named := ["math/bits.divideError", "math/bits.overflowError"], apart := false }
def QuoteLinesSaid : Prop := quoteLinesRow.holds Tryz.pinned (OpenSpec.ofChange quoteLinesSpec)

/-- ITS FALSE NEIGHBOUR: 'it returns false'. Refute it at one input. -/
def quoteLinesWrong : ChangeSpec := { name := "quoteLines", fn := fun _ => fun
  | [d1, d2, d3] => { results := [.lit (.bool false)], args := [d1, d2, d3] }
  | _ => none }
def QuoteLinesWrongFalsely : Prop := quoteLinesRow.holds Tryz.pinned (OpenSpec.ofChange quoteLinesWrong)

/-- 'haberdashlaw20.QuoteAll': WHATEVER THE INPUT: true; the input reads as it did. -/
def quoteAllSpec : ChangeSpec := { name := "quoteAll", fn := fun _ => fun
  | [d1, d2, d3, d4, d5, d6] => { results := [.lit (.bool true)], args := [d1, d2, d3, d4, d5, d6] }
  | _ => none }
def quoteAllRow : OpenClaim := { program := "ytfajkgonocpddaagreat", sum := "e6cadc4f110c4f4e0bed9e28326d62abdeac548715e70f9a29d3b54948bba533", func := "haberdash/haberdashlaw20.QuoteAll", spec := "quoteAll", unfollowed := true, recurses := true, named := ["math/bits.divideError", "math/bits.overflowError"], apart := false }
def QuoteAllSaid : Prop := quoteAllRow.holds Tryz.pinned (OpenSpec.ofChange quoteAllSpec)

/-- ITS FALSE NEIGHBOUR: 'it returns false'. Refute it at one input. -/
def quoteAllWrong : ChangeSpec := { name := "quoteAll", fn := fun _ => fun
  | [d1, d2, d3, d4, d5, d6] => { results := [.lit (.bool false)], args := [d1, d2, d3, d4, d5, d6] }
  | _ => none }
def QuoteAllWrongFalsely : Prop := quoteAllRow.holds Tryz.pinned (OpenSpec.ofChange quoteAllWrong)

/-- 'haberdashlaw20.QuoteErrors': WHATEVER THE INPUT: true; the input reads as it did. -/
def quoteErrorsSpec : ChangeSpec := { name := "quoteErrors", fn := fun _ => fun
  | [d1, d2, d3, d4, d5] => { results := [.lit (.bool true)], args := [d1, d2, d3, d4, d5] }
  | _ => none }
def quoteErrorsRow : OpenClaim := { program := "ytfajkgonocpddaagreat", sum := "e6cadc4f110c4f4e0bed9e28326d62abdeac548715e70f9a29d3b54948bba533", func := "haberdash/haberdashlaw20.QuoteErrors", spec := "quoteErrors", unfollowed := true, recurses := true, named := ["math/bits.divideError", "math/bits.overflowError"], apart := false }
def QuoteErrorsSaid : Prop := quoteErrorsRow.holds Tryz.pinned (OpenSpec.ofChange quoteErrorsSpec)

/-- ITS FALSE NEIGHBOUR: 'it returns false'. Refute it at one input. -/
def quoteErrorsWrong : ChangeSpec := { name := "quoteErrors", fn := fun _ => fun
  | [d1, d2, d3, d4, d5] => { results := [.lit (.bool false)], args := [d1, d2, d3, d4, d5] }
  | _ => none }
def QuoteErrorsWrongFalsely : Prop := quoteErrorsRow.holds Tryz.pinned (OpenSpec.ofChange quoteErrorsWrong)

/-- 'haberdashlaw20.QuoteSums': WHATEVER THE INPUT: true; the input reads as it did. -/
def quoteSumsSpec : ChangeSpec := { name := "quoteSums", fn := fun _ => fun
  | [d1, d2, d3, d4] => { results := [.lit (.bool true)], args := [d1, d2, d3, d4] }
  | _ => none }
def quoteSumsRow : OpenClaim := { program := "ytfajkgonocpddaagreat", sum := "e6cadc4f110c4f4e0bed9e28326d62abdeac548715e70f9a29d3b54948bba533", func := "haberdash/haberdashlaw20.QuoteSums", spec := "quoteSums", unfollowed := true, recurses := true, named := ["math/bits.divideError", "math/bits.overflowError"], apart := false }
def QuoteSumsSaid : Prop := quoteSumsRow.holds Tryz.pinned (OpenSpec.ofChange quoteSumsSpec)

/-- ITS FALSE NEIGHBOUR: 'it returns false'. Refute it at one input. -/
def quoteSumsWrong : ChangeSpec := { name := "quoteSums", fn := fun _ => fun
  | [d1, d2, d3, d4] => { results := [.lit (.bool false)], args := [d1, d2, d3, d4] }
  | _ => none }
def QuoteSumsWrongFalsely : Prop := quoteSumsRow.holds Tryz.pinned (OpenSpec.ofChange quoteSumsWrong)

/-- 'haberdashlaw20.QuoteNothing': WHATEVER THE INPUT: true; the input reads as it did. -/
def quoteNothingSpec : ChangeSpec := { name := "quoteNothing", fn := fun _ => fun
  | [d1, d2, d3, d4] => { results := [.lit (.bool true)], args := [d1, d2, d3, d4] }
  | _ => none }
def quoteNothingRow : OpenClaim := { program := "ytfajkgonocpddaagreat", sum := "e6cadc4f110c4f4e0bed9e28326d62abdeac548715e70f9a29d3b54948bba533", func := "haberdash/haberdashlaw20.QuoteNothing", spec := "quoteNothing", unfollowed := true, recurses := true, named := ["math/bits.divideError", "math/bits.overflowError"], apart := false }
def QuoteNothingSaid : Prop := quoteNothingRow.holds Tryz.pinned (OpenSpec.ofChange quoteNothingSpec)

/-- ITS FALSE NEIGHBOUR: 'it returns false'. Refute it at one input. -/
def quoteNothingWrong : ChangeSpec := { name := "quoteNothing", fn := fun _ => fun
  | [d1, d2, d3, d4] => { results := [.lit (.bool false)], args := [d1, d2, d3, d4] }
  | _ => none }
def QuoteNothingWrongFalsely : Prop := quoteNothingRow.holds Tryz.pinned (OpenSpec.ofChange quoteNothingWrong)

/-- 'haberdashlaw20.QuoteBooks': WHATEVER THE INPUT: true; the input reads as it did. -/
def quoteBooksSpec : ChangeSpec := { name := "quoteBooks", fn := fun _ => fun
  | [d1, d2, d3, d4] => { results := [.lit (.bool true)], args := [d1, d2, d3, d4] }
  | _ => none }
def quoteBooksRow : OpenClaim := { program := "ytfajkgonocpddaagreat", sum := "e6cadc4f110c4f4e0bed9e28326d62abdeac548715e70f9a29d3b54948bba533", func := "haberdash/haberdashlaw20.QuoteBooks", spec := "quoteBooks", unfollowed := true, recurses := true, named := ["math/bits.divideError", "math/bits.overflowError"], apart := false }
def QuoteBooksSaid : Prop := quoteBooksRow.holds Tryz.pinned (OpenSpec.ofChange quoteBooksSpec)

/-- ITS FALSE NEIGHBOUR: 'it returns false'. Refute it at one input. -/
def quoteBooksWrong : ChangeSpec := { name := "quoteBooks", fn := fun _ => fun
  | [d1, d2, d3, d4] => { results := [.lit (.bool false)], args := [d1, d2, d3, d4] }
  | _ => none }
def QuoteBooksWrongFalsely : Prop := quoteBooksRow.holds Tryz.pinned (OpenSpec.ofChange quoteBooksWrong)

/- THE SECOND FORM. 'bulk': how many values and letters a reading holds, each counted each time it is reached (what is shared counts as often as it is met; a slice's spare places count too). A statement '..UptoSaid' is the law's where the arguments, and the package variables that the reading takes, are together of bulk at most 1048576: NARROWER than '..Said'. Prove '..Said' where nothing that the law and all that it calls make is longer than what came in: it says more and counts as full. Else prove '..UptoSaid'. A law counts once. -/
mutual
def uptoBulk {H : Type} : DataW H → Nat
  | .lit (.string bytes) => bytes.length + 1
  | .lit _ => 1
  | .nil => 1
  | .ptr d => uptoBulk d + 1
  | .slice elems spare => uptoBulkAll elems + uptoBulkAll spare + 1
  | .agg parts => uptoBulkAll parts + 1
  | .iface _ d => uptoBulk d + 1
  | .map entries => uptoBulkEntries entries + 1
  | .held _ => 1
def uptoBulkAll {H : Type} : List (DataW H) → Nat
  | [] => 0
  | d :: r => uptoBulk d + uptoBulkAll r
def uptoBulkEntries {H : Type} : List (Lit × DataW H) → Nat
  | [] => 0
  | x :: r => uptoBulkEntry x + uptoBulkEntries r
def uptoBulkEntry {H : Type} : Lit × DataW H → Nat
  | (.string bytes, d) => bytes.length + uptoBulk d + 1
  | (_, d) => uptoBulk d + 1
 end
def uptoSmall : (H : Type) → List (DataW H) → Bool := fun _ ds => decide (uptoBulkAll ds ≤ 1048576)
def OpenSpec.upto (s : _root_.Go.ChangeSpec) : _root_.Go.OpenSpec := { _root_.Go.OpenSpec.ofChange s with cond := some uptoSmall }

/-- 'haberdashlaw20.QuoteLines', WHERE WHAT IT READS IS OF BULK AT MOST 1048576: true; the input reads as it did. -/
def quoteLinesUptoRow : OpenClaim := { program := "ytfajkgonocpddaagreat", sum := "e6cadc4f110c4f4e0bed9e28326d62abdeac548715e70f9a29d3b54948bba533", func := "haberdash/haberdashlaw20.QuoteLines", spec := "quoteLines", unfollowed := true, recurses := true, named := ["math/bits.divideError", "math/bits.overflowError"], apart := false, narrowed := true }
def QuoteLinesUptoSaid : Prop := quoteLinesUptoRow.holds Tryz.pinned (OpenSpec.upto quoteLinesSpec)

/-- 'haberdashlaw20.QuoteAll', WHERE WHAT IT READS IS OF BULK AT MOST 1048576: true; the input reads as it did. -/
def quoteAllUptoRow : OpenClaim := { program := "ytfajkgonocpddaagreat", sum := "e6cadc4f110c4f4e0bed9e28326d62abdeac548715e70f9a29d3b54948bba533", func := "haberdash/haberdashlaw20.QuoteAll", spec := "quoteAll", unfollowed := true, recurses := true, named := ["math/bits.divideError", "math/bits.overflowError"], apart := false, narrowed := true }
def QuoteAllUptoSaid : Prop := quoteAllUptoRow.holds Tryz.pinned (OpenSpec.upto quoteAllSpec)

/-- 'haberdashlaw20.QuoteErrors', WHERE WHAT IT READS IS OF BULK AT MOST 1048576: true; the input reads as it did. -/
def quoteErrorsUptoRow : OpenClaim := { program := "ytfajkgonocpddaagreat", sum := "e6cadc4f110c4f4e0bed9e28326d62abdeac548715e70f9a29d3b54948bba533", func := "haberdash/haberdashlaw20.QuoteErrors", spec := "quoteErrors", unfollowed := true, recurses := true, named := ["math/bits.divideError", "math/bits.overflowError"], apart := false, narrowed := true }
def QuoteErrorsUptoSaid : Prop := quoteErrorsUptoRow.holds Tryz.pinned (OpenSpec.upto quoteErrorsSpec)

/-- 'haberdashlaw20.QuoteSums', WHERE WHAT IT READS IS OF BULK AT MOST 1048576: true; the input reads as it did. -/
def quoteSumsUptoRow : OpenClaim := { program := "ytfajkgonocpddaagreat", sum := "e6cadc4f110c4f4e0bed9e28326d62abdeac548715e70f9a29d3b54948bba533", func := "haberdash/haberdashlaw20.QuoteSums", spec := "quoteSums", unfollowed := true, recurses := true, named := ["math/bits.divideError", "math/bits.overflowError"], apart := false, narrowed := true }
def QuoteSumsUptoSaid : Prop := quoteSumsUptoRow.holds Tryz.pinned (OpenSpec.upto quoteSumsSpec)

/-- 'haberdashlaw20.QuoteNothing', WHERE WHAT IT READS IS OF BULK AT MOST 1048576: true; the input reads as it did. -/
def quoteNothingUptoRow : OpenClaim := { program := "ytfajkgonocpddaagreat", sum := "e6cadc4f110c4f4e0bed9e28326d62abdeac548715e70f9a29d3b54948bba533", func := "haberdash/haberdashlaw20.QuoteNothing", spec := "quoteNothing", unfollowed := true, recurses := true, named := ["math/bits.divideError", "math/bits.overflowError"], apart := false, narrowed := true }
def QuoteNothingUptoSaid : Prop := quoteNothingUptoRow.holds Tryz.pinned (OpenSpec.upto quoteNothingSpec)

/-- 'haberdashlaw20.QuoteBooks', WHERE WHAT IT READS IS OF BULK AT MOST 1048576: true; the input reads as it did. -/
def quoteBooksUptoRow : OpenClaim := { program := "ytfajkgonocpddaagreat", sum := "e6cadc4f110c4f4e0bed9e28326d62abdeac548715e70f9a29d3b54948bba533", func := "haberdash/haberdashlaw20.QuoteBooks", spec := "quoteBooks", unfollowed := true, recurses := true, named := ["math/bits.divideError", "math/bits.overflowError"], apart := false, narrowed := true }
def QuoteBooksUptoSaid : Prop := quoteBooksUptoRow.holds Tryz.pinned (OpenSpec.upto quoteBooksSpec)

end Rows
end Go.Proofs.YtfajkgonocpddaaGreat
