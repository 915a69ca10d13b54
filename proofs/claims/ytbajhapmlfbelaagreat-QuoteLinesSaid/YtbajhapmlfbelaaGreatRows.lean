/-
  No cell of these rows narrows 'for every input' (looked for: loops, veiled, ifaces, maps, wideKeys, modest, calm, conditions, laid).
  DERIVED. THE GIVEN ROWS OF THIS SEAT. 10 by the template 'for every input the law returns true; each argument reads behind the call as it read before'; 0 by the template 'total and deterministic' (their statements: YtbajhapmlfbelaaGreatTotals.lean).
  GIVEN WITH THE SEED: the statements are not yours to turn. If you find one false, say at which input.
  Laid BY PROGRAM, IN A SANDBOX (cutbox-rows.mjs): the forced cells as the released guide's own fill.sh prints them over the translation c97f1ed79e163090… (all of the seat's roots in one cut). By AI agents, Wed Nov 11 2026. No macro, syntax, notation, axiom, sorry.
-/
import Derived.Test.YtbajhapmlfbelaaGreatChecked
import GoSem.Claim
import GoSem.ClaimJoined
import GoSem.ClaimMapViews
import Derived.JoinedTies
import Derived.KernelRfl
namespace Go.Proofs.YtbajhapmlfbelaaGreat
/- THE CELL 'sum', in the pinned program and in every row, IS THE sha256 OF THE DUMP (.gsa) THAT YtbajhapmlfbelaaGreatProg.lean LOADS. Nothing in Lean hashes anything: it is a label: what it is worth is what the hold of that sum in a sandbox is worth. -/
noncomputable def Tryz.pinned : Pinned := { name := "ytbajhapmlfbelaagreat", sum := "c97f1ed79e163090ee8827f9681ffb13f4323fa2debe1e2ac610faed33272d08", checked := Tryz.checked }
namespace Rows
def none {H : Type} : Left H := { results := [], args := [] }

/-- 'haberdashlaw17.PriceRaw': WHATEVER THE INPUT: true; the input reads as it did. -/
def priceRawSpec : ChangeSpec := { name := "priceRaw", fn := fun _ => fun
  | [d1, d2, d3, d4] => { results := [.lit (.bool true)], args := [d1, d2, d3, d4] }
  | _ => none }
def priceRawRow : OpenClaim := { program := "ytbajhapmlfbelaagreat", sum := "c97f1ed79e163090ee8827f9681ffb13f4323fa2debe1e2ac610faed33272d08", func := "haberdash/haberdashlaw17.PriceRaw", spec := "priceRaw", unfollowed := true, recurses := true, named := ["math/bits.divideError", "math/bits.overflowError"], apart := false }
def PriceRawSaid : Prop := priceRawRow.holds Tryz.pinned (OpenSpec.ofChange priceRawSpec)

/-- ITS FALSE NEIGHBOUR: 'it returns false'. Refute it at one input. -/
def priceRawWrong : ChangeSpec := { name := "priceRaw", fn := fun _ => fun
  | [d1, d2, d3, d4] => { results := [.lit (.bool false)], args := [d1, d2, d3, d4] }
  | _ => none }
def PriceRawWrongFalsely : Prop := priceRawRow.holds Tryz.pinned (OpenSpec.ofChange priceRawWrong)

/-- 'haberdashlaw18.DeskErrors': WHATEVER THE INPUT: true; the input reads as it did. -/
def deskErrorsSpec : ChangeSpec := { name := "deskErrors", fn := fun _ => fun
  | [d1, d2, d3, d4, d5] => { results := [.lit (.bool true)], args := [d1, d2, d3, d4, d5] }
  | _ => none }
def deskErrorsRow : OpenClaim := { program := "ytbajhapmlfbelaagreat", sum := "c97f1ed79e163090ee8827f9681ffb13f4323fa2debe1e2ac610faed33272d08", func := "haberdash/haberdashlaw18.DeskErrors", spec := "deskErrors", unfollowed := true, recurses := true, named := ["math/bits.divideError", "math/bits.overflowError"], apart := false }
def DeskErrorsSaid : Prop := deskErrorsRow.holds Tryz.pinned (OpenSpec.ofChange deskErrorsSpec)

/-- ITS FALSE NEIGHBOUR: 'it returns false'. Refute it at one input. -/
def deskErrorsWrong : ChangeSpec := { name := "deskErrors", fn := fun _ => fun
  | [d1, d2, d3, d4, d5] => { results := [.lit (.bool false)], args := [d1, d2, d3, d4, d5] }
  | _ => none }
def DeskErrorsWrongFalsely : Prop := deskErrorsRow.holds Tryz.pinned (OpenSpec.ofChange deskErrorsWrong)

/-- 'haberdashlaw18.DeskOwn': WHATEVER THE INPUT: true; the input reads as it did. -/
def deskOwnSpec : ChangeSpec := { name := "deskOwn", fn := fun _ => fun
  | [d1, d2, d3] => { results := [.lit (.bool true)], args := [d1, d2, d3] }
  | _ => none }
def deskOwnRow : OpenClaim := { program := "ytbajhapmlfbelaagreat", sum := "c97f1ed79e163090ee8827f9681ffb13f4323fa2debe1e2ac610faed33272d08", func := "haberdash/haberdashlaw18.DeskOwn", spec := "deskOwn", unfollowed := true, recurses := true, named := ["math/bits.divideError", "math/bits.overflowError"], apart := false }
def DeskOwnSaid : Prop := deskOwnRow.holds Tryz.pinned (OpenSpec.ofChange deskOwnSpec)

/-- ITS FALSE NEIGHBOUR: 'it returns false'. Refute it at one input. -/
def deskOwnWrong : ChangeSpec := { name := "deskOwn", fn := fun _ => fun
  | [d1, d2, d3] => { results := [.lit (.bool false)], args := [d1, d2, d3] }
  | _ => none }
def DeskOwnWrongFalsely : Prop := deskOwnRow.holds Tryz.pinned (OpenSpec.ofChange deskOwnWrong)

/-- 'haberdashlaw20.QuoteLines': WHATEVER THE INPUT: true; the input reads as it did. -/
def quoteLinesSpec : ChangeSpec := { name := "quoteLines", fn := fun _ => fun
  | [d1, d2, d3] => { results := [.lit (.bool true)], args := [d1, d2, d3] }
  | _ => none }
def quoteLinesRow : OpenClaim := { program := "ytbajhapmlfbelaagreat", sum := "c97f1ed79e163090ee8827f9681ffb13f4323fa2debe1e2ac610faed33272d08", func := "haberdash/haberdashlaw20.QuoteLines", spec := "quoteLines", unfollowed := true, recurses := true, named := ["math/bits.divideError", "math/bits.overflowError"], apart := false }
def QuoteLinesSaid : Prop := quoteLinesRow.holds Tryz.pinned (OpenSpec.ofChange quoteLinesSpec)

/-- ITS FALSE NEIGHBOUR: 'it returns false'. Refute it at one input. -/
def quoteLinesWrong : ChangeSpec := { name := "quoteLines", fn := fun _ => fun
  | [d1, d2, d3] => { results := [.lit (.bool false)], args := [d1, d2, d3] }
  | _ => none }
def QuoteLinesWrongFalsely : Prop := quoteLinesRow.holds Tryz.pinned (OpenSpec.ofChange quoteLinesWrong)

/-- 'haberdashlaw20.QuoteErrors': WHATEVER THE INPUT: true; the input reads as it did. -/
def quoteErrorsSpec : ChangeSpec := { name := "quoteErrors", fn := fun _ => fun
  | [d1, d2, d3, d4, d5] => { results := [.lit (.bool true)], args := [d1, d2, d3, d4, d5] }
  | _ => none }
def quoteErrorsRow : OpenClaim := { program := "ytbajhapmlfbelaagreat", sum := "c97f1ed79e163090ee8827f9681ffb13f4323fa2debe1e2ac610faed33272d08", func := "haberdash/haberdashlaw20.QuoteErrors", spec := "quoteErrors", unfollowed := true, recurses := true, named := ["math/bits.divideError", "math/bits.overflowError"], apart := false }
def QuoteErrorsSaid : Prop := quoteErrorsRow.holds Tryz.pinned (OpenSpec.ofChange quoteErrorsSpec)

/-- ITS FALSE NEIGHBOUR: 'it returns false'. Refute it at one input. -/
def quoteErrorsWrong : ChangeSpec := { name := "quoteErrors", fn := fun _ => fun
  | [d1, d2, d3, d4, d5] => { results := [.lit (.bool false)], args := [d1, d2, d3, d4, d5] }
  | _ => none }
def QuoteErrorsWrongFalsely : Prop := quoteErrorsRow.holds Tryz.pinned (OpenSpec.ofChange quoteErrorsWrong)

/-- 'haberdashlaw21.ReceiptRaw': WHATEVER THE INPUT: true; the input reads as it did. -/
def receiptRawSpec : ChangeSpec := { name := "receiptRaw", fn := fun _ => fun
  | [d1, d2] => { results := [.lit (.bool true)], args := [d1, d2] }
  | _ => none }
def receiptRawRow : OpenClaim := { program := "ytbajhapmlfbelaagreat", sum := "c97f1ed79e163090ee8827f9681ffb13f4323fa2debe1e2ac610faed33272d08", func := "haberdash/haberdashlaw21.ReceiptRaw", spec := "receiptRaw", unfollowed := true, recurses := true, named := ["math/bits.divideError", "math/bits.overflowError"], apart := false }
def ReceiptRawSaid : Prop := receiptRawRow.holds Tryz.pinned (OpenSpec.ofChange receiptRawSpec)

/-- ITS FALSE NEIGHBOUR: 'it returns false'. Refute it at one input. -/
def receiptRawWrong : ChangeSpec := { name := "receiptRaw", fn := fun _ => fun
  | [d1, d2] => { results := [.lit (.bool false)], args := [d1, d2] }
  | _ => none }
def ReceiptRawWrongFalsely : Prop := receiptRawRow.holds Tryz.pinned (OpenSpec.ofChange receiptRawWrong)

/-- 'haberdashlaw21.ReceiptSells': WHATEVER THE INPUT: true; the input reads as it did. -/
def receiptSellsSpec : ChangeSpec := { name := "receiptSells", fn := fun _ => fun
  | [d1, d2, d3, d4] => { results := [.lit (.bool true)], args := [d1, d2, d3, d4] }
  | _ => none }
def receiptSellsRow : OpenClaim := { program := "ytbajhapmlfbelaagreat", sum := "c97f1ed79e163090ee8827f9681ffb13f4323fa2debe1e2ac610faed33272d08", func := "haberdash/haberdashlaw21.ReceiptSells", spec := "receiptSells", unfollowed := true, recurses := true, named := ["math/bits.divideError", "math/bits.overflowError"], apart := false }
def ReceiptSellsSaid : Prop := receiptSellsRow.holds Tryz.pinned (OpenSpec.ofChange receiptSellsSpec)

/-- ITS FALSE NEIGHBOUR: 'it returns false'. Refute it at one input. -/
def receiptSellsWrong : ChangeSpec := { name := "receiptSells", fn := fun _ => fun
  | [d1, d2, d3, d4] => { results := [.lit (.bool false)], args := [d1, d2, d3, d4] }
  | _ => none }
def ReceiptSellsWrongFalsely : Prop := receiptSellsRow.holds Tryz.pinned (OpenSpec.ofChange receiptSellsWrong)

/-- 'haberdashlaw21.ReceiptWhole': WHATEVER THE INPUT: true; the input reads as it did. -/
def receiptWholeSpec : ChangeSpec := { name := "receiptWhole", fn := fun _ => fun
  | [d] => { results := [.lit (.bool true)], args := [d] }
  | _ => none }
def receiptWholeRow : OpenClaim := { program := "ytbajhapmlfbelaagreat", sum := "c97f1ed79e163090ee8827f9681ffb13f4323fa2debe1e2ac610faed33272d08", func := "haberdash/haberdashlaw21.ReceiptWhole", spec := "receiptWhole", unfollowed := true, recurses := true, named := ["math/bits.divideError", "math/bits.overflowError"], apart := false }
def ReceiptWholeSaid : Prop := receiptWholeRow.holds Tryz.pinned (OpenSpec.ofChange receiptWholeSpec)

/-- ITS FALSE NEIGHBOUR: 'it returns false'. Refute it at one input. -/
def receiptWholeWrong : ChangeSpec := { name := "receiptWhole", fn := fun _ => fun
  | [d] => { results := [.lit (.bool false)], args := [d] }
  | _ => none }
def ReceiptWholeWrongFalsely : Prop := receiptWholeRow.holds Tryz.pinned (OpenSpec.ofChange receiptWholeWrong)

/-- 'haberdashlaw21.ReceiptShares': WHATEVER THE INPUT: true; the input reads as it did. -/
def receiptSharesSpec : ChangeSpec := { name := "receiptShares", fn := fun _ => fun
  | [d1, d2] => { results := [.lit (.bool true)], args := [d1, d2] }
  | _ => none }
def receiptSharesRow : OpenClaim := { program := "ytbajhapmlfbelaagreat", sum := "c97f1ed79e163090ee8827f9681ffb13f4323fa2debe1e2ac610faed33272d08", func := "haberdash/haberdashlaw21.ReceiptShares", spec := "receiptShares", unfollowed := true, recurses := true, named := ["math/bits.divideError", "math/bits.overflowError"], apart := false }
def ReceiptSharesSaid : Prop := receiptSharesRow.holds Tryz.pinned (OpenSpec.ofChange receiptSharesSpec)

/-- ITS FALSE NEIGHBOUR: 'it returns false'. Refute it at one input. -/
def receiptSharesWrong : ChangeSpec := { name := "receiptShares", fn := fun _ => fun
  | [d1, d2] => { results := [.lit (.bool false)], args := [d1, d2] }
  | _ => none }
def ReceiptSharesWrongFalsely : Prop := receiptSharesRow.holds Tryz.pinned (OpenSpec.ofChange receiptSharesWrong)

/-- 'haberdashlaw21.ReceiptTurned': WHATEVER THE INPUT: true; the input reads as it did. -/
def receiptTurnedSpec : ChangeSpec := { name := "receiptTurned", fn := fun _ => fun
  | [d1, d2, d3, d4, d5] => { results := [.lit (.bool true)], args := [d1, d2, d3, d4, d5] }
  | _ => none }
def receiptTurnedRow : OpenClaim := { program := "ytbajhapmlfbelaagreat", sum := "c97f1ed79e163090ee8827f9681ffb13f4323fa2debe1e2ac610faed33272d08", func := "haberdash/haberdashlaw21.ReceiptTurned", spec := "receiptTurned", unfollowed := true, recurses := true, named := ["math/bits.divideError", "math/bits.overflowError"], apart := false }
def ReceiptTurnedSaid : Prop := receiptTurnedRow.holds Tryz.pinned (OpenSpec.ofChange receiptTurnedSpec)

/-- ITS FALSE NEIGHBOUR: 'it returns false'. Refute it at one input. -/
def receiptTurnedWrong : ChangeSpec := { name := "receiptTurned", fn := fun _ => fun
  | [d1, d2, d3, d4, d5] => { results := [.lit (.bool false)], args := [d1, d2, d3, d4, d5] }
  | _ => none }
def ReceiptTurnedWrongFalsely : Prop := receiptTurnedRow.holds Tryz.pinned (OpenSpec.ofChange receiptTurnedWrong)

/- THE SECOND FORM. 'bulk': how many values and letters a reading holds, each counted each time it is reached (what is shared counts as often as it is met; a slice's spare places count too). A statement '..UptoSaid' is the law's where the arguments, and the package variables that the reading takes, are together of bulk at most 1048576: NARROWER than '..Said'. Prove '..Said' where nothing that the law and all that it calls make is longer than what came in: it says more and counts as full. Else prove '..UptoSaid'. A law counts once. -/
mutual
def uptoBulk {H : Type} : DataW H → Nat
  | .lit (.string bytes) => bytes.length + 1
  | .lit _ => 1
  | .nil => 1
  | .ptr d => uptoBulk d + 1
  | .slice elems spare => uptoBulkAll elems + uptoBulkAll spare + 1
  | .agg parts => uptoBulkAll parts + 1
  | .iface _ d => uptoBulk d + 1
  | .map entries => uptoBulkEntries entries + 1
  | .held _ => 1
def uptoBulkAll {H : Type} : List (DataW H) → Nat
  | [] => 0
  | d :: r => uptoBulk d + uptoBulkAll r
def uptoBulkEntries {H : Type} : List (Lit × DataW H) → Nat
  | [] => 0
  | x :: r => uptoBulkEntry x + uptoBulkEntries r
def uptoBulkEntry {H : Type} : Lit × DataW H → Nat
  | (.string bytes, d) => bytes.length + uptoBulk d + 1
  | (_, d) => uptoBulk d + 1
 end
def uptoSmall : (H : Type) → List (DataW H) → Bool := fun _ ds => decide (uptoBulkAll ds ≤ 1048576)
def OpenSpec.upto (s : _root_.Go.ChangeSpec) : _root_.Go.OpenSpec := { _root_.Go.OpenSpec.ofChange s with cond := some uptoSmall }

/-- 'haberdashlaw17.PriceRaw', WHERE WHAT IT READS IS OF BULK AT MOST 1048576: true; the input reads as it did. -/
def priceRawUptoRow : OpenClaim := { program := "ytbajhapmlfbelaagreat", sum := "c97f1ed79e163090ee8827f9681ffb13f4323fa2debe1e2ac610faed33272d08", func := "haberdash/haberdashlaw17.PriceRaw", spec := "priceRaw", unfollowed := true, recurses := true, named := ["math/bits.divideError", "math/bits.overflowError"], apart := false, narrowed := true }
def PriceRawUptoSaid : Prop := priceRawUptoRow.holds Tryz.pinned (OpenSpec.upto priceRawSpec)

/-- 'haberdashlaw18.DeskErrors', WHERE WHAT IT READS IS OF BULK AT MOST 1048576: true; the input reads as it did. -/
def deskErrorsUptoRow : OpenClaim := { program := "ytbajhapmlfbelaagreat", sum := "c97f1ed79e163090ee8827f9681ffb13f4323fa2debe1e2ac610faed33272d08", func := "haberdash/haberdashlaw18.DeskErrors", spec := "deskErrors", unfollowed := true, recurses := true, named := ["math/bits.divideError", "math/bits.overflowError"], apart := false, narrowed := true }
def DeskErrorsUptoSaid : Prop := deskErrorsUptoRow.holds Tryz.pinned (OpenSpec.upto deskErrorsSpec)

/-- 'haberdashlaw18.DeskOwn', WHERE WHAT IT READS IS OF BULK AT MOST 1048576: true; the input reads as it did. -/
def deskOwnUptoRow : OpenClaim := { program := "ytbajhapmlfbelaagreat", sum := "c97f1ed79e163090ee8827f9681ffb13f4323fa2debe1e2ac610faed33272d08", func := "haberdash/haberdashlaw18.DeskOwn", spec := "deskOwn", unfollowed := true, recurses := true, named := ["math/bits.divideError", "math/bits.overflowError"], apart := false, narrowed := true }
def DeskOwnUptoSaid : Prop := deskOwnUptoRow.holds Tryz.pinned (OpenSpec.upto deskOwnSpec)

/-- 'haberdashlaw20.QuoteLines', WHERE WHAT IT READS IS OF BULK AT MOST 1048576: true; the input reads as it did. -/
def quoteLinesUptoRow : OpenClaim := { program := "ytbajhapmlfbelaagreat", sum := "c97f1ed79e163090ee8827f9681ffb13f4323fa2debe1e2ac610faed33272d08", func := "haberdash/haberdashlaw20.QuoteLines", spec := "quoteLines", unfollowed := true, recurses := true, named := ["math/bits.divideError", "math/bits.overflowError"], apart := false, narrowed := true }
def QuoteLinesUptoSaid : Prop := quoteLinesUptoRow.holds Tryz.pinned (OpenSpec.upto quoteLinesSpec)

/-- 'haberdashlaw20.QuoteErrors', WHERE WHAT IT READS IS OF BULK AT MOST 1048576: true; the input reads as it did. -/
def quoteErrorsUptoRow : OpenClaim := { program := "ytbajhapmlfbelaagreat", sum := "c97f1ed79e163090ee8827f9681ffb13f4323fa2debe1e2ac610faed33272d08", func := "haberdash/haberdashlaw20.QuoteErrors", spec := "quoteErrors", unfollowed := true, recurses := true, named := ["math/bits.divideError", "math/bits.overflowError"], apart := false, narrowed := true }
def QuoteErrorsUptoSaid : Prop := quoteErrorsUptoRow.holds Tryz.pinned (OpenSpec.upto quoteErrorsSpec)

/-- 'haberdashlaw21.ReceiptRaw', WHERE WHAT IT READS IS OF BULK AT MOST 1048576: true; the input reads as it did. -/
def receiptRawUptoRow : OpenClaim := { program := "ytbajhapmlfbelaagreat", sum := "c97f1ed79e163090ee8827f9681ffb13f4323fa2debe1e2ac610faed33272d08", func := "haberdash/haberdashlaw21.ReceiptRaw", spec := "receiptRaw", unfollowed := true, recurses := true, named := ["math/bits.divideError", "math/bits.overflowError"], apart := false, narrowed := true }
def ReceiptRawUptoSaid : Prop := receiptRawUptoRow.holds Tryz.pinned (OpenSpec.upto receiptRawSpec)

/-- 'haberdashlaw21.ReceiptSells', WHERE WHAT IT READS IS OF BULK AT MOST 1048576: true; the input reads as it did. -/
def receiptSellsUptoRow : OpenClaim := { program := "ytbajhapmlfbelaagreat", sum := "c97f1ed79e163090ee8827f9681ffb13f4323fa2debe1e2ac610faed33272d08", func := "haberdash/haberdashlaw21.ReceiptSells", spec := "receiptSells", unfollowed := true, recurses := true, named := ["math/bits.divideError", "math/bits.overflowError"], apart := false, narrowed := true }
def ReceiptSellsUptoSaid : Prop := receiptSellsUptoRow.holds Tryz.pinned (OpenSpec.upto receiptSellsSpec)

/-- 'haberdashlaw21.ReceiptWhole', WHERE WHAT IT READS IS OF BULK AT MOST 1048576: true; the input reads as it did. -/
def receiptWholeUptoRow : OpenClaim := { program := "ytbajhapmlfbelaagreat", sum := "c97f1ed79e163090ee8827f9681ffb13f4323fa2debe1e2ac610faed33272d08", func := "haberdash/haberdashlaw21.ReceiptWhole", spec := "receiptWhole", unfollowed := true, recurses := true, named := ["math/bits.divideError", "math/bits.overflowError"], apart := false, narrowed := true }
def ReceiptWholeUptoSaid : Prop := receiptWholeUptoRow.holds Tryz.pinned (OpenSpec.upto receiptWholeSpec)

/-- 'haberdashlaw21.ReceiptShares', WHERE WHAT IT READS IS OF BULK AT MOST 1048576: true; the input reads as it did. -/
def receiptSharesUptoRow : OpenClaim := { program := "ytbajhapmlfbelaagreat", sum := "c97f1ed79e163090ee8827f9681ffb13f4323fa2debe1e2ac610faed33272d08", func := "haberdash/haberdashlaw21.ReceiptShares", spec := "receiptShares", unfollowed := true, recurses := true, named := ["math/bits.divideError", "math/bits.overflowError"], apart := false, narrowed := true }
def ReceiptSharesUptoSaid : Prop := receiptSharesUptoRow.holds Tryz.pinned (OpenSpec.upto receiptSharesSpec)

/-- 'haberdashlaw21.ReceiptTurned', WHERE WHAT IT READS IS OF BULK AT MOST 1048576: true; the input reads as it did. -/
def receiptTurnedUptoRow : OpenClaim := { program := "ytbajhapmlfbelaagreat", sum := "c97f1ed79e163090ee8827f9681ffb13f4323fa2debe1e2ac610faed33272d08", func := "haberdash/haberdashlaw21.ReceiptTurned", spec := "receiptTurned", unfollowed := true, recurses := true, named := ["math/bits.divideError", "math/bits.overflowError"], apart := false, narrowed := true }
def ReceiptTurnedUptoSaid : Prop := receiptTurnedUptoRow.holds Tryz.pinned (OpenSpec.upto receiptTurnedSpec)

end Rows
end Go.Proofs.YtbajhapmlfbelaaGreat
