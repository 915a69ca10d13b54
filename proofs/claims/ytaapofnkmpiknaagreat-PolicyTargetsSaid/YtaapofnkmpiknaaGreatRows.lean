/-
  No cell of these rows narrows 'for every input' (looked for: loops, veiled, ifaces, maps, wideKeys, modest, calm, conditions, laid).
  DERIVED. THE GIVEN ROWS OF THIS SEAT. 11 by the template 'for every input the law returns true; each argument reads behind the call as it read before'; 0 by the template 'total and deterministic' (their statements: YtaapofnkmpiknaaGreatTotals.lean).
  GIVEN WITH THE SEED: the statements are not yours to turn. If you find one false, say at which input.
  Laid BY PROGRAM, IN A SANDBOX (cutbox-rows.mjs): the forced cells as the released guide's own fill.sh prints them over the translation 095f135fbc4b8b4f… (all of the seat's roots in one cut). By AI agents, Wed Nov 11 2026. No macro, syntax, notation, axiom, sorry.
-/
import Derived.Test.YtaapofnkmpiknaaGreatChecked
import GoSem.Claim
import GoSem.ClaimJoined
import GoSem.ClaimMapViews
import Derived.JoinedTies
import Derived.KernelRfl
namespace Go.Proofs.YtaapofnkmpiknaaGreat
/- THE CELL 'sum', in the pinned program and in every row, IS THE sha256 OF THE DUMP (.gsa) THAT YtaapofnkmpiknaaGreatProg.lean LOADS. Nothing in Lean hashes anything: it is a label: what it is worth is what the hold of that sum in a sandbox is worth. -/
noncomputable def Tryz.pinned : Pinned := { name := "ytaapofnkmpiknaagreat", sum := "095f135fbc4b8b4fbf17538b578e43189272c9bfabdbe8ca9a59377baa8a094d", checked := Tryz.checked }
namespace Rows
def none {H : Type} : Left H := { results := [], args := [] }

/-- 'haberdashlaw21.ReceiptWhole': WHATEVER THE INPUT: true; the input reads as it did. -/
def receiptWholeSpec : ChangeSpec := { name := "receiptWhole", fn := fun _ => fun
  | [d] => { results := [.lit (.bool true)], args := [d] }
  | _ => none }
def receiptWholeRow : OpenClaim := { program := "ytaapofnkmpiknaagreat", sum := "095f135fbc4b8b4fbf17538b578e43189272c9bfabdbe8ca9a59377baa8a094d", func := "haberdash/haberdashlaw21.ReceiptWhole", spec := "receiptWhole", unfollowed := true, recurses := true, named := ["math/bits.divideError", "math/bits.overflowError"], apart := false }
def ReceiptWholeSaid : Prop := receiptWholeRow.holds Tryz.pinned (OpenSpec.ofChange receiptWholeSpec)

/-- ITS FALSE NEIGHBOUR: 'it returns false'. Refute it at one input. -/
def receiptWholeWrong : ChangeSpec := { name := "receiptWhole", fn := fun _ => fun
  | [d] => { results := [.lit (.bool false)], args := [d] }
  | _ => none }
def ReceiptWholeWrongFalsely : Prop := receiptWholeRow.holds Tryz.pinned (OpenSpec.ofChange receiptWholeWrong)

/-- 'haberdashlaw21.ReceiptShares': WHATEVER THE INPUT: true; the input reads as it did. -/
def receiptSharesSpec : ChangeSpec := { name := "receiptShares", fn := fun _ => fun
  | [d1, d2] => { results := [.lit (.bool true)], args := [d1, d2] }
  | _ => none }
def receiptSharesRow : OpenClaim := { program := "ytaapofnkmpiknaagreat", sum := "095f135fbc4b8b4fbf17538b578e43189272c9bfabdbe8ca9a59377baa8a094d", func := "haberdash/haberdashlaw21.ReceiptShares", spec := "receiptShares", unfollowed := true, recurses := true, named := ["math/bits.divideError", "math/bits.overflowError"], apart := false }
def ReceiptSharesSaid : Prop := receiptSharesRow.holds Tryz.pinned (OpenSpec.ofChange receiptSharesSpec)

/-- ITS FALSE NEIGHBOUR: 'it returns false'. Refute it at one input. -/
def receiptSharesWrong : ChangeSpec := { name := "receiptShares", fn := fun _ => fun
  | [d1, d2] => { results := [.lit (.bool false)], args := [d1, d2] }
  | _ => none }
def ReceiptSharesWrongFalsely : Prop := receiptSharesRow.holds Tryz.pinned (OpenSpec.ofChange receiptSharesWrong)

/-- 'haberdashlaw21.ReceiptTurned': WHATEVER THE INPUT: true; the input reads as it did. -/
def receiptTurnedSpec : ChangeSpec := { name := "receiptTurned", fn := fun _ => fun
  | [d1, d2, d3, d4, d5] => { results := [.lit (.bool true)], args := [d1, d2, d3, d4, d5] }
  | _ => none }
def receiptTurnedRow : OpenClaim := { program := "ytaapofnkmpiknaagreat", sum := "095f135fbc4b8b4fbf17538b578e43189272c9bfabdbe8ca9a59377baa8a094d", func := "haberdash/haberdashlaw21.ReceiptTurned", spec := "receiptTurned", unfollowed := true, recurses := true, named := ["math/bits.divideError", "math/bits.overflowError"], apart := false }
def ReceiptTurnedSaid : Prop := receiptTurnedRow.holds Tryz.pinned (OpenSpec.ofChange receiptTurnedSpec)

/-- ITS FALSE NEIGHBOUR: 'it returns false'. Refute it at one input. -/
def receiptTurnedWrong : ChangeSpec := { name := "receiptTurned", fn := fun _ => fun
  | [d1, d2, d3, d4, d5] => { results := [.lit (.bool false)], args := [d1, d2, d3, d4, d5] }
  | _ => none }
def ReceiptTurnedWrongFalsely : Prop := receiptTurnedRow.holds Tryz.pinned (OpenSpec.ofChange receiptTurnedWrong)

/-- 'haberdashlaw21.ReceiptSells': WHATEVER THE INPUT: true; the input reads as it did. -/
def receiptSellsSpec : ChangeSpec := { name := "receiptSells", fn := fun _ => fun
  | [d1, d2, d3, d4] => { results := [.lit (.bool true)], args := [d1, d2, d3, d4] }
  | _ => none }
def receiptSellsRow : OpenClaim := { program := "ytaapofnkmpiknaagreat", sum := "095f135fbc4b8b4fbf17538b578e43189272c9bfabdbe8ca9a59377baa8a094d", func := "haberdash/haberdashlaw21.ReceiptSells", spec := "receiptSells", unfollowed := true, recurses := true, named := ["math/bits.divideError", "math/bits.overflowError"], apart := false }
def ReceiptSellsSaid : Prop := receiptSellsRow.holds Tryz.pinned (OpenSpec.ofChange receiptSellsSpec)

/-- ITS FALSE NEIGHBOUR: 'it returns false'. Refute it at one input. -/
def receiptSellsWrong : ChangeSpec := { name := "receiptSells", fn := fun _ => fun
  | [d1, d2, d3, d4] => { results := [.lit (.bool false)], args := [d1, d2, d3, d4] }
  | _ => none }
def ReceiptSellsWrongFalsely : Prop := receiptSellsRow.holds Tryz.pinned (OpenSpec.ofChange receiptSellsWrong)

/-- 'haberdashlaw23.PolicyWindow': WHATEVER THE INPUT: true; the input reads as it did. -/
def policyWindowSpec : ChangeSpec := { name := "policyWindow", fn := fun _ => fun
  | [d1, d2, d3, d4] => { results := [.lit (.bool true)], args := [d1, d2, d3, d4] }
  | _ => none }
def policyWindowRow : OpenClaim := { program := "ytaapofnkmpiknaagreat", sum := "095f135fbc4b8b4fbf17538b578e43189272c9bfabdbe8ca9a59377baa8a094d", func := "haberdash/haberdashlaw23.PolicyWindow", spec := "policyWindow", unfollowed := true, recurses := true, named := ["math/bits.divideError", "math/bits.overflowError"], apart := false }
def PolicyWindowSaid : Prop := policyWindowRow.holds Tryz.pinned (OpenSpec.ofChange policyWindowSpec)

/-- ITS FALSE NEIGHBOUR: 'it returns false'. Refute it at one input. -/
def policyWindowWrong : ChangeSpec := { name := "policyWindow", fn := fun _ => fun
  | [d1, d2, d3, d4] => { results := [.lit (.bool false)], args := [d1, d2, d3, d4] }
  | _ => none }
def PolicyWindowWrongFalsely : Prop := policyWindowRow.holds Tryz.pinned (OpenSpec.ofChange policyWindowWrong)

/-- 'haberdashlaw23.PolicySold': WHATEVER THE INPUT: true; the input reads as it did. -/
def policySoldSpec : ChangeSpec := { name := "policySold", fn := fun _ => fun
  | [d1, d2] => { results := [.lit (.bool true)], args := [d1, d2] }
  | _ => none }
def policySoldRow : OpenClaim := { program := "ytaapofnkmpiknaagreat", sum := "095f135fbc4b8b4fbf17538b578e43189272c9bfabdbe8ca9a59377baa8a094d", func := "haberdash/haberdashlaw23.PolicySold", spec := "policySold", unfollowed := true, recurses := true, named := ["math/bits.divideError", "math/bits.overflowError"], apart := false }
def PolicySoldSaid : Prop := policySoldRow.holds Tryz.pinned (OpenSpec.ofChange policySoldSpec)

/-- ITS FALSE NEIGHBOUR: 'it returns false'. Refute it at one input. -/
def policySoldWrong : ChangeSpec := { name := "policySold", fn := fun _ => fun
  | [d1, d2] => { results := [.lit (.bool false)], args := [d1, d2] }
  | _ => none }
def PolicySoldWrongFalsely : Prop := policySoldRow.holds Tryz.pinned (OpenSpec.ofChange policySoldWrong)

/-- 'haberdashlaw23.PolicyTakes': WHATEVER THE INPUT: true; the input reads as it did. -/
def policyTakesSpec : ChangeSpec := { name := "policyTakes", fn := fun _ => fun
  | [d1, d2, d3, d4] => { results := [.lit (.bool true)], args := [d1, d2, d3, d4] }
  | _ => none }
def policyTakesRow : OpenClaim := { program := "ytaapofnkmpiknaagreat", sum := "095f135fbc4b8b4fbf17538b578e43189272c9bfabdbe8ca9a59377baa8a094d", func := "haberdash/haberdashlaw23.PolicyTakes", spec := "policyTakes", unfollowed := true, recurses := true, named := ["math/bits.divideError", "math/bits.overflowError"], apart := false }
def PolicyTakesSaid : Prop := policyTakesRow.holds Tryz.pinned (OpenSpec.ofChange policyTakesSpec)

/-- ITS FALSE NEIGHBOUR: 'it returns false'. Refute it at one input. -/
def policyTakesWrong : ChangeSpec := { name := "policyTakes", fn := fun _ => fun
  | [d1, d2, d3, d4] => { results := [.lit (.bool false)], args := [d1, d2, d3, d4] }
  | _ => none }
def PolicyTakesWrongFalsely : Prop := policyTakesRow.holds Tryz.pinned (OpenSpec.ofChange policyTakesWrong)

/-- 'haberdashlaw23.PolicyTargets': WHATEVER THE INPUT: true; the input reads as it did. -/
def policyTargetsSpec : ChangeSpec := { name := "policyTargets", fn := fun _ => fun
  | [d1, d2, d3, d4] => { results := [.lit (.bool true)], args := [d1, d2, d3, d4] }
  | _ => none }
def policyTargetsRow : OpenClaim := { program := "ytaapofnkmpiknaagreat", sum := "095f135fbc4b8b4fbf17538b578e43189272c9bfabdbe8ca9a59377baa8a094d", func := "haberdash/haberdashlaw23.PolicyTargets", spec := "policyTargets", unfollowed := true, recurses := true, named := ["math/bits.divideError", "math/bits.overflowError"], apart := false }
def PolicyTargetsSaid : Prop := policyTargetsRow.holds Tryz.pinned (OpenSpec.ofChange policyTargetsSpec)

/-- ITS FALSE NEIGHBOUR: 'it returns false'. Refute it at one input. -/
def policyTargetsWrong : ChangeSpec := { name := "policyTargets", fn := fun _ => fun
  | [d1, d2, d3, d4] => { results := [.lit (.bool false)], args := [d1, d2, d3, d4] }
  | _ => none }
def PolicyTargetsWrongFalsely : Prop := policyTargetsRow.holds Tryz.pinned (OpenSpec.ofChange policyTargetsWrong)

/-- 'haberdashlaw23.PolicyAll': WHATEVER THE INPUT: true; the input reads as it did. -/
def policyAllSpec : ChangeSpec := { name := "policyAll", fn := fun _ => fun
  | [d1, d2, d3, d4] => { results := [.lit (.bool true)], args := [d1, d2, d3, d4] }
  | _ => none }
def policyAllRow : OpenClaim := { program := "ytaapofnkmpiknaagreat", sum := "095f135fbc4b8b4fbf17538b578e43189272c9bfabdbe8ca9a59377baa8a094d", func := "haberdash/haberdashlaw23.PolicyAll", spec := "policyAll", unfollowed := true, recurses := true, named := ["math/bits.divideError", "math/bits.overflowError"], apart := false }
def PolicyAllSaid : Prop := policyAllRow.holds Tryz.pinned (OpenSpec.ofChange policyAllSpec)

/-- ITS FALSE NEIGHBOUR: 'it returns false'. Refute it at one input. -/
def policyAllWrong : ChangeSpec := { name := "policyAll", fn := fun _ => fun
  | [d1, d2, d3, d4] => { results := [.lit (.bool false)], args := [d1, d2, d3, d4] }
  | _ => none }
def PolicyAllWrongFalsely : Prop := policyAllRow.holds Tryz.pinned (OpenSpec.ofChange policyAllWrong)

/-- 'haberdashlaw23.PolicyRaw': WHATEVER THE INPUT: true; the input reads as it did. -/
def policyRawSpec : ChangeSpec := { name := "policyRaw", fn := fun _ => fun
  | [d1, d2, d3, d4, d5] => { results := [.lit (.bool true)], args := [d1, d2, d3, d4, d5] }
  | _ => none }
def policyRawRow : OpenClaim := { program := "ytaapofnkmpiknaagreat", sum := "095f135fbc4b8b4fbf17538b578e43189272c9bfabdbe8ca9a59377baa8a094d", func := "haberdash/haberdashlaw23.PolicyRaw", spec := "policyRaw", unfollowed := true, recurses := true, named := ["math/bits.divideError", "math/bits.overflowError"], apart := false }
def PolicyRawSaid : Prop := policyRawRow.holds Tryz.pinned (OpenSpec.ofChange policyRawSpec)

/-- ITS FALSE NEIGHBOUR: 'it returns false'. Refute it at one input. -/
def policyRawWrong : ChangeSpec := { name := "policyRaw", fn := fun _ => fun
  | [d1, d2, d3, d4, d5] => { results := [.lit (.bool false)], args := [d1, d2, d3, d4, d5] }
  | _ => none }
def PolicyRawWrongFalsely : Prop := policyRawRow.holds Tryz.pinned (OpenSpec.ofChange policyRawWrong)

/-- 'haberdashlaw30.AuditOrders': WHATEVER THE INPUT: true; the input reads as it did. -/
def auditOrdersSpec : ChangeSpec := { name := "auditOrders", fn := fun _ => fun
  | [d1, d2, d3] => { results := [.lit (.bool true)], args := [d1, d2, d3] }
  | _ => none }
def auditOrdersRow : OpenClaim := { program := "ytaapofnkmpiknaagreat", sum := "095f135fbc4b8b4fbf17538b578e43189272c9bfabdbe8ca9a59377baa8a094d", func := "haberdash/haberdashlaw30.AuditOrders", spec := "auditOrders", unfollowed := true, recurses := true, named := ["math/bits.divideError", "math/bits.overflowError"], apart := false }
def AuditOrdersSaid : Prop := auditOrdersRow.holds Tryz.pinned (OpenSpec.ofChange auditOrdersSpec)

/-- ITS FALSE NEIGHBOUR: 'it returns false'. Refute it at one input. -/
def auditOrdersWrong : ChangeSpec := { name := "auditOrders", fn := fun _ => fun
  | [d1, d2, d3] => { results := [.lit (.bool false)], args := [d1, d2, d3] }
  | _ => none }
def AuditOrdersWrongFalsely : Prop := auditOrdersRow.holds Tryz.pinned (OpenSpec.ofChange auditOrdersWrong)

/- THE SECOND FORM. 'bulk': how many values and letters a reading holds, each counted each time it is reached (what is shared counts as often as it is met; a slice's spare places count too). A statement '..UptoSaid' is the law's where the arguments, and the package variables that the reading takes, are together of bulk at most 1048576: NARROWER than '..Said'. Prove '..Said' where nothing that the law and all that it calls make is longer than what came in: it says more and counts as full. Else prove '..UptoSaid'. A law counts once. -/
mutual
def uptoBulk {H : Type} : DataW H → Nat
  | .lit (.string bytes) => bytes.length + 1
  | .lit _ => 1
  | .nil => 1
  | .ptr d => uptoBulk d + 1
  | .slice elems spare => uptoBulkAll elems + uptoBulkAll spare + 1
  | .agg parts => uptoBulkAll parts + 1
  | .iface _ d => uptoBulk d + 1
  | .map entries => uptoBulkEntries entries + 1
  | .held _ => 1
def uptoBulkAll {H : Type} : List (DataW H) → Nat
  | [] => 0
  | d :: r => uptoBulk d + uptoBulkAll r
def uptoBulkEntries {H : Type} : List (Lit × DataW H) → Nat
  | [] => 0
  | x :: r => uptoBulkEntry x + uptoBulkEntries r
def uptoBulkEntry {H : Type} : Lit × DataW H → Nat
  | (.string bytes, d) => bytes.length + uptoBulk d + 1
  | (_, d) => uptoBulk d + 1
 end
def uptoSmall : (H : Type) → List (DataW H) → Bool := fun _ ds => decide (uptoBulkAll ds ≤ 1048576)
def OpenSpec.upto (s : _root_.Go.ChangeSpec) : _root_.Go.OpenSpec := { _root_.Go.OpenSpec.ofChange s with cond := some uptoSmall }

/-- 'haberdashlaw21.ReceiptWhole', WHERE WHAT IT READS IS OF BULK AT MOST 1048576: true; the input reads as it did. -/
def receiptWholeUptoRow : OpenClaim := { program := "ytaapofnkmpiknaagreat", sum := "095f135fbc4b8b4fbf17538b578e43189272c9bfabdbe8ca9a59377baa8a094d", func := "haberdash/haberdashlaw21.ReceiptWhole", spec := "receiptWhole", unfollowed := true, recurses := true, named := ["math/bits.divideError", "math/bits.overflowError"], apart := false, narrowed := true }
def ReceiptWholeUptoSaid : Prop := receiptWholeUptoRow.holds Tryz.pinned (OpenSpec.upto receiptWholeSpec)

/-- 'haberdashlaw21.ReceiptShares', WHERE WHAT IT READS IS OF BULK AT MOST 1048576: true; the input reads as it did. -/
def receiptSharesUptoRow : OpenClaim := { program := "ytaapofnkmpiknaagreat", sum := "095f135fbc4b8b4fbf17538b578e43189272c9bfabdbe8ca9a59377baa8a094d", func := "haberdash/haberdashlaw21.ReceiptShares", spec := "receiptShares", unfollowed := true, recurses := true, named := ["math/bits.divideError", "math/bits.overflowError"], apart := false, narrowed := true }
def ReceiptSharesUptoSaid : Prop := receiptSharesUptoRow.holds Tryz.pinned (OpenSpec.upto receiptSharesSpec)

/-- 'haberdashlaw21.ReceiptTurned', WHERE WHAT IT READS IS OF BULK AT MOST 1048576: true; the input reads as it did. -/
def receiptTurnedUptoRow : OpenClaim := { program := "ytaapofnkmpiknaagreat", sum := "095f135fbc4b8b4fbf17538b578e43189272c9bfabdbe8ca9a59377baa8a094d", func := "haberdash/haberdashlaw21.ReceiptTurned", spec := "receiptTurned", unfollowed := true, recurses := true, named := ["math/bits.divideError", "math/bits.overflowError"], apart := false, narrowed := true }
def ReceiptTurnedUptoSaid : Prop := receiptTurnedUptoRow.holds Tryz.pinned (OpenSpec.upto receiptTurnedSpec)

/-- 'haberdashlaw21.ReceiptSells', WHERE WHAT IT READS IS OF BULK AT MOST 1048576: true; the input reads as it did. -/
def receiptSellsUptoRow : OpenClaim := { program := "ytaapofnkmpiknaagreat", sum := "095f135fbc4b8b4fbf17538b578e43189272c9bfabdbe8ca9a59377baa8a094d", func := "haberdash/haberdashlaw21.ReceiptSells", spec := "receiptSells", unfollowed := true, recurses := true, named := ["math/bits.divideError", "math/bits.overflowError"], apart := false, narrowed := true }
def ReceiptSellsUptoSaid : Prop := receiptSellsUptoRow.holds Tryz.pinned (OpenSpec.upto receiptSellsSpec)

/-- 'haberdashlaw23.PolicyWindow', WHERE WHAT IT READS IS OF BULK AT MOST 1048576: true; the input reads as it did. -/
def policyWindowUptoRow : OpenClaim := { program := "ytaapofnkmpiknaagreat", sum := "095f135fbc4b8b4fbf17538b578e43189272c9bfabdbe8ca9a59377baa8a094d", func := "haberdash/haberdashlaw23.PolicyWindow", spec := "policyWindow", unfollowed := true, recurses := true, named := ["math/bits.divideError", "math/bits.overflowError"], apart := false, narrowed := true }
def PolicyWindowUptoSaid : Prop := policyWindowUptoRow.holds Tryz.pinned (OpenSpec.upto policyWindowSpec)

/-- 'haberdashlaw23.PolicySold', WHERE WHAT IT READS IS OF BULK AT MOST 1048576: true; the input reads as it did. -/
def policySoldUptoRow : OpenClaim := { program := "ytaapofnkmpiknaagreat", sum := "095f135fbc4b8b4fbf17538b578e43189272c9bfabdbe8ca9a59377baa8a094d", func := "haberdash/haberdashlaw23.PolicySold", spec := "policySold", unfollowed := true, recurses := true, named := ["math/bits.divideError", "math/bits.overflowError"], apart := false, narrowed := true }
def PolicySoldUptoSaid : Prop := policySoldUptoRow.holds Tryz.pinned (OpenSpec.upto policySoldSpec)

/-- 'haberdashlaw23.PolicyTakes', WHERE WHAT IT READS IS OF BULK AT MOST 1048576: true; the input reads as it did. -/
def policyTakesUptoRow : OpenClaim := { program := "ytaapofnkmpiknaagreat", sum := "095f135fbc4b8b4fbf17538b578e43189272c9bfabdbe8ca9a59377baa8a094d", func := "haberdash/haberdashlaw23.PolicyTakes", spec := "policyTakes", unfollowed := true, recurses := true, named := ["math/bits.divideError", "math/bits.overflowError"], apart := false, narrowed := true }
def PolicyTakesUptoSaid : Prop := policyTakesUptoRow.holds Tryz.pinned (OpenSpec.upto policyTakesSpec)

/-- 'haberdashlaw23.PolicyTargets', WHERE WHAT IT READS IS OF BULK AT MOST 1048576: true; the input reads as it did. -/
def policyTargetsUptoRow : OpenClaim := { program := "ytaapofnkmpiknaagreat", sum := "095f135fbc4b8b4fbf17538b578e43189272c9bfabdbe8ca9a59377baa8a094d", func := "haberdash/haberdashlaw23.PolicyTargets", spec := "policyTargets", unfollowed := true, recurses := true, named := ["math/bits.divideError", "math/bits.overflowError"], apart := false, narrowed := true }
def PolicyTargetsUptoSaid : Prop := policyTargetsUptoRow.holds Tryz.pinned (OpenSpec.upto policyTargetsSpec)

/-- 'haberdashlaw23.PolicyAll', WHERE WHAT IT READS IS OF BULK AT MOST 1048576: true; the input reads as it did. -/
def policyAllUptoRow : OpenClaim := { program := "ytaapofnkmpiknaagreat", sum := "095f135fbc4b8b4fbf17538b578e43189272c9bfabdbe8ca9a59377baa8a094d", func := "haberdash/haberdashlaw23.PolicyAll", spec := "policyAll", unfollowed := true, recurses := true, named := ["math/bits.divideError", "math/bits.overflowError"], apart := false, narrowed := true }
def PolicyAllUptoSaid : Prop := policyAllUptoRow.holds Tryz.pinned (OpenSpec.upto policyAllSpec)

/-- 'haberdashlaw23.PolicyRaw', WHERE WHAT IT READS IS OF BULK AT MOST 1048576: true; the input reads as it did. -/
def policyRawUptoRow : OpenClaim := { program := "ytaapofnkmpiknaagreat", sum := "095f135fbc4b8b4fbf17538b578e43189272c9bfabdbe8ca9a59377baa8a094d", func := "haberdash/haberdashlaw23.PolicyRaw", spec := "policyRaw", unfollowed := true, recurses := true, named := ["math/bits.divideError", "math/bits.overflowError"], apart := false, narrowed := true }
def PolicyRawUptoSaid : Prop := policyRawUptoRow.holds Tryz.pinned (OpenSpec.upto policyRawSpec)

/-- 'haberdashlaw30.AuditOrders', WHERE WHAT IT READS IS OF BULK AT MOST 1048576: true; the input reads as it did. -/
def auditOrdersUptoRow : OpenClaim := { program := "ytaapofnkmpiknaagreat", sum := "095f135fbc4b8b4fbf17538b578e43189272c9bfabdbe8ca9a59377baa8a094d", func := "haberdash/haberdashlaw30.AuditOrders", spec := "auditOrders", unfollowed := true, recurses := true, named := ["math/bits.divideError", "math/bits.overflowError"], apart := false, narrowed := true }
def AuditOrdersUptoSaid : Prop := auditOrdersUptoRow.holds Tryz.pinned (OpenSpec.upto auditOrdersSpec)

end Rows
end Go.Proofs.YtaapofnkmpiknaaGreat
