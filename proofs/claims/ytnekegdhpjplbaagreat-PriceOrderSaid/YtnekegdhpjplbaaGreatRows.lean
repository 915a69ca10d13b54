/-
  No cell of these rows narrows 'for every input' (looked for: loops, veiled, ifaces, maps, wideKeys, modest, calm, conditions, laid).
  DERIVED. THE GIVEN ROWS OF THIS SEAT. 11 by the template 'for every input the law returns true; each argument reads behind the call as it read before'; 0 by the template 'total and deterministic' (their statements: YtnekegdhpjplbaaGreatTotals.lean).
  GIVEN WITH THE SEED: the statements are not yours to turn. If you find one false, say at which input.
  Laid BY PROGRAM, IN A SANDBOX (cutbox-rows.mjs): the forced cells as the released guide's own fill.sh prints them over the translation 5564b4fe1d07a9f4… (all of the seat's roots in one cut). By AI agents, Wed Nov 11 2026. No macro, syntax, notation, axiom, sorry.
-/
import Derived.Test.YtnekegdhpjplbaaGreatChecked
import GoSem.Claim
import GoSem.ClaimJoined
import GoSem.ClaimMapViews
import Derived.JoinedTies
import Derived.KernelRfl
namespace Go.Proofs.YtnekegdhpjplbaaGreat
/- THE CELL 'sum', in the pinned program and in every row, IS THE sha256 OF THE DUMP (.gsa) THAT YtnekegdhpjplbaaGreatProg.lean LOADS. Nothing in Lean hashes anything: it is a label: what it is worth is what the hold of that sum in a sandbox is worth. -/
noncomputable def Tryz.pinned : Pinned := { name := "ytnekegdhpjplbaagreat", sum := "5564b4fe1d07a9f4bf490173e1a73c8d222427f5fdc2041d238bcd3442143254", checked := Tryz.checked }
namespace Rows
def none {H : Type} : Left H := { results := [], args := [] }

/-- 'haberdashlaw17.PriceRaw': WHATEVER THE INPUT: true; the input reads as it did. -/
def priceRawSpec : ChangeSpec := { name := "priceRaw", fn := fun _ => fun
  | [d1, d2, d3, d4] => { results := [.lit (.bool true)], args := [d1, d2, d3, d4] }
  | _ => none }
def priceRawRow : OpenClaim := { program := "ytnekegdhpjplbaagreat", sum := "5564b4fe1d07a9f4bf490173e1a73c8d222427f5fdc2041d238bcd3442143254", func := "haberdash/haberdashlaw17.PriceRaw", spec := "priceRaw", unfollowed := true, recurses := true, named := ["math/bits.divideError", "math/bits.overflowError"], apart := false }
def PriceRawSaid : Prop := priceRawRow.holds Tryz.pinned (OpenSpec.ofChange priceRawSpec)

/-- ITS FALSE NEIGHBOUR: 'it returns false'. Refute it at one input. -/
def priceRawWrong : ChangeSpec := { name := "priceRaw", fn := fun _ => fun
  | [d1, d2, d3, d4] => { results := [.lit (.bool false)], args := [d1, d2, d3, d4] }
  | _ => none }
def PriceRawWrongFalsely : Prop := priceRawRow.holds Tryz.pinned (OpenSpec.ofChange priceRawWrong)

/-- 'haberdashlaw17.PriceAll': WHATEVER THE INPUT: true; the input reads as it did. -/
def priceAllSpec : ChangeSpec := { name := "priceAll", fn := fun _ => fun
  | [d1, d2, d3] => { results := [.lit (.bool true)], args := [d1, d2, d3] }
  | _ => none }
def priceAllRow : OpenClaim := { program := "ytnekegdhpjplbaagreat", sum := "5564b4fe1d07a9f4bf490173e1a73c8d222427f5fdc2041d238bcd3442143254", func := "haberdash/haberdashlaw17.PriceAll", spec := "priceAll", unfollowed := true, recurses := true, named := ["math/bits.divideError", "math/bits.overflowError"], apart := false }
def PriceAllSaid : Prop := priceAllRow.holds Tryz.pinned (OpenSpec.ofChange priceAllSpec)

/-- ITS FALSE NEIGHBOUR: 'it returns false'. Refute it at one input. -/
def priceAllWrong : ChangeSpec := { name := "priceAll", fn := fun _ => fun
  | [d1, d2, d3] => { results := [.lit (.bool false)], args := [d1, d2, d3] }
  | _ => none }
def PriceAllWrongFalsely : Prop := priceAllRow.holds Tryz.pinned (OpenSpec.ofChange priceAllWrong)

/-- 'haberdashlaw17.PriceSums': WHATEVER THE INPUT: true; the input reads as it did. -/
def priceSumsSpec : ChangeSpec := { name := "priceSums", fn := fun _ => fun
  | [d1, d2, d3] => { results := [.lit (.bool true)], args := [d1, d2, d3] }
  | _ => none }
def priceSumsRow : OpenClaim := { program := "ytnekegdhpjplbaagreat", sum := "5564b4fe1d07a9f4bf490173e1a73c8d222427f5fdc2041d238bcd3442143254", func := "haberdash/haberdashlaw17.PriceSums", spec := "priceSums", unfollowed := true, recurses := true, named := ["math/bits.divideError", "math/bits.overflowError"], apart := false }
def PriceSumsSaid : Prop := priceSumsRow.holds Tryz.pinned (OpenSpec.ofChange priceSumsSpec)

/-- ITS FALSE NEIGHBOUR: 'it returns false'. Refute it at one input. -/
def priceSumsWrong : ChangeSpec := { name := "priceSums", fn := fun _ => fun
  | [d1, d2, d3] => { results := [.lit (.bool false)], args := [d1, d2, d3] }
  | _ => none }
def PriceSumsWrongFalsely : Prop := priceSumsRow.holds Tryz.pinned (OpenSpec.ofChange priceSumsWrong)

/-- 'haberdashlaw17.PriceGroups': WHATEVER THE INPUT: true; the input reads as it did. -/
def priceGroupsSpec : ChangeSpec := { name := "priceGroups", fn := fun _ => fun
  | [d1, d2, d3] => { results := [.lit (.bool true)], args := [d1, d2, d3] }
  | _ => none }
def priceGroupsRow : OpenClaim := { program := "ytnekegdhpjplbaagreat", sum := "5564b4fe1d07a9f4bf490173e1a73c8d222427f5fdc2041d238bcd3442143254", func := "haberdash/haberdashlaw17.PriceGroups", spec := "priceGroups", unfollowed := true, recurses := true, named := ["math/bits.divideError", "math/bits.overflowError"], apart := false }
def PriceGroupsSaid : Prop := priceGroupsRow.holds Tryz.pinned (OpenSpec.ofChange priceGroupsSpec)

/-- ITS FALSE NEIGHBOUR: 'it returns false'. Refute it at one input. -/
def priceGroupsWrong : ChangeSpec := { name := "priceGroups", fn := fun _ => fun
  | [d1, d2, d3] => { results := [.lit (.bool false)], args := [d1, d2, d3] }
  | _ => none }
def PriceGroupsWrongFalsely : Prop := priceGroupsRow.holds Tryz.pinned (OpenSpec.ofChange priceGroupsWrong)

/-- 'haberdashlaw17.PriceOrder': WHATEVER THE INPUT: true; the input reads as it did. -/
def priceOrderSpec : ChangeSpec := { name := "priceOrder", fn := fun _ => fun
  | [d1, d2, d3, d4] => { results := [.lit (.bool true)], args := [d1, d2, d3, d4] }
  | _ => none }
def priceOrderRow : OpenClaim := { program := "ytnekegdhpjplbaagreat", sum := "5564b4fe1d07a9f4bf490173e1a73c8d222427f5fdc2041d238bcd3442143254", func := "haberdash/haberdashlaw17.PriceOrder", spec := "priceOrder", unfollowed := true, recurses := true, named := ["math/bits.divideError", "math/bits.overflowError"], apart := false }
def PriceOrderSaid : Prop := priceOrderRow.holds Tryz.pinned (OpenSpec.ofChange priceOrderSpec)

/-- ITS FALSE NEIGHBOUR: 'it returns false'. Refute it at one input. -/
def priceOrderWrong : ChangeSpec := { name := "priceOrder", fn := fun _ => fun
  | [d1, d2, d3, d4] => { results := [.lit (.bool false)], args := [d1, d2, d3, d4] }
  | _ => none }
def PriceOrderWrongFalsely : Prop := priceOrderRow.holds Tryz.pinned (OpenSpec.ofChange priceOrderWrong)

/-- 'haberdashlaw17.PriceNone': WHATEVER THE INPUT: true; the input reads as it did. -/
def priceNoneSpec : ChangeSpec := { name := "priceNone", fn := fun _ => fun
  | [d1, d2, d3] => { results := [.lit (.bool true)], args := [d1, d2, d3] }
  | _ => none }
def priceNoneRow : OpenClaim := { program := "ytnekegdhpjplbaagreat", sum := "5564b4fe1d07a9f4bf490173e1a73c8d222427f5fdc2041d238bcd3442143254", func := "haberdash/haberdashlaw17.PriceNone", spec := "priceNone", unfollowed := true, recurses := true, named := ["math/bits.divideError", "math/bits.overflowError"], apart := false }
def PriceNoneSaid : Prop := priceNoneRow.holds Tryz.pinned (OpenSpec.ofChange priceNoneSpec)

/-- ITS FALSE NEIGHBOUR: 'it returns false'. Refute it at one input. -/
def priceNoneWrong : ChangeSpec := { name := "priceNone", fn := fun _ => fun
  | [d1, d2, d3] => { results := [.lit (.bool false)], args := [d1, d2, d3] }
  | _ => none }
def PriceNoneWrongFalsely : Prop := priceNoneRow.holds Tryz.pinned (OpenSpec.ofChange priceNoneWrong)

/-- 'haberdashlaw17.PriceLeast': WHATEVER THE INPUT: true; the input reads as it did. -/
def priceLeastSpec : ChangeSpec := { name := "priceLeast", fn := fun _ => fun
  | [d1, d2, d3] => { results := [.lit (.bool true)], args := [d1, d2, d3] }
  | _ => none }
def priceLeastRow : OpenClaim := { program := "ytnekegdhpjplbaagreat", sum := "5564b4fe1d07a9f4bf490173e1a73c8d222427f5fdc2041d238bcd3442143254", func := "haberdash/haberdashlaw17.PriceLeast", spec := "priceLeast", unfollowed := true, recurses := true, named := ["math/bits.divideError", "math/bits.overflowError"], apart := false }
def PriceLeastSaid : Prop := priceLeastRow.holds Tryz.pinned (OpenSpec.ofChange priceLeastSpec)

/-- ITS FALSE NEIGHBOUR: 'it returns false'. Refute it at one input. -/
def priceLeastWrong : ChangeSpec := { name := "priceLeast", fn := fun _ => fun
  | [d1, d2, d3] => { results := [.lit (.bool false)], args := [d1, d2, d3] }
  | _ => none }
def PriceLeastWrongFalsely : Prop := priceLeastRow.holds Tryz.pinned (OpenSpec.ofChange priceLeastWrong)

/-- 'haberdashlaw18.DeskPlays': WHATEVER THE INPUT: true; the input reads as it did. -/
def deskPlaysSpec : ChangeSpec := { name := "deskPlays", fn := fun _ => fun
  | [d1, d2, d3] => { results := [.lit (.bool true)], args := [d1, d2, d3] }
  | _ => none }
def deskPlaysRow : OpenClaim := { program := "ytnekegdhpjplbaagreat", sum := "5564b4fe1d07a9f4bf490173e1a73c8d222427f5fdc2041d238bcd3442143254", func := "haberdash/haberdashlaw18.DeskPlays", spec := "deskPlays", unfollowed := true, recurses := true, named := ["math/bits.divideError", "math/bits.overflowError"], apart := false }
def DeskPlaysSaid : Prop := deskPlaysRow.holds Tryz.pinned (OpenSpec.ofChange deskPlaysSpec)

/-- ITS FALSE NEIGHBOUR: 'it returns false'. Refute it at one input. -/
def deskPlaysWrong : ChangeSpec := { name := "deskPlays", fn := fun _ => fun
  | [d1, d2, d3] => { results := [.lit (.bool false)], args := [d1, d2, d3] }
  | _ => none }
def DeskPlaysWrongFalsely : Prop := deskPlaysRow.holds Tryz.pinned (OpenSpec.ofChange deskPlaysWrong)

/-- 'haberdashlaw18.DeskWay': WHATEVER THE INPUT: true; the input reads as it did. -/
def deskWaySpec : ChangeSpec := { name := "deskWay", fn := fun _ => fun
  | [d1, d2, d3, d4, d5] => { results := [.lit (.bool true)], args := [d1, d2, d3, d4, d5] }
  | _ => none }
def deskWayRow : OpenClaim := { program := "ytnekegdhpjplbaagreat", sum := "5564b4fe1d07a9f4bf490173e1a73c8d222427f5fdc2041d238bcd3442143254", func := "haberdash/haberdashlaw18.DeskWay", spec := "deskWay", unfollowed := true, recurses := true, named := ["math/bits.divideError", "math/bits.overflowError"], apart := false }
def DeskWaySaid : Prop := deskWayRow.holds Tryz.pinned (OpenSpec.ofChange deskWaySpec)

/-- ITS FALSE NEIGHBOUR: 'it returns false'. Refute it at one input. -/
def deskWayWrong : ChangeSpec := { name := "deskWay", fn := fun _ => fun
  | [d1, d2, d3, d4, d5] => { results := [.lit (.bool false)], args := [d1, d2, d3, d4, d5] }
  | _ => none }
def DeskWayWrongFalsely : Prop := deskWayRow.holds Tryz.pinned (OpenSpec.ofChange deskWayWrong)

/-- 'haberdashlaw18.DeskErrors': WHATEVER THE INPUT: true; the input reads as it did. -/
def deskErrorsSpec : ChangeSpec := { name := "deskErrors", fn := fun _ => fun
  | [d1, d2, d3, d4, d5] => { results := [.lit (.bool true)], args := [d1, d2, d3, d4, d5] }
  | _ => none }
def deskErrorsRow : OpenClaim := { program := "ytnekegdhpjplbaagreat", sum := "5564b4fe1d07a9f4bf490173e1a73c8d222427f5fdc2041d238bcd3442143254", func := "haberdash/haberdashlaw18.DeskErrors", spec := "deskErrors", unfollowed := true, recurses := true, named := ["math/bits.divideError", "math/bits.overflowError"], apart := false }
def DeskErrorsSaid : Prop := deskErrorsRow.holds Tryz.pinned (OpenSpec.ofChange deskErrorsSpec)

/-- ITS FALSE NEIGHBOUR: 'it returns false'. Refute it at one input. -/
def deskErrorsWrong : ChangeSpec := { name := "deskErrors", fn := fun _ => fun
  | [d1, d2, d3, d4, d5] => { results := [.lit (.bool false)], args := [d1, d2, d3, d4, d5] }
  | _ => none }
def DeskErrorsWrongFalsely : Prop := deskErrorsRow.holds Tryz.pinned (OpenSpec.ofChange deskErrorsWrong)

/-- 'haberdashlaw18.DeskOwn': WHATEVER THE INPUT: true; the input reads as it did. -/
def deskOwnSpec : ChangeSpec := { name := "deskOwn", fn := fun _ => fun
  | [d1, d2, d3] => { results := [.lit (.bool true)], args := [d1, d2, d3] }
  | _ => none }
def deskOwnRow : OpenClaim := { program := "ytnekegdhpjplbaagreat", sum := "5564b4fe1d07a9f4bf490173e1a73c8d222427f5fdc2041d238bcd3442143254", func := "haberdash/haberdashlaw18.DeskOwn", spec := "deskOwn", unfollowed := true, recurses := true, named := ["math/bits.divideError", "math/bits.overflowError"], apart := false }
def DeskOwnSaid : Prop := deskOwnRow.holds Tryz.pinned (OpenSpec.ofChange deskOwnSpec)

/-- ITS FALSE NEIGHBOUR: 'it returns false'. Refute it at one input. -/
def deskOwnWrong : ChangeSpec := { name := "deskOwn", fn := fun _ => fun
  | [d1, d2, d3] => { results := [.lit (.bool false)], args := [d1, d2, d3] }
  | _ => none }
def DeskOwnWrongFalsely : Prop := deskOwnRow.holds Tryz.pinned (OpenSpec.ofChange deskOwnWrong)

/- THE SECOND FORM. 'bulk': how many values and letters a reading holds, each counted each time it is reached (what is shared counts as often as it is met; a slice's spare places count too). A statement '..UptoSaid' is the law's where the arguments, and the package variables that the reading takes, are together of bulk at most 1048576: NARROWER than '..Said'. Prove '..Said' where nothing that the law and all that it calls make is longer than what came in: it says more and counts as full. Else prove '..UptoSaid'. A law counts once. -/
mutual
def uptoBulk {H : Type} : DataW H → Nat
  | .lit (.string bytes) => bytes.length + 1
  | .lit _ => 1
  | .nil => 1
  | .ptr d => uptoBulk d + 1
  | .slice elems spare => uptoBulkAll elems + uptoBulkAll spare + 1
  | .agg parts => uptoBulkAll parts + 1
  | .iface _ d => uptoBulk d + 1
  | .map entries => uptoBulkEntries entries + 1
  | .held _ => 1
def uptoBulkAll {H : Type} : List (DataW H) → Nat
  | [] => 0
  | d :: r => uptoBulk d + uptoBulkAll r
def uptoBulkEntries {H : Type} : List (Lit × DataW H) → Nat
  | [] => 0
  | x :: r => uptoBulkEntry x + uptoBulkEntries r
def uptoBulkEntry {H : Type} : Lit × DataW H → Nat
  | (.string bytes, d) => bytes.length + uptoBulk d + 1
  | (_, d) => uptoBulk d + 1
 end
def uptoSmall : (H : Type) → List (DataW H) → Bool := fun _ ds => decide (uptoBulkAll ds ≤ 1048576)
def OpenSpec.upto (s : _root_.Go.ChangeSpec) : _root_.Go.OpenSpec := { _root_.Go.OpenSpec.ofChange s with cond := some uptoSmall }

/-- 'haberdashlaw17.PriceRaw', WHERE WHAT IT READS IS OF BULK AT MOST 1048576: true; the input reads as it did. -/
def priceRawUptoRow : OpenClaim := { program := "ytnekegdhpjplbaagreat", sum := "5564b4fe1d07a9f4bf490173e1a73c8d222427f5fdc2041d238bcd3442143254", func := "haberdash/haberdashlaw17.PriceRaw", spec := "priceRaw", unfollowed := true, recurses := true, named := ["math/bits.divideError", "math/bits.overflowError"], apart := false, narrowed := true }
def PriceRawUptoSaid : Prop := priceRawUptoRow.holds Tryz.pinned (OpenSpec.upto priceRawSpec)

/-- 'haberdashlaw17.PriceAll', WHERE WHAT IT READS IS OF BULK AT MOST 1048576: true; the input reads as it did. -/
def priceAllUptoRow : OpenClaim := { program := "ytnekegdhpjplbaagreat", sum := "5564b4fe1d07a9f4bf490173e1a73c8d222427f5fdc2041d238bcd3442143254", func := "haberdash/haberdashlaw17.PriceAll", spec := "priceAll", unfollowed := true, recurses := true, named := ["math/bits.divideError", "math/bits.overflowError"], apart := false, narrowed := true }
def PriceAllUptoSaid : Prop := priceAllUptoRow.holds Tryz.pinned (OpenSpec.upto priceAllSpec)

/-- 'haberdashlaw17.PriceSums', WHERE WHAT IT READS IS OF BULK AT MOST 1048576: true; the input reads as it did. -/
def priceSumsUptoRow : OpenClaim := { program := "ytnekegdhpjplbaagreat", sum := "5564b4fe1d07a9f4bf490173e1a73c8d222427f5fdc2041d238bcd3442143254", func := "haberdash/haberdashlaw17.PriceSums", spec := "priceSums", unfollowed := true, recurses := true, named := ["math/bits.divideError", "math/bits.overflowError"], apart := false, narrowed := true }
def PriceSumsUptoSaid : Prop := priceSumsUptoRow.holds Tryz.pinned (OpenSpec.upto priceSumsSpec)

/-- 'haberdashlaw17.PriceGroups', WHERE WHAT IT READS IS OF BULK AT MOST 1048576: true; the input reads as it did. -/
def priceGroupsUptoRow : OpenClaim := { program := "ytnekegdhpjplbaagreat", sum := "5564b4fe1d07a9f4bf490173e1a73c8d222427f5fdc2041d238bcd3442143254", func := "haberdash/haberdashlaw17.PriceGroups", spec := "priceGroups", unfollowed := true, recurses := true, named := ["math/bits.divideError", "math/bits.overflowError"], apart := false, narrowed := true }
def PriceGroupsUptoSaid : Prop := priceGroupsUptoRow.holds Tryz.pinned (OpenSpec.upto priceGroupsSpec)

/-- 'haberdashlaw17.PriceOrder', WHERE WHAT IT READS IS OF BULK AT MOST 1048576: true; the input reads as it did. -/
def priceOrderUptoRow : OpenClaim := { program := "ytnekegdhpjplbaagreat", sum := "5564b4fe1d07a9f4bf490173e1a73c8d222427f5fdc2041d238bcd3442143254", func := "haberdash/haberdashlaw17.PriceOrder", spec := "priceOrder", unfollowed := true, recurses := true, named := ["math/bits.divideError", "math/bits.overflowError"], apart := false, narrowed := true }
def PriceOrderUptoSaid : Prop := priceOrderUptoRow.holds Tryz.pinned (OpenSpec.upto priceOrderSpec)

/-- 'haberdashlaw17.PriceNone', WHERE WHAT IT READS IS OF BULK AT MOST 1048576: true; the input reads as it did. -/
def priceNoneUptoRow : OpenClaim := { program := "ytnekegdhpjplbaagreat", sum := "5564b4fe1d07a9f4bf490173e1a73c8d222427f5fdc2041d238bcd3442143254", func := "haberdash/haberdashlaw17.PriceNone", spec := "priceNone", unfollowed := true, recurses := true, named := ["math/bits.divideError", "math/bits.overflowError"], apart := false, narrowed := true }
def PriceNoneUptoSaid : Prop := priceNoneUptoRow.holds Tryz.pinned (OpenSpec.upto priceNoneSpec)

/-- 'haberdashlaw17.PriceLeast', WHERE WHAT IT READS IS OF BULK AT MOST 1048576: true; the input reads as it did. -/
def priceLeastUptoRow : OpenClaim := { program := "ytnekegdhpjplbaagreat", sum := "5564b4fe1d07a9f4bf490173e1a73c8d222427f5fdc2041d238bcd3442143254", func := "haberdash/haberdashlaw17.PriceLeast", spec := "priceLeast", unfollowed := true, recurses := true, named := ["math/bits.divideError", "math/bits.overflowError"], apart := false, narrowed := true }
def PriceLeastUptoSaid : Prop := priceLeastUptoRow.holds Tryz.pinned (OpenSpec.upto priceLeastSpec)

/-- 'haberdashlaw18.DeskPlays', WHERE WHAT IT READS IS OF BULK AT MOST 1048576: true; the input reads as it did. -/
def deskPlaysUptoRow : OpenClaim := { program := "ytnekegdhpjplbaagreat", sum := "5564b4fe1d07a9f4bf490173e1a73c8d222427f5fdc2041d238bcd3442143254", func := "haberdash/haberdashlaw18.DeskPlays", spec := "deskPlays", unfollowed := true, recurses := true, named := ["math/bits.divideError", "math/bits.overflowError"], apart := false, narrowed := true }
def DeskPlaysUptoSaid : Prop := deskPlaysUptoRow.holds Tryz.pinned (OpenSpec.upto deskPlaysSpec)

/-- 'haberdashlaw18.DeskWay', WHERE WHAT IT READS IS OF BULK AT MOST 1048576: true; the input reads as it did. -/
def deskWayUptoRow : OpenClaim := { program := "ytnekegdhpjplbaagreat", sum := "5564b4fe1d07a9f4bf490173e1a73c8d222427f5fdc2041d238bcd3442143254", func := "haberdash/haberdashlaw18.DeskWay", spec := "deskWay", unfollowed := true, recurses := true, named := ["math/bits.divideError", "math/bits.overflowError"], apart := false, narrowed := true }
def DeskWayUptoSaid : Prop := deskWayUptoRow.holds Tryz.pinned (OpenSpec.upto deskWaySpec)

/-- 'haberdashlaw18.DeskErrors', WHERE WHAT IT READS IS OF BULK AT MOST 1048576: true; the input reads as it did. -/
def deskErrorsUptoRow : OpenClaim := { program := "ytnekegdhpjplbaagreat", sum := "5564b4fe1d07a9f4bf490173e1a73c8d222427f5fdc2041d238bcd3442143254", func := "haberdash/haberdashlaw18.DeskErrors", spec := "deskErrors", unfollowed := true, recurses := true, named := ["math/bits.divideError", "math/bits.overflowError"], apart := false, narrowed := true }
def DeskErrorsUptoSaid : Prop := deskErrorsUptoRow.holds Tryz.pinned (OpenSpec.upto deskErrorsSpec)

/-- 'haberdashlaw18.DeskOwn', WHERE WHAT IT READS IS OF BULK AT MOST 1048576: true; the input reads as it did. -/
def deskOwnUptoRow : OpenClaim := { program := "ytnekegdhpjplbaagreat", sum := "5564b4fe1d07a9f4bf490173e1a73c8d222427f5fdc2041d238bcd3442143254", func := "haberdash/haberdashlaw18.DeskOwn", spec := "deskOwn", unfollowed := true, recurses := true, named := ["math/bits.divideError", "math/bits.overflowError"], apart := false, narrowed := true }
def DeskOwnUptoSaid : Prop := deskOwnUptoRow.holds Tryz.pinned (OpenSpec.upto deskOwnSpec)

end Rows
end Go.Proofs.YtnekegdhpjplbaaGreat
