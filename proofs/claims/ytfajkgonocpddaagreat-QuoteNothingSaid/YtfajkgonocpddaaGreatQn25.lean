/- Part 25 of the proof: the law, for every input, and its row -/
import Derived.Test.YtfajkgonocpddaaGreatQn24
import Derived.Test.YtfajkgonocpddaaGreatRows
import Derived.ProofKit
import Derived.JoinedOf
import Derived.KernelRfl
import Derived.WalkKit
import Derived.OpenShut
import Derived.ShutString
import Derived.ChangeOld
import Derived.Below
import Derived.SizedLaws
set_option linter.unusedVariables false
set_option linter.unusedSimpArgs false
set_option maxRecDepth 100000
namespace Go.Ab
open Go
theorem fit1' {k0 : LK} {L : List AV} (h : FitAll [k0] L) : ∃ x0, L = [x0] ∧ Fit k0 x0 := by
  obtain ⟨h1, h2⟩ := h
  match L, h1 with
  | [x0], _ => exact ⟨x0, rfl, h2 0 _ _ rfl rfl⟩
theorem fit2' {k0 k1 : LK} {L : List AV} (h : FitAll [k0, k1] L) : ∃ x0 x1, L = [x0, x1] ∧ Fit k0 x0 ∧ Fit k1 x1 := by
  obtain ⟨h1, h2⟩ := h
  match L, h1 with
  | [x0, x1], _ => exact ⟨x0, x1, rfl, h2 0 _ _ rfl rfl, h2 1 _ _ rfl rfl⟩
theorem fit3' {k0 k1 k2 : LK} {L : List AV} (h : FitAll [k0, k1, k2] L) : ∃ x0 x1 x2, L = [x0, x1, x2] ∧ Fit k0 x0 ∧ Fit k1 x1 ∧ Fit k2 x2 := by
  obtain ⟨h1, h2⟩ := h
  match L, h1 with
  | [x0, x1, x2], _ => exact ⟨x0, x1, x2, rfl, h2 0 _ _ rfl rfl, h2 1 _ _ rfl rfl, h2 2 _ _ rfl rfl⟩
theorem fit4' {k0 k1 k2 k3 : LK} {L : List AV} (h : FitAll [k0, k1, k2, k3] L) : ∃ x0 x1 x2 x3, L = [x0, x1, x2, x3] ∧ Fit k0 x0 ∧ Fit k1 x1 ∧ Fit k2 x2 ∧ Fit k3 x3 := by
  obtain ⟨h1, h2⟩ := h
  match L, h1 with
  | [x0, x1, x2, x3], _ => exact ⟨x0, x1, x2, x3, rfl, h2 0 _ _ rfl rfl, h2 1 _ _ rfl rfl, h2 2 _ _ rfl rfl, h2 3 _ _ rfl rfl⟩
theorem fit14' {k0 k1 k2 k3 k4 k5 k6 k7 k8 k9 k10 k11 k12 k13 : LK} {L : List AV} (h : FitAll [k0, k1, k2, k3, k4, k5, k6, k7, k8, k9, k10, k11, k12, k13] L) : ∃ x0 x1 x2 x3 x4 x5 x6 x7 x8 x9 x10 x11 x12 x13, L = [x0, x1, x2, x3, x4, x5, x6, x7, x8, x9, x10, x11, x12, x13] ∧ Fit k0 x0 ∧ Fit k1 x1 ∧ Fit k2 x2 ∧ Fit k3 x3 ∧ Fit k4 x4 ∧ Fit k5 x5 ∧ Fit k6 x6 ∧ Fit k7 x7 ∧ Fit k8 x8 ∧ Fit k9 x9 ∧ Fit k10 x10 ∧ Fit k11 x11 ∧ Fit k12 x12 ∧ Fit k13 x13 := by
  obtain ⟨h1, h2⟩ := h
  match L, h1 with
  | [x0, x1, x2, x3, x4, x5, x6, x7, x8, x9, x10, x11, x12, x13], _ => exact ⟨x0, x1, x2, x3, x4, x5, x6, x7, x8, x9, x10, x11, x12, x13, rfl, h2 0 _ _ rfl rfl, h2 1 _ _ rfl rfl, h2 2 _ _ rfl rfl, h2 3 _ _ rfl rfl, h2 4 _ _ rfl rfl, h2 5 _ _ rfl rfl, h2 6 _ _ rfl rfl, h2 7 _ _ rfl rfl, h2 8 _ _ rfl rfl, h2 9 _ _ rfl rfl, h2 10 _ _ rfl rfl, h2 11 _ _ rfl rfl, h2 12 _ _ rfl rfl, h2 13 _ _ rfl rfl⟩
theorem fit15' {k0 k1 k2 k3 k4 k5 k6 k7 k8 k9 k10 k11 k12 k13 k14 : LK} {L : List AV} (h : FitAll [k0, k1, k2, k3, k4, k5, k6, k7, k8, k9, k10, k11, k12, k13, k14] L) : ∃ x0 x1 x2 x3 x4 x5 x6 x7 x8 x9 x10 x11 x12 x13 x14, L = [x0, x1, x2, x3, x4, x5, x6, x7, x8, x9, x10, x11, x12, x13, x14] ∧ Fit k0 x0 ∧ Fit k1 x1 ∧ Fit k2 x2 ∧ Fit k3 x3 ∧ Fit k4 x4 ∧ Fit k5 x5 ∧ Fit k6 x6 ∧ Fit k7 x7 ∧ Fit k8 x8 ∧ Fit k9 x9 ∧ Fit k10 x10 ∧ Fit k11 x11 ∧ Fit k12 x12 ∧ Fit k13 x13 ∧ Fit k14 x14 := by
  obtain ⟨h1, h2⟩ := h
  match L, h1 with
  | [x0, x1, x2, x3, x4, x5, x6, x7, x8, x9, x10, x11, x12, x13, x14], _ => exact ⟨x0, x1, x2, x3, x4, x5, x6, x7, x8, x9, x10, x11, x12, x13, x14, rfl, h2 0 _ _ rfl rfl, h2 1 _ _ rfl rfl, h2 2 _ _ rfl rfl, h2 3 _ _ rfl rfl, h2 4 _ _ rfl rfl, h2 5 _ _ rfl rfl, h2 6 _ _ rfl rfl, h2 7 _ _ rfl rfl, h2 8 _ _ rfl rfl, h2 9 _ _ rfl rfl, h2 10 _ _ rfl rfl, h2 11 _ _ rfl rfl, h2 12 _ _ rfl rfl, h2 13 _ _ rfl rfl, h2 14 _ _ rfl rfl⟩
abbrev QT {α : Type} (_ : α) : Prop := True
abbrev kStr : List LK := [.str]
theorem decStr : DecQ kStr eS QT := fun L h => by
  obtain ⟨a, rfl, ha⟩ := fit1' h
  obtain ⟨a, rfl, _⟩ := ha.inv_str
  exact ⟨a, LeL.refl _, rfl, trivial⟩
abbrev kInt : List LK := [.int .i64]
theorem decInt : DecQ kInt eI QT := fun L h => by
  obtain ⟨a, rfl, ha⟩ := fit1' h
  obtain ⟨a, rfl, _⟩ := ha.inv_int
  exact ⟨a, LeL.refl _, rfl, trivial⟩
abbrev kTier : List LK := [.int .i64, .int .i64, .int .i64]
theorem decTier : DecQ kTier eTier QT := fun L h => by
  obtain ⟨a0, a1, a2, rfl, h0, h1, h2⟩ := fit3' h
  obtain ⟨a0, rfl, _⟩ := h0.inv_int
  obtain ⟨a1, rfl, _⟩ := h1.inv_int
  obtain ⟨a2, rfl, _⟩ := h2.inv_int
  exact ⟨⟨a0, a1, a2⟩, LeL.cons (Le.refl _) (LeL.cons (Le.refl _) (LeL.cons (Le.refl _) (LeL.nil))), rfl, trivial⟩
abbrev kPart : List LK := [.sl kStr, .sl kStr, .int .i64]
theorem decPart : DecQ kPart ePart QT := fun L h => by
  obtain ⟨a0, a1, a2, rfl, h0, h1, h2⟩ := fit3' h
  obtain ⟨b0, e0, _, _⟩ := h0.inv_sl decStr
  obtain ⟨b1, e1, _, _⟩ := h1.inv_sl decStr
  obtain ⟨a2, rfl, _⟩ := h2.inv_int
  exact ⟨⟨⟨b0, b1⟩, a2⟩, LeL.cons (e0) (LeL.cons (e1) (LeL.cons (Le.refl _) (LeL.nil))), rfl, trivial⟩
abbrev kItem : List LK := [.str, .str, .int .i64, .bool]
theorem decItem : DecQ kItem eItem QT := fun L h => by
  obtain ⟨a0, a1, a2, a3, rfl, h0, h1, h2, h3⟩ := fit4' h
  obtain ⟨a0, rfl, _⟩ := h0.inv_str
  obtain ⟨a1, rfl, _⟩ := h1.inv_str
  obtain ⟨a2, rfl, _⟩ := h2.inv_int
  obtain ⟨a3, rfl⟩ := h3.inv_bool
  exact ⟨⟨a0, a1, a2, a3⟩, LeL.cons (Le.refl _) (LeL.cons (Le.refl _) (LeL.cons (Le.refl _) (LeL.cons (Le.refl _) (LeL.nil)))), rfl, trivial⟩
abbrev kCatRate : List LK := [.str, .int .i64]
theorem decCatRate : DecQ kCatRate eCatRate QT := fun L h => by
  obtain ⟨a0, a1, rfl, h0, h1⟩ := fit2' h
  obtain ⟨a0, rfl, _⟩ := h0.inv_str
  obtain ⟨a1, rfl, _⟩ := h1.inv_int
  exact ⟨⟨a0, a1⟩, LeL.cons (Le.refl _) (LeL.cons (Le.refl _) (LeL.nil)), rfl, trivial⟩
abbrev kZone : List LK := [.str, .sl kCatRate, .int .i64, .int .i64]
theorem decZone : DecQ kZone eZone QT := fun L h => by
  obtain ⟨a0, a1, a2, a3, rfl, h0, h1, h2, h3⟩ := fit4' h
  obtain ⟨a0, rfl, _⟩ := h0.inv_str
  obtain ⟨b1, e1, _, _⟩ := h1.inv_sl decCatRate
  obtain ⟨a2, rfl, _⟩ := h2.inv_int
  obtain ⟨a3, rfl, _⟩ := h3.inv_int
  exact ⟨⟨a0, b1, a2, a3⟩, LeL.cons (Le.refl _) (LeL.cons (e1) (LeL.cons (Le.refl _) (LeL.cons (Le.refl _) (LeL.nil)))), rfl, trivial⟩
abbrev kPromo : List LK := [.str, .int .i64, .int .i64, .str, .str, .bool, .sl kStr, .sl kStr, .int .i64, .int .i64, .int .i64, .int .i64, .int .i64, .sl kPart, .sl kTier]
theorem decPromo : DecQ kPromo ePromo QT := fun L h => by
  obtain ⟨a0, a1, a2, a3, a4, a5, a6, a7, a8, a9, a10, a11, a12, a13, a14, rfl, h0, h1, h2, h3, h4, h5, h6, h7, h8, h9, h10, h11, h12, h13, h14⟩ := fit15' h
  obtain ⟨a0, rfl, _⟩ := h0.inv_str
  obtain ⟨a1, rfl, _⟩ := h1.inv_int
  obtain ⟨a2, rfl, _⟩ := h2.inv_int
  obtain ⟨a3, rfl, _⟩ := h3.inv_str
  obtain ⟨a4, rfl, _⟩ := h4.inv_str
  obtain ⟨a5, rfl⟩ := h5.inv_bool
  obtain ⟨b6, e6, _, _⟩ := h6.inv_sl decStr
  obtain ⟨b7, e7, _, _⟩ := h7.inv_sl decStr
  obtain ⟨a8, rfl, _⟩ := h8.inv_int
  obtain ⟨a9, rfl, _⟩ := h9.inv_int
  obtain ⟨a10, rfl, _⟩ := h10.inv_int
  obtain ⟨a11, rfl, _⟩ := h11.inv_int
  obtain ⟨a12, rfl, _⟩ := h12.inv_int
  obtain ⟨b13, e13, _, _⟩ := h13.inv_sl decPart
  obtain ⟨b14, e14, _, _⟩ := h14.inv_sl decTier
  exact ⟨⟨a0, a1, a2, a3, a4, a5, ⟨b6, b7⟩, a8, a9, a10, a11, a12, b13, b14⟩, LeL.cons (Le.refl _) (LeL.cons (Le.refl _) (LeL.cons (Le.refl _) (LeL.cons (Le.refl _) (LeL.cons (Le.refl _) (LeL.cons (Le.refl _) (LeL.cons (e6) (LeL.cons (e7) (LeL.cons (Le.refl _) (LeL.cons (Le.refl _) (LeL.cons (Le.refl _) (LeL.cons (Le.refl _) (LeL.cons (Le.refl _) (LeL.cons (e13) (LeL.cons (e14) (LeL.nil))))))))))))))), rfl, trivial⟩
abbrev kRules : List LK := [.sl kItem, .sl kPromo, .bool, .bool, .int .i64, .sl kZone, .int .i64, .int .i64, .int .i64, .int .i64, .int .i64, .int .i64, .sl kInt, .sl kInt]
theorem decRules : DecQ kRules eRules QT := fun L h => by
  obtain ⟨a0, a1, a2, a3, a4, a5, a6, a7, a8, a9, a10, a11, a12, a13, rfl, h0, h1, h2, h3, h4, h5, h6, h7, h8, h9, h10, h11, h12, h13⟩ := fit14' h
  obtain ⟨b0, e0, _, _⟩ := h0.inv_sl decItem
  obtain ⟨b1, e1, _, _⟩ := h1.inv_sl decPromo
  obtain ⟨a2, rfl⟩ := h2.inv_bool
  obtain ⟨a3, rfl⟩ := h3.inv_bool
  obtain ⟨a4, rfl, _⟩ := h4.inv_int
  obtain ⟨b5, e5, _, _⟩ := h5.inv_sl decZone
  obtain ⟨a6, rfl, _⟩ := h6.inv_int
  obtain ⟨a7, rfl, _⟩ := h7.inv_int
  obtain ⟨a8, rfl, _⟩ := h8.inv_int
  obtain ⟨a9, rfl, _⟩ := h9.inv_int
  obtain ⟨a10, rfl, _⟩ := h10.inv_int
  obtain ⟨a11, rfl, _⟩ := h11.inv_int
  obtain ⟨b12, e12, _, _⟩ := h12.inv_sl decInt
  obtain ⟨b13, e13, _, _⟩ := h13.inv_sl decInt
  exact ⟨⟨b0, b1, ⟨a2, a3, a4, b5⟩, ⟨a6, a7⟩, ⟨a8, a9, a10, a11, b12, b13⟩⟩, LeL.cons (e0) (LeL.cons (e1) (LeL.cons (Le.refl _) (LeL.cons (Le.refl _) (LeL.cons (Le.refl _) (LeL.cons (e5) (LeL.cons (Le.refl _) (LeL.cons (Le.refl _) (LeL.cons (Le.refl _) (LeL.cons (Le.refl _) (LeL.cons (Le.refl _) (LeL.cons (Le.refl _) (LeL.cons (e12) (LeL.cons (e13) (LeL.nil)))))))))))))), rfl, trivial⟩
theorem FitL.rules {w : World} {l : List AV} {cs : List Value} (h : FitL w kRules l cs) : ∃ r : Rules, RepW w st0 (eRules r) (.agg cs.toArray) := by
  obtain ⟨r, h1, _, _⟩ := decRules l ⟨h.len, h.fit⟩
  refine ⟨r, ?_⟩
  have h0 : RepW w st0 (.agg l) (.agg cs.toArray) := .agg _ _ (by rw [h.len, ← h.clen]; simp) fun j y c hy hc => h.rep j y c hy (by simpa using hc)
  exact (Le.agg h1) _ _ _ h0
end Go.Ab
namespace Go.Ab
open Go
theorem an {a b : Bool} (h : a = true) (k : b = true) : (a && b) = true := by rw [h, k]; rfl
def kindsFit (P : Program) (fn : Func) (c : OpenClaim) : Bool := (c.kinds == (if c.domain.isEmpty then [] else fn.params.toList.map fun t => match P.underlying t with | some (.int k) => some k | _ => none))
theorem joined_of {P : Program} {f : FuncId} {fn : Func} {s : ChangeSpec} {c : OpenClaim} (h1 : (c.wf (OpenSpec.ofChange s)) = true) (h2 : (laidOutB P) = true) (h3 : (mapsRowed P) = true) (h4 : (fn.params.all (P.readableRec ·)) = true) (h5 : (namedTie P c.named s.vars) = true) (h6 : (c.stops == []) = true) (h7 : (P.stops == []) = true) (h8 : (c.knobs == []) = true) (h9 : (P.stopKnobs == []) = true) (h10 : (c.inPlace == P.inPlace f) = true) (h11 : (c.unfollowed == P.unfollowed f) = true) (h12 : (c.recurses == P.recurses f) = true) (h13 : (c.named == P.varsNamed f) = true) (h14 : (c.maps == (fn.params.toList ++ s.plain.varTypes P).any (P.mapsRec ·)) = true) (h15 : (c.ifaces == (fn.params.toList ++ s.plain.varTypes P).any (P.ifacesRec ·)) = true) (h16 : (c.mapsOut == P.mapsAmong fn.resultTypes.toList) = true) (h17 : (c.loops == (fn.params.toList ++ s.plain.varTypes P).any (P.loopsFrom ·)) = true) (h18 : (c.wideKeys == (fn.params.toList ++ s.plain.varTypes P ++ fn.resultTypes.toList).any (P.wideKeysFrom ·)) = true) (h19 : (s.vars.all (P.varReadable ·)) = true) (h20 : (fn.resultTypes.all (fun t => P.readableRec t && decide (t < P.types.size))) = true) (h21 : (c.ifacesOut == fn.resultTypes.toList.any (P.ifacesRec ·)) = true) (h22 : (c.loopsOut == fn.resultTypes.toList.any (P.loopsFrom ·)) = true) (h23 : (c.plainKeys == P.plainKeys) = true) (h24 : c.shortTexts.isNone = true) (h25 : P.stopsHeard = true) (h26 : P.mayEnter = true) (h27 : (c.lifted == P.liftsFinal) = true) (h28 : (P.make == some c.make) = true) (h29 : kindsFit P fn c = true) (h30 : (c.pinned == c.pinnedBy) = true) (h31 : (c.veiled == (fn.params.toList ++ s.plain.varTypes P ++ fn.resultTypes.toList).any (P.veiledRec ·)) = true) (h32 : (c.veiledFits P fn.params.toList (fn.params.toList ++ s.plain.varTypes P ++ fn.resultTypes.toList)) = true) : joinedFacts P f fn s c = true := an (an (an (an (an (an (an (an (an (an (an (an (an (an (an (an (an (an (an (an (an (an (an (an (an (an (an (an (an (an (an (h1) h2) h3) h4) h5) h6) h7) h8) h9) h10) h11) h12) h13) h14) h15) h16) h17) h18) h19) h20) h21) h22) h23) h24) h25) h26) h27) h28) h29) h30) h31) h32
end Go.Ab
namespace Go.Proofs.YtfajkgonocpddaaGreat.closed
open Go
theorem p2 : (laidOutB Tryz.prog) = true := by kernel_rfl
theorem p3 : (mapsRowed Tryz.prog) = true := by kernel_rfl
theorem p7 : (Tryz.prog.stops == []) = true := by kernel_rfl
theorem p9 : (Tryz.prog.stopKnobs == []) = true := by kernel_rfl
theorem p25 : (Tryz.prog.stopsHeard) = true := by kernel_rfl
theorem p26 : (Tryz.prog.mayEnter) = true := by kernel_rfl
end Go.Proofs.YtfajkgonocpddaaGreat.closed
namespace Go.Proofs.YtfajkgonocpddaaGreat.quoteNothing
open Go.ChangeShapes Go.WideShapes Go.ChangeAt Go.RowKit
open Go.ChangeMaps (open_string shut_string)
theorem c1 : (Rows.quoteNothingRow.wf (OpenSpec.ofChange Rows.quoteNothingSpec)) = true := by kernel_rfl
theorem c4 : (Tryz.f7.params.all (Tryz.prog.readableRec ·)) = true := by kernel_rfl
theorem c5 : (namedTie Tryz.prog Rows.quoteNothingRow.named Rows.quoteNothingSpec.vars) = true := by kernel_rfl
theorem c6 : ((Rows.quoteNothingRow.stops == [])) = true := by kernel_rfl
theorem c8 : ((Rows.quoteNothingRow.knobs == [])) = true := by kernel_rfl
theorem c10 : ((Rows.quoteNothingRow.inPlace == Tryz.prog.inPlace 7)) = true := by kernel_rfl
theorem c11 : ((Rows.quoteNothingRow.unfollowed == Tryz.prog.unfollowed 7)) = true := by kernel_rfl
theorem c12 : ((Rows.quoteNothingRow.recurses == Tryz.prog.recurses 7)) = true := by kernel_rfl
theorem c13 : ((Rows.quoteNothingRow.named == Tryz.prog.varsNamed 7)) = true := by kernel_rfl
theorem c14 : ((Rows.quoteNothingRow.maps == (Tryz.f7.params.toList ++ Rows.quoteNothingSpec.plain.varTypes Tryz.prog).any (Tryz.prog.mapsRec ·))) = true := by kernel_rfl
theorem c15 : ((Rows.quoteNothingRow.ifaces == (Tryz.f7.params.toList ++ Rows.quoteNothingSpec.plain.varTypes Tryz.prog).any (Tryz.prog.ifacesRec ·))) = true := by kernel_rfl
theorem c16 : ((Rows.quoteNothingRow.mapsOut == Tryz.prog.mapsAmong Tryz.f7.resultTypes.toList)) = true := by kernel_rfl
theorem c17 : ((Rows.quoteNothingRow.loops == (Tryz.f7.params.toList ++ Rows.quoteNothingSpec.plain.varTypes Tryz.prog).any (Tryz.prog.loopsFrom ·))) = true := by kernel_rfl
theorem c18 : ((Rows.quoteNothingRow.wideKeys == (Tryz.f7.params.toList ++ Rows.quoteNothingSpec.plain.varTypes Tryz.prog ++ Tryz.f7.resultTypes.toList).any (Tryz.prog.wideKeysFrom ·))) = true := by kernel_rfl
theorem c19 : (Rows.quoteNothingSpec.vars.all (Tryz.prog.varReadable ·)) = true := by kernel_rfl
theorem c20 : (Tryz.f7.resultTypes.all (fun t => Tryz.prog.readableRec t && decide (t < Tryz.prog.types.size))) = true := by kernel_rfl
theorem c21 : ((Rows.quoteNothingRow.ifacesOut == Tryz.f7.resultTypes.toList.any (Tryz.prog.ifacesRec ·))) = true := by kernel_rfl
theorem c22 : ((Rows.quoteNothingRow.loopsOut == Tryz.f7.resultTypes.toList.any (Tryz.prog.loopsFrom ·))) = true := by kernel_rfl
theorem c23 : ((Rows.quoteNothingRow.plainKeys == Tryz.prog.plainKeys)) = true := by kernel_rfl
theorem c24 : (Rows.quoteNothingRow.shortTexts.isNone) = true := by kernel_rfl
theorem c27 : ((Rows.quoteNothingRow.lifted == Tryz.prog.liftsFinal)) = true := by kernel_rfl
theorem c28 : ((Tryz.prog.make == some Rows.quoteNothingRow.make)) = true := by kernel_rfl
theorem c29 : Ab.kindsFit Tryz.prog Tryz.f7 Rows.quoteNothingRow = true := by kernel_rfl
theorem c30 : ((Rows.quoteNothingRow.pinned == Rows.quoteNothingRow.pinnedBy)) = true := by kernel_rfl
theorem c31 : ((Rows.quoteNothingRow.veiled == (Tryz.f7.params.toList ++ Rows.quoteNothingSpec.plain.varTypes Tryz.prog ++ Tryz.f7.resultTypes.toList).any (Tryz.prog.veiledRec ·))) = true := by kernel_rfl
theorem c32 : (Rows.quoteNothingRow.veiledFits Tryz.prog Tryz.f7.params.toList (Tryz.f7.params.toList ++ Rows.quoteNothingSpec.plain.varTypes Tryz.prog ++ Tryz.f7.resultTypes.toList)) = true := by kernel_rfl
theorem closedAll : joinedFacts Tryz.prog 7 Tryz.f7 Rows.quoteNothingSpec Rows.quoteNothingRow = true := Ab.joined_of c1 closed.p2 closed.p3 c4 c5 c6 closed.p7 c8 closed.p9 c10 c11 c12 c13 c14 c15 c16 c17 c18 c19 c20 c21 c22 c23 c24 closed.p25 closed.p26 c27 c28 c29 c30 c31 c32
theorem own : ownKnob Tryz.prog.godebug = none := by kernel_rfl
theorem laidOut : laidOutB Tryz.prog = true := closed.p2
theorem walk (c0 : Array Value) (a1 : Int) (c2 : Value) (c3 : Value) (w : World) (l0 l2 l3 : List Ab.AV) (h0 : Ab.FitL w Ab.kRules l0 c0.toList) (h2 : Ab.FitL w [.sl Ab.kStr] l2 [c2]) (h3 : Ab.FitL w [.sl Ab.kLine] l3 [c3]) :
    Calls Tryz.prog 7 #[.agg c0, .int .i64 a1, c2, c3] w fun e w' => e = .returned (.bool true) ∧ Below w.heap.size w w' := by
  obtain ⟨x0, r0⟩ := h0.rules
  obtain ⟨x2, r2, _, _⟩ := h2.slice Ab.decStr
  obtain ⟨x3, r3, _, _⟩ := h3.slice Ab.decLine
  refine Ab.law_of_S (quoteNothing_S x0 a1 x2 x3 Ab.st0) ⟨rfl, fun j y c hy hc => ?_⟩
  match j with
  | 0 => cases hy; cases hc; exact r0
  | 1 => cases hy; cases hc; exact .int _ _
  | 2 => cases hy; cases hc; exact r2
  | 3 => cases hy; cases hc; exact r3
  | j + 4 => cases hy
set_option maxRecDepth 100000 in
theorem lifted (os : Os) (started : os.Started) (H : Type) (enc : TypeId × Value → H) :
    ReturnsInHanded {} Tryz.checked os 7 .any (Rows.quoteNothingSpec.pre6 enc Tryz.prog Tryz.f7 Rows.quoteNothingRow.domain false) (Rows.quoteNothingSpec.post enc Tryz.prog Tryz.f7 false true false false) := by
  refine returnsInHanded_of_change_sized (C := Tryz.checked) own started (by kernel_rfl) Tryz.func7
    (ChangeSpec.witness6 (enc := enc) (C := Tryz.checked) false ⟨#[], #[.agg #[.slice none 0 0, .slice none 0 0, .bool false, .bool false, .int .i64 0, .slice none 0 0, .int .i64 0, .int .i64 0, .int .i64 0, .int .i64 0, .int .i64 0, .int .i64 0, .slice none 0 0, .slice none 0 0], .int .i64 0, .slice none 0 0, .slice none 0 0], []⟩ 12 (by kernel_rfl) (by kernel_rfl) (by kernel_rfl) (by kernel_rfl)) ?_
  intro W base args ds gs before hval0 hW hcnd hsz0 _
  have hval : ∀ (j : Nat) t v, Tryz.f7.params[j]? = some t → args[j]? = some v → Value.okWide Tryz.prog W .any base t v := hval0
  have hW' := hW
  obtain ⟨p, q, hA0, hV, rfl, hfz, hnd⟩ := hW
  have hA : DataW.TrodAll enc Tryz.prog W 0 (fun _ => true) true Tryz.f7.params.toList args.toList ds p := hA0
  rw [Tryz.params7] at hA hval
  obtain ⟨v0, vs0, d0, ds0, p0, q0, hargs, rfl, rfl, h0, r0⟩ := trodAll_cons hA
  obtain ⟨v1, vs1, d1, ds1, p1, q1, rfl, rfl, rfl, h1, r1⟩ := trodAll_cons r0
  obtain ⟨v2, vs2, d2, ds2, p2, q2, rfl, rfl, rfl, h2, r2⟩ := trodAll_cons r1
  obtain ⟨v3, vs3, d3, ds3, p3, q3, rfl, rfl, rfl, h3, r3⟩ := trodAll_cons r2
  obtain ⟨rfl, rfl, rfl⟩ := trodAll_nil r3
  obtain rfl : args = #[v0, v1, v2, v3] := by cases args; simp_all
  obtain ⟨rfl, rfl⟩ := trodVars_none hV
  obtain ⟨a0, rfl, _⟩ := okWide_struct Tryz.underlying49 (hval 0 49 v0 rfl rfl)
  obtain ⟨a1, rfl, rfl, rfl, w1⟩ := open_int Tryz.underlying3 (hval 1 3 v1 rfl rfl) h1
  obtain ⟨a2, len2, cap2, rfl⟩ := okWide_slice Tryz.underlying50 (hval 2 50 v2 rfl rfl)
  obtain ⟨a3, len3, cap3, rfl⟩ := okWide_slice Tryz.underlying30 (hval 3 30 v3 rfl rfl)
  have k0 := h0
  have lt0 : ∀ x ∈ p0, x.block < W.heap.size := by obtain ⟨m, hm⟩ := k0; exact DataW.trod_lt m _ _ _ hm
  have k2 := h2
  have lt2 : ∀ x ∈ p2, x.block < W.heap.size := by obtain ⟨m, hm⟩ := k2; exact DataW.trod_lt m _ _ _ hm
  have k3 := h3
  have lt3 : ∀ x ∈ p3, x.block < W.heap.size := by obtain ⟨m, hm⟩ := k3; exact DataW.trod_lt m _ _ _ hm
  obtain ⟨l0, hl0⟩ : ∃ l, Ab.FitL W Ab.kRules l a0.toList := by
    obtain ⟨fuel, hf⟩ := h0
    exact Ab.open_kinds 10 fuel 49 Ab.kRules _ _ (by kernel_rfl) hf
  obtain ⟨l2, hl2⟩ : ∃ l, Ab.FitL W [.sl Ab.kStr] l [.slice a2 len2 cap2] := by
    obtain ⟨fuel, hf⟩ := h2
    exact Ab.open_kinds 3 fuel 50 [.sl Ab.kStr] _ _ (by kernel_rfl) hf
  obtain ⟨l3, hl3⟩ : ∃ l, Ab.FitL W [.sl Ab.kLine] l [.slice a3 len3 cap3] := by
    obtain ⟨fuel, hf⟩ := h3
    exact Ab.open_kinds 4 fuel 30 [.sl Ab.kLine] _ _ (by kernel_rfl) hf
  clear hA0 hval0 hsz0
  refine (walk a0 a1 _ _ W l0 l2 l3 hl0 hl2 hl3).mono fun e W' ⟨he, bel⟩ => ?_
  subst he
  exact ⟨_, rfl, _, _, _, [], _, [], hW', trodAll_mk1 (shut_bool Tryz.underlying4 _), trodAll_cons_mk (Below.trod laidOut (by kernel_rfl) (of_decide_eq_true (by kernel_rfl)) k0 bel lt0) (trodAll_cons_mk (shut_int Tryz.underlying3 w1) (trodAll_cons_mk (Below.trod laidOut (by kernel_rfl) (of_decide_eq_true (by kernel_rfl)) k2 bel lt2) (trodAll_cons_mk (Below.trod laidOut (by kernel_rfl) (of_decide_eq_true (by kernel_rfl)) k3 bel lt3) trodAll_mk0))), rfl, bel.frame _, fun h => by cases h⟩
theorem over : Rows.quoteNothingRow.holds Tryz.pinned (OpenSpec.ofChange Rows.quoteNothingSpec) :=
  OpenClaim.holds_of_wide 7 Tryz.f7 rfl rfl rfl rfl rfl rfl rfl ⟨rfl, rfl, rfl, rfl, rfl⟩ rfl rfl rfl rfl rfl (by kernel_rfl) Tryz.func7 closedAll
    (of_decide_eq_true (by kernel_rfl)) (by unfold Func.isWrapper; first | (rw [if_pos (by decide +kernel)]; kernel_rfl) | (rw [if_neg (by decide +kernel)]; exact ⟨rfl, rfl⟩))
    (fun os started H enc _ => lifted os started H enc)
theorem proved : Rows.QuoteNothingSaid := over
#print axioms proved
end Go.Proofs.YtfajkgonocpddaaGreat.quoteNothing
namespace Go.Proofs.YtfajkgonocpddaaGreat
theorem quoteNothing_holds : Rows.QuoteNothingSaid := quoteNothing.proved
end Go.Proofs.YtfajkgonocpddaaGreat
