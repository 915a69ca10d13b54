/- Part 24 of the proof: the law, for every input, and its row -/
import Derived.Test.YtfajkgonocpddaaGreatQb23
import Derived.Test.YtfajkgonocpddaaGreatRows
import Derived.WalkKit
import Derived.ProofKit
import Derived.OpenShut
import Derived.ShutString
import Derived.ChangeOld
import Derived.Below
import Derived.SizedLaws
namespace Go.Proofs.YtfajkgonocpddaaGreat.quoteBooks
open Go.ChangeShapes Go.WideShapes Go.ChangeAt Go.RowKit
open Go.ChangeMaps (open_string shut_string)
set_option linter.unusedVariables false
theorem c1 : (Rows.quoteBooksRow.wf (OpenSpec.ofChange Rows.quoteBooksSpec)) = true := by kernel_rfl
theorem c4 : (Tryz.f8.params.all (Tryz.prog.readableRec ·)) = true := by kernel_rfl
theorem c5 : (namedTie Tryz.prog Rows.quoteBooksRow.named Rows.quoteBooksSpec.vars) = true := by kernel_rfl
theorem c6 : ((Rows.quoteBooksRow.stops == [])) = true := by kernel_rfl
theorem c8 : ((Rows.quoteBooksRow.knobs == [])) = true := by kernel_rfl
theorem c10 : ((Rows.quoteBooksRow.inPlace == Tryz.prog.inPlace 8)) = true := by kernel_rfl
theorem c11 : ((Rows.quoteBooksRow.unfollowed == Tryz.prog.unfollowed 8)) = true := by kernel_rfl
theorem c12 : ((Rows.quoteBooksRow.recurses == Tryz.prog.recurses 8)) = true := by kernel_rfl
theorem c13 : ((Rows.quoteBooksRow.named == Tryz.prog.varsNamed 8)) = true := by kernel_rfl
theorem c14 : ((Rows.quoteBooksRow.maps == (Tryz.f8.params.toList ++ Rows.quoteBooksSpec.plain.varTypes Tryz.prog).any (Tryz.prog.mapsRec ·))) = true := by kernel_rfl
theorem c15 : ((Rows.quoteBooksRow.ifaces == (Tryz.f8.params.toList ++ Rows.quoteBooksSpec.plain.varTypes Tryz.prog).any (Tryz.prog.ifacesRec ·))) = true := by kernel_rfl
theorem c16 : ((Rows.quoteBooksRow.mapsOut == Tryz.prog.mapsAmong Tryz.f8.resultTypes.toList)) = true := by kernel_rfl
theorem c17 : ((Rows.quoteBooksRow.loops == (Tryz.f8.params.toList ++ Rows.quoteBooksSpec.plain.varTypes Tryz.prog).any (Tryz.prog.loopsFrom ·))) = true := by kernel_rfl
theorem c18 : ((Rows.quoteBooksRow.wideKeys == (Tryz.f8.params.toList ++ Rows.quoteBooksSpec.plain.varTypes Tryz.prog ++ Tryz.f8.resultTypes.toList).any (Tryz.prog.wideKeysFrom ·))) = true := by kernel_rfl
theorem c19 : (Rows.quoteBooksSpec.vars.all (Tryz.prog.varReadable ·)) = true := by kernel_rfl
theorem c20 : (Tryz.f8.resultTypes.all (fun t => Tryz.prog.readableRec t && decide (t < Tryz.prog.types.size))) = true := by kernel_rfl
theorem c21 : ((Rows.quoteBooksRow.ifacesOut == Tryz.f8.resultTypes.toList.any (Tryz.prog.ifacesRec ·))) = true := by kernel_rfl
theorem c22 : ((Rows.quoteBooksRow.loopsOut == Tryz.f8.resultTypes.toList.any (Tryz.prog.loopsFrom ·))) = true := by kernel_rfl
theorem c23 : ((Rows.quoteBooksRow.plainKeys == Tryz.prog.plainKeys)) = true := by kernel_rfl
theorem c24 : (Rows.quoteBooksRow.shortTexts.isNone) = true := by kernel_rfl
theorem c27 : ((Rows.quoteBooksRow.lifted == Tryz.prog.liftsFinal)) = true := by kernel_rfl
theorem c28 : ((Tryz.prog.make == some Rows.quoteBooksRow.make)) = true := by kernel_rfl
theorem c29 : Ab.kindsFit Tryz.prog Tryz.f8 Rows.quoteBooksRow = true := by kernel_rfl
theorem c30 : ((Rows.quoteBooksRow.pinned == Rows.quoteBooksRow.pinnedBy)) = true := by kernel_rfl
theorem c31 : ((Rows.quoteBooksRow.veiled == (Tryz.f8.params.toList ++ Rows.quoteBooksSpec.plain.varTypes Tryz.prog ++ Tryz.f8.resultTypes.toList).any (Tryz.prog.veiledRec ·))) = true := by kernel_rfl
theorem c32 : (Rows.quoteBooksRow.veiledFits Tryz.prog Tryz.f8.params.toList (Tryz.f8.params.toList ++ Rows.quoteBooksSpec.plain.varTypes Tryz.prog ++ Tryz.f8.resultTypes.toList)) = true := by kernel_rfl
theorem closedAll : joinedFacts Tryz.prog 8 Tryz.f8 Rows.quoteBooksSpec Rows.quoteBooksRow = true := Ab.joined_of c1 closed.p2 closed.p3 c4 c5 c6 closed.p7 c8 closed.p9 c10 c11 c12 c13 c14 c15 c16 c17 c18 c19 c20 c21 c22 c23 c24 closed.p25 closed.p26 c27 c28 c29 c30 c31 c32
theorem own : ownKnob Tryz.prog.godebug = none := by kernel_rfl
theorem laidOut : laidOutB Tryz.prog = true := closed.p2
theorem walk (c0 : Value) (c1 : Value) (a2 : Int) (a3 : Int) (w : World) (l0 l1 : List Ab.AV) (h0 : Ab.FitL w [.sl Ab.kInt] l0 [c0]) (h1 : Ab.FitL w [.sl Ab.kInt] l1 [c1]) :
    Calls Tryz.prog 8 #[c0, c1, .int .i64 a2, .int .i64 a3] w fun e w' => e = .returned (.bool true) ∧ Below w.heap.size w w' := by
  obtain ⟨x0, r0, _, _⟩ := h0.slice Ab.decInt
  obtain ⟨x1, r1, _, _⟩ := h1.slice Ab.decInt
  refine Ab.law_of_S (quoteBooks_S x0 x1 a2 a3 Ab.st0) ⟨rfl, fun j y c hy hc => ?_⟩
  match j with
  | 0 => cases hy; cases hc; exact r0
  | 1 => cases hy; cases hc; exact r1
  | 2 => cases hy; cases hc; exact .int _ _
  | 3 => cases hy; cases hc; exact .int _ _
  | j + 4 => cases hy
set_option maxRecDepth 100000 in
theorem lifted (os : Os) (started : os.Started) (H : Type) (enc : TypeId × Value → H) :
    ReturnsInHanded {} Tryz.checked os 8 .any (Rows.quoteBooksSpec.pre6 enc Tryz.prog Tryz.f8 Rows.quoteBooksRow.domain false) (Rows.quoteBooksSpec.post enc Tryz.prog Tryz.f8 false true false false) := by
  refine returnsInHanded_of_change_sized (C := Tryz.checked) own started (by kernel_rfl) Tryz.func8
    (ChangeSpec.witness6 (enc := enc) (C := Tryz.checked) false ⟨#[], #[.slice none 0 0, .slice none 0 0, .int .i64 0, .int .i64 0], []⟩ 12 (by kernel_rfl) (by kernel_rfl) (by kernel_rfl) (by kernel_rfl)) ?_
  intro W base args ds gs before hval0 hW hcnd hsz0 _
  have hval : ∀ (j : Nat) t v, Tryz.f8.params[j]? = some t → args[j]? = some v → Value.okWide Tryz.prog W .any base t v := hval0
  have hW' := hW
  obtain ⟨p, q, hA0, hV, rfl, hfz, hnd⟩ := hW
  have hA : DataW.TrodAll enc Tryz.prog W 0 (fun _ => true) true Tryz.f8.params.toList args.toList ds p := hA0
  rw [Tryz.params8] at hA hval
  obtain ⟨v0, vs0, d0, ds0, p0, q0, hargs, rfl, rfl, h0, r0⟩ := trodAll_cons hA
  obtain ⟨v1, vs1, d1, ds1, p1, q1, rfl, rfl, rfl, h1, r1⟩ := trodAll_cons r0
  obtain ⟨v2, vs2, d2, ds2, p2, q2, rfl, rfl, rfl, h2, r2⟩ := trodAll_cons r1
  obtain ⟨v3, vs3, d3, ds3, p3, q3, rfl, rfl, rfl, h3, r3⟩ := trodAll_cons r2
  obtain ⟨rfl, rfl, rfl⟩ := trodAll_nil r3
  obtain rfl : args = #[v0, v1, v2, v3] := by cases args; simp_all
  obtain ⟨rfl, rfl⟩ := trodVars_none hV
  obtain ⟨a0, len0, cap0, rfl⟩ := okWide_slice Tryz.underlying56 (hval 0 56 v0 rfl rfl)
  obtain ⟨a1, len1, cap1, rfl⟩ := okWide_slice Tryz.underlying56 (hval 1 56 v1 rfl rfl)
  obtain ⟨a2, rfl, rfl, rfl, w2⟩ := open_int Tryz.underlying2 (hval 2 2 v2 rfl rfl) h2
  obtain ⟨a3, rfl, rfl, rfl, w3⟩ := open_int Tryz.underlying2 (hval 3 2 v3 rfl rfl) h3
  have k0 := h0
  have lt0 : ∀ x ∈ p0, x.block < W.heap.size := by obtain ⟨m, hm⟩ := k0; exact DataW.trod_lt m _ _ _ hm
  have k1 := h1
  have lt1 : ∀ x ∈ p1, x.block < W.heap.size := by obtain ⟨m, hm⟩ := k1; exact DataW.trod_lt m _ _ _ hm
  obtain ⟨l0, hl0⟩ : ∃ l, Ab.FitL W [.sl Ab.kInt] l [.slice a0 len0 cap0] := by
    obtain ⟨fuel, hf⟩ := h0
    exact Ab.open_kinds 3 fuel 56 [.sl Ab.kInt] _ _ (by kernel_rfl) hf
  obtain ⟨l1, hl1⟩ : ∃ l, Ab.FitL W [.sl Ab.kInt] l [.slice a1 len1 cap1] := by
    obtain ⟨fuel, hf⟩ := h1
    exact Ab.open_kinds 3 fuel 56 [.sl Ab.kInt] _ _ (by kernel_rfl) hf
  clear hA0 hval0 hsz0
  refine (walk _ _ a2 a3 W l0 l1 hl0 hl1).mono fun e W' ⟨he, bel⟩ => ?_
  subst he
  exact ⟨_, rfl, _, _, _, [], _, [], hW', trodAll_mk1 (shut_bool Tryz.underlying4 _), trodAll_cons_mk (Below.trod laidOut (by kernel_rfl) (of_decide_eq_true (by kernel_rfl)) k0 bel lt0) (trodAll_cons_mk (Below.trod laidOut (by kernel_rfl) (of_decide_eq_true (by kernel_rfl)) k1 bel lt1) (trodAll_cons_mk (shut_int Tryz.underlying2 w2) (trodAll_cons_mk (shut_int Tryz.underlying2 w3) trodAll_mk0))), rfl, bel.frame _, fun h => by cases h⟩
theorem over : Rows.quoteBooksRow.holds Tryz.pinned (OpenSpec.ofChange Rows.quoteBooksSpec) :=
  OpenClaim.holds_of_wide 8 Tryz.f8 rfl rfl rfl rfl rfl rfl rfl ⟨rfl, rfl, rfl, rfl, rfl⟩ rfl rfl rfl rfl rfl (by kernel_rfl) Tryz.func8 closedAll
    (of_decide_eq_true (by kernel_rfl)) (by unfold Func.isWrapper; first | (rw [if_pos (by decide +kernel)]; kernel_rfl) | (rw [if_neg (by decide +kernel)]; exact ⟨rfl, rfl⟩))
    (fun os started H enc _ => lifted os started H enc)
theorem proved : Rows.QuoteBooksSaid := over
#print axioms proved
end Go.Proofs.YtfajkgonocpddaaGreat.quoteBooks
namespace Go.Proofs.YtfajkgonocpddaaGreat
theorem quoteBooks_holds : Rows.QuoteBooksSaid := quoteBooks.proved
end Go.Proofs.YtfajkgonocpddaaGreat
