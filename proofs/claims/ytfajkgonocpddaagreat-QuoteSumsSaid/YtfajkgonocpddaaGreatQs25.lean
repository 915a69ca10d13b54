/- Part 25 of the proof: the law, for every input, and its row -/
import Derived.Test.YtfajkgonocpddaaGreatQs24
import Derived.Test.YtfajkgonocpddaaGreatRows
import Derived.ProofKit
import Derived.JoinedOf
import Derived.KernelRfl
import Derived.WalkKit
import Derived.OpenShut
import Derived.ShutString
import Derived.ChangeOld
import Derived.Below
import Derived.SizedLaws
set_option linter.unusedVariables false
namespace Go.Ab
open Go
theorem an {a b : Bool} (h : a = true) (k : b = true) : (a && b) = true := by rw [h, k]; rfl
def kindsFit (P : Program) (fn : Func) (c : OpenClaim) : Bool := (c.kinds == (if c.domain.isEmpty then [] else fn.params.toList.map fun t => match P.underlying t with | some (.int k) => some k | _ => none))
theorem joined_of {P : Program} {f : FuncId} {fn : Func} {s : ChangeSpec} {c : OpenClaim} (h1 : (c.wf (OpenSpec.ofChange s)) = true) (h2 : (laidOutB P) = true) (h3 : (mapsRowed P) = true) (h4 : (fn.params.all (P.readableRec ·)) = true) (h5 : (namedTie P c.named s.vars) = true) (h6 : (c.stops == []) = true) (h7 : (P.stops == []) = true) (h8 : (c.knobs == []) = true) (h9 : (P.stopKnobs == []) = true) (h10 : (c.inPlace == P.inPlace f) = true) (h11 : (c.unfollowed == P.unfollowed f) = true) (h12 : (c.recurses == P.recurses f) = true) (h13 : (c.named == P.varsNamed f) = true) (h14 : (c.maps == (fn.params.toList ++ s.plain.varTypes P).any (P.mapsRec ·)) = true) (h15 : (c.ifaces == (fn.params.toList ++ s.plain.varTypes P).any (P.ifacesRec ·)) = true) (h16 : (c.mapsOut == P.mapsAmong fn.resultTypes.toList) = true) (h17 : (c.loops == (fn.params.toList ++ s.plain.varTypes P).any (P.loopsFrom ·)) = true) (h18 : (c.wideKeys == (fn.params.toList ++ s.plain.varTypes P ++ fn.resultTypes.toList).any (P.wideKeysFrom ·)) = true) (h19 : (s.vars.all (P.varReadable ·)) = true) (h20 : (fn.resultTypes.all (fun t => P.readableRec t && decide (t < P.types.size))) = true) (h21 : (c.ifacesOut == fn.resultTypes.toList.any (P.ifacesRec ·)) = true) (h22 : (c.loopsOut == fn.resultTypes.toList.any (P.loopsFrom ·)) = true) (h23 : (c.plainKeys == P.plainKeys) = true) (h24 : c.shortTexts.isNone = true) (h25 : P.stopsHeard = true) (h26 : P.mayEnter = true) (h27 : (c.lifted == P.liftsFinal) = true) (h28 : (P.make == some c.make) = true) (h29 : kindsFit P fn c = true) (h30 : (c.pinned == c.pinnedBy) = true) (h31 : (c.veiled == (fn.params.toList ++ s.plain.varTypes P ++ fn.resultTypes.toList).any (P.veiledRec ·)) = true) (h32 : (c.veiledFits P fn.params.toList (fn.params.toList ++ s.plain.varTypes P ++ fn.resultTypes.toList)) = true) : joinedFacts P f fn s c = true := an (an (an (an (an (an (an (an (an (an (an (an (an (an (an (an (an (an (an (an (an (an (an (an (an (an (an (an (an (an (an (h1) h2) h3) h4) h5) h6) h7) h8) h9) h10) h11) h12) h13) h14) h15) h16) h17) h18) h19) h20) h21) h22) h23) h24) h25) h26) h27) h28) h29) h30) h31) h32
end Go.Ab
namespace Go.Proofs.YtfajkgonocpddaaGreat.closed
open Go
theorem p2 : (laidOutB Tryz.prog) = true := by kernel_rfl
theorem p3 : (mapsRowed Tryz.prog) = true := by kernel_rfl
theorem p7 : (Tryz.prog.stops == []) = true := by kernel_rfl
theorem p9 : (Tryz.prog.stopKnobs == []) = true := by kernel_rfl
theorem p25 : (Tryz.prog.stopsHeard) = true := by kernel_rfl
theorem p26 : (Tryz.prog.mayEnter) = true := by kernel_rfl
end Go.Proofs.YtfajkgonocpddaaGreat.closed
namespace Go.Proofs.YtfajkgonocpddaaGreat.quoteSums
open Go.ChangeShapes Go.WideShapes Go.ChangeAt Go.RowKit
open Go.ChangeMaps (open_string shut_string)
theorem c1 : (Rows.quoteSumsRow.wf (OpenSpec.ofChange Rows.quoteSumsSpec)) = true := by kernel_rfl
theorem c4 : (Tryz.f6.params.all (Tryz.prog.readableRec ·)) = true := by kernel_rfl
theorem c5 : (namedTie Tryz.prog Rows.quoteSumsRow.named Rows.quoteSumsSpec.vars) = true := by kernel_rfl
theorem c6 : ((Rows.quoteSumsRow.stops == [])) = true := by kernel_rfl
theorem c8 : ((Rows.quoteSumsRow.knobs == [])) = true := by kernel_rfl
theorem c10 : ((Rows.quoteSumsRow.inPlace == Tryz.prog.inPlace 6)) = true := by kernel_rfl
theorem c11 : ((Rows.quoteSumsRow.unfollowed == Tryz.prog.unfollowed 6)) = true := by kernel_rfl
theorem c12 : ((Rows.quoteSumsRow.recurses == Tryz.prog.recurses 6)) = true := by kernel_rfl
theorem c13 : ((Rows.quoteSumsRow.named == Tryz.prog.varsNamed 6)) = true := by kernel_rfl
theorem c14 : ((Rows.quoteSumsRow.maps == (Tryz.f6.params.toList ++ Rows.quoteSumsSpec.plain.varTypes Tryz.prog).any (Tryz.prog.mapsRec ·))) = true := by kernel_rfl
theorem c15 : ((Rows.quoteSumsRow.ifaces == (Tryz.f6.params.toList ++ Rows.quoteSumsSpec.plain.varTypes Tryz.prog).any (Tryz.prog.ifacesRec ·))) = true := by kernel_rfl
theorem c16 : ((Rows.quoteSumsRow.mapsOut == Tryz.prog.mapsAmong Tryz.f6.resultTypes.toList)) = true := by kernel_rfl
theorem c17 : ((Rows.quoteSumsRow.loops == (Tryz.f6.params.toList ++ Rows.quoteSumsSpec.plain.varTypes Tryz.prog).any (Tryz.prog.loopsFrom ·))) = true := by kernel_rfl
theorem c18 : ((Rows.quoteSumsRow.wideKeys == (Tryz.f6.params.toList ++ Rows.quoteSumsSpec.plain.varTypes Tryz.prog ++ Tryz.f6.resultTypes.toList).any (Tryz.prog.wideKeysFrom ·))) = true := by kernel_rfl
theorem c19 : (Rows.quoteSumsSpec.vars.all (Tryz.prog.varReadable ·)) = true := by kernel_rfl
theorem c20 : (Tryz.f6.resultTypes.all (fun t => Tryz.prog.readableRec t && decide (t < Tryz.prog.types.size))) = true := by kernel_rfl
theorem c21 : ((Rows.quoteSumsRow.ifacesOut == Tryz.f6.resultTypes.toList.any (Tryz.prog.ifacesRec ·))) = true := by kernel_rfl
theorem c22 : ((Rows.quoteSumsRow.loopsOut == Tryz.f6.resultTypes.toList.any (Tryz.prog.loopsFrom ·))) = true := by kernel_rfl
theorem c23 : ((Rows.quoteSumsRow.plainKeys == Tryz.prog.plainKeys)) = true := by kernel_rfl
theorem c24 : (Rows.quoteSumsRow.shortTexts.isNone) = true := by kernel_rfl
theorem c27 : ((Rows.quoteSumsRow.lifted == Tryz.prog.liftsFinal)) = true := by kernel_rfl
theorem c28 : ((Tryz.prog.make == some Rows.quoteSumsRow.make)) = true := by kernel_rfl
theorem c29 : Ab.kindsFit Tryz.prog Tryz.f6 Rows.quoteSumsRow = true := by kernel_rfl
theorem c30 : ((Rows.quoteSumsRow.pinned == Rows.quoteSumsRow.pinnedBy)) = true := by kernel_rfl
theorem c31 : ((Rows.quoteSumsRow.veiled == (Tryz.f6.params.toList ++ Rows.quoteSumsSpec.plain.varTypes Tryz.prog ++ Tryz.f6.resultTypes.toList).any (Tryz.prog.veiledRec ·))) = true := by kernel_rfl
theorem c32 : (Rows.quoteSumsRow.veiledFits Tryz.prog Tryz.f6.params.toList (Tryz.f6.params.toList ++ Rows.quoteSumsSpec.plain.varTypes Tryz.prog ++ Tryz.f6.resultTypes.toList)) = true := by kernel_rfl
theorem closedAll : joinedFacts Tryz.prog 6 Tryz.f6 Rows.quoteSumsSpec Rows.quoteSumsRow = true := Ab.joined_of c1 closed.p2 closed.p3 c4 c5 c6 closed.p7 c8 closed.p9 c10 c11 c12 c13 c14 c15 c16 c17 c18 c19 c20 c21 c22 c23 c24 closed.p25 closed.p26 c27 c28 c29 c30 c31 c32
theorem own : ownKnob Tryz.prog.godebug = none := by kernel_rfl
theorem laidOut : laidOutB Tryz.prog = true := closed.p2
theorem walk (c0 : Array Value) (a1 : Int) (c2 : Value) (c3 : Value) (w : World) (l0 l2 l3 : List Ab.AV) (h0 : Ab.FitL w Ab.kRules l0 c0.toList) (h2 : Ab.FitL w [.sl Ab.kStr] l2 [c2]) (h3 : Ab.FitL w [.sl Ab.kLine] l3 [c3]) :
    Calls Tryz.prog 6 #[.agg c0, .int .i64 a1, c2, c3] w fun e w' => e = .returned (.bool true) ∧ Below w.heap.size w w' := by
  obtain ⟨x0, r0⟩ := h0.rules
  obtain ⟨x2, r2, _, _⟩ := h2.slice Ab.decStr
  obtain ⟨x3, r3, _, _⟩ := h3.slice Ab.decLine
  refine Ab.law_of_S (quoteSums_S x0 a1 x2 x3 Ab.st0) ⟨rfl, fun j y c hy hc => ?_⟩
  match j with
  | 0 => cases hy; cases hc; exact r0
  | 1 => cases hy; cases hc; exact .int _ _
  | 2 => cases hy; cases hc; exact r2
  | 3 => cases hy; cases hc; exact r3
  | j + 4 => cases hy
set_option maxRecDepth 100000 in
theorem lifted (os : Os) (started : os.Started) (H : Type) (enc : TypeId × Value → H) :
    ReturnsInHanded {} Tryz.checked os 6 .any (Rows.quoteSumsSpec.pre6 enc Tryz.prog Tryz.f6 Rows.quoteSumsRow.domain false) (Rows.quoteSumsSpec.post enc Tryz.prog Tryz.f6 false true false false) := by
  refine returnsInHanded_of_change_sized (C := Tryz.checked) own started (by kernel_rfl) Tryz.func6
    (ChangeSpec.witness6 (enc := enc) (C := Tryz.checked) false ⟨#[], #[.agg #[.slice none 0 0, .slice none 0 0, .bool false, .bool false, .int .i64 0, .slice none 0 0, .int .i64 0, .int .i64 0, .int .i64 0, .int .i64 0, .int .i64 0, .int .i64 0, .slice none 0 0, .slice none 0 0], .int .i64 0, .slice none 0 0, .slice none 0 0], []⟩ 12 (by kernel_rfl) (by kernel_rfl) (by kernel_rfl) (by kernel_rfl)) ?_
  intro W base args ds gs before hval0 hW hcnd hsz0 _
  have hval : ∀ (j : Nat) t v, Tryz.f6.params[j]? = some t → args[j]? = some v → Value.okWide Tryz.prog W .any base t v := hval0
  have hW' := hW
  obtain ⟨p, q, hA0, hV, rfl, hfz, hnd⟩ := hW
  have hA : DataW.TrodAll enc Tryz.prog W 0 (fun _ => true) true Tryz.f6.params.toList args.toList ds p := hA0
  rw [Tryz.params6] at hA hval
  obtain ⟨v0, vs0, d0, ds0, p0, q0, hargs, rfl, rfl, h0, r0⟩ := trodAll_cons hA
  obtain ⟨v1, vs1, d1, ds1, p1, q1, rfl, rfl, rfl, h1, r1⟩ := trodAll_cons r0
  obtain ⟨v2, vs2, d2, ds2, p2, q2, rfl, rfl, rfl, h2, r2⟩ := trodAll_cons r1
  obtain ⟨v3, vs3, d3, ds3, p3, q3, rfl, rfl, rfl, h3, r3⟩ := trodAll_cons r2
  obtain ⟨rfl, rfl, rfl⟩ := trodAll_nil r3
  obtain rfl : args = #[v0, v1, v2, v3] := by cases args; simp_all
  obtain ⟨rfl, rfl⟩ := trodVars_none hV
  obtain ⟨a0, rfl, _⟩ := okWide_struct Tryz.underlying49 (hval 0 49 v0 rfl rfl)
  obtain ⟨a1, rfl, rfl, rfl, w1⟩ := open_int Tryz.underlying3 (hval 1 3 v1 rfl rfl) h1
  obtain ⟨a2, len2, cap2, rfl⟩ := okWide_slice Tryz.underlying50 (hval 2 50 v2 rfl rfl)
  obtain ⟨a3, len3, cap3, rfl⟩ := okWide_slice Tryz.underlying30 (hval 3 30 v3 rfl rfl)
  have k0 := h0
  have lt0 : ∀ x ∈ p0, x.block < W.heap.size := by obtain ⟨m, hm⟩ := k0; exact DataW.trod_lt m _ _ _ hm
  have k2 := h2
  have lt2 : ∀ x ∈ p2, x.block < W.heap.size := by obtain ⟨m, hm⟩ := k2; exact DataW.trod_lt m _ _ _ hm
  have k3 := h3
  have lt3 : ∀ x ∈ p3, x.block < W.heap.size := by obtain ⟨m, hm⟩ := k3; exact DataW.trod_lt m _ _ _ hm
  obtain ⟨l0, hl0⟩ : ∃ l, Ab.FitL W Ab.kRules l a0.toList := by
    obtain ⟨fuel, hf⟩ := h0
    exact Ab.open_kinds 10 fuel 49 Ab.kRules _ _ (by kernel_rfl) hf
  obtain ⟨l2, hl2⟩ : ∃ l, Ab.FitL W [.sl Ab.kStr] l [.slice a2 len2 cap2] := by
    obtain ⟨fuel, hf⟩ := h2
    exact Ab.open_kinds 3 fuel 50 [.sl Ab.kStr] _ _ (by kernel_rfl) hf
  obtain ⟨l3, hl3⟩ : ∃ l, Ab.FitL W [.sl Ab.kLine] l [.slice a3 len3 cap3] := by
    obtain ⟨fuel, hf⟩ := h3
    exact Ab.open_kinds 4 fuel 30 [.sl Ab.kLine] _ _ (by kernel_rfl) hf
  clear hA0 hval0 hsz0
  refine (walk a0 a1 _ _ W l0 l2 l3 hl0 hl2 hl3).mono fun e W' ⟨he, bel⟩ => ?_
  subst he
  exact ⟨_, rfl, _, _, _, [], _, [], hW', trodAll_mk1 (shut_bool Tryz.underlying4 _), trodAll_cons_mk (Below.trod laidOut (by kernel_rfl) (of_decide_eq_true (by kernel_rfl)) k0 bel lt0) (trodAll_cons_mk (shut_int Tryz.underlying3 w1) (trodAll_cons_mk (Below.trod laidOut (by kernel_rfl) (of_decide_eq_true (by kernel_rfl)) k2 bel lt2) (trodAll_cons_mk (Below.trod laidOut (by kernel_rfl) (of_decide_eq_true (by kernel_rfl)) k3 bel lt3) trodAll_mk0))), rfl, bel.frame _, fun h => by cases h⟩
theorem over : Rows.quoteSumsRow.holds Tryz.pinned (OpenSpec.ofChange Rows.quoteSumsSpec) :=
  OpenClaim.holds_of_wide 6 Tryz.f6 rfl rfl rfl rfl rfl rfl rfl ⟨rfl, rfl, rfl, rfl, rfl⟩ rfl rfl rfl rfl rfl (by kernel_rfl) Tryz.func6 closedAll
    (of_decide_eq_true (by kernel_rfl)) (by unfold Func.isWrapper; first | (rw [if_pos (by decide +kernel)]; kernel_rfl) | (rw [if_neg (by decide +kernel)]; exact ⟨rfl, rfl⟩))
    (fun os started H enc _ => lifted os started H enc)
theorem proved : Rows.QuoteSumsSaid := over
#print axioms proved
end Go.Proofs.YtfajkgonocpddaaGreat.quoteSums
namespace Go.Proofs.YtfajkgonocpddaaGreat
theorem quoteSums_holds : Rows.QuoteSumsSaid := quoteSums.proved
end Go.Proofs.YtfajkgonocpddaaGreat
