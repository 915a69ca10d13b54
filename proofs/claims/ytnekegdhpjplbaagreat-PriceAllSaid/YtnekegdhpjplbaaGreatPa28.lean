/- Part 28 of the proof: the law, for every input, and its row -/
import Derived.Test.YtnekegdhpjplbaaGreatPa27
import Derived.Test.YtnekegdhpjplbaaGreatRows
import Derived.WalkKit
import Derived.ProofKit
import Derived.OpenShut
import Derived.ShutString
import Derived.ChangeOld
import Derived.Below
import Derived.SizedLaws
namespace Go.Proofs.YtnekegdhpjplbaaGreat.priceAll
open Go.ChangeShapes Go.WideShapes Go.ChangeAt Go.RowKit
open Go.ChangeMaps (open_string shut_string)
set_option linter.unusedVariables false
theorem c1 : (Rows.priceAllRow.wf (OpenSpec.ofChange Rows.priceAllSpec)) = true := by kernel_rfl
theorem c4 : (Tryz.f4.params.all (Tryz.prog.readableRec ·)) = true := by kernel_rfl
theorem c5 : (namedTie Tryz.prog Rows.priceAllRow.named Rows.priceAllSpec.vars) = true := by kernel_rfl
theorem c6 : ((Rows.priceAllRow.stops == [])) = true := by kernel_rfl
theorem c8 : ((Rows.priceAllRow.knobs == [])) = true := by kernel_rfl
theorem c10 : ((Rows.priceAllRow.inPlace == Tryz.prog.inPlace 4)) = true := by kernel_rfl
theorem c11 : ((Rows.priceAllRow.unfollowed == Tryz.prog.unfollowed 4)) = true := by kernel_rfl
theorem c12 : ((Rows.priceAllRow.recurses == Tryz.prog.recurses 4)) = true := by kernel_rfl
theorem c13 : ((Rows.priceAllRow.named == Tryz.prog.varsNamed 4)) = true := by kernel_rfl
theorem c14 : ((Rows.priceAllRow.maps == (Tryz.f4.params.toList ++ Rows.priceAllSpec.plain.varTypes Tryz.prog).any (Tryz.prog.mapsRec ·))) = true := by kernel_rfl
theorem c15 : ((Rows.priceAllRow.ifaces == (Tryz.f4.params.toList ++ Rows.priceAllSpec.plain.varTypes Tryz.prog).any (Tryz.prog.ifacesRec ·))) = true := by kernel_rfl
theorem c16 : ((Rows.priceAllRow.mapsOut == Tryz.prog.mapsAmong Tryz.f4.resultTypes.toList)) = true := by kernel_rfl
theorem c17 : ((Rows.priceAllRow.loops == (Tryz.f4.params.toList ++ Rows.priceAllSpec.plain.varTypes Tryz.prog).any (Tryz.prog.loopsFrom ·))) = true := by kernel_rfl
theorem c18 : ((Rows.priceAllRow.wideKeys == (Tryz.f4.params.toList ++ Rows.priceAllSpec.plain.varTypes Tryz.prog ++ Tryz.f4.resultTypes.toList).any (Tryz.prog.wideKeysFrom ·))) = true := by kernel_rfl
theorem c19 : (Rows.priceAllSpec.vars.all (Tryz.prog.varReadable ·)) = true := by kernel_rfl
theorem c20 : (Tryz.f4.resultTypes.all (fun t => Tryz.prog.readableRec t && decide (t < Tryz.prog.types.size))) = true := by kernel_rfl
theorem c21 : ((Rows.priceAllRow.ifacesOut == Tryz.f4.resultTypes.toList.any (Tryz.prog.ifacesRec ·))) = true := by kernel_rfl
theorem c22 : ((Rows.priceAllRow.loopsOut == Tryz.f4.resultTypes.toList.any (Tryz.prog.loopsFrom ·))) = true := by kernel_rfl
theorem c23 : ((Rows.priceAllRow.plainKeys == Tryz.prog.plainKeys)) = true := by kernel_rfl
theorem c24 : (Rows.priceAllRow.shortTexts.isNone) = true := by kernel_rfl
theorem c27 : ((Rows.priceAllRow.lifted == Tryz.prog.liftsFinal)) = true := by kernel_rfl
theorem c28 : ((Tryz.prog.make == some Rows.priceAllRow.make)) = true := by kernel_rfl
theorem c29 : Ab.kindsFit Tryz.prog Tryz.f4 Rows.priceAllRow = true := by kernel_rfl
theorem c30 : ((Rows.priceAllRow.pinned == Rows.priceAllRow.pinnedBy)) = true := by kernel_rfl
theorem c31 : ((Rows.priceAllRow.veiled == (Tryz.f4.params.toList ++ Rows.priceAllSpec.plain.varTypes Tryz.prog ++ Tryz.f4.resultTypes.toList).any (Tryz.prog.veiledRec ·))) = true := by kernel_rfl
theorem c32 : (Rows.priceAllRow.veiledFits Tryz.prog Tryz.f4.params.toList (Tryz.f4.params.toList ++ Rows.priceAllSpec.plain.varTypes Tryz.prog ++ Tryz.f4.resultTypes.toList)) = true := by kernel_rfl
theorem closedAll : joinedFacts Tryz.prog 4 Tryz.f4 Rows.priceAllSpec Rows.priceAllRow = true := Ab.joined_of c1 closed.p2 closed.p3 c4 c5 c6 closed.p7 c8 closed.p9 c10 c11 c12 c13 c14 c15 c16 c17 c18 c19 c20 c21 c22 c23 c24 closed.p25 closed.p26 c27 c28 c29 c30 c31 c32
theorem own : ownKnob Tryz.prog.godebug = none := by kernel_rfl
theorem laidOut : laidOutB Tryz.prog = true := closed.p2
theorem walk (c0 : Array Value) (c1 : Value) (c2 : Value) (w : World) (l0 l1 l2 : List Ab.AV) (h0 : Ab.FitL w Ab.kRules l0 c0.toList) (h1 : Ab.FitL w [.sl Ab.kStr] l1 [c1]) (h2 : Ab.FitL w [.sl Ab.kLine] l2 [c2]) :
   Calls Tryz.prog 4 #[.agg c0, c1, c2] w fun e w' => e = .returned (.bool true) ∧ Below w.heap.size w w' := by
 obtain ⟨x0, r0⟩ := h0.rules
 obtain ⟨x1, r1, _, _⟩ := h1.slice Ab.decStr
 obtain ⟨x2, r2, _, _⟩ := h2.slice Ab.decLine
 refine Ab.law_of_S (priceAll_S x0 x1 x2 Ab.st0) ⟨rfl, fun j y c hy hc => ?_⟩
 match j with
 | 0 => cases hy; cases hc; exact r0
 | 1 => cases hy; cases hc; exact r1
 | 2 => cases hy; cases hc; exact r2
 | j + 3 => cases hy
set_option maxRecDepth 100000 in
theorem lifted (os : Os) (started : os.Started) (H : Type) (enc : TypeId × Value → H) :
   ReturnsInHanded {} Tryz.checked os 4 .any (Rows.priceAllSpec.pre6 enc Tryz.prog Tryz.f4 Rows.priceAllRow.domain false) (Rows.priceAllSpec.post enc Tryz.prog Tryz.f4 false true false false) := by
 refine returnsInHanded_of_change_sized (C := Tryz.checked) own started (by kernel_rfl) Tryz.func4
   (ChangeSpec.witness6 (enc := enc) (C := Tryz.checked) false ⟨#[], #[.agg #[.slice none 0 0, .slice none 0 0, .bool false, .bool false, .int .i64 0, .slice none 0 0, .int .i64 0, .int .i64 0, .int .i64 0, .int .i64 0, .int .i64 0, .int .i64 0, .slice none 0 0, .slice none 0 0], .slice none 0 0, .slice none 0 0], []⟩ 12 (by kernel_rfl) (by kernel_rfl) (by kernel_rfl) (by kernel_rfl)) ?_
 intro W base args ds gs before hval0 hW hcnd hsz0 _
 have hval : ∀ (j : Nat) t v, Tryz.f4.params[j]? = some t → args[j]? = some v → Value.okWide Tryz.prog W .any base t v := hval0
 have hW' := hW
 obtain ⟨p, q, hA0, hV, rfl, hfz, hnd⟩ := hW
 have hA : DataW.TrodAll enc Tryz.prog W 0 (fun _ => true) true Tryz.f4.params.toList args.toList ds p := hA0
 rw [Tryz.params4] at hA hval
 obtain ⟨v0, vs0, d0, ds0, p0, q0, hargs, rfl, rfl, h0, r0⟩ := trodAll_cons hA
 obtain ⟨v1, vs1, d1, ds1, p1, q1, rfl, rfl, rfl, h1, r1⟩ := trodAll_cons r0
 obtain ⟨v2, vs2, d2, ds2, p2, q2, rfl, rfl, rfl, h2, r2⟩ := trodAll_cons r1
 obtain ⟨rfl, rfl, rfl⟩ := trodAll_nil r2
 obtain rfl : args = #[v0, v1, v2] := by cases args; simp_all
 obtain ⟨rfl, rfl⟩ := trodVars_none hV
 obtain ⟨a0, rfl, _⟩ := okWide_struct Tryz.underlying33 (hval 0 33 v0 rfl rfl)
 obtain ⟨a1, len1, cap1, rfl⟩ := okWide_slice Tryz.underlying34 (hval 1 34 v1 rfl rfl)
 obtain ⟨a2, len2, cap2, rfl⟩ := okWide_slice Tryz.underlying35 (hval 2 35 v2 rfl rfl)
 have k0 := h0
 have lt0 : ∀ x ∈ p0, x.block < W.heap.size := by obtain ⟨m, hm⟩ := k0; exact DataW.trod_lt m _ _ _ hm
 have k1 := h1
 have lt1 : ∀ x ∈ p1, x.block < W.heap.size := by obtain ⟨m, hm⟩ := k1; exact DataW.trod_lt m _ _ _ hm
 have k2 := h2
 have lt2 : ∀ x ∈ p2, x.block < W.heap.size := by obtain ⟨m, hm⟩ := k2; exact DataW.trod_lt m _ _ _ hm
 obtain ⟨l0, hl0⟩ : ∃ l, Ab.FitL W Ab.kRules l a0.toList := by
   obtain ⟨fuel, hf⟩ := h0
   exact Ab.open_kinds 10 fuel 33 Ab.kRules _ _ (by kernel_rfl) hf
 obtain ⟨l1, hl1⟩ : ∃ l, Ab.FitL W [.sl Ab.kStr] l [.slice a1 len1 cap1] := by
   obtain ⟨fuel, hf⟩ := h1
   exact Ab.open_kinds 3 fuel 34 [.sl Ab.kStr] _ _ (by kernel_rfl) hf
 obtain ⟨l2, hl2⟩ : ∃ l, Ab.FitL W [.sl Ab.kLine] l [.slice a2 len2 cap2] := by
   obtain ⟨fuel, hf⟩ := h2
   exact Ab.open_kinds 4 fuel 35 [.sl Ab.kLine] _ _ (by kernel_rfl) hf
 clear hA0 hval0 hsz0
 refine (walk a0 _ _ W l0 l1 l2 hl0 hl1 hl2).mono fun e W' ⟨he, bel⟩ => ?_
 subst he
 exact ⟨_, rfl, _, _, _, [], _, [], hW', trodAll_mk1 (shut_bool Tryz.underlying4 _), trodAll_cons_mk (Below.trod laidOut (by kernel_rfl) (of_decide_eq_true (by kernel_rfl)) k0 bel lt0) (trodAll_cons_mk (Below.trod laidOut (by kernel_rfl) (of_decide_eq_true (by kernel_rfl)) k1 bel lt1) (trodAll_cons_mk (Below.trod laidOut (by kernel_rfl) (of_decide_eq_true (by kernel_rfl)) k2 bel lt2) trodAll_mk0)), rfl, bel.frame _, fun h => by cases h⟩
theorem over : Rows.priceAllRow.holds Tryz.pinned (OpenSpec.ofChange Rows.priceAllSpec) :=
 OpenClaim.holds_of_wide 4 Tryz.f4 rfl rfl rfl rfl rfl rfl rfl ⟨rfl, rfl, rfl, rfl, rfl⟩ rfl rfl rfl rfl rfl (by kernel_rfl) Tryz.func4 closedAll
   (of_decide_eq_true (by kernel_rfl)) (by unfold Func.isWrapper; first | (rw [if_pos (by decide +kernel)]; kernel_rfl) | (rw [if_neg (by decide +kernel)]; exact ⟨rfl, rfl⟩))
   (fun os started H enc _ => lifted os started H enc)
theorem proved : Rows.PriceAllSaid := over
#print axioms proved
end Go.Proofs.YtnekegdhpjplbaaGreat.priceAll
namespace Go.Proofs.YtnekegdhpjplbaaGreat
theorem priceAll_holds : Rows.PriceAllSaid := priceAll.proved
end Go.Proofs.YtnekegdhpjplbaaGreat
