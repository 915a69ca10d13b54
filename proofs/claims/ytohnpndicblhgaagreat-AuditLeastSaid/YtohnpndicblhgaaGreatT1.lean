import Derived.Test.YtohnpndicblhgaaGreatTab
import Derived.Test.YtohnpndicblhgaaGreatAb13
set_option maxRecDepth 100000
set_option linter.unusedVariables false
set_option linter.unusedSimpArgs false
namespace Go.Proofs.YtohnpndicblhgaaGreat
open Go Go.Ab
attribute [local irreducible] upd del
def M : MTab := fun _ _ => none
theorem good : Good P T M := good_of tt_all (fun t n f d h => by cases h)
abbrev rules0 : List AV := [.emp, .emp, .bool false, .bool false, eI 0, .emp, eI 0, eI 0, eI 0, eI 0, eI 0, eI 0, .emp, .emp]
set_option pp.maxSteps 300


theorem rise0_S (st : St) : S P 23 [.emp] st fun v st' => v = .bool true ∧ st' = st := by
  refine S_of_X [] good mixed Tryz.func23 (by rfl) rfl rfl rfl ?_
  conv => whnf
  refine ⟨[0, 5, 6], fun m vs s => m = 0 ∧ vs = [.emp, eI 0, eI 0] ∧ s = st, ⟨0, rfl, rfl, rfl⟩, ?_⟩
  rintro m vs s ⟨rfl, rfl, rfl⟩
  conv => whnf
  exact ⟨rfl, rfl⟩
theorem goods0_S (st : St) : S P 25 [.emp] st fun v st' => v = .bool true ∧ st' = st := by
  refine S_of_X [] good mixed Tryz.func25 (by rfl) rfl rfl rfl ?_
  conv => whnf
  refine ⟨[3, 9, 10, 11], fun m vs s => m = 0 ∧ vs = [.emp, .emp, eI 0, eI 0] ∧ s = st, ⟨0, rfl, rfl, rfl⟩, ?_⟩
  rintro m vs s ⟨rfl, rfl, rfl⟩
  conv => whnf
  refine call1 (rise0_S s) ?_
  conv => whnf
  exact ⟨rfl, rfl⟩
theorem promos0_S (st : St) : S P 26 [.emp] st fun v st' => v = .bool true ∧ st' = st := by
  refine S_of_X [] good mixed Tryz.func26 (by rfl) rfl rfl rfl ?_
  conv => whnf
  refine ⟨[0, 8, 9, 10], fun m vs s => m = 0 ∧ vs = [.emp, .emp, eI 0, eI 0] ∧ s = st, ⟨0, rfl, rfl, rfl⟩, ?_⟩
  rintro m vs s ⟨rfl, rfl, rfl⟩
  conv => whnf
  exact ⟨rfl, rfl⟩
theorem tax0_S (st : St) : S P 27 [.agg [.bool false, .bool false, eI 0, .emp]] st fun v st' => v = .bool true ∧ st' = st := by
  refine S_of_X [1] good mixed Tryz.func27 (by rfl) rfl rfl rfl ?_
  conv => whnf
  refine ⟨[3, 21, 22, 23], fun m vs s => m = 0 ∧ vs = [.emp, .emp, eI 0, eI 0] ∧ s = st, ⟨0, rfl, rfl, rfl⟩, ?_⟩
  rintro m vs s ⟨rfl, rfl, rfl⟩
  conv => whnf
  refine call1 (rise0_S s) ?_
  conv => whnf
  exact ⟨rfl, rfl⟩
theorem ship0_S (st : St) : S P 28 [.agg [eI 0, eI 0]] st fun v st' => v = .bool true ∧ st' = st := by
  refine S_of_X [1] good mixed Tryz.func28 (by rfl) rfl rfl rfl ?_
  conv => whnf
  exact ⟨rfl, rfl⟩
theorem day_S (x : Int) (st : St) : S P 21 [eI x] st fun v st' => v = .bool (decide (0 ≤ x) && decide (x ≤ 100000)) ∧ st' = st := by
  refine S_of_X [1] good mixed Tryz.func21 (by rfl) rfl rfl rfl ?_
  conv => whnf
  cases h : decide (x ≥ 0)
  · conv => whnf
    have h' : decide (0 ≤ x) = false := h
    exact ⟨by simp [pack, h'], rfl⟩
  · conv => whnf
    have h' : decide (0 ≤ x) = true := h
    exact ⟨by simp [pack, h'], rfl⟩
theorem policy0_S (st : St) : S P 29 [.agg [eI 0, eI 0, eI 0, eI 0, .emp, .emp]] st fun v st' => v = .bool false ∧ st' = st := by
  refine S_of_X [1] good mixed Tryz.func29 (by rfl) rfl rfl rfl ?_
  conv => whnf
  refine call1 (day_S 0 st) ?_
  conv => whnf
  refine call1 (day_S 0 st) ?_
  conv => whnf
  exact ⟨rfl, rfl⟩
theorem rules0_S (st : St) : S P 15 [.agg rules0] st fun v st' => v = .bool false ∧ st' = st := by
  refine S_of_X [1] good mixed Tryz.func15 (by rfl) rfl rfl rfl ?_
  conv => whnf
  refine call1 (goods0_S st) ?_
  conv => whnf
  refine call1 (promos0_S st) ?_
  conv => whnf
  refine call1 (tax0_S st) ?_
  conv => whnf
  refine call1 (ship0_S st) ?_
  conv => whnf
  refine call1 (policy0_S st) ?_
  conv => whnf
  exact ⟨rfl, rfl⟩
end Go.Proofs.YtohnpndicblhgaaGreat
