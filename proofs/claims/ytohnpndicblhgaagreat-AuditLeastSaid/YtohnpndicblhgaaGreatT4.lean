import Derived.Test.YtohnpndicblhgaaGreatT1
set_option maxRecDepth 100000
set_option linter.unusedVariables false
set_option linter.unusedSimpArgs false
namespace Go.Proofs.YtohnpndicblhgaaGreat
open Go Go.Ab
attribute [local irreducible] upd del
set_option pp.maxSteps 200
abbrev order0 : List AV := [.str ByteArray.empty, eI 0, .str ByteArray.empty, .bool false, .emp, eI 0, .emp, eI 0, eI 0, eI 0, eI 0, eI 0, eI 0, eI 0, eI 0, eI 0, .emp]
theorem name0_S (st : St) : S P 40 [.str ByteArray.empty] st fun v st' => v = .bool false ∧ st' = st := by
  refine S_of_X [] good mixed Tryz.func40 (by rfl) rfl rfl rfl ?_
  conv => whnf
  exact ⟨rfl, rfl⟩
theorem head0_S (st : St) : S P 30 [.agg order0] st fun v st' => v = .bool false ∧ st' = st := by
  refine S_of_X [1] good mixed Tryz.func30 (by rfl) rfl rfl rfl ?_
  conv => whnf
  refine call1 (name0_S st) ?_
  conv => whnf
  exact ⟨rfl, rfl⟩
theorem receipt0_S (st : St) : S P 16 [.agg order0] st fun v st' => v = .bool false ∧ st' = st := by
  refine S_of_X [1, 3] good mixed Tryz.func16 (by rfl) rfl rfl rfl ?_
  conv => whnf
  refine once [22, 23, 24] ?_
  conv => whnf
  intro I
  conv => whnf
  refine ⟨rfl, ⟨by decide, by decide⟩, ?_⟩
  conv => whnf
  refine call1 (head0_S st) ?_
  conv => whnf
  exact ⟨rfl, rfl⟩
theorem target0_S (st : St) : S P 8 [.agg rules0, .agg order0] st fun v st' => v = .tuple [.agg [eI 0, eI 0, eI 0, eI 0, eI 0], eI 10] ∧ st' = st := by
  refine S_sup (q := fun v => v = .tuple [.agg [eI 0, eI 0, eI 0, eI 0, eI 0], eI 10]) (S_of_X [2, 3] good mixed Tryz.func8 (by rfl) rfl rfl rfl ?_)
  conv => whnf
  intro b hb
  conv => whnf
  refine call1 (rules0_S _) ?_
  conv => whnf
  refine stO (upd_same _ _ _) rfl rfl (by decide) rfl ?_
  conv => whnf
  refine ldO (upd_same _ _ _) rfl rfl (by decide) ?_
  conv => whnf
  exact ⟨rfl, ((Sup.refl st).upd hb).over hb⟩
theorem unlike0_S (bk : List AV) (hbk : bk = rules0 ++ order0 ++ [eI 0, eI 0, eI 0, eI 0, eI 0, eI 10]) (st : St) : S P 9 [.agg bk] st fun v st' => v = .bool true ∧ st' = st := by
  subst hbk
  refine S_of_X [1] good mixed Tryz.func9 (by rfl) rfl rfl rfl ?_
  conv => whnf
  refine call1 (receipt0_S st) ?_
  conv => whnf
  exact ⟨rfl, rfl⟩
theorem audit0_S (st : St) : S P 6 [.agg rules0, .agg order0] st fun v st' => v = eI 1 ∧ st' = st := by
  refine S_sup (q := fun v => v = eI 1) (S_of_X [2, 3, 7] good mixed Tryz.func6 (by rfl) rfl rfl rfl ?_)
  conv => whnf
  refine call1 (target0_S st) ?_
  conv => whnf
  intro b hb
  conv => whnf
  refine stO (upd_same _ _ _) rfl rfl (by decide) rfl ?_
  conv => whnf
  refine ldO (upd_same _ _ _) rfl rfl (by decide) ?_
  conv => whnf
  refine once [31, 32, 33] ?_
  conv => whnf
  intro I
  conv => whnf
  refine ⟨rfl, ⟨by decide, by decide⟩, ?_⟩
  conv => whnf
  refine call1 (unlike0_S _ rfl _) ?_
  conv => whnf
  exact ⟨rfl, ((Sup.refl st).upd hb).over hb⟩
theorem keys0_S (st : St) : S P 24 [.emp] st fun v st' => v = .bool true ∧ st' = st := by
  refine S_of_X [] good mixed Tryz.func24 (by rfl) rfl rfl rfl ?_
  conv => whnf
  refine once [3, 9, 10, 11] ?_
  conv => whnf
  intro I
  conv => whnf
  refine call1 (rise0_S st) ?_
  conv => whnf
  exact ⟨rfl, rfl⟩
theorem modelA_S (st : St) : S P 14 [.agg [eI (-1), .emp, .emp, .emp]] st fun v st' => v = .bool false ∧ st' = st := by
  refine S_of_X [1] good mixed Tryz.func14 (by rfl) rfl rfl rfl ?_
  conv => whnf
  refine call1 (day_S _ st) ?_
  conv => whnf
  exact ⟨rfl, rfl⟩
theorem modelB_S (st : St) : S P 14 [.agg [eI 0, .emp, .emp, .emp]] st fun v st' => v = .bool true ∧ st' = st := by
  refine S_of_X [1] good mixed Tryz.func14 (by rfl) rfl rfl rfl ?_
  conv => whnf
  refine call1 (day_S _ st) ?_
  conv => whnf
  refine once [1, 25, 26, 27] ?_
  conv => whnf
  intro I
  conv => whnf
  refine once [1, 5, 36, 37, 38] ?_
  conv => whnf
  intro I
  conv => whnf
  refine call1 (rise0_S st) ?_
  conv => whnf
  refine call1 (keys0_S st) ?_
  conv => whnf
  exact ⟨rfl, rfl⟩
theorem stateA_S (st : St) : S P 7 [.agg [eI (-1), .emp, .emp, .emp]] st fun v st' => v = eI (-1) ∧ st' = st := by
  refine S_of_X [1] good mixed Tryz.func7 (by rfl) rfl rfl rfl ?_
  conv => whnf
  refine call1 (modelA_S st) ?_
  conv => whnf
  exact ⟨rfl, rfl⟩
theorem stateB_S (st : St) : S P 7 [.agg [eI 0, .emp, .emp, .emp]] st fun v st' => v = eI 0 ∧ st' = st := by
  refine S_of_X [1] good mixed Tryz.func7 (by rfl) rfl rfl rfl ?_
  conv => whnf
  refine call1 (modelB_S st) ?_
  conv => whnf
  refine once [1, 10, 11, 12] ?_
  conv => whnf
  intro I
  conv => whnf
  exact ⟨rfl, rfl⟩
theorem least_S (p : Int) (l : List Int) (hl : l.length ≤ 9223372036854775807) (st : St) : S P 4 [eI p, eInts l] st fun v st' => v = eI (l.foldl min p) ∧ st' = st := by
  refine S_of_X [] good mixed Tryz.func4 (by rfl) rfl rfl rfl ?_
  conv => whnf
  refine ⟨[0, 7, 8, 9], fun m vs s => ∃ i : Nat, i ≤ l.length ∧ m = l.length - i ∧ vs = [eI ((l.take i).foldl min p), eInts l, eI l.length, eI i] ∧ s = st, ?_, ?_⟩
  · conv => whnf
    exact ⟨_, 0, Nat.zero_le _, rfl, rfl, rfl⟩
  · rintro m vs s ⟨i, hi, rfl, rfl, rfl⟩
    conv => whnf
    cases h : decide ((i : Int) < (l.length : Int))
    · conv => whnf
      have hi' : i = l.length := by have := of_decide_eq_false h; omega
      refine ⟨?_, rfl⟩
      subst hi'
      simp [pack]
    · have hi' : i < l.length := by have := of_decide_eq_true h; omega
      conv => whnf
      refine ⟨rfl, ⟨by omega, by omega⟩, ?_⟩
      conv => whnf
      refine ⟨rfl, ?_⟩
      conv => whnf
      refine ⟨l.length - (i + 1), by omega, i + 1, by omega, rfl, ?_, rfl⟩
      rw [wrapN (by omega), foldl_next hi', Int.toNat_natCast]
      congr 2
      generalize l.getD i default = y
      generalize List.foldl min p (List.take i l) = z
      show _ = min z y
      split <;> omega
theorem awake_S (st : St) : S P 5 [] st fun v st' => v = .bool true ∧ st' = st := by
  refine S_of_X [] good mixed Tryz.func5 (by rfl) rfl rfl rfl ?_
  conv => whnf
  refine call1 (audit0_S st) ?_
  conv => whnf
  refine call1 (stateA_S st) ?_
  conv => whnf
  refine call1 (stateB_S st) ?_
  conv => whnf
  refine call_shift (args' := [eI 5, eInts [7, 3]]) (Shift.cons (Shift.keep _ _) (Shift.arr fun i hi => ?_)) (call1 (least_S 5 [7, 3] (by decide) st) ?_)
  · match i, hi with
    | 0, _ => rfl
    | 1, _ => rfl
  conv => whnf
  exact ⟨rfl, rfl⟩
theorem fold_min (l : List Int) : ∀ p : Int, l.foldl min p ≤ p ∧ (∀ x ∈ l, l.foldl min p ≤ x) ∧ (l.foldl min p = p ∨ l.foldl min p ∈ l) := by
  induction l with
  | nil => intro p; simp
  | cons a l ih =>
    intro p
    obtain ⟨h1, h2, h3⟩ := ih (min p a)
    simp only [List.foldl_cons]
    refine ⟨by omega, fun x hx => ?_, ?_⟩
    · rcases List.mem_cons.1 hx with rfl | hx
      · omega
      · exact h2 x hx
    · rcases h3 with h3 | h3
      · rcases Int.le_total p a with h | h
        · left; omega
        · right; rw [h3, Int.min_eq_right h]; exact List.mem_cons_self
      · right; exact List.mem_cons_of_mem _ h3
theorem law_S (p : Int) (l : List Int) (hl : l.length ≤ 9223372036854775807) (st : St) : S P 3 [eI p, eInts l] st fun v st' => v = .bool true ∧ st' = st := by
  obtain ⟨f1, f2, f3⟩ := fold_min l p
  refine S_of_X [] good mixed Tryz.func3 (by rfl) rfl rfl rfl ?_
  conv => whnf
  refine call1 (least_S p l hl st) ?_
  conv => whnf
  generalize l.foldl min p = z at *
  refine ⟨[0, 1, 5, 6, 7], fun m vs s => ∃ i : Nat, i ≤ l.length ∧ m = l.length - i ∧ vs = [eI p, eInts l, eI z, .bool (z == p || (l.take i).any fun x => z == x), eI i] ∧ s = st, ?_, ?_⟩
  · conv => whnf
    exact ⟨_, 0, Nat.zero_le _, rfl, by simp, rfl⟩
  · rintro m vs s ⟨i, hi, rfl, rfl, rfl⟩
    conv => whnf
    cases h : decide ((i : Int) < (l.length : Int))
    · conv => whnf
      have hi' : i = l.length := by have := of_decide_eq_false h; omega
      have hb : (z == p || (l.take i).any fun x => z == x) = true := by
        rw [hi', List.take_length]
        rcases f3 with f3 | f3
        · simp [f3]
        · have : (l.any fun x => z == x) = true := List.any_eq_true.2 ⟨z, f3, by simp⟩
          rw [this, Bool.or_true]
      refine call1 (awake_S _) ?_
      rw [hb]
      conv => whnf
      exact ⟨by simp [pack, f1], rfl⟩
    · have hi' : i < l.length := by have := of_decide_eq_true h; omega
      have hz : z ≤ l.getD i default := f2 _ (by simp [hi'])
      conv => whnf
      refine ⟨rfl, ⟨by omega, by omega⟩, ?_⟩
      conv => whnf
      cases h2 : decide (z > l.getD (i : Int).toNat default)
      · conv => whnf
        have hn : ((l.take (i + 1)).any fun x => z == x) = (((l.take i).any fun x => z == x) || z == l.getD i default) := by
          rw [take_next hi', List.any_append]; simp
        have fin : ∀ b : Bool, b = (z == p || (l.take (i + 1)).any fun x => z == x) → [eI p, eInts l, eI z, AV.bool b, AV.int .i64 (IntKind.i64.wrap (↑i + 1))] = [eI p, eInts l, eI z, AV.bool (z == p || (l.take (i + 1)).any fun x => z == x), eI ↑(i + 1)] := fun b hb => by rw [hb, wrapN (by omega)]
        cases hb : (z == p || (l.take i).any fun x => z == x)
        · conv => whnf
          refine ⟨rfl, ⟨by omega, by omega⟩, ?_⟩
          conv => whnf
          refine ⟨rfl, ?_⟩
          conv => whnf
          refine ⟨l.length - (i + 1), by omega, i + 1, by omega, rfl, ?_, rfl⟩
          refine fin _ ?_
          rw [hn, ← Bool.or_assoc, hb]
          rfl
        · conv => whnf
          refine ⟨rfl, ?_⟩
          conv => whnf
          refine ⟨l.length - (i + 1), by omega, i + 1, by omega, rfl, ?_, rfl⟩
          refine fin _ ?_
          rw [hn, ← Bool.or_assoc, hb]
          rfl
      · have := of_decide_eq_true h2
        rw [Int.toNat_natCast] at this
        omega
end Go.Proofs.YtohnpndicblhgaaGreat
