/- Part 23 of the proof: contracts of the functions that the law reaches -/
import Derived.Test.YtnekegdhpjplbaaGreatPo22
set_option maxRecDepth 100000
set_option linter.unusedVariables false
set_option linter.unusedSimpArgs false
namespace Go.Proofs.YtnekegdhpjplbaaGreat
open Go Go.Ab
attribute [local irreducible] upd del
def playScope (s : Scope) : Scope := ⟨someUp s.skus 3 8 skuN 8, someUp s.cats 2 3 catN 3⟩
theorem pscope_S (s : Scope) (st : St) : S P 152 [eScope s] st fun v st' => v = eScope (playScope s) ∧ st' = st := by
  have h1 := fun st => some_S s.skus 3 8 skuN 52 (by decide) (by decide) sku_S st
  have h2 := fun st => some_S s.cats 2 3 catN 75 (by decide) (by decide) category_S st
  unfold playScope
  generalize someUp s.skus 3 8 skuN 8 = a at h1 ⊢
  generalize someUp s.cats 2 3 catN 3 = b at h2 ⊢
  refine S_sup ?_
  refine S_of_X [1] good mixed Tryz.func152 (by rfl) rfl rfl rfl ?_; conv => whnf
  intro b2 hb; conv => whnf
  refine ⟨[7], [], List.range 8, by kernel_rfl, ?_⟩; conv => whnf
  refine ⟨_, callQ (h1 _), ?_⟩; conv => whnf
  refine ⟨_, callQ (h2 _), ?_⟩; conv => whnf
  refine stV (upd_same ..) rfl (by omega) rfl (by rfl) ?_; conv => whnf
  refine ldV (upd_same ..) rfl (by omega) (fset_same ..) ?_; conv => whnf
  exact ⟨rfl, ((Sup.refl st).upd hb).over hb⟩
def playCodes (l : List Str) : List Str := someUp l 3 3 codeN 3
theorem playCodes_S (l : List Str) (st : St) : S P 17 [eStrs l] st fun v st' => v = eStrs (playCodes l) ∧ st' = st := by
  refine S_of_X [] good mixed Tryz.func17 (by rfl) rfl rfl rfl ?_; conv => whnf
  refine call1 (some_S l 3 3 codeN 51 (by decide) (by decide) code_S _) ?_; conv => whnf
  exact ⟨rfl, rfl⟩
def playLine (x : Line) : Line := ⟨skuN (pickN x.sku), modB x.qty 10, modB x.price 4000⟩
def playLines (l : List Line) : List Line := (l.take 8).map playLine
theorem playLines_S (l : List Line) (st : St) : S P 18 [arrOf 3 eLine l] st fun v st' => v = arrOf 3 eLine (playLines l) ∧ st' = st := by
  refine S_colL (ty := 51) ?_
  refine S_of_X [] good mixed Tryz.func18 (by rfl) rfl rfl rfl ?_; conv => whnf
  refine lp (min l.length 8) [0, 3, 4] (fun i vs s => ∃ sv, vs = [arrOf 3 eLine l, sv, eI i] ∧ ColL 51 3 eLine ((l.take i).map playLine) st sv s) ?_ ?_
  · conv => whnf
    exact ⟨.emp, rfl, ColL.start _ _ _ _⟩
  · rintro i vs s hi ⟨sv, rfl, hc⟩
    have hfin : i = min l.length 8 → ColL 51 3 eLine (playLines l) st sv s := fun e => by
      have : playLines l = (l.take i).map playLine := by
        unfold playLines
        rcases Nat.le_total l.length 8 with h | h
        · rw [show i = l.length by omega, List.take_length, List.take_of_length_le h]
        · rw [show i = 8 by omega]
      rw [this]; exact hc
    conv => whnf
    refine fork (fun h1 => ?_) (fun h1 => ?_) <;> rw [h1] <;> simp only [decide_eq_true_eq, decide_eq_false_iff_not] at h1
    · conv => whnf
      refine fork (fun h2 => ?_) (fun h2 => ?_) <;> rw [h2] <;> simp only [decide_eq_true_eq, decide_eq_false_iff_not] at h2
      · have hi' : i < min l.length 8 := by omega
        conv => whnf
        refine ⟨[21, 22], [], List.range 24, by kernel_rfl, ?_⟩; conv => whnf
        refine ⟨rfl, ⟨by omega, by omega⟩, ?_⟩; conv => whnf
        refine ⟨_, callQ (pick_S _ _), ?_⟩; conv => whnf
        refine ⟨_, callQ (sku_S _ _), ?_⟩; conv => whnf
        refine ⟨rfl, ⟨by omega, by omega⟩, ?_⟩; conv => whnf
        refine ⟨_, callQ (mod_S _ 10 (by decide) (by decide) _), ?_⟩; conv => whnf
        refine ⟨rfl, ⟨by omega, by omega⟩, ?_⟩; conv => whnf
        refine ⟨_, callQ (mod64_S' _ 4000 (by decide) (by decide) _), ?_⟩; conv => whnf
        refine ColL.app (y := playLine (l.getD (i : Int).toNat default)) (q := r51) rfl rfl rfl rfl rfl (by rfl) (by show (((l.take i).map playLine).length + 1) * 32 ≤ 140737488355328; rw [List.length_map, List.length_take]; omega) hc (fun sv' t' hc' => ?_); conv => whnf
        refine ⟨rfl, ?_⟩; conv => whnf
        refine nx hi' ⟨sv', by rw [wrapN (by omega)], ?_⟩
        rw [take_next (by omega), List.map_append]; exact hc'
      · conv => whnf
        exact hfin (by omega)
    · conv => whnf
      exact hfin (by omega)
def playItem (l : List Ab.Item) (k : Nat) : Ab.Item :=
  if k < l.length then ⟨skuN k, catN (pickN (l.getD k default).cat), modB (l.getD k default).price 4000, (l.getD k default).final && k == 7⟩ else ⟨skuN k, catN k, 100 + 37 * k, false⟩
def playItems (l : List Ab.Item) : List Ab.Item := (List.range 8).map (playItem l)
theorem map_range_succ {α : Type} (f : Nat → α) (k : Nat) : (List.range (k + 1)).map f = (List.range k).map f ++ [f k] := by rw [List.range_succ, List.map_append]; rfl
theorem playItems_S (l : List Ab.Item) (st : St) : S P 28 [arrOf 4 eItem l] st fun v st' => v = arrOf 4 eItem (playItems l) ∧ st' = st := by
  refine S.post (post := fun v st' => ∃ base, Sup st base ∧ ColL 93 4 eItem (playItems l) base v st') ?_ (fun v st' ⟨base, hs, hc⟩ => ⟨_, st, ⟨rfl, rfl⟩, hc.shift.trans (hs.shift _)⟩)
  refine S_of_X [] good mixed Tryz.func28 (by rfl) rfl rfl rfl ?_; conv => whnf
  refine lp 8 [0, 3, 4] (fun k vs s => ∃ sv base, vs = [arrOf 4 eItem l, sv, eI k] ∧ Sup st base ∧ ColL 93 4 eItem ((List.range k).map (playItem l)) base sv s) ?_ ?_
  · conv => whnf
    exact ⟨.emp, st, rfl, Sup.refl _, ColL.start _ _ _ _⟩
  · rintro k vs s hk ⟨sv, base, rfl, hsup, hc⟩
    conv => whnf
    refine fork (fun h1 => ?_) (fun h1 => ?_) <;> rw [h1] <;> simp only [decide_eq_true_eq, decide_eq_false_iff_not] at h1
    · have hk' : k < 8 := by omega
      have hnext := map_range_succ (playItem l) k
      have hlen : ((List.range k).map (playItem l)).length = k := by rw [List.length_map, List.length_range]
      have w1 : IntKind.i64.wrap (100 + IntKind.i64.wrap (37 * (k : Int))) = 100 + 37 * (k : Int) := by
        rw [wrap64_of (x := 37 * (k : Int)) (by omega) (by omega), wrap64_of (by omega) (by omega)]
      conv => whnf
      refine call1 (sku_S _ _) ?_; conv => whnf
      refine call1 (category_S _ _) ?_; conv => whnf
      intro b hb; conv => whnf
      refine stV (upd_same ..) rfl (by omega) rfl (by rfl) ?_
      rw [upd_twice]
      have hbb : base b = none := Col.off hc hb
      have hc1 := fun y => Col.under (y := y) hc hb
      have hend : ∀ {t : St} {Y : Blk} {x : AV} {g : Nat → AV} {K : KK}, t = upd s b Y → srcOf 4 t x = some (1, g) → g 0 = eItem (playItem l k) → (∀ sv' t', ColL 93 4 eItem ((List.range (k + 1)).map (playItem l)) (upd base b Y) sv' t' → K sv' t') → xApp T 22 sv x t K := fun {t Y x g K} e hs hg hk => by
        subst e
        refine ColL.app (q := r93) rfl rfl rfl rfl hs hg (by rw [hlen]; show (k + 1) * 48 ≤ 140737488355328; omega) (hc1 Y) (fun sv' t' hc' => hk sv' t' ?_)
        rw [hnext]; exact hc'
      conv => whnf
      refine fork (fun h2 => ?_) (fun h2 => ?_) <;> rw [h2] <;> simp only [decide_eq_true_eq, decide_eq_false_iff_not] at h2
      · have hi : k < l.length := by omega
        have hp : playItem l k = ⟨skuN k, catN (pickN (l.getD (k : Int).toNat default).cat), modB (l.getD (k : Int).toNat default).price 4000, (l.getD (k : Int).toNat default).final && k == 7⟩ := by unfold playItem; rw [if_pos hi]; rfl
        conv => whnf
        refine ⟨[23, 25, 27], [], List.range 28, by kernel_rfl, ?_⟩; conv => whnf
        refine ⟨rfl, ⟨by omega, by omega⟩, ?_⟩; conv => whnf
        refine ⟨_, callQ (pick_S _ _), ?_⟩; conv => whnf
        refine ⟨_, callQ (category_S _ _), ?_⟩; conv => whnf
        refine ⟨rfl, ⟨by omega, by omega⟩, ?_⟩; conv => whnf
        refine ⟨_, callQ (mod64_S' _ 4000 (by decide) (by decide) _), ?_⟩; conv => whnf
        refine ⟨rfl, ⟨by omega, by omega⟩, ?_⟩; conv => whnf
        refine fork (fun h3 => ?_) (fun h3 => ?_) <;> rw [h3] at hp ⊢
        all_goals
          conv => whnf
          refine stV (upd_same ..) rfl (by omega) (fset_same ..) (by rfl) ?_
          rw [upd_twice]; conv => whnf
          refine stV (upd_same ..) rfl (by omega) (fset_same ..) (by rfl) ?_
          rw [upd_twice]; conv => whnf
          refine stV (upd_same ..) rfl (by omega) (fset_same ..) (by rfl) ?_
          rw [upd_twice]; conv => whnf
          refine ldV (upd_same ..) rfl (by omega) (fset_same ..) ?_; conv => whnf
          refine hend rfl rfl (by rw [hp]; first | rfl | (have e7 : ((k : Int) == 7) = (k == 7) := by rw [Bool.eq_iff_iff, beq_iff_eq, beq_iff_eq]; omega
                                                          rw [Bool.true_and, ← e7]; rfl)) (fun sv' t' hc' => ?_)
          conv => whnf
          refine ⟨rfl, ?_⟩; conv => whnf
          exact nx hk' ⟨sv', _, by rw [wrapN (by omega)], hsup.upd hbb, hc'⟩
      · have hi : ¬ k < l.length := by omega
        have hp : playItem l k = ⟨skuN k, catN k, 100 + 37 * k, false⟩ := by unfold playItem; rw [if_neg hi]
        conv => whnf
        refine ldV (upd_same ..) rfl (by omega) (fset_same ..) ?_; conv => whnf
        refine hend rfl rfl (by rw [hp]; show AV.agg _ = _; rw [w1]; rfl) (fun sv' t' hc' => ?_); conv => whnf
        refine ⟨rfl, ?_⟩; conv => whnf
        exact nx hk' ⟨sv', _, by rw [wrapN (by omega)], hsup.upd hbb, hc'⟩
    · obtain rfl : k = 8 := by omega
      conv => whnf
      exact ⟨base, hsup, hc⟩
def kindStep (l : List Int) (out : List Int) (i : Nat) : List Int := if (out.any fun y => y == 1 + modB (gI l i) 5) = true then out else out ++ [1 + modB (gI l i) 5]
def kindUp (l : List Int) (n : Nat) : List Int := (List.range n).foldl (kindStep l) []
theorem kindUp_succ (l : List Int) (n : Nat) : kindUp l (n + 1) = kindStep l (kindUp l n) n := by unfold kindUp; rw [List.range_succ, List.foldl_append]; rfl
theorem kindUp_len (l : List Int) (n : Nat) : (kindUp l n).length ≤ n := by
  induction n with
  | zero => exact Nat.le_refl _
  | succ n ih =>
    rw [kindUp_succ]; unfold kindStep
    split
    · omega
    · rw [List.length_append]; show _ + 1 ≤ _; omega
def playKinds (l : List Int) : List Int := kindUp l (min l.length 6)
theorem any_take_succ (l : List Int) (k : Int) (j : Nat) (hj : j < l.length) : ((l.take (j + 1)).any fun y => y == k) = ((l.take j).any (fun y => y == k) || (gI l j == k)) := by
  rw [take_next hj, List.any_append]; simp
theorem playKinds_S (l : List Int) (st : St) : S P 49 [eInts l] st fun v st' => v = eInts (playKinds l) ∧ st' = st := by
  refine S_colL (ty := 3) ?_
  refine S_of_X [] good mixed Tryz.func49 (by rfl) rfl rfl rfl ?_; conv => whnf
  refine lp (min l.length 6) [0, 3, 4] (fun i vs s => ∃ sv, vs = [eInts l, sv, eI i] ∧ ColL 3 1 eI (kindUp l i) st sv s) ?_ ?_
  · conv => whnf
    exact ⟨.emp, rfl, ColL.start _ _ _ _⟩
  · rintro i vs s hi ⟨sv, rfl, hc⟩
    have hlen := kindUp_len l i
    have hfin : i = min l.length 6 → ColL 3 1 eI (playKinds l) st sv s := fun e => by unfold playKinds; rw [← e]; exact hc
    conv => whnf
    refine fork (fun h1 => ?_) (fun h1 => ?_) <;> rw [h1] <;> simp only [decide_eq_true_eq, decide_eq_false_iff_not] at h1
    · conv => whnf
      refine fork (fun h2 => ?_) (fun h2 => ?_) <;> rw [h2] <;> simp only [decide_eq_true_eq, decide_eq_false_iff_not] at h2
      · have hi' : i < min l.length 6 := by omega
        have hK := kindUp_succ l i
        unfold kindStep at hK
        have hm := modB_lt (gI l (i : Int).toNat) (n := 5) (by decide)
        have hw : IntKind.i64.wrap (1 + modB (gI l (i : Int).toNat) 5) = 1 + modB (gI l i) 5 := wrap64_of (by omega) (by omega)
        conv => whnf
        refine ⟨rfl, ⟨by omega, by omega⟩, ?_⟩; conv => whnf
        refine call1 (mod_S _ 5 (by decide) (by decide) _) ?_; conv => whnf
        rw [hw]
        generalize hkk : 1 + modB (gI l i) 5 = k at hK
        have hcases : (sv = .emp ∧ kindUp l i = []) ∨ ∃ b g, sv = .own 1 b 0 (kindUp l i).length ∧ s b = some ⟨3, 1, (kindUp l i).length, g⟩ ∧ ∀ j, j < (kindUp l i).length → g j = eI (gI (kindUp l i) j) := by
          rcases hc with ⟨h0, h3, _⟩ | ⟨_, b, g, _, h3, h4, h5⟩
          · exact .inl ⟨h3, List.eq_nil_of_length_eq_zero h0⟩
          · exact .inr ⟨b, g, h3, by rw [h4]; exact upd_same .., h5⟩
        refine lp (kindUp l i).length [0, 3, 4, 5, 6, 7] (fun j vs t => vs = [eInts l, sv, eI i, eI k, eB (((kindUp l i).take j).any fun y => y == k), eI j] ∧ t = s) ?_ ?_
        · conv => whnf
          exact ⟨rfl, rfl⟩
        · rintro j vs t hj ⟨rfl, rfl⟩
          rcases hcases with ⟨rfl, hnil⟩ | ⟨b, g, rfl, hb, hg⟩
          · have hj0 : j = 0 := by rw [hnil] at hj; exact Nat.le_zero.1 hj
            subst hj0
            have hK2 : kindUp l (i + 1) = kindUp l i ++ [k] := by rw [hK, if_neg (by rw [hnil]; simp)]
            conv => whnf
            refine ColL.app (q := r3) rfl rfl rfl rfl rfl (by rfl) (by show ((kindUp l i).length + 1) * 8 ≤ 140737488355328; omega) hc (fun sv' t' hc' => ?_); conv => whnf
            refine ⟨rfl, ?_⟩; conv => whnf
            exact nx hi' ⟨sv', by rw [wrapN (by omega)], by rw [hK2]; exact hc'⟩
          · conv => whnf
            cases h3 : decide ((j : Int) < ((kindUp l i).length : Int))
            · obtain rfl := stop_at h3 hj
              conv => whnf
              rw [List.take_length]
              cases h4 : (kindUp l i).any fun y => y == k
              · rw [if_neg (by rw [h4]; simp)] at hK; conv => whnf
                refine ColL.app (q := r3) rfl rfl rfl rfl rfl (by rfl) (by show ((kindUp l i).length + 1) * 8 ≤ 140737488355328; omega) hc (fun sv' t' hc' => ?_); conv => whnf
                refine ⟨rfl, ?_⟩; conv => whnf
                exact nx hi' ⟨sv', by rw [wrapN (by omega)], by rw [hK]; exact hc'⟩
              · rw [if_pos h4] at hK; conv => whnf
                refine ⟨rfl, ?_⟩; conv => whnf
                exact nx hi' ⟨_, by rw [wrapN (by omega)], by rw [hK]; exact hc⟩
            · have hj' := go_on h3
              have hsucc := any_take_succ (kindUp l i) k j hj'
              conv => whnf
              cases h4 : ((kindUp l i).take j).any fun y => y == k
              · rw [h4, Bool.false_or] at hsucc; conv => whnf
                refine ⟨rfl, ⟨by omega, by omega⟩, ?_⟩; conv => whnf
                refine ldV hb rfl (by omega) (v := eI (gI (kindUp l i) (j : Int).toNat)) (by rw [Nat.zero_add]; exact hg _ (by omega)) ?_; conv => whnf
                refine ⟨rfl, ?_⟩; conv => whnf
                refine nx hj' ⟨?_, rfl⟩
                rw [wrapN (by omega), hsucc]; rfl
              · rw [h4, Bool.true_or] at hsucc; conv => whnf
                refine ⟨rfl, ?_⟩; conv => whnf
                refine nx hj' ⟨?_, rfl⟩
                rw [wrapN (by omega), hsucc]
      · conv => whnf
        exact hfin (by omega)
    · conv => whnf
      exact hfin (by omega)
def playTier (x : Tier) (least : Int) : Tier := ⟨least, modB x.rate 4000, 1 + modB x.amount 300⟩
def tierUp (l : List Tier) (step : Int) : Nat → List Tier × Int
  | 0 => ([], 0)
  | i + 1 => ((tierUp l step i).1 ++ [playTier (l.getD i default) ((tierUp l step i).2 + modB (l.getD i default).least step)], (tierUp l step i).2 + modB (l.getD i default).least step + 1)
theorem tierUp_len (l : List Tier) (step : Int) (i : Nat) : (tierUp l step i).1.length = i := by
  induction i with
  | zero => rfl
  | succ i ih => show (_ ++ [_]).length = _; rw [List.length_append, ih]; rfl
theorem tierUp_least (l : List Tier) {step : Int} (h : 0 < step) (i : Nat) : 0 ≤ (tierUp l step i).2 ∧ (tierUp l step i).2 ≤ i * step := by
  induction i with
  | zero => exact ⟨Int.le_refl _, by show (0 : Int) ≤ ((0 : Nat) : Int) * step; rw [Int.natCast_zero, Int.zero_mul]; omega⟩
  | succ i ih =>
    have hm := modB_lt (l.getD i default).least h
    show 0 ≤ (tierUp l step i).2 + modB (l.getD i default).least step + 1 ∧ (tierUp l step i).2 + modB (l.getD i default).least step + 1 ≤ _
    rw [show ((i + 1 : Nat) : Int) * step = i * step + step by rw [Int.natCast_add, Int.add_mul]; simp]
    omega
def playTiers (l : List Tier) (step : Int) : List Tier := if l.length = 0 then [⟨Int.tdiv step 2, 1000, 0⟩] else (tierUp l step (min l.length 3)).1
theorem playTiers_S (l : List Tier) (step : Int) (h0 : 0 < step) (h1 : step ≤ 5000) (st : St) : S P 153 [arrOf 3 eTier l, eI step] st fun v st' => v = arrOf 3 eTier (playTiers l step) ∧ st' = st := by
  refine S_colL (ty := 186) ?_
  refine S_of_X [] good mixed Tryz.func153 (by rfl) rfl rfl rfl ?_; conv => whnf
  refine lp (min l.length 3) [0, 1, 5, 6, 7] (fun i vs s => ∃ sv, vs = [arrOf 3 eTier l, eI step, sv, eI (tierUp l step i).2, eI i] ∧ ColL 186 3 eTier (tierUp l step i).1 st sv s) ?_ ?_
  · conv => whnf
    exact ⟨.emp, rfl, ColL.start _ _ _ _⟩
  · rintro i vs s hi ⟨sv, rfl, hc⟩
    have hlen := tierUp_len l step i
    have hle := tierUp_least l h0 i
    have hip : (i : Int) * step ≤ 3 * 5000 := Int.mul_le_mul (by omega) h1 (by omega) (by omega)
    have hsv : (i = 0 ∧ sv = .emp) ∨ (0 < i ∧ ∃ b, sv = .own 3 b 0 i) := by
      rcases hc with ⟨h2, h3, _⟩ | ⟨h2, b, _, _, h3, _⟩
      · exact .inl ⟨by omega, h3⟩
      · exact .inr ⟨by omega, b, by rw [h3, hlen]⟩
    have hw2 : IntKind.i64.wrap (Int.tdiv step 2) = Int.tdiv step 2 := by
      rw [Int.tdiv_eq_ediv_of_nonneg (by omega)]
      exact wrap64_of (by omega) (by omega)
    conv => whnf
    refine fork (fun h2 => ?_) (fun h2 => ?_) <;> rw [h2] <;> simp only [decide_eq_true_eq, decide_eq_false_iff_not] at h2
    case' refine_1 =>
      conv => whnf
      refine fork (fun h3 => ?_) (fun h3 => ?_) <;> rw [h3] <;> simp only [decide_eq_true_eq, decide_eq_false_iff_not] at h3
    case refine_1.refine_1 =>
      have hi' : i < min l.length 3 := by omega
      have hm := modB_lt (l.getD (i : Int).toNat default).least h0
      have hm2 := modB_lt (l.getD (i : Int).toNat default).amount (n := 300) (by decide)
      have e1 : IntKind.i64.wrap ((tierUp l step i).2 + modB (l.getD (i : Int).toNat default).least step) = (tierUp l step i).2 + modB (l.getD (i : Int).toNat default).least step := wrap64_of (by omega) (by omega)
      have e2 : IntKind.i64.wrap (1 + modB (l.getD (i : Int).toNat default).amount 300) = 1 + modB (l.getD (i : Int).toNat default).amount 300 := wrap64_of (by omega) (by omega)
      have e3 : IntKind.i64.wrap ((tierUp l step i).2 + modB (l.getD (i : Int).toNat default).least step + 1) = (tierUp l step i).2 + modB (l.getD (i : Int).toNat default).least step + 1 := wrap64_of (by omega) (by omega)
      conv => whnf
      refine ⟨rfl, ⟨by omega, by omega⟩, ?_⟩; conv => whnf
      refine call1 (mod64_S' _ step h0 (by omega) _) ?_; conv => whnf
      rw [e1]
      refine ⟨[16, 17], [], List.range 19, by kernel_rfl, ?_⟩; conv => whnf
      refine ⟨rfl, ⟨by omega, by omega⟩, ?_⟩; conv => whnf
      refine ⟨_, callQ (mod64_S' _ 4000 (by decide) (by decide) _), ?_⟩; conv => whnf
      refine ⟨rfl, ⟨by omega, by omega⟩, ?_⟩; conv => whnf
      refine ⟨_, callQ (mod64_S' _ 300 (by decide) (by decide) _), ?_⟩; conv => whnf
      rw [e2]
      refine ColL.app (y := playTier (l.getD (i : Int).toNat default) ((tierUp l step i).2 + modB (l.getD (i : Int).toNat default).least step)) (q := r186) rfl rfl rfl rfl rfl (by rfl) (by show ((tierUp l step i).1.length + 1) * 24 ≤ 140737488355328; omega) hc (fun sv' t' hc' => ?_); conv => whnf
      rw [e3]
      refine ⟨rfl, ?_⟩; conv => whnf
      exact nx hi' ⟨sv', by rw [wrapN (by omega)]; rfl, hc'⟩
    all_goals
      have hie : i = min l.length 3 := by omega
      conv => whnf
      rcases hsv with ⟨rfl, rfl⟩ | ⟨hp, b, rfl⟩
      · have hl0 : l.length = 0 := by omega
        have hT : playTiers l step = [⟨Int.tdiv step 2, 1000, 0⟩] := by unfold playTiers; rw [if_pos hl0]
        rw [hT]; conv => whnf
        refine ColL.app (y := ⟨Int.tdiv step 2, 1000, 0⟩) (q := r186) rfl rfl rfl rfl rfl (by show AV.agg [eI (IntKind.i64.wrap (Int.tdiv step 2)), eI 1000, eI 0] = _; rw [hw2]; rfl) (by show (0 + 1) * 24 ≤ 140737488355328; omega) hc (fun sv' t' hc' => ?_); conv => whnf
        exact hc'
      · have hT : playTiers l step = (tierUp l step i).1 := by unfold playTiers; rw [if_neg (by omega), hie]
        rw [hT]; conv => whnf
        rw [show ((i : Int) == 0) = false by rw [beq_eq_false_iff_ne]; omega]; conv => whnf
        exact hc
theorem someUp_form (l : List Str) (most : Nat) (kinds : Int) (name : Int → Str) (k : Nat) : ∃ ks : List Nat, someUp l most kinds name k = ks.map (fun x : Nat => name x) ∧ ks.Pairwise (· < ·) ∧ (∀ x ∈ ks, x < k) ∧ ks.length ≤ most := by
  induction k with
  | zero => exact ⟨[], rfl, .nil, ⟨fun x hx => absurd hx List.not_mem_nil, Nat.zero_le _⟩⟩
  | succ k ih =>
    obtain ⟨ks, h1, h2, h3, h4⟩ := ih
    rw [someUp_succ]; unfold someStep
    split
    · rename_i hc
      rw [Bool.and_eq_true, decide_eq_true_eq, h1, List.length_map] at hc
      refine ⟨ks ++ [k], by rw [h1, List.map_append]; rfl, List.pairwise_append.2 ⟨h2, List.pairwise_singleton _ _, fun a ha b hb => by rw [List.mem_singleton] at hb; subst hb; exact h3 a ha⟩, fun x hx => ?_, by rw [List.length_append]; show ks.length + 1 ≤ most; omega⟩
      rcases List.mem_append.1 hx with h | h
      · have := h3 x h; omega
      · rw [List.mem_singleton] at h; omega
    · exact ⟨ks, h1, h2, fun x hx => by have := h3 x hx; omega, h4⟩
theorem names_some {l : List Str} {most : Nat} {kinds : Int} {name : Int → Str} {k : Nat} (hn : ∀ x : Nat, x < k → nameB (name x) = true) (hr : ∀ x y : Nat, x < y → y < k → slt (name x) (name y) = true) : namesB (someUp l most kinds name k) = true ∧ (someUp l most kinds name k).length ≤ most ∧ ∀ s ∈ someUp l most kinds name k, s.size ≤ 12 := by
  obtain ⟨ks, h1, h2, h3, h4⟩ := someUp_form l most kinds name k
  rw [h1]
  have hall : ∀ s ∈ ks.map (fun x : Nat => name x), nameB s = true := fun s hs => by
    obtain ⟨x, hx, rfl⟩ := List.mem_map.1 hs; exact hn x (h3 x hx)
  refine ⟨?_, by rw [List.length_map]; exact h4, fun s hs => ?_⟩
  · unfold namesB
    rw [Bool.and_eq_true, Bool.not_eq_true', List.any_eq_false]
    refine ⟨?_, fun s hs => by rw [hall s hs]; simp⟩
    unfold riseB
    rw [List.all_eq_true]
    intro j hj
    have hj := List.mem_range.1 hj
    rw [List.length_map] at hj
    unfold riseAt
    rw [Bool.or_eq_true, beq_iff_eq]
    by_cases e : j = 0
    · exact .inl e
    · refine .inr ?_
      have g : ∀ i, i < ks.length → (ks.map (fun x : Nat => name x)).getD i default = name (ks.getD i 0 : Nat) := fun i hi => by
        rw [List.getD_eq_getElem?_getD, List.getElem?_map, List.getElem?_eq_getElem hi, List.getD_eq_getElem?_getD, List.getElem?_eq_getElem hi]; rfl
      rw [g _ (by omega), g _ hj]
      have gm : ∀ i, i < ks.length → ks.getD i 0 = ks[i]! := fun i hi => by rw [List.getD_eq_getElem?_getD, List.getElem?_eq_getElem hi, getElem!_pos ks i hi]; rfl
      refine hr _ _ ?_ (h3 _ ?_)
      · rw [gm _ (by omega), gm _ hj, getElem!_pos ks _ (by omega), getElem!_pos ks _ hj]
        exact List.pairwise_iff_getElem.1 h2 _ _ (by omega) hj (by omega)
      · rw [gm _ hj, getElem!_pos ks _ hj]; exact List.getElem_mem _
  · have := hall s hs
    unfold nameB at this
    simp only [Bool.and_eq_true, decide_eq_true_eq] at this
    exact this.1.2
theorem sku_names : ((List.range 8).all fun x => nameB (skuN (x : Nat))) = true := by kernel_rfl
theorem sku_rise : ((List.range 8).all fun y => (List.range y).all fun x => slt (skuN (x : Nat)) (skuN (y : Nat))) = true := by kernel_rfl
theorem cat_names : ((List.range 3).all fun x => nameB (catN (x : Nat))) = true := by kernel_rfl
theorem cat_rise : ((List.range 3).all fun y => (List.range y).all fun x => slt (catN (x : Nat)) (catN (y : Nat))) = true := by kernel_rfl
theorem code_names : ((List.range 3).all fun x => nameB (codeN (x : Nat))) = true := by kernel_rfl
theorem code_rise : ((List.range 3).all fun y => (List.range y).all fun x => slt (codeN (x : Nat)) (codeN (y : Nat))) = true := by kernel_rfl
theorem rise_of {name : Int → Str} {k : Nat} (h : ((List.range k).all fun y => (List.range y).all fun x => slt (name (x : Nat)) (name (y : Nat))) = true) (x y : Nat) (hxy : x < y) (hy : y < k) : slt (name x) (name y) = true :=
  List.all_eq_true.1 (List.all_eq_true.1 h y (List.mem_range.2 hy)) x (List.mem_range.2 hxy)
theorem name_of {name : Int → Str} {k : Nat} (h : ((List.range k).all fun x => nameB (name (x : Nat))) = true) (x : Nat) (hx : x < k) : nameB (name x) = true := List.all_eq_true.1 h x (List.mem_range.2 hx)
theorem playScope_ok (s : Scope) : scopeB (playScope s) = true ∧ ScopeSm (playScope s) := by
  obtain ⟨a1, a2, a3⟩ := names_some (l := s.skus) (most := 3) (kinds := 8) (name := skuN) (k := 8) (name_of sku_names) (rise_of sku_rise)
  obtain ⟨b1, b2, b3⟩ := names_some (l := s.cats) (most := 2) (kinds := 3) (name := catN) (k := 3) (name_of cat_names) (rise_of cat_rise)
  unfold playScope
  generalize someUp s.skus 3 8 skuN 8 = A at a1 a2 a3 ⊢
  generalize someUp s.cats 2 3 catN 3 = B at b1 b2 b3 ⊢
  refine ⟨?_, ?_⟩
  · unfold scopeB
    rw [a1, b1, decide_eq_true (show A.length ≤ 20 by omega), decide_eq_true (show B.length ≤ 20 by omega)]; rfl
  · exact ⟨by show A.length ≤ _; omega, by show B.length ≤ _; omega, fun x hx => by have := a3 x hx; show x.size ≤ _; omega, fun x hx => by have := b3 x hx; show x.size ≤ _; omega⟩
theorem playCodes_ok (l : List Str) : codesC (playCodes l) = true ∧ (playCodes l).length ≤ 3 ∧ ∀ s ∈ playCodes l, s.size ≤ 12 := by
  obtain ⟨a1, a2, a3⟩ := names_some (l := l) (most := 3) (kinds := 3) (name := codeN) (k := 3) (name_of code_names) (rise_of code_rise)
  unfold playCodes
  generalize someUp l 3 3 codeN 3 = A at a1 a2 a3 ⊢
  refine ⟨?_, a2, a3⟩
  unfold namesB at a1
  rw [Bool.and_eq_true] at a1
  unfold codesC
  rw [a1.1, a1.2, decide_eq_true (by omega)]; rfl
end Go.Proofs.YtnekegdhpjplbaaGreat
namespace Go.Ab
open Go
def So (y y' : AV) : Prop := ∀ rd sz rd' sz' c, Rep rd sz y c → Rep rd' sz' y' c
inductive SoL : List AV → List AV → Prop
  | nil : SoL [] []
  | cons {a b : AV} {l m : List AV} (h : So a b) (k : SoL l m) : SoL (a :: l) (b :: m)
theorem SoL.len {l m : List AV} (h : SoL l m) : l.length = m.length := by
  induction h with
  | nil => rfl
  | cons _ _ ih => simp [ih]
theorem SoL.get {l m : List AV} (h : SoL l m) : ∀ (j : Nat) (y' : AV), m[j]? = some y' → ∃ y, l[j]? = some y ∧ So y y' := by
  induction h with
  | nil => intro j y' hj; simp at hj
  | cons h k ih =>
    intro j y' hj
    cases j with
    | zero => simp at hj; subst hj; exact ⟨_, rfl, h⟩
    | succ j => simp at hj; simpa using ih j y' hj
theorem So.int (k : IntKind) (n : Int) : So (.int k n) (.int k n) := fun _ _ _ _ c h => by cases h; exact .int _ _
theorem So.bool (b : Bool) : So (.bool b) (.bool b) := fun _ _ _ _ c h => by cases h; exact .bool _
theorem So.str (b : ByteArray) : So (.str b) (.str b) := fun _ _ _ _ c h => by cases h; exact .str _
theorem So.junk (y : AV) : So y .junk := fun _ _ _ _ c _ => .junk c
def noA (n : Nat) : AV := .arr 0 n fun _ => .agg []
theorem So.arr (e n : Nat) (f : Nat → AV) : So (.arr e n f) (noA n) := fun _ _ _ _ c h => by
  cases h with
  | arr e n f A c g hc hA hl ho hr hg =>
    exact .arr _ _ _ A c (fun _ _ => undef) hc hA (fun i hi => rfl) (fun i hi => rfl) (fun a ha i j hi hj => absurd hj (by omega)) (fun i j y hi hy => by simp [cellsOf] at hy)
theorem So.agg {l m : List AV} (h : SoL l m) : So (.agg l) (.agg m) := fun _ _ _ _ c hr => by
  cases hr with
  | agg cs vs hl hg =>
    refine .agg _ _ (by rw [← h.len]; exact hl) fun j y c hy hc => ?_
    obtain ⟨y0, h1, h2⟩ := h.get j y hy
    exact h2 _ _ _ _ _ (hg j y0 c h1 hc)
theorem So.tuple {l m : List AV} (h : SoL l m) : So (.tuple l) (.tuple m) := fun _ _ _ _ c hr => by
  cases hr with
  | tuple cs vs hl hg =>
    refine .tuple _ _ (by rw [← h.len]; exact hl) fun j y c hy hc => ?_
    obtain ⟨y0, h1, h2⟩ := h.get j y hy
    exact h2 _ _ _ _ _ (hg j y0 c h1 hc)
def Le (y y' : AV) : Prop := ∀ rd sz c, Rep rd sz y c → Rep rd sz y' c
inductive LeL : List AV → List AV → Prop
  | nil : LeL [] []
  | cons {a b : AV} {l m : List AV} (h : Le a b) (k : LeL l m) : LeL (a :: l) (b :: m)
theorem Le.refl (y : AV) : Le y y := fun _ _ _ h => h
theorem LeL.refl : ∀ l : List AV, LeL l l
  | [] => .nil
  | a :: l => .cons (Le.refl a) (LeL.refl l)
theorem LeL.len {l m : List AV} (h : LeL l m) : l.length = m.length := by
  induction h with
  | nil => rfl
  | cons _ _ ih => simp [ih]
theorem LeL.get {l m : List AV} (h : LeL l m) : ∀ (j : Nat) (y' : AV), m[j]? = some y' → ∃ y, l[j]? = some y ∧ Le y y' := by
  induction h with
  | nil => intro j y' hj; simp at hj
  | cons h k ih =>
    intro j y' hj
    cases j with
    | zero => simp at hj; subst hj; exact ⟨_, rfl, h⟩
    | succ j => simp at hj; simpa using ih j y' hj
theorem Le.emp (e : Nat) (f : Nat → AV) : Le .emp (.arr e 0 f) := fun rd sz c h => emp_rep e f h
theorem Le.agg {l m : List AV} (h : LeL l m) : Le (.agg l) (.agg m) := fun rd sz c hr => by
  cases hr with
  | agg cs vs hl hg =>
    refine .agg _ _ (by rw [← h.len]; exact hl) fun j y c hy hc => ?_
    obtain ⟨y0, h1, h2⟩ := h.get j y hy
    exact h2 _ _ _ (hg j y0 c h1 hc)
theorem Le.arr {e n : Nat} {f g : Nat → AV} (h : ∀ i, i < n → LeL (cellsOf (f i)) (cellsOf (g i)) ∧ (cellsOf (g i)).all AV.one = true) : Le (.arr e n f) (.arr e n g) := fun rd sz c hr => by
  cases hr with
  | arr e n f A c g' hc hA hl ho hrd hg =>
    refine .arr _ _ _ A c g' hc hA (fun i hi => by rw [← (h i hi).1.len]; exact hl i hi) (fun i hi => (h i hi).2) hrd fun i j y hi hy => ?_
    obtain ⟨y0, h1, h2⟩ := (h i hi).1.get j y hy
    exact h2 _ _ _ (hg i j y0 hi h1)
theorem Le.arr1 {e : Nat} {f g : Nat → AV} (h : LeL (cellsOf (f 0)) (cellsOf (g 0))) (h1 : (cellsOf (g 0)).all AV.one = true) : Le (.arr e 1 f) (.arr e 1 g) := Le.arr fun i hi => by
  obtain rfl : i = 0 := by omega
  exact ⟨h, h1⟩
theorem Le.shift {v v' : AV} (h : Le v v') (st : St) : Shift [v] st [v'] st := Shift.one fun w c hS hr => ⟨hS, Evo.refl _ _, h _ _ _ hr⟩
end Go.Ab
namespace Go.Proofs.YtnekegdhpjplbaaGreat
open Go Go.Ab
attribute [local irreducible] upd del
def tax0 : Tax := ⟨false, false, 0, []⟩
def awR : Rules := ⟨[⟨⟨#[97]⟩, ⟨#[120]⟩, 15, false⟩], [⟨⟨#[112]⟩, 2, 0, ⟨#[]⟩, ⟨#[]⟩, false, ⟨[], []⟩, 0, 0, 10, 0, 0, [], []⟩], tax0, ⟨0, 0⟩, ⟨0, 0, 1, 0, [], []⟩⟩
def awL : List Line := [⟨⟨#[97]⟩, 2, 15⟩]
theorem aw_check : priceCheck awR [] awL = 0 := by kernel_rfl
theorem aw_price : priceB awR awL [0] [0] = ⟨[10], 10, 0, [⟨⟨#[112]⟩, 20⟩]⟩ := by kernel_rfl
theorem aw_places : places awR.promos [] awR.promos.length = [0] := by kernel_rfl
theorem resO_single {l : List Promo} {codes : List Str} (h : places l codes l.length = [0]) {o : List Int} (ho : OrdP l codes o) : resO l o = [0] := by
  have := (resO_perm l o).trans ho.1
  rw [h] at this
  exact List.perm_singleton.1 this
theorem aw_fit : RulesFit awR := by
  refine ⟨by decide, fun p hp => ?_, by decide, by decide⟩
  rw [List.mem_singleton.1 (show p ∈ [_] from hp)]
  exact ⟨⟨by decide, by decide⟩, by decide, fun x hx => by cases hx⟩
theorem awPrice_S (st : St) : S P 19 [eRules awR, eStrs [], arrOf 3 eLine awL] st fun v st' => v = .tuple [ePriced ⟨[10], 10, 0, [⟨⟨#[112]⟩, 20⟩]⟩, eI 0] ∧ st' = st :=
  (price_S awR [] awL aw_fit (by decide) (by decide) (by rw [aw_places]; decide) st).mono fun v s hv => by
    obtain ⟨hv, rfl⟩ := hv
    refine ⟨?_, rfl⟩
    rcases hv with ⟨h, _⟩ | ⟨_, o1, o2, h1, h2, h3⟩
    · exact absurd aw_check h
    · rw [resO_single aw_places h1, resO_single aw_places h2, aw_price] at h3
      exact h3
theorem awake_S (st : St) : S P 15 [] st fun v st' => v = .bool true ∧ st' = st := by
  refine S_sup ?_
  refine S_of_X [1] good mixed Tryz.func15 (by rfl) rfl rfl rfl ?_; conv => whnf
  refine call_shift ?_ (call1 (awPrice_S st) ?_)
  · refine Shift.cons (Le.shift (Le.agg ?_) _) (Shift.cons (Le.shift (Le.emp _ _) _) (Le.shift ?_ _))
    · repeat' first | exact LeL.nil | refine LeL.cons ?_ ?_ | exact Le.refl _ | exact Le.emp _ _ | refine Le.arr1 ?_ rfl
    · repeat' first | exact LeL.nil | refine LeL.cons ?_ ?_ | exact Le.refl _ | exact Le.emp _ _ | refine Le.arr1 ?_ rfl
  · conv => whnf
    intro b hb; conv => whnf
    refine stV (upd_same ..) rfl (by omega) rfl (by rfl) ?_
    rw [upd_twice]; conv => whnf
    refine ldV (upd_same ..) rfl (by omega) (fset_same ..) ?_; conv => whnf
    refine ldV (upd_same ..) rfl (by omega) (fset_same ..) ?_; conv => whnf
    refine ldV (upd_same ..) rfl (by omega) (fset_same ..) ?_; conv => whnf
    refine ⟨rfl, ⟨by decide, by decide⟩, ?_⟩; conv => whnf
    exact ⟨rfl, (Sup.refl st).upd hb⟩
theorem mod8 (n : Int) : modB n 8 = 0 ∨ modB n 8 = 1 ∨ modB n 8 = 2 ∨ modB n 8 = 3 ∨ modB n 8 = 4 ∨ modB n 8 = 5 ∨ modB n 8 = 6 ∨ modB n 8 = 7 := by
  have := modB_lt n (n := 8) (by decide); omega
theorem skuN_nat (k : Nat) (h : k < 8) : skuN k = byteS (97 + k) := by
  unfold skuN modB; congr 2; omega
theorem skus_play (l : List Ab.Item) : (playItems l).map Ab.Item.sku = [byteS 97, byteS 98, byteS 99, byteS 100, byteS 101, byteS 102, byteS 103, byteS 104] := by
  unfold playItems
  rw [List.map_map]
  have e : ∀ k, k < 8 → (Ab.Item.sku ∘ playItem l) k = byteS (97 + (k : Int)) := fun k hk => by
    rw [← skuN_nat k hk]
    show (playItem l k).sku = _
    unfold playItem; split <;> rfl
  have : (List.range 8).map (Ab.Item.sku ∘ playItem l) = (List.range 8).map fun k : Nat => byteS (97 + (k : Int)) := List.map_congr_left fun k hk => e k (List.mem_range.1 hk)
  rw [this]; rfl
theorem playItems_len (l : List Ab.Item) : (playItems l).length = 8 := by unfold playItems; rw [List.length_map, List.length_range]
theorem known_iff (items : List Ab.Item) (s : Str) : known items s = (items.map Ab.Item.sku).any fun y => y.toList == s.toList := by
  unfold known findB
  rw [idx_any, List.any_map]; rfl
theorem known_play (l : List Ab.Item) (n : Int) : known (playItems l) (skuN n) = true := by
  rw [known_iff, skus_play]
  unfold skuN
  rcases mod8 n with h | h | h | h | h | h | h | h <;> rw [h] <;> kernel_rfl
theorem playLine_ok (x : Line) : (0 ≤ (playLine x).qty ∧ (playLine x).qty ≤ 9) ∧ 0 ≤ (playLine x).price ∧ (playLine x).price < 4000 := by
  have h1 := modB_lt x.qty (n := 10) (by decide)
  have h2 := modB_lt x.price (n := 4000) (by decide)
  exact ⟨⟨h1.1, by show modB x.qty 10 ≤ 9; omega⟩, h2.1, h2.2⟩
structure BasketOk (l : List Line) : Prop where
  len : l.length ≤ 8
  line : ∀ x ∈ l, (0 ≤ x.qty ∧ x.qty ≤ 9) ∧ 0 ≤ x.price ∧ x.price < 4000
  sku : ∀ x ∈ l, ∃ n, x.sku = skuN n
theorem playLines_ok (l : List Line) : BasketOk (playLines l) := by
  unfold playLines
  refine ⟨by rw [List.length_map, List.length_take]; omega, fun x hx => ?_, fun x hx => ?_⟩
  · obtain ⟨y, _, rfl⟩ := List.mem_map.1 hx; exact playLine_ok y
  · obtain ⟨y, _, rfl⟩ := List.mem_map.1 hx; exact ⟨pickN y.sku, rfl⟩
theorem BasketOk.lineC {l : List Line} (h : BasketOk l) {x : Line} (hx : x ∈ l) : lineC x = true := by
  have := h.line x hx
  rw [lineC_iff]; omega
theorem sums_le {l : List Line} (h1 : ∀ x ∈ l, (0 ≤ x.qty ∧ x.qty ≤ 9) ∧ 0 ≤ x.price ∧ x.price < 4000) : (0 ≤ unitsN l ∧ unitsN l ≤ 9 * l.length) ∧ 0 ≤ grossN l ∧ grossN l ≤ 36000 * l.length := by
  have : ∀ (l : List Line) (a b : Int), (∀ x ∈ l, (0 ≤ x.qty ∧ x.qty ≤ 9) ∧ 0 ≤ x.price ∧ x.price < 4000) → (a ≤ l.foldl (fun s x => s + x.qty) a ∧ l.foldl (fun s x => s + x.qty) a ≤ a + 9 * l.length) ∧ b ≤ l.foldl (fun s x => s + x.qty * x.price) b ∧ l.foldl (fun s x => s + x.qty * x.price) b ≤ b + 36000 * l.length := by
    intro l
    induction l with
    | nil => intro a b _; simp
    | cons y l ih =>
      intro a b h
      have hy := h y (List.mem_cons_self ..)
      have h0 : 0 ≤ y.qty * y.price := Int.mul_nonneg hy.1.1 hy.2.1
      have h9 : y.qty * y.price ≤ 9 * 4000 := Int.mul_le_mul hy.1.2 (by omega) hy.2.1 (by omega)
      have := ih (a + y.qty) (b + y.qty * y.price) fun x hx => h x (List.mem_cons_of_mem _ hx)
      rw [List.foldl_cons, List.foldl_cons, List.length_cons]
      omega
  have := this l 0 0 h1
  unfold unitsN grossN; omega
theorem find_none' {kn : Str → Bool} {l : List Line} (h : ∀ x ∈ l, kn x.sku = true ∧ lineC x = true) : l.find? (badLine kn) = none := by
  rw [List.find?_eq_none]
  intro x hx
  unfold badLine
  rw [(h x hx).1, (h x hx).2]; simp
theorem BasketOk.check {l : List Line} (h : BasketOk l) {kn : Str → Bool} (hk : ∀ n, kn (skuN n) = true) : checkE kn l = 0 := by
  unfold checkE
  have hl := h.len
  have hs := sums_le h.line
  rw [if_neg (by omega), find_none' fun x hx => ⟨by obtain ⟨n, hn⟩ := h.sku x hx; rw [hn]; exact hk n, h.lineC hx⟩]
  show (if _ then (5 : Int) else 0) = 0
  rw [if_neg]
  rw [decide_eq_false (by omega), decide_eq_false (by omega)]; decide
def groupN (n : Int) : Str := (⟨#[103]⟩ : Str) ++ byteS (48 + modB n 2)
def zoneN (k : Int) : Str := (⟨#[122]⟩ : Str) ++ byteS (48 + k)
def playPart (x : Part) : Part := ⟨playScope x.scope, 1 + modB x.count 2⟩
def playParts (l : List Part) : List Part := if l.length = 0 then [⟨⟨[], []⟩, 2⟩] else (l.take 3).map playPart
def playKind (p : Promo) : Int := 1 + modB (IntKind.i64.wrap (p.kind - 1)) 7
def playGroup (p : Promo) : Str := if modB (pickN p.group) 3 = 1 then groupN p.group.size else ⟨#[]⟩
def playCode (p : Promo) : Str := if modB (pickN p.code) 3 = 1 then codeN p.code.size else ⟨#[]⟩
def playLeast (p : Promo) : Int := if modB p.least 3 = 1 then modB p.least 9000 else 0
def playPromoK (p : Promo) (id K : Int) : Promo :=
  ⟨idN id, K, modB p.prio 5, playGroup p, playCode p, if K = 7 then false else p.closes, if K = 4 ∨ K = 7 then ⟨[], []⟩ else playScope p.scope, playLeast p,
   if K = 1 ∨ K = 3 ∨ K = 7 then 1 + modB p.rate 10000 else 0, if K = 2 then 1 + modB p.amount 900 else if K = 4 then modB p.amount 3000 else 0,
   if K = 3 then 1 + modB p.buy 3 else 0, if K = 3 then 1 + modB p.get 2 else 0, if K = 4 then playParts p.parts else [], if K = 5 then playTiers p.tiers 5000 else if K = 6 then playTiers p.tiers 5 else []⟩
def playPromo (p : Promo) (id : Int) : Promo := playPromoK p id (playKind p)
def idAt (i : Nat) : Int := ((i : Int) * 7 + 3) % 10
def playPromoAt (l : List Promo) (i : Nat) : Promo := playPromo (l.getD i default) (idAt i)
def playPromos (l : List Promo) : List Promo := (List.range (min l.length 6)).map (playPromoAt l)
def playRate (l : List CatRate) (c : Nat) : CatRate := ⟨catN c, modB (l.getD c default).rate 3000⟩
def playRates (l : List CatRate) : List CatRate := (List.range (min 3 l.length)).map (playRate l)
def playZone (l : List Zone) (k : Nat) : Zone :=
  if k < l.length then ⟨zoneN k, playRates (l.getD k default).rates, modB (l.getD k default).rest 3000, modB (l.getD k default).ship 3000⟩ else ⟨zoneN k, [], 1000 * k, 500 * k⟩
def playTax (t : Tax) : Tax := ⟨t.incl, t.byOrder, modB t.round 3, (List.range 3).map (playZone t.zones)⟩
def playShip (s : Ab.Ship) : Ab.Ship := ⟨modB s.fee 900, modB s.free 3 * 4000⟩
def playPolicy (p : Policy) : Policy := ⟨20 + modB p.window 60, modB p.grace 40, 1 + modB p.mode 3, modB p.restock 3 * modB p.restock 2500, playKinds p.order, playKinds p.credit⟩
def playRules (r : Rules) : Rules := ⟨playItems r.items, playPromos r.promos, playTax r.tax, playShip r.ship, playPolicy r.policy⟩
theorem modC2 (n : Int) : modB n 2 = 0 ∨ modB n 2 = 1 := by
  have := modB_lt n (n := 2) (by decide); omega
theorem modC3 (n : Int) : modB n 3 = 0 ∨ modB n 3 = 1 ∨ modB n 3 = 2 := by
  have := modB_lt n (n := 3) (by decide); omega
theorem modC10 (n : Int) : modB n 10 = 0 ∨ modB n 10 = 1 ∨ modB n 10 = 2 ∨ modB n 10 = 3 ∨ modB n 10 = 4 ∨ modB n 10 = 5 ∨ modB n 10 = 6 ∨ modB n 10 = 7 ∨ modB n 10 = 8 ∨ modB n 10 = 9 := by
  have := modB_lt n (n := 10) (by decide); omega
theorem le3 {n : Nat} (h : n ≤ 3) : n = 0 ∨ n = 1 ∨ n = 2 ∨ n = 3 := by omega
theorem lt3 {n : Nat} (h : n < 3) : n = 0 ∨ n = 1 ∨ n = 2 := by omega
theorem nameB_size {s : Str} (h : nameB s = true) : s.size ≤ 12 := by
  unfold nameB at h
  simp only [Bool.and_eq_true, decide_eq_true_eq] at h
  exact h.1.2
theorem sku_nameB (n : Int) : nameB (skuN n) = true := by
  unfold skuN
  rcases mod8 n with h | h | h | h | h | h | h | h <;> rw [h] <;> kernel_rfl
theorem cat_nameB (n : Int) : nameB (catN n) = true := by
  unfold catN
  rcases modC3 n with h | h | h <;> rw [h] <;> kernel_rfl
theorem code_nameB (n : Int) : nameB (codeN n) = true := by
  unfold codeN
  rcases modC3 n with h | h | h <;> rw [h] <;> kernel_rfl
theorem group_nameB (n : Int) : nameB (groupN n) = true := by
  unfold groupN
  rcases modC2 n with h | h <;> rw [h] <;> kernel_rfl
theorem id_nameB (n : Int) : nameB (idN n) = true := by
  unfold idN
  rcases modC10 n with h | h | h | h | h | h | h | h | h | h <;> rw [h] <;> kernel_rfl
theorem named_nil : namedC ⟨#[]⟩ = true := by kernel_rfl
theorem named_of {s : Str} (h : nameB s = true) : namedC s = true := by unfold namedC; rw [h, Bool.or_true]
theorem group_named (p : Promo) : namedC (playGroup p) = true ∧ (playGroup p).size ≤ 12 := by
  unfold playGroup; split
  · exact ⟨named_of (group_nameB _), nameB_size (group_nameB _)⟩
  · exact ⟨named_nil, by decide⟩
theorem code_named (p : Promo) : namedC (playCode p) = true ∧ (playCode p).size ≤ 12 := by
  unfold playCode; split
  · exact ⟨named_of (code_nameB _), nameB_size (code_nameB _)⟩
  · exact ⟨named_nil, by decide⟩
theorem least_ok (p : Promo) : 0 ≤ playLeast p ∧ playLeast p < 9000 := by
  have := modB_lt p.least (n := 9000) (by decide)
  unfold playLeast; split <;> omega
theorem empty_ok : scopeB ⟨[], []⟩ = true ∧ ScopeSm ⟨[], []⟩ := ⟨by kernel_rfl, ⟨by decide, by decide, fun x hx => (by cases hx), fun x hx => (by cases hx)⟩⟩
theorem playParts_ok (l : List Part) : (1 ≤ (playParts l).length ∧ (playParts l).length ≤ 3) ∧ ∀ x ∈ playParts l, partC x = true ∧ ScopeSm x.scope := by
  unfold playParts
  split
  · refine ⟨⟨Nat.le_refl _, by show 1 ≤ 3; decide⟩, fun x hx => ?_⟩
    rw [List.mem_singleton.1 hx]
    exact ⟨by kernel_rfl, empty_ok.2⟩
  · rename_i h
    refine ⟨by rw [List.length_map, List.length_take]; omega, fun x hx => ?_⟩
    obtain ⟨y, _, rfl⟩ := List.mem_map.1 hx
    obtain ⟨h1, h2⟩ := playScope_ok y.scope
    have := modB_lt y.count (n := 2) (by decide)
    refine ⟨?_, h2⟩
    unfold partC
    rw [show (playPart y).scope = playScope y.scope from rfl, h1, show (playPart y).count = 1 + modB y.count 2 from rfl, decide_eq_false (by omega), decide_eq_false (by omega)]; rfl
theorem tierUp_get (l : List Tier) (step : Int) (i k : Nat) (hk : k < i) : (tierUp l step i).1.getD k default = playTier (l.getD k default) ((tierUp l step k).2 + modB (l.getD k default).least step) := by
  induction i with
  | zero => omega
  | succ i ih =>
    have hl := tierUp_len l step i
    show ((tierUp l step i).1 ++ [_]).getD k default = _
    by_cases e : k = i
    · subst e
      rw [List.getD_eq_getElem?_getD, List.getElem?_append_right (by omega), hl, Nat.sub_self]; rfl
    · rw [List.getD_eq_getElem?_getD, List.getElem?_append_left (by omega), ← List.getD_eq_getElem?_getD]
      exact ih (by omega)
theorem playTiers_ok (l : List Tier) (step : Int) (h : step = 5000 ∨ step = 5) : tiersC (playTiers l step) = true ∧ (playTiers l step).length ≤ 3 := by
  unfold playTiers
  split
  · rcases h with rfl | rfl
    · exact ⟨by kernel_rfl, by show 1 ≤ 3; decide⟩
    · exact ⟨by kernel_rfl, by show 1 ≤ 3; decide⟩
  · rename_i h0
    have hs : 0 < step ∧ step ≤ 5000 := by omega
    have hl := tierUp_len l step (min l.length 3)
    refine ⟨?_, by omega⟩
    unfold tiersC
    rw [hl, decide_eq_false (by omega), decide_eq_false (by omega)]
    show allAt _ _ = true
    refine allAt_yes fun k hk => ?_
    rw [hl] at hk
    have hg := tierUp_get l step (min l.length 3) k hk
    have hm := modB_lt (l.getD k default).least hs.1
    have hr := modB_lt (l.getD k default).rate (n := 4000) (by decide)
    have ha := modB_lt (l.getD k default).amount (n := 300) (by decide)
    have hlo := tierUp_least l hs.1 k
    have hip : (k : Int) * step ≤ 3 * 5000 := Int.mul_le_mul (by omega) hs.2 (by omega) (by omega)
    unfold tierAt
    rw [hg]
    have hprev : (if k = 0 then -1 else ((tierUp l step (min l.length 3)).1.getD (k - 1) default).least) < (tierUp l step k).2 + modB (l.getD k default).least step := by
      by_cases e : k = 0
      · rw [if_pos e]; omega
      · rw [if_neg e, tierUp_get l step (min l.length 3) (k - 1) (by omega)]
        obtain ⟨j, rfl⟩ : ∃ j, k = j + 1 := ⟨k - 1, by omega⟩
        rw [Nat.add_sub_cancel]
        show (tierUp l step j).2 + modB (l.getD j default).least step < (tierUp l step j).2 + modB (l.getD j default).least step + 1 + modB (l.getD (j + 1) default).least step
        omega
    show (!(decide ((tierUp l step k).2 + modB (l.getD k default).least step ≤ _) || decide ((tierUp l step k).2 + modB (l.getD k default).least step > 10000000000000) || decide (modB (l.getD k default).rate 4000 < 0) || decide (modB (l.getD k default).rate 4000 > 10000) || decide (1 + modB (l.getD k default).amount 300 < 0) || decide (1 + modB (l.getD k default).amount 300 > 10000000000000) || (modB (l.getD k default).rate 4000 == 0 && 1 + modB (l.getD k default).amount 300 == 0))) = true
    rw [decide_eq_false (by omega), decide_eq_false (by omega), decide_eq_false (by omega), decide_eq_false (by omega), decide_eq_false (by omega), decide_eq_false (by omega), show (1 + modB (l.getD k default).amount 300 == 0) = false from by rw [beq_eq_false_iff_ne]; omega, Bool.and_false]; rfl
theorem kindUp_ok (l : List Int) (n : Nat) : (∀ x ∈ kindUp l n, 1 ≤ x ∧ x ≤ 5) ∧ (kindUp l n).Nodup := by
  induction n with
  | zero => exact ⟨fun x hx => absurd hx List.not_mem_nil, List.nodup_nil⟩
  | succ n ih =>
    rw [kindUp_succ]; unfold kindStep
    split
    · exact ih
    · rename_i h
      have hm := modB_lt (gI l n) (n := 5) (by decide)
      have hno : 1 + modB (gI l n) 5 ∉ kindUp l n := fun hx => h (List.any_eq_true.2 ⟨_, hx, beq_self_eq_true _⟩)
      refine ⟨fun x hx => ?_, List.nodup_append.2 ⟨ih.2, List.nodup_cons.2 ⟨List.not_mem_nil, List.nodup_nil⟩, fun a ha b hb => ?_⟩⟩
      · rcases List.mem_append.1 hx with h' | h'
        · exact ih.1 x h'
        · rw [List.mem_singleton.1 h']; omega
      · rw [List.mem_singleton.1 hb]; intro e; exact hno (e ▸ ha)
theorem kinds_right {l : List Int} (h1 : ∀ x ∈ l, 1 ≤ x ∧ x ≤ 5) (h2 : l.Nodup) : kindsC l = true := by
  refine allAt_yes fun k hk => ?_
  have hx := h1 _ (getD_mem hk)
  unfold kindAt
  rw [show upB 1 9 (l.getD k default) = true from upB_iff.2 (by omega)]
  have : ((l.take k).any fun y => l.getD k default == y) = false := by
    rw [List.any_eq_false]
    intro y hy
    obtain ⟨j, hj, rfl⟩ := List.getElem_of_mem hy
    rw [List.length_take] at hj
    rw [beq_iff_eq, List.getD_eq_getElem?_getD, List.getElem?_eq_getElem hk, Option.getD_some, List.getElem_take]
    intro e
    have := (List.nodup_iff_pairwise_ne.1 h2)
    exact absurd e.symm (List.pairwise_iff_getElem.1 this j k (by omega) hk (by omega))
  rw [this]; rfl
theorem playKinds_ok (l : List Int) : kindsC (playKinds l) = true ∧ (playKinds l).length ≤ 6 := by
  have h := kindUp_ok l (min l.length 6)
  have := kindUp_len l (min l.length 6)
  exact ⟨kinds_right h.1 h.2, by show (kindUp l _).length ≤ 6; omega⟩
theorem promoC_of (q : Promo) (h1 : 1 ≤ q.kind ∧ q.kind < 8) (hh : pHead q = true) (hp : pPlain q = true) (hk : pKind q = true) : promoC q = true := by
  unfold promoC; rw [decide_eq_true (show q.kind ≥ 1 from h1.1), decide_eq_true h1.2, hh, hp, hk]; rfl
theorem pHead_of (q : Promo) (h1 : nameB q.id = true) (h2 : 0 ≤ q.prio ∧ q.prio ≤ 1000) (h3 : namedC q.group = true) (h4 : namedC q.code = true) (h5 : scopeB q.scope = true) (h6 : 0 ≤ q.least ∧ q.least ≤ 10000000000000) : pHead q = true := by
  unfold pHead; rw [h1, upB_iff.2 h2, h3, h4, h5, upB_iff.2 h6]; rfl
theorem playKind_ok (p : Promo) : 1 ≤ playKind p ∧ playKind p ≤ 7 := by
  have := modB_lt (IntKind.i64.wrap (p.kind - 1)) (n := 7) (by decide)
  unfold playKind; omega
theorem playPromoK_right (p : Promo) (id K : Int) (hK : 1 ≤ K ∧ K ≤ 7) : promoC (playPromoK p id K) = true := by
  have h1 := id_nameB id
  have h2 := modB_lt p.prio (n := 5) (by decide)
  have h3 := (group_named p).1
  have h4 := (code_named p).1
  have h5 := (playScope_ok p.scope).1
  have h6 := least_ok p
  have r := modB_lt p.rate (n := 10000) (by decide)
  have a9 := modB_lt p.amount (n := 900) (by decide)
  have a3 := modB_lt p.amount (n := 3000) (by decide)
  have b3 := modB_lt p.buy (n := 3) (by decide)
  have g2 := modB_lt p.get (n := 2) (by decide)
  have hpt := playParts_ok p.parts
  have ht5 := (playTiers_ok p.tiers 5000 (.inl rfl)).1
  have ht6 := (playTiers_ok p.tiers 5 (.inr rfl)).1
  unfold playPromoK
  generalize idN id = I at h1 ⊢
  generalize modB p.prio 5 = pr at h2 ⊢
  generalize playGroup p = G at h3 ⊢
  generalize playCode p = C at h4 ⊢
  generalize playScope p.scope = S at h5 ⊢
  generalize playLeast p = L at h6 ⊢
  generalize modB p.rate 10000 = R at r ⊢
  generalize modB p.amount 900 = A at a9 ⊢
  generalize modB p.amount 3000 = A3 at a3 ⊢
  generalize modB p.buy 3 = B at b3 ⊢
  generalize modB p.get 2 = Gt at g2 ⊢
  generalize playParts p.parts = PT at hpt ⊢
  generalize playTiers p.tiers 5000 = T5 at ht5 ⊢
  generalize playTiers p.tiers 5 = T6 at ht6 ⊢
  generalize p.closes = cl
  rcases (by omega : K = 1 ∨ K = 2 ∨ K = 3 ∨ K = 4 ∨ K = 5 ∨ K = 6 ∨ K = 7) with rfl | rfl | rfl | rfl | rfl | rfl | rfl
  · exact promoC_of ⟨I, 1, pr, G, C, cl, S, L, 1 + R, 0, 0, 0, [], []⟩ ⟨(by decide : (1 : Int) ≤ 1), (by decide : (1 : Int) < 8)⟩ (pHead_of _ h1 ⟨h2.1, by show pr ≤ 1000; omega⟩ h3 h4 h5 ⟨h6.1, by show L ≤ _; omega⟩) rfl (show upB 1 10000 (1 + R) = true from upB_iff.2 (by omega))
  · exact promoC_of ⟨I, 2, pr, G, C, cl, S, L, 0, 1 + A, 0, 0, [], []⟩ ⟨(by decide : (1 : Int) ≤ 2), (by decide : (2 : Int) < 8)⟩ (pHead_of _ h1 ⟨h2.1, by show pr ≤ 1000; omega⟩ h3 h4 h5 ⟨h6.1, by show L ≤ _; omega⟩) rfl (show upB 1 1000000000 (1 + A) = true from upB_iff.2 (by omega))
  · refine promoC_of ⟨I, 3, pr, G, C, cl, S, L, 1 + R, 0, 1 + B, 1 + Gt, [], []⟩ ⟨(by decide : (1 : Int) ≤ 3), (by decide : (3 : Int) < 8)⟩ (pHead_of _ h1 ⟨h2.1, by show pr ≤ 1000; omega⟩ h3 h4 h5 ⟨h6.1, by show L ≤ _; omega⟩) rfl ?_
    show (upB 1 10000 (1 + R) && (upB 1 100 (1 + B) && upB 1 100 (1 + Gt))) = true
    rw [upB_iff.2 (show 1 ≤ 1 + R ∧ 1 + R ≤ 10000 by omega), upB_iff.2 (show 1 ≤ 1 + B ∧ 1 + B ≤ 100 by omega), upB_iff.2 (show 1 ≤ 1 + Gt ∧ 1 + Gt ≤ 100 by omega)]; rfl
  · refine promoC_of ⟨I, 4, pr, G, C, cl, ⟨[], []⟩, L, 0, A3, 0, 0, PT, []⟩ ⟨(by decide : (1 : Int) ≤ 4), (by decide : (4 : Int) < 8)⟩ (pHead_of _ h1 ⟨h2.1, by show pr ≤ 1000; omega⟩ h3 h4 empty_ok.1 ⟨h6.1, by show L ≤ _; omega⟩) rfl ?_
    show (!(decide ((PT.length : Int) < 1) || decide ((PT.length : Int) > 3) || decide (A3 < 0) || decide (A3 > 10000000000000)) && !(PT.any fun x => !partC x)) = true
    rw [decide_eq_false (by omega), decide_eq_false (by omega), decide_eq_false (by omega), decide_eq_false (by omega), show (PT.any fun x => !partC x) = false from by
      rw [List.any_eq_false]; intro x hx; rw [(hpt.2 x hx).1]; simp]; rfl
  · exact promoC_of ⟨I, 5, pr, G, C, cl, S, L, 0, 0, 0, 0, [], T5⟩ ⟨(by decide : (1 : Int) ≤ 5), (by decide : (5 : Int) < 8)⟩ (pHead_of _ h1 ⟨h2.1, by show pr ≤ 1000; omega⟩ h3 h4 h5 ⟨h6.1, by show L ≤ _; omega⟩) rfl ht5
  · exact promoC_of ⟨I, 6, pr, G, C, cl, S, L, 0, 0, 0, 0, [], T6⟩ ⟨(by decide : (1 : Int) ≤ 6), (by decide : (6 : Int) < 8)⟩ (pHead_of _ h1 ⟨h2.1, by show pr ≤ 1000; omega⟩ h3 h4 h5 ⟨h6.1, by show L ≤ _; omega⟩) rfl ht6
  · exact promoC_of ⟨I, 7, pr, G, C, false, ⟨[], []⟩, L, 1 + R, 0, 0, 0, [], []⟩ ⟨(by decide : (1 : Int) ≤ 7), (by decide : (7 : Int) < 8)⟩ (pHead_of _ h1 ⟨h2.1, by show pr ≤ 1000; omega⟩ h3 h4 empty_ok.1 ⟨h6.1, by show L ≤ _; omega⟩) rfl (show upB 1 10000 (1 + R) = true from upB_iff.2 (by omega))
theorem ScopeSm.fit {s : Scope} (h : ScopeSm s) : ScopeFit s := ⟨by have := h.n1; show _ ≤ 9223372036854775807; omega, by have := h.n2; show _ ≤ 9223372036854775807; omega⟩
theorem playPromoK_fit (p : Promo) (id K : Int) : PromoFit (playPromoK p id K) := by
  have hs := (playScope_ok p.scope).2
  have hp := playParts_ok p.parts
  refine ⟨?_, ?_, ?_⟩
  · show ScopeFit (if K = 4 ∨ K = 7 then ⟨[], []⟩ else playScope p.scope)
    split
    · exact empty_ok.2.fit
    · exact hs.fit
  · show (if K = 4 then playParts p.parts else []).length ≤ 9223372036854775807
    split
    · omega
    · exact Nat.zero_le _
  · show ∀ x ∈ (if K = 4 then playParts p.parts else []), _
    split
    · exact fun x hx => ⟨(hp.2 x hx).2.fit.skus, (hp.2 x hx).2.fit.cats⟩
    · exact fun x hx => absurd hx List.not_mem_nil
theorem playPromos_len (l : List Promo) : (playPromos l).length = min l.length 6 := by unfold playPromos; rw [List.length_map, List.length_range]
theorem playPromos_get {l : List Promo} {k : Nat} (hk : k < (playPromos l).length) : (playPromos l).getD k default = playPromoAt l k := by
  rw [playPromos_len] at hk
  unfold playPromos
  rw [List.getD_eq_getElem?_getD, List.getElem?_map, List.getElem?_range hk]; rfl
theorem playPromos_mem {l : List Promo} {p : Promo} (h : p ∈ playPromos l) : ∃ (q : Promo) (id K : Int), (1 ≤ K ∧ K ≤ 7) ∧ p = playPromoK q id K := by
  obtain ⟨k, hk, rfl⟩ := List.mem_map.1 h
  exact ⟨_, _, _, playKind_ok _, rfl⟩
theorem ids_unlike : ((List.range 6).all fun j => (List.range j).all fun i => !((idN (idAt i)).toList == (idN (idAt j)).toList)) = true := by kernel_rfl
theorem playPromos_right (l : List Promo) : promosC (playPromos l) = true := by
  have hl := playPromos_len l
  unfold promosC
  rw [decide_eq_true (by omega), Bool.true_and]
  refine allAt_yes fun k hk => ?_
  unfold promoAt
  rw [playPromos_get hk, show promoC (playPromoAt l k) = true from playPromoK_right _ _ _ (playKind_ok _), Bool.true_and, Bool.not_eq_true', List.any_eq_false]
  intro x hx
  obtain ⟨j, hj, rfl⟩ := mem_getD hx
  rw [List.length_take] at hj
  rw [show ((playPromos l).take k).getD j default = playPromoAt l j by rw [List.getD_eq_getElem?_getD, List.getElem?_take_of_lt (by omega), ← List.getD_eq_getElem?_getD, playPromos_get (by omega)]]
  have := List.all_eq_true.1 (List.all_eq_true.1 ids_unlike k (List.mem_range.2 (by omega))) j (List.mem_range.2 (by omega))
  rw [Bool.not_eq_true'] at this
  show ¬ ((idN (idAt j)).toList == (idN (idAt k)).toList) = true
  rw [this]; simp
theorem cats_rise (n : Nat) (h : n ≤ 3) : riseB ((List.range n).map fun c : Nat => catN c) = true := by
  rcases le3 h with rfl | rfl | rfl | rfl <;> kernel_rfl
theorem playRates_ok (l : List CatRate) : (playRates l).length ≤ 3 ∧ (∀ x ∈ playRates l, rateC x = true ∧ x.cat.size ≤ 12) ∧ riseB ((playRates l).map CatRate.cat) = true := by
  unfold playRates
  refine ⟨by rw [List.length_map, List.length_range]; omega, fun x hx => ?_, ?_⟩
  · obtain ⟨c, _, rfl⟩ := List.mem_map.1 hx
    have := modB_lt (l.getD c default).rate (n := 3000) (by decide)
    refine ⟨?_, nameB_size (cat_nameB _)⟩
    unfold rateC
    rw [show (playRate l c).cat = catN c from rfl, cat_nameB, show upB 0 10000 (playRate l c).rate = true from upB_iff.2 ⟨this.1, by show modB _ 3000 ≤ _; omega⟩]; rfl
  · rw [List.map_map]
    exact cats_rise _ (by omega)
theorem zone_names : ((List.range 3).all fun k : Nat => nameB (zoneN k)) = true := by kernel_rfl
theorem playZone_ok (l : List Zone) (k : Nat) (hk : k < 3) : zoneC (playZone l k) = true := by
  have hn := List.all_eq_true.1 zone_names k (List.mem_range.2 hk)
  have hz := nameB_size hn
  unfold playZone
  split
  · obtain ⟨h1, h2, h3⟩ := playRates_ok (l.getD k default).rates
    have m1 := modB_lt (l.getD k default).rest (n := 3000) (by decide)
    have m2 := modB_lt (l.getD k default).ship (n := 3000) (by decide)
    generalize playRates (l.getD k default).rates = R at h1 h2 h3 ⊢
    unfold zoneC
    show (!(!nameB (zoneN k) || !upB 0 10000 (modB _ 3000) || !upB 0 10000 (modB _ 3000) || decide ((R.length : Int) > 40)) && (allAt R (fun _ x => rateC x) && riseB (R.map CatRate.cat))) = true
    rw [hn, upB_iff.2 (show 0 ≤ modB (l.getD k default).rest 3000 ∧ _ ≤ 10000 by omega), upB_iff.2 (show 0 ≤ modB (l.getD k default).ship 3000 ∧ _ ≤ 10000 by omega), decide_eq_false (by omega), h3, show allAt R (fun _ x => rateC x) = true from allAt_yes fun j hj => (h2 _ (getD_mem hj)).1]; rfl
  · rcases lt3 hk with rfl | rfl | rfl
    · exact (by kernel_rfl : zoneC ⟨zoneN (0 : Nat), [], 1000 * ((0 : Nat) : Int), 500 * ((0 : Nat) : Int)⟩ = true)
    · exact (by kernel_rfl : zoneC ⟨zoneN (1 : Nat), [], 1000 * ((1 : Nat) : Int), 500 * ((1 : Nat) : Int)⟩ = true)
    · exact (by kernel_rfl : zoneC ⟨zoneN (2 : Nat), [], 1000 * ((2 : Nat) : Int), 500 * ((2 : Nat) : Int)⟩ = true)
theorem zone_rise (l : List Zone) : (((List.range 3).map (playZone l)).map Zone.name) = [zoneN 0, zoneN 1, zoneN 2] := by
  have e : ∀ k, (playZone l k).name = zoneN k := fun k => by unfold playZone; split <;> rfl
  show [(playZone l 0).name, (playZone l 1).name, (playZone l 2).name] = _
  rw [e, e, e]; rfl
theorem playTax_ok (t : Tax) : taxC (playTax t) = true := by
  have hr := modB_lt t.round (n := 3) (by decide)
  have hz : ∀ z ∈ (playTax t).zones, zoneC z = true := fun z hz => by
    obtain ⟨k, hk, rfl⟩ := List.mem_map.1 hz
    exact playZone_ok _ k (List.mem_range.1 hk)
  have hn : (playTax t).zones.length = 3 := by show ((List.range 3).map _).length = 3; rw [List.length_map, List.length_range]
  unfold taxC
  rw [show (playTax t).round = modB t.round 3 from rfl, hn, decide_eq_false (show ¬ modB t.round 3 < 0 by omega), decide_eq_false (show ¬ modB t.round 3 > 2 by omega), show (playTax t).zones.map Zone.name = [zoneN 0, zoneN 1, zoneN 2] from zone_rise _,
    show riseB [zoneN 0, zoneN 1, zoneN 2] = true by kernel_rfl, show allAt (playTax t).zones (fun _ z => zoneC z) = true from allAt_yes fun j hj => hz _ (getD_mem hj)]; rfl
theorem playItem_ok (l : List Ab.Item) (k : Nat) : itemC (playItem l k) = true ∧ (playItem l k).sku.size ≤ 12 ∧ (playItem l k).cat.size ≤ 12 ∨ 8 ≤ k := by
  by_cases h8 : 8 ≤ k
  · exact .inr h8
  refine .inl ?_
  have e : ∀ (c : Str) (pr : Int) (f : Bool), nameB c = true → 0 ≤ pr ∧ pr ≤ 1000000000 → itemC ⟨skuN k, c, pr, f⟩ = true ∧ (skuN k).size ≤ 12 ∧ c.size ≤ 12 := fun c pr f hc hp => by
    refine ⟨?_, nameB_size (sku_nameB _), nameB_size hc⟩
    unfold itemC
    rw [show nameB (Ab.Item.mk (skuN k) c pr f).sku = true from sku_nameB _, show nameB (Ab.Item.mk (skuN k) c pr f).cat = true from hc, decide_eq_false (show ¬ (Ab.Item.mk (skuN k) c pr f).price < 0 from by show ¬ pr < 0; omega), decide_eq_false (show ¬ (Ab.Item.mk (skuN k) c pr f).price > 1000000000 from by show ¬ pr > _; omega)]; rfl
  have hm := modB_lt (l.getD k default).price (n := 4000) (by decide)
  unfold playItem
  split
  · exact e _ _ _ (cat_nameB _) (by omega)
  · exact e _ _ _ (cat_nameB _) (by omega)
theorem playItems_mem {l : List Ab.Item} {x : Ab.Item} (h : x ∈ playItems l) : itemC x = true ∧ x.sku.size ≤ 12 ∧ x.cat.size ≤ 12 := by
  obtain ⟨k, hk, rfl⟩ := List.mem_map.1 h
  have := List.mem_range.1 hk
  rcases playItem_ok l k with h | h
  · exact h
  · omega
theorem playItems_right (l : List Ab.Item) : itemsC (playItems l) = true := by
  unfold itemsC
  rw [playItems_len, skus_play, show riseB [byteS 97, byteS 98, byteS 99, byteS 100, byteS 101, byteS 102, byteS 103, byteS 104] = true by kernel_rfl, show allAt (playItems l) (fun _ x => itemC x) = true from allAt_yes fun j hj => (playItems_mem (getD_mem hj)).1]; rfl
theorem playRules_right (r : Rules) : rulesC (playRules r) = true := by
  have h1 := modB_lt r.ship.fee (n := 900) (by decide)
  have h2 := modB_lt r.ship.free (n := 3) (by decide)
  have h3 := modB_lt r.policy.window (n := 60) (by decide)
  have h4 := modB_lt r.policy.grace (n := 40) (by decide)
  have h5 := modB_lt r.policy.mode (n := 3) (by decide)
  have h6 := modB_lt r.policy.restock (n := 3) (by decide)
  have h7 := modB_lt r.policy.restock (n := 2500) (by decide)
  have h8 : modB r.policy.restock 3 * modB r.policy.restock 2500 ≤ 2 * 2499 := Int.mul_le_mul (by omega) (by omega) (by omega) (by omega)
  have h9 : 0 ≤ modB r.policy.restock 3 * modB r.policy.restock 2500 := Int.mul_nonneg h6.1 h7.1
  show (itemsC (playItems r.items) && promosC (playPromos r.promos) && taxC (playTax r.tax) && shipC (playShip r.ship) && policyC (playPolicy r.policy)) = true
  rw [playItems_right, playPromos_right, playTax_ok r.tax]
  have e1 : shipC (playShip r.ship) = true := by
    show (upB 0 1000000000 (modB r.ship.fee 900) && upB 0 10000000000000 (modB r.ship.free 3 * 4000)) = true
    rw [upB_iff.2 (by omega), upB_iff.2 (by omega)]; rfl
  have e2 : policyC (playPolicy r.policy) = true := by
    show (upB 0 100000 (20 + modB r.policy.window 60) && upB 0 100000 (modB r.policy.grace 40) && decide (1 + modB r.policy.mode 3 ≥ 1) && decide (1 + modB r.policy.mode 3 ≤ 3) && upB 0 10000 (modB r.policy.restock 3 * modB r.policy.restock 2500) && kindsC (playKinds r.policy.order) && kindsC (playKinds r.policy.credit)) = true
    rw [upB_iff.2 (by omega), upB_iff.2 (by omega), decide_eq_true (by omega), decide_eq_true (by omega), upB_iff.2 (by omega), (playKinds_ok _).1, (playKinds_ok _).1]; rfl
  rw [e1, e2]; rfl
theorem playRules_fit (r : Rules) : RulesFit (playRules r) := by
  have h1 := playPromos_len r.promos
  have h2 := (playKinds_ok r.policy.order).2
  have h3 := (playKinds_ok r.policy.credit).2
  refine ⟨by show (playPromos r.promos).length ≤ 9223372036854775807; omega, fun p hp => ?_, by show (playKinds r.policy.order).length < _; omega, by show (playKinds r.policy.credit).length < _; omega⟩
  obtain ⟨q, id, K, _, rfl⟩ := playPromos_mem hp
  exact playPromoK_fit q id K
structure ZoneSm (z : Zone) : Prop where
  n : Sm z.rates.length
  s : Sm z.name.size
  r : ∀ x ∈ z.rates, Sm x.cat.size
structure TaxSm (x : Tax) : Prop where
  n : Sm x.zones.length
  z : ∀ z ∈ x.zones, ZoneSm z
structure PromoSm (p : Promo) : Prop where
  id : Sm p.id.size
  group : Sm p.group.size
  code : Sm p.code.size
  scope : ScopeSm p.scope
  parts : Sm p.parts.length
  part : ∀ x ∈ p.parts, ScopeSm x.scope
  tiers : Sm p.tiers.length
def aheadB (a b : Promo) : Bool := if (a.prio != b.prio) = true then decide (a.prio > b.prio) else slt a.id b.id
theorem aheadB_iff (a b : Promo) : aheadB a b = true ↔ a.prio > b.prio ∨ (a.prio = b.prio ∧ slt a.id b.id = true) := by
  unfold aheadB
  split
  · rename_i h; simp only [bne_iff_ne, ne_eq] at h; rw [decide_eq_true_eq]; omega
  · rename_i h; simp only [bne_iff_ne, ne_eq, Classical.not_not] at h; constructor
    · exact fun h2 => .inr ⟨h, h2⟩
    · rintro (h2 | h2)
      · omega
      · exact h2.2
theorem ahead_asymm {a b : Promo} (h : aheadB a b = true) : aheadB b a = false := by
  rw [← Bool.not_eq_true, aheadB_iff]
  rw [aheadB_iff] at h
  rcases h with h | ⟨h1, h2⟩
  · rintro (h3 | h3) <;> omega
  · rintro (h3 | h3)
    · omega
    · rw [slt_asymm h2] at h3; cases h3.2
theorem nahead_trans {a b c : Promo} (h : aheadB b a = false) (k : aheadB c b = false) : aheadB c a = false := by
  rw [← Bool.not_eq_true, aheadB_iff] at *
  rintro (h3 | ⟨h3, h4⟩)
  · by_cases e : b.prio > a.prio
    · exact h (.inl e)
    · exact k (.inl (by omega))
  · by_cases e : b.prio = a.prio
    · have h5 : slt b.id a.id = false := by rw [← Bool.not_eq_true]; exact fun e2 => h (.inr ⟨e, e2⟩)
      have h6 : slt c.id b.id = false := by rw [← Bool.not_eq_true]; exact fun e2 => k (.inr ⟨by omega, e2⟩)
      rw [sle_trans h5 h6] at h4; cases h4
    · by_cases e2 : b.prio > a.prio
      · exact h (.inl e2)
      · exact k (.inl (by omega))
def PrOrd (l : List Promo) (x y : Int) : Prop := aheadB (prAt l y) (prAt l x) = false
theorem netsAt_len (us : List AUnit) (mine : List Int) : (netsAt us mine).length = mine.length := List.length_map ..
theorem Places.take {us : List AUnit} {l : List Int} (h : Places us l) (n : Nat) : Places us (l.take n) := by
  have e : ∀ k, k < (l.take n).length → gI (l.take n) k = gI l k ∧ k < l.length := fun k hk => by
    rw [List.length_take] at hk
    unfold gI
    rw [List.getD_eq_getElem?_getD, List.getD_eq_getElem?_getD, List.getElem?_take_of_lt (by omega)]
    exact ⟨rfl, by omega⟩
  exact ⟨fun k hk => by rw [(e k hk).1]; exact h.rng k (e k hk).2, fun i k hik hk => by rw [(e k hk).1, (e i (by omega)).1]; exact h.ne i k hik (e k hk).2⟩
theorem takeR_pre (used : List Bool) (l : List QE) : ∃ pre, l = pre ++ (takeR used l).2 ∧ ∀ e ∈ pre, used.getD e.2.toNat default = true ∨ (takeR used l).1 = some e.2 := by
  induction l with
  | nil => exact ⟨[], rfl, fun e h => by cases h⟩
  | cons e l ih =>
    by_cases hu : used.getD e.2.toNat default = true
    · have ht : takeR used (e :: l) = takeR used l := by
        show (if used.getD e.2.toNat default = true then takeR used l else (some e.2, l)) = _
        rw [if_pos hu]
      obtain ⟨pre, h1, h2⟩ := ih
      rw [ht]
      exact ⟨e :: pre, by rw [List.cons_append, ← h1], fun x hx => by
        rcases List.mem_cons.1 hx with rfl | hx
        · exact .inl hu
        · exact h2 x hx⟩
    · have ht : takeR used (e :: l) = (some e.2, l) := by
        show (if used.getD e.2.toNat default = true then takeR used l else (some e.2, l)) = _
        rw [if_neg hu]
      rw [ht]
      exact ⟨[e], rfl, fun x hx => by rw [List.mem_singleton] at hx; subst hx; exact .inr rfl⟩
def PreOk (E : Nat → List QE) (n : Nat) (s : MSt) : Prop := ∀ k, k < n → ∃ pre, E k = pre ++ s.es k ∧ ∀ e ∈ pre, s.used.getD e.2.toNat default = true
theorem set_true {used : List Bool} {i : Nat} (hi : i < used.length) (j : Nat) : (used.set i true).getD j default = if j = i then true else used.getD j default := by
  simp only [List.getD_eq_getElem?_getD, List.getElem?_set]
  by_cases h : j = i
  · subst h; simp [hi]
  · rw [if_neg (fun e => h e.symm), if_neg h]
theorem PreOk.take {E : Nat → List QE} {us : List AUnit} {n : Nat} {s s' : MSt} (h : PreOk E n s) (hok : MOk us n s) {k : Nat} (hk : k < n) (ht : takeF k s = some s') : PreOk E n s' := by
  obtain ⟨pre0, p1, p2⟩ := takeR_pre s.used (s.es k)
  obtain ⟨_, t2, _, _⟩ := takeR_spec s.used (s.es k)
  unfold takeF at ht
  split at ht
  · cases ht
  · rename_i i hi
    cases ht
    obtain ⟨e0, he0, rfl, _⟩ := t2 i hi
    have hlt : e0.2.toNat < s.used.length := by rw [hok.len]; exact (hok.rng k hk e0 he0).2
    intro j hj
    obtain ⟨pre, h1, h2⟩ := h j hj
    have hmono : ∀ e : QE, s.used.getD e.2.toNat default = true → (s.used.set e0.2.toNat true).getD e.2.toNat default = true := fun e he => by
      rw [set_true hlt]; split
      · rfl
      · exact he
    by_cases ej : j = k
    · subst ej
      refine ⟨pre ++ pre0, ?_, fun e he => ?_⟩
      · show E j = _ ++ fupd s.es j _ j
        rw [fupd_same, List.append_assoc, ← p1]; exact h1
      · rcases List.mem_append.1 he with he | he
        · exact hmono e (h2 e he)
        · rcases p2 e he with he | he
          · exact hmono e he
          · rw [hi] at he
            have he := Option.some.inj he
            show (s.used.set _ true).getD _ default = true
            rw [set_true hlt, if_pos (by rw [he])]
    · refine ⟨pre, ?_, fun e he => hmono e (h2 e he)⟩
      show E j = _ ++ fupd s.es k _ j
      rw [fupd_ne ej]; exact h1
theorem PreOk.takes {E : Nat → List QE} {us : List AUnit} {n : Nat} {s : MSt} (h : PreOk E n s) (hok : MOk us n s) {k : Nat} (hk : k < n) : ∀ {c : Nat} {s' : MSt}, takesF k c s = some s' → PreOk E n s'
  | 0, s', e => by cases e; exact h
  | c + 1, s', e => by
    unfold takesF at e
    obtain ⟨s1, h1, h2⟩ := Option.bind_eq_some_iff.1 e
    exact (PreOk.takes h hok hk h1).take (hok.takes hk h1) hk h2
theorem PreOk.parts {E : Nat → List QE} {us : List AUnit} {p : Promo} {s : MSt} (h : PreOk E p.parts.length s) (hok : MOk us p.parts.length s) : ∀ {k : Nat} {s' : MSt}, k ≤ p.parts.length → partsF p.parts k s = some s' → PreOk E p.parts.length s'
  | 0, s', _, e => by cases e; exact h
  | k + 1, s', hk, e => by
    unfold partsF at e
    obtain ⟨s1, h1, h2⟩ := Option.bind_eq_some_iff.1 e
    exact (PreOk.parts h hok (by omega) h1).takes (MOk.parts hok (by omega) h1) (by omega) h2
abbrev RL (ls : List Int) (svl : AV) : St → St → Prop := fun s t => ROut Sup 2 1 (fun k => eI (gI ls k)) ls.length s svl t
abbrev RA (all ls : List Int) (sva svl : AV) : St → St → Prop := fun s t => ROut (RL ls svl) 3 1 (fun k => eI (gI all k)) all.length s sva t
theorem besideL (ls : List Int) (svl : AV) : Beside (RL ls svl) := besideOut besideSup _ _ _ _ _
theorem RA.start (s : St) : RA [] [] .emp .emp s s := ROut.start (ROut.start (Sup.refl s) _ _ _) _ _ _
theorem RA.shift {all ls : List Int} {sva svl : AV} {s t : St} (h : RA all ls sva svl s t) (a b : AV) : ∃ t2, Shift [a, sva, svl, b] t [a, eInts all, eInts ls, b] t2 ∧ Sup s t2 := by
  obtain ⟨t1, h1, h2⟩ := ROut.shift (besideL ls svl) h
  obtain ⟨t2, h3, h4⟩ := ROut.shift besideSup h2
  exact ⟨t2, Shift.cons (Shift.keep _ _) (Shift.cons h1 (Shift.cons h3 (Shift.keep _ _))), h4⟩
theorem takeOff_app {us : List AUnit} {l offs l' offs' : List Int} (h : l.length = offs.length) : ∀ k, k ≤ offs'.length → k ≤ l'.length → takeOff us (l ++ l') (offs ++ offs') (offs.length + k) = takeOff (takeOff us l offs offs.length) l' offs' k
  | 0, _, _ => by
    rw [Nat.add_zero]
    have : ∀ n, n ≤ offs.length → takeOff us (l ++ l') (offs ++ offs') n = takeOff us l offs n := fun n => by
      induction n with
      | zero => intro _; rfl
      | succ n ih =>
        intro hn
        unfold takeOff
        rw [ih (by omega), gI_append (by omega), gI_append (by omega)]
    exact this _ (Nat.le_refl _)
  | k + 1, h1, h2 => by
    have ih := takeOff_app (us := us) (l' := l') (offs' := offs') h k (by omega) (by omega)
    have e : ∀ (a b : List Int), a.length = offs.length → gI (a ++ b) (offs.length + k) = gI b k := fun a b ha => by
      unfold gI
      rw [List.getD_eq_getElem?_getD, List.getD_eq_getElem?_getD, List.getElem?_append_right (by omega), ha, Nat.add_sub_cancel_left]
    rw [← Nat.add_assoc]
    unfold takeOff
    rw [ih, e l l' h, e offs offs' rfl]
structure RInv (p : Promo) (us : List AUnit) (E : Nat → List QE) (D : Nat) (b : BSt) (ls : List Int) : Prop where
  ok : BOk p us D b
  pre : PreOk E p.parts.length ⟨b.ms.used, b.ms.es, []⟩
  len : ls.length = b.taken.length
  out : b.out = takeOff us b.taken ls ls.length
  sum : sumI ls = b.all
  pos : b.taken = [] ∨ 0 < b.all
  bnd : ∀ k, k < ls.length → 0 ≤ gI ls k ∧ gI ls k ≤ (gU us (gI b.taken k).toNat).net
  nd : (b.taken.map Int.toNat).Nodup
  used : ∀ x ∈ b.taken, b.ms.used.getD x.toNat default = true
theorem RInv.step {p : Promo} (hp : BunOk p) {us : List AUnit} (hu : UnitsOk us) {E : Nat → List QE} {D : Nat} {b : BSt} {ls : List Int} (h : RInv p us E D b ls) {s : MSt} (hs : partsF p.parts p.parts.length ⟨b.ms.used, b.ms.es, []⟩ = some s) (hc : costL us s.l > p.amount) :
    netsAt us (sortI s.l) = weighF b.out (sortI s.l) ∧ RInv p us E D ⟨lessF b.out (sortI s.l) (costL us s.l - p.amount), s, b.taken ++ sortI s.l, b.all + (costL us s.l - p.amount)⟩ (ls ++ largestB (costL us s.l - p.amount) (netsAt us (sortI s.l))) := by
  obtain ⟨k1, k2, k3⟩ := h.ok.step hp hu hs hc
  have hok0 : MOk us p.parts.length ⟨b.ms.used, b.ms.es, []⟩ := ⟨h.ok.ok.len, h.ok.ok.rng, h.ok.ok.srt, fun x hx => by simp at hx⟩
  have hok := MOk.parts hok0 (Nat.le_refl _) hs
  have htr := MTrack.parts (MTrack.start b.ms.used b.ms.es) hok0 (Nat.le_refl _) hs
  have hpre := h.pre.parts hok0 (Nat.le_refl _) hs
  have hN : netsAt us (sortI s.l) = weighF b.out (sortI s.l) := by
    unfold netsAt weighF
    exact List.map_congr_left fun x hx => by rw [h.ok.same _ (htr.free x (sortI_mem.1 hx))]
  have hW := k1.weights
  rw [← hN] at hW
  obtain ⟨a1, a2, a3⟩ := largest_sum hW
  have hle := fun {k} (hk : k < (netsAt us (sortI s.l)).length) => largest_le hW (by have := k1.le; rw [← hN] at this; exact this) hk
  have hnl := netsAt_len us (sortI s.l)
  have hlf : lessF b.out (sortI s.l) (costL us s.l - p.amount) = takeOff b.out (sortI s.l) (largestB (costL us s.l - p.amount) (netsAt us (sortI s.l))) (largestB (costL us s.l - p.amount) (netsAt us (sortI s.l))).length := by
    unfold lessF; rw [← hN, a2, hnl]
  have hlen := h.len
  generalize largestB (costL us s.l - p.amount) (netsAt us (sortI s.l)) = X at *
  refine ⟨hN, ⟨k2, hpre, ?_, ?_, ?_, ?_, ?_, ?_, ?_⟩⟩
  · show (ls ++ X).length = (b.taken ++ sortI s.l).length
    rw [List.length_append, List.length_append]; omega
  · show lessF _ _ _ = takeOff us (b.taken ++ sortI s.l) (ls ++ X) (ls ++ X).length
    rw [hlf, h.out, List.length_append, takeOff_app h.len.symm X.length (Nat.le_refl _) (by omega)]
  · show sumI (ls ++ X) = _
    rw [sumI_append, h.sum, a1]
  · refine .inr ?_
    show 0 < b.all + (costL us s.l - p.amount)
    have := h.ok.off.pos
    omega
  · intro k hk
    show 0 ≤ gI (ls ++ X) k ∧ gI (ls ++ X) k ≤ (gU us (gI (b.taken ++ sortI s.l) k).toNat).net
    by_cases hkl : k < ls.length
    · rw [gI_append hkl, gI_append (by omega)]; exact h.bnd k hkl
    · have e : ∀ (a b : List Int), a.length = ls.length → gI (a ++ b) k = gI b (k - ls.length) := fun a b ha => by
        unfold gI
        rw [List.getD_eq_getElem?_getD, List.getD_eq_getElem?_getD, List.getElem?_append_right (by omega), ha]
      rw [List.length_append] at hk
      rw [e ls X rfl, e b.taken _ hlen.symm]
      refine ⟨a3 _ (getD_mem (by omega)), ?_⟩
      have h9 := hle (k := k - ls.length) (by omega)
      rw [show gI (netsAt us (sortI s.l)) (k - ls.length) = (gU us (gI (sortI s.l) (k - ls.length)).toNat).net from getD_map (fun i : Int => (gU us i.toNat).net) _ (by omega)] at h9
      exact h9
  · show ((b.taken ++ sortI s.l).map Int.toNat).Nodup
    rw [List.map_append]
    refine List.nodup_append.2 ⟨h.nd, ((sortI_perm s.l).map Int.toNat).nodup_iff.2 htr.nd, fun x hx y hy e => ?_⟩
    subst e
    obtain ⟨u, hu1, rfl⟩ := List.mem_map.1 hx
    obtain ⟨w, hw1, hw2⟩ := List.mem_map.1 hy
    have f1 := h.used u hu1
    have f2 := htr.free w (sortI_mem.1 hw1)
    rw [hw2, f1] at f2; cases f2
  · intro x hx
    show s.used.getD x.toNat default = true
    rw [htr.used]
    rcases List.mem_append.1 hx with hx | hx
    · exact .inl (h.used x hx)
    · exact .inr (List.mem_map_of_mem (sortI_mem.1 hx))
structure PromosOk (l : List Promo) : Prop where
  few : l.length ≤ 60
  right : ∀ p ∈ l, promoC p = true
  ids : ∀ i j, i < j → j < l.length → ((l.getD i default).id.toList == (l.getD j default).id.toList) = false
theorem promosOk {l : List Promo} (h : promosC l = true) : PromosOk l := by
  unfold promosC allAt at h
  simp only [Bool.and_eq_true, decide_eq_true_eq, List.all_eq_true, List.mem_range] at h
  obtain ⟨h1, h2⟩ := h
  refine ⟨by omega, fun p hp => ?_, fun i j hij hj => ?_⟩
  · obtain ⟨k, hk, rfl⟩ := mem_getD hp
    have := h2 k hk
    unfold promoAt at this
    rw [Bool.and_eq_true] at this; exact this.1
  · have := h2 j hj
    unfold promoAt at this
    rw [Bool.and_eq_true, Bool.not_eq_true', List.any_eq_false] at this
    have h3 := this.2 (l.getD i default) (by
      have : (l.take j).getD i default = l.getD i default := by rw [List.getD_eq_getElem?_getD, List.getD_eq_getElem?_getD, List.getElem?_take_of_lt hij]
      rw [← this]
      exact getD_mem (by rw [List.length_take]; omega))
    simpa using h3
structure RulesSm (r : Rules) : Prop where
  n : Sm r.items.length
  items : ∀ x ∈ r.items, Sm x.sku.size ∧ Sm x.cat.size
  promos : ∀ p ∈ r.promos, PromoSm p
  tax : TaxSm r.tax
  order : Sm r.policy.order.length
  credit : Sm r.policy.credit.length
def ordB (l : List Promo) (codes : List Str) : List Int := (places l codes l.length).mergeSort fun x y => !aheadB (prAt l y) (prAt l x)
theorem ordB_perm (l : List Promo) (codes : List Str) : (ordB l codes).Perm (places l codes l.length) := List.mergeSort_perm ..
theorem ordB_ord (l : List Promo) (codes : List Str) : (ordB l codes).Pairwise (PrOrd l) := by
  have := List.pairwise_mergeSort (le := fun x y : Int => !aheadB (prAt l y) (prAt l x)) (fun a b c h1 h2 => by simp only [Bool.not_eq_true'] at *; exact nahead_trans h1 h2) (fun a b => by
    cases h : aheadB (prAt l b) (prAt l a) with
    | false => rfl
    | true => rw [ahead_asymm h]; rfl) (places l codes l.length)
  exact this.imp (fun h => by simpa [PrOrd] using h)
theorem prOrd_anti {l : List Promo} (ok : PromosOk l) {x y : Int} (hx : 0 ≤ x ∧ x.toNat < l.length) (hy : 0 ≤ y ∧ y.toNat < l.length) (h1 : PrOrd l x y) (h2 : PrOrd l y x) : x = y := by
  unfold PrOrd at h1 h2
  rw [← Bool.not_eq_true, aheadB_iff] at h1 h2
  have e : (prAt l x).prio = (prAt l y).prio := by
    have a : ¬ (prAt l y).prio > (prAt l x).prio := fun h => h1 (.inl h)
    have b : ¬ (prAt l x).prio > (prAt l y).prio := fun h => h2 (.inl h)
    omega
  have a : slt (prAt l y).id (prAt l x).id = false := by rw [← Bool.not_eq_true]; exact fun h => h1 (.inr ⟨e.symm, h⟩)
  have b : slt (prAt l x).id (prAt l y).id = false := by rw [← Bool.not_eq_true]; exact fun h => h2 (.inr ⟨e, h⟩)
  have c := slt_tri a b
  rcases Nat.lt_trichotomy x.toNat y.toNat with h | h | h
  · have := ok.ids _ _ h hy.2
    rw [beq_eq_false_iff_ne] at this
    exact absurd c.symm this
  · omega
  · have := ok.ids _ _ h hx.2
    rw [beq_eq_false_iff_ne] at this
    exact absurd c this
theorem ordB_one {l : List Promo} (hC : promosC l = true) {codes : List Str} {o : List Int} (h1 : o.Perm (places l codes l.length)) (h2 : o.Pairwise (PrOrd l)) : o = ordB l codes := by
  refine (h1.trans (ordB_perm l codes).symm).eq_of_pairwise (le := PrOrd l) (fun a b ha hb h3 h4 => ?_) h2 (ordB_ord l codes)
  exact prOrd_anti (promosOk hC) (places_lt (h1.mem_iff.1 ha)) (places_lt ((ordB_perm l codes).mem_iff.1 hb)) h3 h4
theorem resO_one {l : List Promo} (hC : promosC l = true) {codes : List Str} {o : List Int} (ho : OrdP l codes o) : resO l o = ordB l codes := by
  refine ordB_one hC ((resO_perm l o).trans ho.1) ?_
  refine List.Pairwise.map _ (fun a b h => h) (R := fun a b : QE => PrOrd l (gI o a.2.toNat) (gI o b.2.toNat)) ?_
  refine (ranked_sorted l o).imp_of_mem fun {a b} ha hb h => ?_
  have h1 := ranked_mem ha
  have h2 := ranked_mem hb
  obtain ⟨i, hi, rfl⟩ := List.mem_map.1 ((ranked_perm l o).mem_iff.1 ha)
  obtain ⟨j, hj, rfl⟩ := List.mem_map.1 ((ranked_perm l o).mem_iff.1 hb)
  rw [prior_no] at h
  simp only [rankE, Int.toNat_natCast] at h h1 h2 ⊢
  unfold PrOrd
  rw [← Bool.not_eq_true, aheadB_iff]
  rintro (h3 | ⟨h3, h4⟩)
  · exact h (.inl h3)
  · rcases Nat.lt_trichotomy i j with e | e | e
    · have := ho.2 i j (Nat.zero_le _) e h2.2
      unfold idLt at this
      rw [this] at h4; cases h4
    · subst e; rw [slt_irrefl] at h4; cases h4
    · exact h (.inr ⟨h3, by omega⟩)
end Go.Proofs.YtnekegdhpjplbaaGreat
namespace Go.Proofs.YtnekegdhpjplbaaGreat
open Go Go.Ab
theorem playPromoK_sm (p : Promo) (id K : Int) : PromoSm (playPromoK p id K) := by
  have hs := (playScope_ok p.scope).2
  have hp := playParts_ok p.parts
  have ht5 := (playTiers_ok p.tiers 5000 (.inl rfl)).2
  have ht6 := (playTiers_ok p.tiers 5 (.inr rfl)).2
  refine ⟨?_, ?_, ?_, ?_, ?_, ?_, ?_⟩
  · have := nameB_size (id_nameB id); show (idN id).size ≤ _; omega
  · have := (group_named p).2; show (playGroup p).size ≤ _; omega
  · have := (code_named p).2; show (playCode p).size ≤ _; omega
  · show ScopeSm (if K = 4 ∨ K = 7 then ⟨[], []⟩ else playScope p.scope)
    split
    · exact empty_ok.2
    · exact hs
  · show (if K = 4 then playParts p.parts else []).length ≤ _
    split
    · omega
    · exact Nat.zero_le _
  · show ∀ x ∈ (if K = 4 then playParts p.parts else []), _
    split
    · exact fun x hx => (hp.2 x hx).2
    · exact fun x hx => absurd hx List.not_mem_nil
  · show (if K = 5 then playTiers p.tiers 5000 else if K = 6 then playTiers p.tiers 5 else []).length ≤ _
    split
    · omega
    · split
      · omega
      · exact Nat.zero_le _
theorem playZone_sm (l : List Zone) (k : Nat) (hk : k < 3) : ZoneSm (playZone l k) := by
  have hn := List.all_eq_true.1 zone_names k (List.mem_range.2 hk)
  have hz := nameB_size hn
  unfold playZone
  split
  · obtain ⟨h1, h2, h3⟩ := playRates_ok (l.getD k default).rates
    generalize playRates (l.getD k default).rates = R at h1 h2 h3 ⊢
    exact ⟨by show R.length ≤ _; omega, by show (zoneN k).size ≤ _; omega, fun x hx => by have := (h2 x hx).2; show x.cat.size ≤ _; omega⟩
  · exact ⟨by show 0 ≤ _; decide, by show (zoneN k).size ≤ _; omega, fun x hx => absurd hx List.not_mem_nil⟩
theorem playTax_sm (t : Tax) : TaxSm (playTax t) := by
  refine ⟨by show ((List.range 3).map _).length ≤ _; rw [List.length_map, List.length_range]; decide, fun z hz => ?_⟩
  obtain ⟨k, hk, rfl⟩ := List.mem_map.1 hz
  exact playZone_sm _ k (List.mem_range.1 hk)
theorem playRules_sm (r : Rules) : RulesSm (playRules r) := by
  have h0 := playItems_len r.items
  have h2 := (playKinds_ok r.policy.order).2
  have h3 := (playKinds_ok r.policy.credit).2
  refine ⟨by show (playItems r.items).length ≤ _; omega, fun x hx => ?_, fun p hp => ?_, playTax_sm r.tax, by show (playKinds r.policy.order).length ≤ _; omega, by show (playKinds r.policy.credit).length ≤ _; omega⟩
  · have := playItems_mem hx
    exact ⟨by have := this.2.1; show x.sku.size ≤ _; omega, by have := this.2.2; show x.cat.size ≤ _; omega⟩
  · obtain ⟨q, id, K, _, rfl⟩ := playPromos_mem hp
    exact playPromoK_sm q id K
end Go.Proofs.YtnekegdhpjplbaaGreat
namespace Go.Proofs.YtnekegdhpjplbaaGreat
open Go Go.Ab
attribute [local irreducible] upd del
theorem ROut.own {R : St → St → Prop} {ty e n : Nat} {fo : Nat → AV} {s t : St} {sv : AV} (h : ROut R ty e fo (n + 1) s sv t) : ∃ b, sv = .own e b 0 (n + 1) := by
  obtain ⟨s0, ⟨h1, _⟩ | ⟨_, b, _, _, h1, _⟩, h2⟩ := h
  · cases h1
  · exact ⟨b, h1⟩
theorem RD.wr {dl : List Deal} {gr : List Str} {dv gv : AV} {s t : St} {b : Nat} {y y' : Blk} (h : RD dl gr dv gv s t) (hb : s b = some y) : RD dl gr dv gv (upd s b y') (upd t b y') := (besideD dl gr dv gv).write h hb
theorem RD.sup {dl : List Deal} {gr : List Str} {dv gv : AV} {s t : St} (h : RD dl gr dv gv s t) : Sup s t := (besideD dl gr dv gv).sup h
theorem RD.start (s : St) : RD [] [] .emp .emp s s := ROut.start (ROut.start (Sup.refl s) _ _ _) _ _ _
theorem RD.deals {dl : List Deal} {gr : List Str} {dv gv : AV} {s t : St} (h : RD dl gr dv gv s t) : (dl = [] ∧ dv = .emp) ∨ ∃ bd g, dv = .own 2 bd 0 dl.length ∧ s bd = none ∧ t bd = some ⟨61, 2, dl.length, g⟩ ∧ ∀ k, k < dl.length → g k = fDeals dl k := by
  obtain ⟨s0, hc, hg0⟩ := h
  rcases hc with ⟨h0, h1, rfl⟩ | ⟨h0, b, g0, hb, h1, rfl, hgg⟩
  · exact .inl ⟨List.eq_nil_of_length_eq_zero h0, h1⟩
  · exact .inr ⟨b, g0, h1, hb, (besideG _ _).sup hg0 b _ (upd_same ..), hgg⟩
theorem RD.groups {dl : List Deal} {gr : List Str} {dv gv : AV} {s t : St} (h : RD dl gr dv gv s t) : (gv = .emp ∧ gr = []) ∨ ∃ b g, gv = .own 1 b 0 gr.length ∧ t b = some ⟨9, 1, gr.length, g⟩ ∧ ∀ k, k < gr.length → g k = eS (gr.getD k default) := by
  obtain ⟨s0, hc, s1, hc2, hs⟩ := h
  rcases hc2 with ⟨h0, h1, rfl⟩ | ⟨h0, b, g0, hb, h1, rfl, hgg⟩
  · exact .inl ⟨h1, List.eq_nil_of_length_eq_zero h0⟩
  · exact .inr ⟨b, g0, h1, hs b _ (upd_same ..), hgg⟩
def named (l : List Str) : List Str := l.filter fun g => !isNil g
end Go.Proofs.YtnekegdhpjplbaaGreat
