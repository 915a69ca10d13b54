/- Part 18 of the proof: contracts of the functions that the law reaches -/
import Derived.Test.YtfajkgonocpddaaGreatQn17
set_option maxRecDepth 100000
set_option linter.unusedVariables false
set_option linter.unusedSimpArgs false
namespace Go.Proofs.YtfajkgonocpddaaGreat
open Go Go.Ab
attribute [local irreducible] upd del
abbrev gI (l : List Int) (k : Nat) : Int := l.getD k default
def swI (l : List Int) (i j : Nat) : List Int := (l.set i (gI l j)).set j (gI l i)
theorem swI_len (l : List Int) (i j : Nat) : (swI l i j).length = l.length := by simp [swI]
theorem swI_at {l : List Int} {i j : Nat} (hi : i < l.length) (hj : j < l.length) (k : Nat) : gI (swI l i j) k = if k = j then gI l i else if k = i then gI l j else gI l k := by
  unfold swI gI
  simp only [List.getD_eq_getElem?_getD, List.getElem?_set, List.length_set]
  by_cases h1 : k = j
  · subst h1; simp [hj]
  · rw [if_neg (fun e => h1 e.symm), if_neg h1]
    by_cases h2 : k = i
    · subst h2; simp [hi]
    · rw [if_neg (fun e => h2 e.symm), if_neg h2]
theorem swI_perm {l : List Int} {i j : Nat} (hi : i < l.length) (hj : j < l.length) : (swI l i j).Perm l := by
  have e1 : gI l j = l[j] := by simp [gI, hj]
  have e2 : gI l i = l[i] := by simp [gI, hi]
  unfold swI
  rw [e1, e2]
  exact List.set_set_perm hi hj
def HasI (st : St) (b : Nat) (l : List Int) : Prop := ∃ f, st b = some ⟨3, 1, l.length, f⟩ ∧ ∀ k, k < l.length → f k = eI (gI l k)
structure Ord (lt : Int → Int → Bool) : Prop where
  asymm : ∀ x y, lt x y = true → lt y x = false
  le : ∀ x y z, lt y x = false → lt z y = false → lt z x = false
def Srt (lt : Int → Int → Bool) (l : List Int) (a e : Nat) : Prop := ∀ x y, a ≤ x → x < y → y < e → lt (gI l y) (gI l x) = false
structure Ins (lt : Int → Int → Bool) (l : List Int) (a e j : Nat) : Prop where
  rest : ∀ x y, a ≤ x → x < y → y < e → x ≠ j → y ≠ j → lt (gI l y) (gI l x) = false
  up : ∀ y, j < y → y < e → lt (gI l y) (gI l j) = false
theorem Srt.ins {lt : Int → Int → Bool} {l : List Int} {a i : Nat} (h : Srt lt l a i) : Ins lt l a (i + 1) i :=
  ⟨fun x y hx hxy hy h1 h2 => h x y hx hxy (by omega), fun y h1 h2 => by omega⟩
theorem Ins.done {lt : Int → Int → Bool} (ho : Ord lt) {l : List Int} {a e j : Nat} (h : Ins lt l a e j) (hj : j ≤ a ∨ lt (gI l j) (gI l (j - 1)) = false) : Srt lt l a e := fun x y hx hxy hy => by
  by_cases h1 : x = j
  · subst h1; exact h.up y hxy hy
  · by_cases h2 : y = j
    · subst h2
      rcases hj with hj | hj
      · omega
      · by_cases h3 : x = y - 1
        · subst h3; exact hj
        · exact ho.le _ _ _ (h.rest x (y - 1) hx (by omega) (by omega) h1 (by omega)) hj
    · exact h.rest x y hx hxy hy h1 h2
theorem Ins.step {lt : Int → Int → Bool} (ho : Ord lt) {l : List Int} {a e j : Nat} (h : Ins lt l a e j) (hj : a < j) (hje : j < e) (he : e ≤ l.length) (hlt : lt (gI l j) (gI l (j - 1)) = true) : Ins lt (swI l j (j - 1)) a e (j - 1) := by
  have sw := swI_at (l := l) (i := j) (j := j - 1) (by omega) (by omega)
  refine ⟨fun x y hx hxy hy h1 h2 => ?_, fun y h1 h2 => ?_⟩
  · rw [sw x, sw y, if_neg h1, if_neg h2]
    by_cases hxj : x = j
    · rw [if_pos hxj, if_neg (by omega)]
      exact h.rest (j - 1) y (by omega) (by omega) hy (by omega) (by omega)
    · rw [if_neg hxj]
      by_cases hyj : y = j
      · rw [if_pos hyj]
        exact h.rest x (j - 1) hx (by omega) (by omega) hxj (by omega)
      · rw [if_neg hyj]; exact h.rest x y hx hxy hy hxj hyj
  · rw [sw y, sw (j - 1), if_neg (by omega), if_pos rfl]
    by_cases hyj : y = j
    · rw [if_pos hyj]; exact ho.asymm _ _ hlt
    · rw [if_neg hyj]; exact h.up y (by omega) h2
theorem isort_S (b : Nat) (l : List Int) (n a e : Nat) (g : FuncId) (cs : List AV) (cf : Int → Int → Int) (lt : Int → Int → Bool) (hlt : ∀ x y, decide (cf x y < 0) = lt x y) (ho : Ord lt) (st : St) (hb : HasI st b l) (hae : a ≤ e) (he : e ≤ n) (hn : n ≤ l.length) (hl : l.length < 4611686018427387904)
    (hg : ∀ x ∈ l, ∀ y ∈ l, ∀ st', S P g (eI x :: eI y :: cs) st' fun v s => v = eI (cf x y) ∧ s = st') :
    S P 225 [.own 1 b 0 n, eI a, eI e, .fn (.func g) [] cs] st fun v st' => v = .tuple [] ∧ ∃ l', l'.Perm l ∧ Srt lt l' a e ∧ (∀ k, k < a ∨ e ≤ k → gI l' k = gI l k) ∧ HasI st' b l' ∧ ∀ c, c ≠ b → st' c = st c := by
  refine S_of_X [] good mixed Tryz.func225 (by rfl) rfl rfl rfl ?_; conv => whnf
  refine ⟨[0, 1, 2, 3, 8], fun m vs st' => ∃ (i : Nat) (l' : List Int), a < i ∧ (i ≤ e ∨ i = a + 1) ∧ l'.Perm l ∧ Srt lt l' a i ∧ (∀ k, k < a ∨ e ≤ k → gI l' k = gI l k) ∧ HasI st' b l' ∧ (∀ c, c ≠ b → st' c = st c) ∧ m = e - i ∧ vs = [.own 1 b 0 n, eI a, eI e, .fn (.func g) [] cs, eI i], ?_, ?_⟩
  · conv => whnf
    exact ⟨_, a + 1, l, by omega, .inr rfl, List.Perm.refl _, fun x y h1 h2 h3 => by omega, fun _ _ => rfl, hb, fun _ _ => rfl, rfl, by rw [wrapN (by omega)]⟩
  · rintro m vs st' ⟨i, l', hai, hie, hp, hs, hout, hb', hfr, rfl, rfl⟩
    have hlen : l'.length = l.length := hp.length_eq
    conv => whnf
    cases h : decide ((i : Int) < (e : Int))
    · have := of_decide_eq_false h
      conv => whnf
      refine ⟨rfl, l', hp, fun x y h1 h2 h3 => hs x y h1 h2 (by omega), hout, hb', hfr⟩
    · have hi : i < e := by have := of_decide_eq_true h; omega
      conv => whnf
      refine ⟨[0, 1, 2, 3, 8, 9], fun m vs st'' => ∃ (j : Nat) (l'' : List Int), a ≤ j ∧ j ≤ i ∧ l''.Perm l ∧ Ins lt l'' a (i + 1) j ∧ (∀ k, k < a ∨ e ≤ k → gI l'' k = gI l k) ∧ HasI st'' b l'' ∧ (∀ c, c ≠ b → st'' c = st c) ∧ m = j ∧ vs = [.own 1 b 0 n, eI a, eI e, .fn (.func g) [] cs, eI i, eI j], ?_, ?_⟩
      · conv => whnf
        exact ⟨_, i, l', by omega, Nat.le_refl _, hp, hs.ins, hout, hb', hfr, rfl, rfl⟩
      · clear hp hs hout hb' hfr hlen
        rintro j vs st'' ⟨_, l'', haj, hji, hp, hs, hout, ⟨f, hst, hf⟩, hfr, rfl, rfl⟩
        have hlen : l''.length = l.length := hp.length_eq
        have next : Srt lt l'' a (i + 1) → ∃ m', m' < e - i ∧ ∃ (i_1 : Nat) (l' : List Int), a < i_1 ∧ (i_1 ≤ e ∨ i_1 = a + 1) ∧ l'.Perm l ∧ Srt lt l' a i_1 ∧ (∀ k, k < a ∨ e ≤ k → gI l' k = gI l k) ∧ HasI st'' b l' ∧ (∀ c, c ≠ b → st'' c = st c) ∧ m' = e - i_1 ∧ [AV.own 1 b 0 n, eI a, eI e, .fn (.func g) [] cs, eI (IntKind.i64.wrap ((i : Int) + 1))] = [.own 1 b 0 n, eI a, eI e, .fn (.func g) [] cs, eI i_1] :=
          fun hsrt => ⟨e - (i + 1), by omega, i + 1, l'', by omega, .inl (by omega), hp, hsrt, hout, ⟨f, hst, hf⟩, hfr, rfl, by rw [wrapN (by omega)]⟩
        conv => whnf
        refine ⟨[], [], [0, 1, 2, 3, 4, 5, 6, 7, 8, 9, 10, 11, 12, 13, 14, 15, 16], by kernel_rfl, ?_⟩; conv => whnf
        refine fork (fun h1 => ?_) (fun h1 => ?_) <;> rw [h1] <;> simp only [decide_eq_true_eq, decide_eq_false_iff_not] at h1
        · have w : IntKind.i64.wrap ((j : Int) - 1) = ((j - 1 : Nat) : Int) := by rw [wrap64_of (by omega) (by omega)]; omega
          have fj : f (0 + (j : Int).toNat) = eI (gI l'' j) := by rw [show 0 + (j : Int).toNat = j by omega]; exact hf j (by omega)
          have fj1 : f (0 + ((j - 1 : Nat) : Int).toNat) = eI (gI l'' (j - 1)) := by rw [show 0 + ((j - 1 : Nat) : Int).toNat = j - 1 by omega]; exact hf (j - 1) (by omega)
          conv => whnf
          refine ⟨rfl, ⟨by omega, by omega⟩, ?_⟩; conv => whnf
          refine ldV hst rfl (by omega) fj ?_; conv => whnf
          rw [w]
          refine ⟨rfl, ⟨by omega, by omega⟩, ?_⟩; conv => whnf
          refine ldV hst rfl (by omega) fj1 ?_; conv => whnf
          refine ⟨_, callQ (hg (gI l'' j) (hp.subset (getD_mem (by omega))) (gI l'' (j - 1)) (hp.subset (getD_mem (by omega))) _), ?_⟩; conv => whnf
          rw [hlt]
          refine fork (fun h2 => ?_) (fun h2 => ?_) <;> rw [h2]
          · have hfj1 : fset f (0 + (j : Int).toNat) (setCells (eI (gI l'' j)) 0 (cellsOf (eI (gI l'' (j - 1))))) (0 + ((j - 1 : Nat) : Int).toNat) = eI (gI l'' (j - 1)) := (fset_ne (by omega)).trans fj1
            conv => whnf
            refine ⟨[15, 17], [], [0, 1, 2, 3, 4, 5, 6, 7, 8, 9, 10, 11, 12, 13, 14, 15, 16, 17], by kernel_rfl, ?_⟩; conv => whnf
            rw [w]
            refine ⟨rfl, ⟨by omega, by omega⟩, ?_⟩; conv => whnf
            refine ldV hst rfl (by omega) fj1 ?_; conv => whnf
            refine ⟨rfl, ⟨by omega, by omega⟩, ?_⟩; conv => whnf
            refine ldV hst rfl (by omega) fj ?_; conv => whnf
            refine ⟨rfl, ⟨by omega, by omega⟩, ?_⟩; conv => whnf
            refine stV hst rfl (by omega) fj (by rfl) ?_; conv => whnf
            refine ⟨rfl, ⟨by omega, by omega⟩, ?_⟩; conv => whnf
            refine stV (upd_same ..) rfl (by omega) hfj1 (by rfl) ?_; conv => whnf
            refine ⟨rfl, ?_⟩; conv => whnf
            have hjl : j < l''.length := by omega
            refine ⟨j - 1, by omega, j - 1, swI l'' j (j - 1), by omega, by omega, (swI_perm hjl (by omega)).trans hp, hs.step ho (by omega) (by omega) (by omega) h2, fun k hk => ?_, ⟨_, by rw [upd_same, swI_len], fun k hk => ?_⟩, fun c hc => by rw [upd_ne hc, upd_ne hc]; exact hfr c hc, rfl, by rw [w]⟩
            · rw [swI_at hjl (by omega), if_neg (by omega), if_neg (by omega)]; exact hout k hk
            · rw [swI_len] at hk
              rw [swI_at hjl (by omega)]
              by_cases e1 : k = j - 1
              · subst e1
                rw [if_pos rfl, show 0 + ((j - 1 : Nat) : Int).toNat = j - 1 by omega, fset_same]; rfl
              · rw [if_neg e1, fset_ne (by omega)]
                by_cases e2 : k = j
                · subst e2
                  rw [if_pos rfl, show 0 + (k : Int).toNat = k by omega, fset_same]; rfl
                · rw [if_neg e2, fset_ne (by omega)]; exact hf k hk
          · conv => whnf
            refine ⟨rfl, ?_⟩; conv => whnf
            exact next (hs.done ho (.inr h2))
        · conv => whnf
          refine ⟨rfl, ?_⟩; conv => whnf
          exact next (hs.done ho (.inl (by omega)))
theorem Srt.congr {lt : Int → Int → Bool} {l l' : List Int} {a e : Nat} (h : Srt lt l a e) (hk : ∀ k, a ≤ k → k < e → gI l' k = gI l k) : Srt lt l' a e := fun x y h1 h2 h3 => by
  rw [hk x h1 (by omega), hk y (by omega) h3]; exact h x y h1 h2 h3
theorem stable_S (b : Nat) (l : List Int) (g : FuncId) (cs : List AV) (cf : Int → Int → Int) (lt : Int → Int → Bool) (hlt : ∀ x y, decide (cf x y < 0) = lt x y) (ho : Ord lt) (st : St) (hb : HasI st b l) (hl : l.length ≤ 20)
    (hg : ∀ x ∈ l, ∀ y ∈ l, ∀ st', S P g (eI x :: eI y :: cs) st' fun v s => v = eI (cf x y) ∧ s = st') :
    S P 190 [.own 1 b 0 l.length, eI l.length, .fn (.func g) [] cs] st fun v st' => v = .tuple [] ∧ ∃ l', l'.Perm l ∧ Srt lt l' 0 l.length ∧ HasI st' b l' ∧ ∀ c, c ≠ b → st' c = st c := by
  refine S_of_X [] good mixed Tryz.func190 (by rfl) rfl rfl rfl ?_; conv => whnf
  refine ⟨[0, 1, 2, 6, 7, 8], fun m vs st' => (m = 1 ∧ st' = st ∧ vs = [.own 1 b 0 l.length, eI l.length, .fn (.func g) [] cs, eI 20, eI 0, eI 20]) ∨
    (m = 0 ∧ l.length = 20 ∧ (∃ l', l'.Perm l ∧ Srt lt l' 0 l.length ∧ HasI st' b l' ∧ ∀ c, c ≠ b → st' c = st c) ∧ vs = [.own 1 b 0 l.length, eI l.length, .fn (.func g) [] cs, eI 20, eI 20, eI 40]), ?_, ?_⟩
  · conv => whnf
    exact ⟨1, .inl ⟨rfl, rfl, rfl⟩⟩
  · rintro m vs st' (⟨rfl, rfl, rfl⟩ | ⟨rfl, h20, ⟨l', hp, hs, hb', hfr⟩, rfl⟩)
    · conv => whnf
      refine fork (fun h1 => ?_) (fun h1 => ?_) <;> rw [h1] <;> simp only [decide_eq_true_eq, decide_eq_false_iff_not] at h1
      · have h20 : l.length = 20 := by omega
        conv => whnf
        refine call (isort_S b l l.length 0 20 g cs cf lt hlt ho _ hb (by omega) (by omega) (by omega) (by omega) hg) (fun v st1 hv => ?_)
        obtain ⟨rfl, l', hp, hs, hout, hb', hfr⟩ := hv
        conv => whnf
        refine ⟨rfl, ?_⟩; conv => whnf
        exact ⟨0, by omega, .inr ⟨rfl, h20, ⟨l', hp, by rw [h20]; exact hs, hb', hfr⟩, rfl⟩⟩
      · conv => whnf
        refine call (isort_S b l l.length 0 l.length g cs cf lt hlt ho _ hb (by omega) (by omega) (by omega) (by omega) hg) (fun v st1 hv => ?_)
        obtain ⟨rfl, l', hp, hs, hout, hb', hfr⟩ := hv
        conv => whnf
        refine once [0, 1, 2, 6] ?_; conv => whnf
        intro I
        refine fork (fun h2 => ?_) (fun h2 => ?_) <;> rw [h2] <;> simp only [decide_eq_true_eq, decide_eq_false_iff_not] at h2
        · exact absurd h2 (by omega)
        · conv => whnf
          exact ⟨rfl, l', hp, hs, hb', hfr⟩
    · have hlen : l'.length = l.length := hp.length_eq
      conv => whnf
      refine fork (fun h1 => ?_) (fun h1 => ?_) <;> rw [h1] <;> simp only [decide_eq_true_eq, decide_eq_false_iff_not] at h1
      · exact absurd h1 (by omega)
      · conv => whnf
        refine call (isort_S b l' l.length 20 l.length g cs cf lt hlt ho _ hb' (by omega) (by omega) (by omega) (by omega) (fun x hx y hy => hg x (hp.subset hx) y (hp.subset hy))) (fun v st1 hv => ?_)
        obtain ⟨rfl, l2, hp2, hs2, hout, hb2, hfr2⟩ := hv
        conv => whnf
        refine once [0, 1, 2, 6] ?_; conv => whnf
        intro I
        refine fork (fun h2 => ?_) (fun h2 => ?_) <;> rw [h2] <;> simp only [decide_eq_true_eq, decide_eq_false_iff_not] at h2
        · exact absurd h2 (by omega)
        · conv => whnf
          exact ⟨rfl, l2, hp2.trans hp, hs.congr (fun k _ hk => hout k (by omega)), hb2, fun c hc => (hfr2 c hc).trans (hfr c hc)⟩
theorem sortStable_S (b : Nat) (l : List Int) (g : FuncId) (cs : List AV) (cf : Int → Int → Int) (lt : Int → Int → Bool) (hlt : ∀ x y, decide (cf x y < 0) = lt x y) (ho : Ord lt) (st : St) (hb : HasI st b l) (hl : l.length ≤ 20)
    (hg : ∀ x ∈ l, ∀ y ∈ l, ∀ st', S P g (eI x :: eI y :: cs) st' fun v s => v = eI (cf x y) ∧ s = st') :
    S P 149 [.own 1 b 0 l.length, .fn (.func g) [] cs] st fun v st' => v = .tuple [] ∧ ∃ l', l'.Perm l ∧ Srt lt l' 0 l.length ∧ HasI st' b l' ∧ ∀ c, c ≠ b → st' c = st c := by
  refine S_of_X [] good mixed Tryz.func149 (by rfl) rfl rfl rfl ?_; conv => whnf
  refine call (stable_S b l g cs cf lt hlt ho st hb hl hg) (fun v st' hv => ?_)
  obtain ⟨rfl, h⟩ := hv
  conv => whnf
  exact ⟨rfl, h⟩
theorem isort0_S (f : AV) (st : St) : S P 225 [.emp, eI 0, eI 0, f] st fun v st' => v = .tuple [] ∧ st' = st := by
  refine S_of_X [] good mixed Tryz.func225 (by rfl) rfl rfl rfl ?_; conv => whnf
  refine once [0, 1, 2, 3, 8] ?_; conv => whnf
  intro I
  exact ⟨rfl, rfl⟩
theorem stable0_S (f : AV) (st : St) : S P 190 [.emp, eI 0, f] st fun v st' => v = .tuple [] ∧ st' = st := by
  refine S_of_X [] good mixed Tryz.func190 (by rfl) rfl rfl rfl ?_; conv => whnf
  refine once [0, 1, 2, 6, 7, 8] ?_; conv => whnf
  intro I
  refine call1 (isort0_S f st) ?_; conv => whnf
  refine once [0, 1, 2, 6] ?_; conv => whnf
  intro I
  exact ⟨rfl, rfl⟩
theorem sortStable0_S (f : AV) (st : St) : S P 149 [.emp, f] st fun v st' => v = .tuple [] ∧ st' = st := by
  refine S_of_X [] good mixed Tryz.func149 (by rfl) rfl rfl rfl ?_; conv => whnf
  refine call1 (stable0_S f st) ?_; conv => whnf
  exact ⟨rfl, rfl⟩
theorem QSt.grow {st0 st : St} {q bo bo' : Nat} {f : Bool} {es : List QE} {y y' : Blk} (h : QSt (upd st0 bo y) q f es st) (h0 : st0 bo = none) (hb : bo' = bo ∨ st bo' = none) : st0 bo' = none ∧ QSt (upd st0 bo' y') q f es (upd (del st bo) bo' y') := by
  obtain ⟨h1, h2, sv, ⟨fq, hqs, hq0⟩, h3⟩ := h
  have hqo : q ≠ bo := fun e => by subst e; rw [upd_same] at h1; cases h1
  have hq1 : st0 q = none := by rw [upd_ne hqo] at h1; exact h1
  have hqb : q ≠ bo' := fun e => by
    subst e
    rcases hb with e | e
    · exact hqo e
    · rw [hqs] at e; cases e
  have hsub : ∀ c x, st0 c = some x → c ≠ bo ∧ st c = some x := fun c x hc => by
    have hne : c ≠ bo := fun e => by subst e; rw [h0] at hc; cases hc
    exact ⟨hne, h2 c x (by rw [upd_ne hne]; exact hc)⟩
  have hbo' : st0 bo' = none := by
    rcases hb with e | e
    · rw [e]; exact h0
    · cases hx : st0 bo' with
      | none => rfl
      | some x => rw [(hsub _ _ hx).2] at e; cases e
  refine ⟨hbo', by rw [upd_ne hqb]; exact hq1, fun c x hc => ?_, sv, ⟨fq, by rw [upd_ne hqb]; unfold del; rw [if_neg hqo]; exact hqs, hq0⟩, ?_⟩
  · by_cases hcb : c = bo'
    · subst hcb; rw [upd_same] at hc ⊢; exact hc
    · rw [upd_ne hcb] at hc ⊢
      obtain ⟨a, b⟩ := hsub c x hc
      unfold del; rw [if_neg a]; exact b
  · rcases h3 with h3 | ⟨b, l, n, a1, a2, a3, a4, a5, a6, ⟨fe, hes, hef⟩, a8, a9⟩
    · exact .inl h3
    · have hbo : b ≠ bo := fun e => by subst e; rw [upd_same] at a2; cases a2
      have hb0 : st0 b = none := by rw [upd_ne hbo] at a2; exact a2
      have hbb : b ≠ bo' := fun e => by
        subst e
        rcases hb with e | e
        · exact hbo e
        · rw [hes] at e; cases e
      exact .inr ⟨b, l, n, a1, by rw [upd_ne hbb]; exact hb0, a3, a4, a5, a6, ⟨fe, by rw [upd_ne hbb]; unfold del; rw [if_neg hbo]; exact hes, hef⟩, a8, a9⟩
theorem QSt.begin {st0 st : St} {q bo : Nat} {f : Bool} {es : List QE} {y : Blk} (h : QSt st0 q f es st) (hb : st bo = none) : st0 bo = none ∧ QSt (upd st0 bo y) q f es (upd st bo y) := by
  obtain ⟨h1, h2, sv, ⟨fq, hqs, hq0⟩, h3⟩ := h
  have hqb : q ≠ bo := fun e => by subst e; rw [hqs] at hb; cases hb
  refine ⟨h2.none hb, by rw [upd_ne hqb]; exact h1, fun c x hc => ?_, sv, ⟨fq, by rw [upd_ne hqb]; exact hqs, hq0⟩, ?_⟩
  · by_cases hcb : c = bo
    · subst hcb; rw [upd_same] at hc ⊢; exact hc
    · rw [upd_ne hcb] at hc ⊢; exact h2 c x hc
  · rcases h3 with h3 | ⟨b, l, n, a1, a2, a3, a4, a5, a6, ⟨fe, hes, hef⟩, a8, a9⟩
    · exact .inl h3
    · have hbb : b ≠ bo := fun e => by subst e; rw [hes] at hb; cases hb
      exact .inr ⟨b, l, n, a1, by rw [upd_ne hbb]; exact a2, a3, a4, a5, a6, ⟨fe, by rw [upd_ne hbb]; exact hes, hef⟩, a8, a9⟩
def QOut (ty e : Nat) (fo : Nat → AV) (n : Nat) (st1 : St) (q : Nat) (f : Bool) (es : List QE) (sv : AV) (st' : St) : Prop :=
  (n = 0 ∧ sv = .emp ∧ QSt st1 q f es st') ∨ (0 < n ∧ ∃ bo g, st1 bo = none ∧ sv = .own e bo 0 n ∧ (∀ k, k < n → g k = fo k) ∧ QSt (upd st1 bo ⟨ty, e, n, g⟩) q f es st')
theorem QOut.len_S {ty e : Nat} {fo : Nat → AV} {n : Nat} {st1 : St} {q : Nat} {f : Bool} {es : List QE} {sv : AV} {st' : St} (h : QOut ty e fo n st1 q f es sv st') :
    S P 105 [.optr 1 q 0 0] st' fun v st'' => v = eI es.length ∧ st'' = st' := by
  rcases h with ⟨_, _, h⟩ | ⟨_, bo, g, _, _, _, h⟩
  · exact qlen_S _ _ _ _ _ h
  · exact qlen_S _ _ _ _ _ h
theorem QOut.pop_S {ty e : Nat} {fo : Nat → AV} {n : Nat} {st1 : St} {q : Nat} {f : Bool} {x : QE} {es : List QE} {sv : AV} {st' : St} (h : QOut ty e fo n st1 q f (x :: es) sv st') (htop : ∀ y ∈ es, prior y x = false) :
    S P 106 [.optr 1 q 0 0] st' fun v st'' => v = .tuple [eI x.1, eI x.2, .bool true] ∧ QOut ty e fo n st1 q false es sv st'' := by
  rcases h with ⟨h1, h2, h⟩ | ⟨h0, bo, g, h1, h2, h3, h⟩
  · exact (qpop_S _ _ _ _ _ _ h htop).mono fun v s hv => ⟨hv.1, .inl ⟨h1, h2, hv.2⟩⟩
  · exact (qpop_S _ _ _ _ _ _ h htop).mono fun v s hv => ⟨hv.1, .inr ⟨h0, bo, g, h1, h2, h3, hv.2⟩⟩
theorem QOut.app {T : Tab} {t : TypeId} {x sv : AV} {st1 st' : St} {k : KK} {r q : TRow} {el n qq : Nat} {fl : Bool} {es : List QE} {f g : Nat → AV} (hr : T t = some r) (hd : r.desc = .slice el) (hq : T el = some q)
    (hz : (Nat.blt 0 q.size && Nat.blt 0 q.bytes && Nat.beq q.zero.cells.size q.size) = true) (hs : srcOf q.size st' x = some (1, g)) (hg : g 0 = f n) (hb : (n + 1) * q.bytes ≤ 140737488355328)
    (hc : QOut el q.size f n st1 qq fl es sv st') (hk : ∀ sv' st'', QOut el q.size f (n + 1) st1 qq fl es sv' st'' → k sv' st'') : xApp T t sv x st' k := by
  rcases hc with ⟨rfl, rfl, h⟩ | ⟨h0, bo, y, h1, rfl, h4, h⟩
  · refine apE hr hd hq hz hs (by omega) (fun h => by omega) (fun _ b hb => ?_)
    obtain ⟨hb0, hn⟩ := h.begin (y := ⟨el, q.size, 1, g⟩) hb
    have e0 : ∀ k, k < 0 + 1 → g k = f k := fun k hk => by
      have : k = 0 := by omega
      rw [this]; exact hg
    exact hk _ _ (.inr ⟨by omega, b, g, hb0, rfl, e0, hn⟩)
  · have hby : st' bo = some ⟨el, q.size, n, y⟩ := h.sup bo _ (upd_same ..)
    refine apO hr hd hq hz hs hby rfl rfl rfl hb (fun h => by omega) (fun _ b' hb' => ?_)
    obtain ⟨hb0, hn⟩ := h.grow (y' := ⟨el, q.size, n + 1, fun i => if i < n then y i else g (i - n)⟩) h1 hb'
    refine hk _ _ (.inr ⟨by omega, b', _, hb0, rfl, fun k hk => ?_, hn⟩)
    by_cases hkn : k < n
    · simp only [hkn, if_true]; exact h4 k hkn
    · have : k = n := by omega
      subst this
      simp only [hkn, if_false, Nat.sub_self]; exact hg
theorem QOut.shift {ty e : Nat} {fo : Nat → AV} {n : Nat} {st1 : St} {q : Nat} {f : Bool} {es : List QE} {sv : AV} {st' : St} (h : QOut ty e fo n st1 q f es sv st') : Shift [sv] st' [.arr e n fo] st1 := by
  rcases h with ⟨rfl, rfl, h⟩ | ⟨h0, bo, g, h1, rfl, h3, h⟩
  · exact (h.sup.shift [.emp]).trans (shift_emp e fo)
  · have h2 := shift_own (st := upd st1 bo ⟨ty, e, n, g⟩) (e := e) (b := bo) (n := n) (f := fo) (upd_same ..) rfl (Nat.le_refl _) h3
    rw [del_upd h1] at h2
    exact (h.sup.shift [.own e bo 0 n]).trans h2
def asked (codes : List Str) (p : Promo) : Bool := isNil p.code || codes.any fun c => p.code.toList == c.toList
abbrev prAt (l : List Promo) (x : Int) : Promo := l.getD x.toNat default
def places (l : List Promo) (codes : List Str) (i : Nat) : List Int := ((List.range i).filter fun k => asked codes (l.getD k default)).map Int.ofNat
theorem places_succ (l : List Promo) (codes : List Str) (i : Nat) : places l codes (i + 1) = places l codes i ++ (if asked codes (l.getD i default) = true then [(i : Int)] else []) := by
  unfold places
  rw [List.range_succ, List.filter_append, List.map_append]
  congr 1
  by_cases h : asked codes (l.getD i default) = true
  · rw [if_pos h, List.filter_cons_of_pos (p := fun k => asked codes (l.getD k default)) h]; rfl
  · rw [if_neg h, List.filter_cons_of_neg (p := fun k => asked codes (l.getD k default)) h]; rfl
theorem places_lt {l : List Promo} {codes : List Str} {i : Nat} {x : Int} (h : x ∈ places l codes i) : 0 ≤ x ∧ x.toNat < i := by
  unfold places at h
  obtain ⟨k, hk, rfl⟩ := List.mem_map.1 h
  have := List.mem_range.1 (List.mem_filter.1 hk).1
  show 0 ≤ (k : Int) ∧ (k : Int).toNat < i
  omega
theorem places_len (l : List Promo) (codes : List Str) (i : Nat) : (places l codes i).length ≤ i := by
  unfold places
  rw [List.length_map]
  exact Nat.le_trans (List.length_filter_le ..) (by simp)
def idLt (l : List Promo) (x y : Int) : Bool := slt (prAt l x).id (prAt l y).id
theorem idOrd (l : List Promo) : Ord (idLt l) := ⟨fun x y h => slt_asymm h, fun x y z h1 h2 => sle_trans h1 h2⟩
theorem byId_S (l : List Promo) (x y : Int) (hx : 0 ≤ x ∧ x.toNat < l.length) (hy : 0 ≤ y ∧ y.toNat < l.length) (st : St) :
    S P 150 [eI x, eI y, .fptr (arrOf 15 ePromo l) 0] st fun v st' => v = eI (cmpS (prAt l x).id (prAt l y).id) ∧ st' = st := by
  refine S_of_X [] good mixed Tryz.func150 (by rfl) rfl rfl rfl ?_; conv => whnf
  refine ⟨[], [], [0, 1, 2, 3, 4, 5, 6, 7, 8, 9, 10, 11], by kernel_rfl, ?_⟩; conv => whnf
  refine ⟨rfl, ⟨by omega, by omega⟩, ?_⟩; conv => whnf
  refine ⟨rfl, ⟨by omega, by omega⟩, ?_⟩; conv => whnf
  refine ⟨_, callQ (cmp_S (prAt l x).id (prAt l y).id _), ?_⟩; conv => whnf
  exact ⟨rfl, rfl⟩
theorem gI_append {a b : List Int} {k : Nat} (h : k < a.length) : gI (a ++ b) k = gI a k := by
  unfold gI; rw [List.getD_eq_getElem?_getD, List.getD_eq_getElem?_getD, List.getElem?_append_left h]
theorem gI_last (a : List Int) (x : Int) : gI (a ++ [x]) a.length = x := by
  unfold gI; simp [List.getD_eq_getElem?_getD]
def OrdP (l : List Promo) (codes : List Str) (o : List Int) : Prop := o.Perm (places l codes l.length) ∧ Srt (idLt l) o 0 o.length
def rankE (l : List Promo) (o : List Int) (k : Nat) : QE := ((prAt l (gI o k)).prio, (k : Int))
def ranked (l : List Promo) (o : List Int) : List QE := ((List.range o.length).map (rankE l o)).mergeSort fun a b => !prior b a
theorem ranked_perm (l : List Promo) (o : List Int) : (ranked l o).Perm ((List.range o.length).map (rankE l o)) := List.mergeSort_perm ..
theorem ranked_sorted (l : List Promo) (o : List Int) : (ranked l o).Pairwise fun a b => prior b a = false := by
  have := List.pairwise_mergeSort (le := fun a b : QE => !prior b a) (fun a b c h1 h2 => by simp only [Bool.not_eq_true'] at *; exact nah_trans h2 h1) (fun a b => by
    cases h : prior b a with
    | false => rfl
    | true => rw [prior_asymm h]; rfl) ((List.range o.length).map (rankE l o))
  exact this.imp (fun h => by simpa using h)
theorem ranked_mem {l : List Promo} {o : List Int} {e : QE} (h : e ∈ ranked l o) : 0 ≤ e.2 ∧ e.2.toNat < o.length := by
  obtain ⟨k, hk, rfl⟩ := List.mem_map.1 ((ranked_perm l o).subset h)
  have := List.mem_range.1 hk
  simp only [rankE]; omega
theorem ranked_len (l : List Promo) (o : List Int) : (ranked l o).length = o.length := by
  rw [(ranked_perm l o).length_eq]; simp
abbrev resO (l : List Promo) (o : List Int) : List Int := (ranked l o).map fun e => gI o e.2.toNat
theorem QOut.sup {ty e : Nat} {fo : Nat → AV} {n : Nat} {st1 : St} {q : Nat} {f : Bool} {es : List QE} {sv : AV} {st' : St} (h : QOut ty e fo n st1 q f es sv st') : Sup st1 st' := by
  rcases h with ⟨_, _, h⟩ | ⟨_, bo, g, h1, _, _, h⟩
  · exact h.sup
  · exact ((Sup.refl st1).upd h1).trans h.sup
theorem order_S (l : List Promo) (codes : List Str) (hl : l.length ≤ 60) (hc : codes.length ≤ 9223372036854775807) (h20 : (places l codes l.length).length ≤ 20) (st : St) :
    S P 103 [arrOf 15 ePromo l, eStrs codes] st fun v st' => (∃ o : List Int, OrdP l codes o ∧ v = eInts (resO l o)) ∧ st' = st := by
  refine S.post (post := fun v st' => ∃ (o : List Int) (st1 : St) (q : Nat) (fl : Bool), OrdP l codes o ∧ Sup st st1 ∧ QOut 3 1 (fun k => eI (gI (resO l o) k)) (resO l o).length st1 q fl [] v st') ?_
    (fun v st' ⟨o, st1, q, fl, ho, hs, hq⟩ => ⟨eInts (resO l o), st, ⟨⟨o, ho, rfl⟩, rfl⟩, hq.shift.trans (hs.shift _)⟩)
  refine S_of_X [2, 7] good mixed Tryz.func103 (by rfl) rfl rfl rfl ?_; conv => whnf
  refine ⟨[1, 2, 5, 15, 16, 17], fun m vs st' => ∃ (i : Nat) (sv : AV), i ≤ l.length ∧ m = l.length - i ∧ vs = [eStrs codes, .fptr (arrOf 15 ePromo l) 0, sv, arrOf 15 ePromo l, eI l.length, eI i] ∧ Col 3 1 (fun k => eI (gI (places l codes i) k)) st (places l codes i).length sv st', ?_, ?_⟩
  · conv => whnf
    exact ⟨_, 0, .emp, Nat.zero_le _, rfl, rfl, Col.start _ _ _ _⟩
  · rintro m vs st' ⟨i, sv, hi, rfl, rfl, hcol⟩
    conv => whnf
    cases h : decide ((i : Int) < (l.length : Int))
    · have := of_decide_eq_false h
      obtain rfl : i = l.length := by omega
      conv => whnf
      have key : ∀ K : KK, (∀ v st1 o, v = .tuple [] → OrdP l codes o → Sup st st1 → ((o = [] ∧ sv = .emp) ∨ ∃ b, sv = .own 1 b 0 o.length ∧ HasI st1 b o ∧ 0 < o.length) → K v st1) → xCall P 149 [sv, .fn (.func 150) [] [.fptr (arrOf 15 ePromo l) 0]] st' K := fun K hK => by
        rcases hcol with ⟨h0, rfl, rfl⟩ | ⟨h0, b, g, hb, rfl, rfl, hg⟩
        · have hP : places l codes l.length = [] := List.eq_nil_of_length_eq_zero h0
          refine call (sortStable0_S _ _) (fun v st1 hv => ?_)
          obtain ⟨rfl, rfl⟩ := hv
          exact hK _ _ [] rfl ⟨by rw [hP], fun x y _ _ h => by simp at h⟩ (Sup.refl _) (.inl ⟨rfl, rfl⟩)
        · refine call (sortStable_S b (places l codes l.length) _ _ (fun x y => cmpS (prAt l x).id (prAt l y).id) (idLt l) (fun x y => cmpS_neg _ _) (idOrd l) _ ⟨g, upd_same .., hg⟩ h20 (fun x hx y hy s => byId_S l x y (places_lt hx) (places_lt hy) s)) (fun v st1 hv => ?_)
          obtain ⟨rfl, l', hp, hs, hb', hfr⟩ := hv
          have hll : l'.length = (places l codes l.length).length := hp.length_eq
          refine hK _ st1 l' rfl ⟨hp, by rw [hll]; exact hs⟩ (fun c x hc => ?_) (.inr ⟨b, by rw [hll], hb', by omega⟩)
          have hne : c ≠ b := fun e => by subst e; rw [hb] at hc; cases hc
          rw [hfr c hne, upd_ne hne]; exact hc
      refine key _ (fun v st1 o hv ho hsup hsv => ?_)
      subst hv
      clear key hcol
      have hmem : ∀ k, k < o.length → 0 ≤ gI o k ∧ (gI o k).toNat < l.length := fun k hk => places_lt (ho.1.subset (getD_mem hk))
      conv => whnf
      refine call (qnew_S st1) (fun v st2 hv => ?_)
      obtain ⟨q, rfl, hq⟩ := hv
      conv => whnf
      rcases hsv with ⟨rfl, rfl⟩ | ⟨b, rfl, ⟨fb, hst, hfb⟩, hpos⟩
      · conv => whnf
        refine once [2, 5, 8, 40, 41, 42] ?_; conv => whnf
        intro I
        refine once [5, 8, 11] ?_; conv => whnf
        intro I
        refine call1 (qlen_S _ _ _ _ _ hq) ?_; conv => whnf
        exact ⟨[], st1, q, true, ho, hsup, .inl ⟨by rw [List.length_map, ranked_len]; rfl, rfl, hq⟩⟩
      · have hol : o.length ≤ 60 := by rw [ho.1.length_eq]; have := places_len l codes l.length; omega
        conv => whnf
        refine ⟨[2, 5, 8, 40, 41, 42], fun m vs st' => ∃ i : Nat, i ≤ o.length ∧ m = o.length - i ∧ vs = [.fptr (arrOf 15 ePromo l) 0, .own 1 b 0 o.length, .optr 1 q 0 0, .own 1 b 0 o.length, eI o.length, eI i] ∧ QSt st1 q true ((List.range i).map (rankE l o)) st', ?_, ?_⟩
        · conv => whnf
          exact ⟨_, 0, Nat.zero_le _, rfl, rfl, hq⟩
        · clear hq
          rintro m vs st' ⟨i, hi, rfl, rfl, hq⟩
          have hst' := hq.sup b _ hst
          conv => whnf
          cases h : decide ((i : Int) < (o.length : Int))
          · have := of_decide_eq_false h
            obtain rfl : i = o.length := by omega
            conv => whnf
            refine ⟨[5, 8, 11], fun m vs st' => ∃ (t : Nat) (sv : AV) (fl : Bool), t ≤ o.length ∧ m = o.length - t ∧ vs = [.own 1 b 0 o.length, .optr 1 q 0 0, sv] ∧ QOut 3 1 (fun k => eI (gI (resO l o) k)) t st1 q fl ((ranked l o).drop t) sv st', ?_, ?_⟩
            · conv => whnf
              exact ⟨_, 0, .emp, true, Nat.zero_le _, rfl, rfl, .inl ⟨rfl, rfl, hq.perm (ranked_perm l o).symm⟩⟩
            · rintro m vs st' ⟨t, sv, fl, ht, rfl, rfl, hout⟩
              have hst' := hout.sup b _ hst
              have hrl := ranked_len l o
              conv => whnf
              refine call1 (hout.len_S) ?_; conv => whnf
              refine fork (fun h1 => ?_) (fun h1 => ?_) <;> rw [h1] <;> simp only [decide_eq_true_eq, decide_eq_false_iff_not, List.length_drop] at h1
              · have htl : t < (ranked l o).length := by omega
                have hsplit : (ranked l o).drop t = (ranked l o)[t] :: (ranked l o).drop (t + 1) := List.drop_eq_getElem_cons htl
                have hsort := ranked_sorted l o
                have htop : ∀ y ∈ (ranked l o).drop (t + 1), prior y (ranked l o)[t] = false := fun y hy => by
                  have := hsort.sublist (List.drop_sublist t _)
                  rw [hsplit, List.pairwise_cons] at this
                  exact this.1 y hy
                have hx := ranked_mem (List.getElem_mem htl)
                have hres : gI (resO l o) t = gI o ((ranked l o)[t]).2.toNat := by
                  unfold gI resO
                  rw [List.getD_eq_getElem?_getD, List.getElem?_map, List.getElem?_eq_getElem htl]; rfl
                rw [hsplit] at hout
                generalize (ranked l o)[t] = x at *
                conv => whnf
                refine call (hout.pop_S htop) (fun v st'' hv => ?_)
                obtain ⟨rfl, hout'⟩ := hv
                have hst'' := hout'.sup b _ hst
                conv => whnf
                refine ⟨rfl, ⟨by omega, by omega⟩, ?_⟩; conv => whnf
                refine ldV hst'' rfl (by omega) (v := eI (gI o x.2.toNat)) (by rw [Nat.zero_add]; exact hfb _ hx.2) ?_; conv => whnf
                refine QOut.app (q := r3) rfl rfl rfl rfl rfl (by simp only [hres]; rfl) (by show (t + 1) * 8 ≤ 140737488355328; omega) hout' (fun sv' st3 hout3 => ?_); conv => whnf
                refine ⟨rfl, ?_⟩; conv => whnf
                exact ⟨o.length - (t + 1), by omega, t + 1, sv', false, by omega, rfl, rfl, hout3⟩
              · have hte : t = o.length := by omega
                subst hte; conv => whnf
                refine ⟨o, st1, q, fl, ho, hsup, ?_⟩
                rw [show (resO l o).length = o.length by rw [List.length_map, hrl]]
                rw [show (ranked l o).drop o.length = [] by rw [← hrl, List.drop_length]] at hout
                exact hout
          · have hi' : i < o.length := by have := of_decide_eq_true h; omega
            have hm := hmem i hi'
            conv => whnf
            refine ⟨rfl, ⟨by omega, by omega⟩, ?_⟩; conv => whnf
            refine ldV hst' rfl (by omega) (v := eI (gI o i)) (by rw [show 0 + (i : Int).toNat = i by omega]; exact hfb i hi') ?_; conv => whnf
            refine ⟨rfl, ⟨by omega, by omega⟩, ?_⟩; conv => whnf
            refine call (qpush_S st1 q _ (prAt l (gI o i)).prio i _ hq (by rw [List.length_map, List.length_range]; omega)) (fun v st'' hv => ?_)
            obtain ⟨rfl, hq'⟩ := hv
            conv => whnf
            refine ⟨rfl, ?_⟩; conv => whnf
            refine ⟨o.length - (i + 1), by omega, i + 1, by omega, rfl, by rw [wrapN (by omega)], ?_⟩
            rw [List.range_succ, List.map_append]; exact hq'
    · have hi' : i < l.length := by have := of_decide_eq_true h; omega
      have hpl := places_len l codes i
      conv => whnf
      refine ⟨rfl, ⟨by omega, by omega⟩, ?_⟩; conv => whnf
      have yes : asked codes (l.getD (i : Int).toNat default) = true → ∀ (K : KK), (∀ sv' st'', Col 3 1 (fun k => eI (gI (places l codes (i + 1)) k)) st (places l codes (i + 1)).length sv' st'' → K sv' st'') → xApp T 45 sv (.arr 1 1 fun k => [AV.int .i64 (i : Int)].getD k .junk) st' K := fun ha K hK => by
        have es := places_succ l codes i
        rw [if_pos (show asked codes (l.getD i default) = true from ha)] at es
        have el : (places l codes (i + 1)).length = (places l codes i).length + 1 := by rw [es]; simp
        refine Col.app (q := r3) rfl rfl rfl rfl rfl ?_ (by show ((places l codes i).length + 1) * 8 ≤ 140737488355328; omega) (hcol.congr (f' := fun k => eI (gI (places l codes (i + 1)) k)) fun k hk => by rw [es, gI_append hk]) (fun sv' st'' hc' => hK sv' st'' (by rw [el]; exact hc'))
        rw [es, gI_last]; rfl
      have no : asked codes (l.getD (i : Int).toNat default) = false → places l codes (i + 1) = places l codes i := fun ha => by
        have es := places_succ l codes i
        rw [if_neg (show ¬ asked codes (l.getD i default) = true by rw [show asked codes (l.getD i default) = false from ha]; simp), List.append_nil] at es
        exact es
      have fin : ∀ sv' st'', Col 3 1 (fun k => eI (gI (places l codes (i + 1)) k)) st (places l codes (i + 1)).length sv' st'' → ∃ m', m' < l.length - i ∧ ∃ (i_1 : Nat) (sv : AV), i_1 ≤ l.length ∧ m' = l.length - i_1 ∧ [eStrs codes, AV.fptr (arrOf 15 ePromo l) 0, sv', arrOf 15 ePromo l, eI l.length, eI (IntKind.i64.wrap ((i : Int) + 1))] = [eStrs codes, .fptr (arrOf 15 ePromo l) 0, sv, arrOf 15 ePromo l, eI l.length, eI i_1] ∧ Col 3 1 (fun k => eI (gI (places l codes i_1) k)) st (places l codes i_1).length sv st'' :=
        fun sv' st'' hc' => ⟨l.length - (i + 1), by omega, i + 1, sv', by omega, rfl, by rw [wrapN (by omega)], hc'⟩
      refine fork (fun h1 => ?_) (fun h1 => ?_)
      · have ha : asked codes (l.getD (i : Int).toNat default) = true := by unfold asked; rw [show isNil (l.getD (i : Int).toNat default).code = true from h1, Bool.true_or]
        rw [h1]; conv => whnf
        refine yes ha _ (fun sv' st'' hc' => ?_); conv => whnf
        refine ⟨rfl, ?_⟩; conv => whnf
        exact fin _ _ hc'
      · rw [h1]; conv => whnf
        refine call1 (strsIn_S codes hc (l.getD (i : Int).toNat default).code _) ?_; conv => whnf
        refine fork (fun h2 => ?_) (fun h2 => ?_)
        · have ha : asked codes (l.getD (i : Int).toNat default) = true := by unfold asked; rw [h2, Bool.or_true]
          rw [h2]; conv => whnf
          refine yes ha _ (fun sv' st'' hc' => ?_); conv => whnf
          refine ⟨rfl, ?_⟩; conv => whnf
          exact fin _ _ hc'
        · have ha : asked codes (l.getD (i : Int).toNat default) = false := by unfold asked; rw [show isNil (l.getD (i : Int).toNat default).code = false from h1, h2]; rfl
          rw [h2]; conv => whnf
          refine ⟨rfl, ?_⟩; conv => whnf
          exact fin _ _ (by rw [no ha]; exact hcol)
theorem add_S (a b : Int) (ha : 0 ≤ a) (hb : 0 ≤ b) (hab : a + b ≤ 100000000000000) (st : St) : S P 208 [eI a, eI b] st fun v st' => v = .tuple [eI (a + b), eI 0] ∧ st' = st := by
  have ra : (decide (0 ≤ a) && decide (a ≤ 100000000000000)) = true := by simp; omega
  have rb : (decide (0 ≤ b) && decide (b ≤ 100000000000000)) = true := by simp; omega
  have w1 : IntKind.i64.wrap (100000000000000 - b) = 100000000000000 - b := wrap64_of (by omega) (by omega)
  have w2 : IntKind.i64.wrap (a + b) = a + b := wrap64_of (by omega) (by omega)
  refine S_of_X [] good mixed Tryz.func208 (by rfl) rfl rfl rfl ?_; conv => whnf
  refine call1 (right_S a st) ?_
  rw [ra]; conv => whnf
  refine call1 (right_S b st) ?_
  rw [rb]; conv => whnf
  rw [w1]
  refine fork (fun h => ?_) (fun h => ?_) <;> rw [h] <;> simp only [decide_eq_true_eq, decide_eq_false_iff_not] at h
  · exact absurd h (by omega)
  · conv => whnf
    rw [w2]
    exact ⟨rfl, rfl⟩
def sumI (l : List Int) : Int := l.foldl (fun s x => s + x) 0
theorem sumI_take {l : List Int} {i : Nat} (h : i < l.length) : sumI (l.take (i + 1)) = sumI (l.take i) + gI l i := foldl_next h _ _
theorem sumI_append (a b : List Int) : sumI (a ++ b) = sumI a + sumI b := by
  have : ∀ (b : List Int) (s : Int), b.foldl (fun s x => s + x) s = s + b.foldl (fun s x => s + x) 0 := by
    intro b
    induction b with
    | nil => intro s; simp
    | cons x b ih => intro s; simp only [List.foldl_cons]; rw [ih (s + x), ih (0 + x)]; omega
  unfold sumI
  rw [List.foldl_append, this b]
theorem sumI_nonneg {l : List Int} (h : ∀ x ∈ l, 0 ≤ x) : 0 ≤ sumI l := by
  induction l with
  | nil => exact Int.le_refl _
  | cons x l ih =>
    have := sumI_append [x] l
    rw [List.singleton_append] at this
    have e : sumI [x] = x := by simp [sumI]
    rw [this, e]
    have := ih (fun y hy => h y (List.mem_cons_of_mem _ hy))
    have := h x (List.mem_cons_self ..)
    omega
theorem sumI_le_take {l : List Int} (h : ∀ x ∈ l, 0 ≤ x) (i : Nat) : sumI (l.take i) ≤ sumI l := by
  have e := sumI_append (l.take i) (l.drop i)
  rw [List.take_append_drop] at e
  have := sumI_nonneg (l := l.drop i) (fun x hx => h x (List.drop_subset _ _ hx))
  omega
theorem sumI_mem_le {l : List Int} (h : ∀ x ∈ l, 0 ≤ x) {x : Int} (hx : x ∈ l) : x ≤ sumI l := by
  obtain ⟨i, hi, rfl⟩ := mem_getD hx
  have h1 := sumI_take hi
  have h2 := sumI_le_take h (i + 1)
  have h3 := sumI_nonneg (l := l.take i) (fun x hx => h x (List.take_subset _ _ hx))
  have e : gI l i = l.getD i default := rfl
  omega
structure Weights (total : Int) (ws : List Int) : Prop where
  t0 : 0 ≤ total
  t1 : total ≤ 100000000000000
  len : ws.length ≤ 100000
  w0 : ∀ w ∈ ws, 0 ≤ w
  sum : sumI ws ≤ 100000000000000
  none : sumI ws = 0 → total = 0
theorem ssum_S (total : Int) (ws : List Int) (hW : Weights total ws) (st : St) : S P 163 [eI total, eInts ws] st fun v st' => v = .tuple [eI (sumI ws), eI 0] ∧ st' = st := by
  have rt : (decide (0 ≤ total) && decide (total ≤ 100000000000000)) = true := by simp; exact ⟨hW.t0, hW.t1⟩
  have hw : ∀ w ∈ ws, w ≤ 100000000000000 := fun w hw => Int.le_trans (sumI_mem_le hW.w0 hw) hW.sum
  have hl := hW.len
  refine S_of_X [] good mixed Tryz.func163 (by rfl) rfl rfl rfl ?_; conv => whnf
  refine call1 (right_S total st) ?_
  rw [rt]; conv => whnf
  refine fork (fun h => ?_) (fun h => ?_) <;> rw [h] <;> simp only [decide_eq_true_eq, decide_eq_false_iff_not] at h
  · exact absurd h (by omega)
  conv => whnf
  refine ⟨[0, 1, 20, 21, 22], fun m vs st' => ∃ i : Nat, i ≤ ws.length ∧ m = ws.length - i ∧ vs = [eI total, eInts ws, eInts ws, eI ws.length, eI i] ∧ st' = st, ?_, ?_⟩
  · conv => whnf
    exact ⟨_, 0, Nat.zero_le _, rfl, rfl, rfl⟩
  · rintro m vs st' ⟨i, hi, rfl, rfl, rfl⟩
    conv => whnf
    cases h1 : decide ((i : Int) < (ws.length : Int))
    · conv => whnf
      refine ⟨[0, 8, 30, 31, 32], fun m vs st'' => ∃ i : Nat, i ≤ ws.length ∧ m = ws.length - i ∧ vs = [eI total, eI (sumI (ws.take i)), eInts ws, eI ws.length, eI i] ∧ st'' = st', ?_, ?_⟩
      · conv => whnf
        exact ⟨_, 0, Nat.zero_le _, rfl, rfl, rfl⟩
      · rintro m vs st'' ⟨i, hi, rfl, rfl, rfl⟩
        conv => whnf
        cases h2 : decide ((i : Int) < (ws.length : Int))
        · have := of_decide_eq_false h2
          obtain rfl : i = ws.length := by omega
          rw [List.take_length]; conv => whnf
          refine fork (fun h3 => ?_) (fun h3 => ?_) <;> rw [h3]
          · conv => whnf
            have : total = 0 := hW.none (by simpa using h3)
            rw [this]; conv => whnf
            exact ⟨rfl, rfl⟩
          · conv => whnf
            exact ⟨rfl, rfl⟩
        · have hi' : i < ws.length := by have := of_decide_eq_true h2; omega
          have h3 := sumI_take hi'
          have h4 := sumI_le_take hW.w0 (i + 1)
          have h5 := sumI_nonneg (l := ws.take i) (fun x hx => hW.w0 x (List.take_subset _ _ hx))
          have h6 := hW.w0 _ (getD_mem hi')
          have h7 := hW.sum
          conv => whnf
          refine ⟨rfl, ⟨by omega, by omega⟩, ?_⟩; conv => whnf
          refine call1 (add_S (sumI (ws.take i)) (gI ws i) h5 h6 (by omega) _) ?_; conv => whnf
          refine ⟨rfl, ?_⟩; conv => whnf
          exact ⟨ws.length - (i + 1), by omega, i + 1, by omega, rfl, by rw [wrapN (by omega), h3], rfl⟩
    · have hi' : i < ws.length := by have := of_decide_eq_true h1; omega
      have hm : gI ws i ∈ ws := getD_mem hi'
      have rw' : (decide (0 ≤ gI ws i) && decide (gI ws i ≤ 100000000000000)) = true := by simp only [Bool.and_eq_true, decide_eq_true_eq]; exact ⟨hW.w0 _ hm, hw _ hm⟩
      conv => whnf
      refine ⟨rfl, ⟨by omega, by omega⟩, ?_⟩; conv => whnf
      refine call1 (right_S (gI ws i) _) ?_
      rw [rw']; conv => whnf
      refine ⟨rfl, ?_⟩; conv => whnf
      exact ⟨ws.length - (i + 1), by omega, i + 1, by omega, rfl, by rw [wrapN (by omega)], rfl⟩
theorem part_S (total w all : Int) (h0 : 0 ≤ total) (h1 : total ≤ 100000000000000) (hw : 0 ≤ w) (hwa : w ≤ all) (ha : 0 < all) (ha' : all ≤ 100000000000000) (st : St) : S P 164 [eI total, eI w, eI all] st fun v st' => v = .tuple [eI (total * w / all), eI (total * w % all)] ∧ st' = st := by
  have e1 : IntKind.u64.wrap total = total := wrapU_of (by omega) (by omega)
  have e2 : IntKind.u64.wrap w = w := wrapU_of (by omega) (by omega)
  have e3 : IntKind.u64.wrap all = all := wrapU_of (by omega) (by omega)
  have hN : 0 ≤ total * w := Int.mul_nonneg h0 hw
  have hN' : total * w ≤ 100000000000000 * all := Int.mul_le_mul h1 hwa hw (by omega)
  have hq0 : 0 ≤ total * w / all := Int.ediv_nonneg hN (by omega)
  have hq1 : total * w / all ≤ 100000000000000 := by
    have : total * w / all < 100000000000000 + 1 := (Int.ediv_lt_iff_lt_mul ha).2 (by omega)
    omega
  have hr0 := Int.emod_nonneg (total * w) (show all ≠ 0 by omega)
  have hr1 := Int.emod_lt_of_pos (total * w) ha
  refine S_of_X [] good mixed Tryz.func164 (by rfl) rfl rfl rfl ?_; conv => whnf
  rw [e1, e2]
  refine call1 (mul64_S total w ⟨by omega, by omega⟩ ⟨by omega, by omega⟩ st) ?_; conv => whnf
  rw [e3]
  have hN2 : 100000000000000 * all ≤ 100000000000000 * 100000000000000 := by omega
  refine call1 (div64_S _ _ all (by omega) (by omega) (by omega) (by omega) (by omega) st) ?_
  rw [show total * w / 18446744073709551616 * 18446744073709551616 + total * w % 18446744073709551616 = total * w by omega]; conv => whnf
  rw [wrap64_of (x := total * w / all) (by omega) (by omega), wrap64_of (x := total * w % all) (by omega) (by omega)]
  exact ⟨rfl, rfl⟩
def shQ (total S : Int) (ws : List Int) (k : Nat) : Int := total * gI ws k / S
def shE (total S : Int) (ws : List Int) (k : Nat) : QE := (total * gI ws k % S, (k : Int))
def shR (total S : Int) (ws : List Int) : List QE := ((List.range ws.length).map (shE total S ws)).mergeSort fun a b => !prior b a
def bumped (qs : List Int) (R : List QE) : List Int := R.foldl (fun acc e => acc.set e.2.toNat (gI acc e.2.toNat + 1)) qs
def shLeft (total S : Int) (ws : List Int) (i : Nat) : Int := total - sumI ((List.range i).map (shQ total S ws))
def largestB (total : Int) (ws : List Int) : List Int :=
  if sumI ws = 0 then ws.map fun _ => 0
  else bumped ((List.range ws.length).map (shQ total (sumI ws) ws)) ((shR total (sumI ws) ws).take (shLeft total (sumI ws) ws ws.length).toNat)
theorem shR_perm (total S : Int) (ws : List Int) : (shR total S ws).Perm ((List.range ws.length).map (shE total S ws)) := List.mergeSort_perm ..
theorem shR_sorted (total S : Int) (ws : List Int) : (shR total S ws).Pairwise fun a b => prior b a = false := by
  have := List.pairwise_mergeSort (le := fun a b : QE => !prior b a) (fun a b c h1 h2 => by simp only [Bool.not_eq_true'] at *; exact nah_trans h2 h1) (fun a b => by
    cases h : prior b a with
    | false => rfl
    | true => rw [prior_asymm h]; rfl) ((List.range ws.length).map (shE total S ws))
  exact this.imp (fun h => by simpa using h)
theorem shR_len (total S : Int) (ws : List Int) : (shR total S ws).length = ws.length := by
  rw [(shR_perm total S ws).length_eq]; simp
theorem shR_mem {total S : Int} {ws : List Int} {e : QE} (h : e ∈ shR total S ws) : 0 ≤ e.2 ∧ e.2.toNat < ws.length := by
  obtain ⟨k, hk, rfl⟩ := List.mem_map.1 ((shR_perm total S ws).subset h)
  have := List.mem_range.1 hk
  simp only [shE]; omega
theorem bumped_len (qs : List Int) (R : List QE) : (bumped qs R).length = qs.length := by
  unfold bumped
  induction R generalizing qs with
  | nil => rfl
  | cons e R ih => simp only [List.foldl_cons]; rw [ih]; simp
theorem bumped_snoc (qs : List Int) (R : List QE) (e : QE) : bumped qs (R ++ [e]) = (bumped qs R).set e.2.toNat (gI (bumped qs R) e.2.toNat + 1) := by
  unfold bumped; rw [List.foldl_append]; rfl
theorem sumI_map_range (f : Nat → Int) (n : Nat) : sumI ((List.range (n + 1)).map f) = sumI ((List.range n).map f) + f n := by
  rw [List.range_succ, List.map_append, sumI_append]; simp [sumI]
theorem left_eq (total S : Int) (hS : 0 < S) (ws : List Int) : ∀ i, i ≤ ws.length → S * sumI ((List.range i).map (shQ total S ws)) + sumI ((List.range i).map fun k => total * gI ws k % S) = total * sumI (ws.take i)
  | 0, _ => by simp [sumI]
  | i + 1, h => by
    have ih := left_eq total S hS ws i (by omega)
    rw [sumI_map_range, sumI_map_range, sumI_take (by omega), Int.mul_add, Int.mul_add, ← ih]
    have := Int.mul_ediv_add_emod (total * gI ws i) S
    unfold shQ
    omega
theorem rest_bound (total S : Int) (hS : 0 < S) (ws : List Int) : ∀ i, 0 ≤ sumI ((List.range i).map fun k => total * gI ws k % S) ∧ sumI ((List.range i).map fun k => total * gI ws k % S) ≤ i * (S - 1)
  | 0 => by simp [sumI]
  | i + 1 => by
    have ih := rest_bound total S hS ws i
    rw [sumI_map_range]
    have h1 := Int.emod_nonneg (total * gI ws i) (show S ≠ 0 by omega)
    have h2 := Int.emod_lt_of_pos (total * gI ws i) hS
    have h3 : ((i + 1 : Nat) : Int) * (S - 1) = (i : Int) * (S - 1) + (S - 1) := by
      rw [show ((i + 1 : Nat) : Int) = (i : Int) + 1 by omega, Int.add_mul, Int.one_mul]
    omega
theorem left_range {total : Int} {ws : List Int} (h : Weights total ws) (hS : 0 < sumI ws) : 0 ≤ shLeft total (sumI ws) ws ws.length ∧ shLeft total (sumI ws) ws ws.length ≤ ws.length := by
  have e := left_eq total (sumI ws) hS ws ws.length (Nat.le_refl _)
  have b := rest_bound total (sumI ws) hS ws ws.length
  rw [List.take_length] at e
  have hk : sumI ws * shLeft total (sumI ws) ws ws.length = sumI ((List.range ws.length).map fun k => total * gI ws k % sumI ws) := by
    unfold shLeft
    rw [Int.mul_sub, Int.mul_comm (sumI ws) total]; omega
  constructor
  · refine Int.le_of_not_gt fun hlt => ?_
    have : sumI ws * shLeft total (sumI ws) ws ws.length < 0 := Int.mul_neg_of_pos_of_neg hS hlt
    omega
  · refine Int.le_of_not_gt fun hgt => ?_
    have h1 : sumI ws * ((ws.length : Int) + 1) ≤ sumI ws * shLeft total (sumI ws) ws ws.length := Int.mul_le_mul_of_nonneg_left (by omega) (by omega)
    have h2 : (ws.length : Int) * (sumI ws - 1) ≤ sumI ws * (ws.length : Int) := by
      rw [Int.mul_sub, Int.mul_one, Int.mul_comm]; omega
    rw [Int.mul_add, Int.mul_one] at h1
    omega
theorem shQ_bound {total : Int} {ws : List Int} (h : Weights total ws) (hS : 0 < sumI ws) {k : Nat} (hk : k < ws.length) : 0 ≤ shQ total (sumI ws) ws k ∧ shQ total (sumI ws) ws k ≤ total := by
  have hw := h.w0 _ (getD_mem hk)
  have hle := sumI_mem_le h.w0 (getD_mem hk)
  refine ⟨Int.ediv_nonneg (Int.mul_nonneg h.t0 hw) (by omega), ?_⟩
  have h1 : total * gI ws k ≤ total * sumI ws := Int.mul_le_mul_of_nonneg_left hle h.t0
  have : shQ total (sumI ws) ws k < total + 1 := (Int.ediv_lt_iff_lt_mul hS).2 (by rw [Int.add_mul, Int.one_mul]; omega)
  omega
theorem sumQ_bound {total : Int} {ws : List Int} (h : Weights total ws) (hS : 0 < sumI ws) {i : Nat} (hi : i ≤ ws.length) : 0 ≤ sumI ((List.range i).map (shQ total (sumI ws) ws)) ∧ sumI ((List.range i).map (shQ total (sumI ws) ws)) ≤ total := by
  have e := left_eq total (sumI ws) hS ws i hi
  have b := rest_bound total (sumI ws) hS ws i
  have t := sumI_le_take h.w0 i
  constructor
  · exact sumI_nonneg fun x hx => by
      obtain ⟨k, hk, rfl⟩ := List.mem_map.1 hx
      exact (shQ_bound h hS (by have := List.mem_range.1 hk; omega)).1
  · have h1 : total * sumI (ws.take i) ≤ total * sumI ws := Int.mul_le_mul_of_nonneg_left t h.t0
    refine Int.le_of_not_gt fun hgt => ?_
    have : sumI ws * (total + 1) ≤ sumI ws * sumI ((List.range i).map (shQ total (sumI ws) ws)) := Int.mul_le_mul_of_nonneg_left (by omega) (by omega)
    rw [Int.mul_add, Int.mul_one, Int.mul_comm] at this
    omega
theorem bumped_bound (qs : List Int) (R : List QE) (k : Nat) : gI qs k ≤ gI (bumped qs R) k ∧ gI (bumped qs R) k ≤ gI qs k + R.length := by
  unfold bumped
  induction R generalizing qs with
  | nil => simp
  | cons e R ih =>
    simp only [List.foldl_cons, List.length_cons]
    have h := ih (qs.set e.2.toNat (gI qs e.2.toNat + 1))
    have hs : gI qs k ≤ gI (qs.set e.2.toNat (gI qs e.2.toNat + 1)) k ∧ gI (qs.set e.2.toNat (gI qs e.2.toNat + 1)) k ≤ gI qs k + 1 := by
      unfold gI
      simp only [List.getD_eq_getElem?_getD, List.getElem?_set]
      by_cases e1 : e.2.toNat = k
      · subst e1
        by_cases e2 : e.2.toNat < qs.length
        · simp [e2]; omega
        · simp [e2]
      · rw [if_neg e1]; omega
    omega
theorem gI_map_range (f : Nat → Int) {n k : Nat} (hk : k < n) : gI ((List.range n).map f) k = f k := by
  unfold gI; simp [List.getD_eq_getElem?_getD, hk]
theorem gI_set {l : List Int} {j : Nat} (hj : j < l.length) (x : Int) (k : Nat) : gI (l.set j x) k = if k = j then x else gI l k := by
  unfold gI
  simp only [List.getD_eq_getElem?_getD, List.getElem?_set]
  by_cases h : k = j
  · subst h; simp [hj]
  · rw [if_neg (fun e => h e.symm), if_neg h]
theorem largest_S (total : Int) (ws : List Int) (h : Weights total ws) (st : St) : S P 116 [eI total, eInts ws] st fun v st' => v = .tuple [eInts (largestB total ws), eI 0] ∧ st' = st := by
  have hlen := h.len
  refine S.post (post := fun v st' => ∃ (bo : Nat) (f : Nat → AV), st bo = none ∧ v = .tuple [.own 1 bo 0 ws.length, eI 0] ∧ Sup (upd st bo ⟨2, 1, ws.length, f⟩) st' ∧ (largestB total ws).length = ws.length ∧ ∀ k, k < ws.length → f k = eI (gI (largestB total ws) k)) ?_
    (fun v st' ⟨bo, f, h0, hv, hs, hl, hf⟩ => ⟨_, st, ⟨rfl, rfl⟩, by
      rw [hv]
      refine Shift.tuple (Shift.cons ((hs.shift _).trans ?_) (Shift.keep _ _)) rfl
      have h2 := shift_own (st := upd st bo ⟨2, 1, ws.length, f⟩) (e := 1) (b := bo) (n := ws.length) (f := fun k => eI (gI (largestB total ws) k)) (upd_same ..) rfl (Nat.le_refl _) hf
      rw [del_upd h0] at h2
      have e : eInts (largestB total ws) = .arr 1 ws.length (fun k => eI (gI (largestB total ws) k)) := by unfold eInts arrOf; rw [hl]
      rw [e]; exact h2⟩)
  refine S_of_X [] good mixed Tryz.func116 (by rfl) rfl rfl rfl ?_; conv => whnf
  refine call1 (ssum_S total ws h st) ?_; conv => whnf
  refine mkO rfl rfl rfl (by show 8 * ws.length ≤ _; omega) (by omega) (by rfl) (fun bo hbo => ?_); conv => whnf
  refine fork (fun h1 => ?_) (fun h1 => ?_) <;> rw [h1]
  · have h0 : sumI ws = 0 := by simpa using h1
    have hB : largestB total ws = ws.map fun _ => 0 := if_pos h0
    conv => whnf
    refine ⟨bo, _, hbo, rfl, Sup.refl _, by rw [hB, List.length_map], fun k hk => ?_⟩
    rw [hB]
    show AV.int .i64 0 = _
    rw [show gI (ws.map fun _ => (0 : Int)) k = 0 from getD_map (fun _ => (0 : Int)) ws hk]
  have hS : 0 < sumI ws := by
    have h2 := sumI_nonneg h.w0
    have h3 : sumI ws ≠ 0 := by simpa using h1
    omega
  have hB : largestB total ws = bumped ((List.range ws.length).map (shQ total (sumI ws) ws)) ((shR total (sumI ws) ws).take (shLeft total (sumI ws) ws ws.length).toNat) := if_neg (by omega)
  have hsum := h.sum
  have ht0 := h.t0
  have ht1 := h.t1
  conv => whnf
  refine call (qnew_S _) (fun v st2 hv => ?_)
  obtain ⟨q, rfl, hq⟩ := hv
  conv => whnf
  refine ⟨[0, 6, 8, 9, 10, 35, 36, 37], fun m vs st' => ∃ (i : Nat) (f : Nat → AV), i ≤ ws.length ∧ m = ws.length - i ∧ vs = [eI total, eI (sumI ws), .own 1 bo 0 ws.length, eI (shLeft total (sumI ws) ws i), .optr 1 q 0 0, eInts ws, eI ws.length, eI i] ∧
    (∀ k, k < i → f k = eI (shQ total (sumI ws) ws k)) ∧ (∀ k, i ≤ k → f k = .int .i64 0) ∧ QSt (upd st bo ⟨2, 1, ws.length, f⟩) q true ((List.range i).map (shE total (sumI ws) ws)) st', ?_, ?_⟩
  · conv => whnf
    exact ⟨_, 0, fun _ => .int .i64 0, Nat.zero_le _, rfl, (by simp [shLeft, sumI]; rfl), fun k hk => absurd hk (by omega), fun _ _ => rfl, hq⟩
  · clear hq
    rintro m vs st' ⟨i, f, hi, rfl, rfl, hf1, hf2, hq⟩
    conv => whnf
    cases h2 : decide ((i : Int) < (ws.length : Int))
    · have := of_decide_eq_false h2
      obtain rfl : i = ws.length := by omega
      obtain ⟨l0, l1⟩ := left_range h hS
      conv => whnf
      refine ⟨[8, 10, 61, 62], fun m vs st' => ∃ (t : Nat) (f : Nat → AV) (fl : Bool), (t : Int) ≤ shLeft total (sumI ws) ws ws.length ∧ m = (shLeft total (sumI ws) ws ws.length).toNat - t ∧ vs = [.own 1 bo 0 ws.length, .optr 1 q 0 0, eI (shLeft total (sumI ws) ws ws.length), eI t] ∧
        (∀ k, k < ws.length → f k = eI (gI (bumped ((List.range ws.length).map (shQ total (sumI ws) ws)) ((shR total (sumI ws) ws).take t)) k)) ∧ QSt (upd st bo ⟨2, 1, ws.length, f⟩) q fl ((shR total (sumI ws) ws).drop t) st', ?_, ?_⟩
      · conv => whnf
        exact ⟨_, 0, f, true, by omega, rfl, rfl, fun k hk => by rw [hf1 k hk, List.take_zero]; show _ = eI (gI ((List.range ws.length).map _) k); rw [gI_map_range _ hk], hq.perm (shR_perm total (sumI ws) ws).symm⟩
      · clear hf1 hf2 hq f
        rintro m vs st' ⟨t, f, fl, ht, rfl, rfl, hf, hq⟩
        have hrl := shR_len total (sumI ws) ws
        have hby : st' bo = some ⟨2, 1, ws.length, f⟩ := hq.sup bo _ (upd_same ..)
        conv => whnf
        cases h3 : decide ((t : Int) < shLeft total (sumI ws) ws ws.length)
        · have h3' := of_decide_eq_false h3
          have hte : (shLeft total (sumI ws) ws ws.length).toNat = t := by omega
          conv => whnf
          refine ⟨bo, f, hbo, rfl, hq.sup, by rw [hB, bumped_len]; simp, fun k hk => by rw [hB, hte]; exact hf k hk⟩
        · have h3' := of_decide_eq_true h3
          have htl : t < (shR total (sumI ws) ws).length := by omega
          have hsplit : (shR total (sumI ws) ws).drop t = (shR total (sumI ws) ws)[t] :: (shR total (sumI ws) ws).drop (t + 1) := List.drop_eq_getElem_cons htl
          have htop : ∀ y ∈ (shR total (sumI ws) ws).drop (t + 1), prior y (shR total (sumI ws) ws)[t] = false := fun y hy => by
            have := (shR_sorted total (sumI ws) ws).sublist (List.drop_sublist t _)
            rw [hsplit, List.pairwise_cons] at this
            exact this.1 y hy
          have hx := shR_mem (List.getElem_mem htl)
          have htake : (shR total (sumI ws) ws).take (t + 1) = (shR total (sumI ws) ws).take t ++ [(shR total (sumI ws) ws)[t]] := List.take_succ_eq_append_getElem htl
          rw [hsplit] at hq
          generalize (shR total (sumI ws) ws)[t] = x at *
          have hb1 := bumped_bound ((List.range ws.length).map (shQ total (sumI ws) ws)) ((shR total (sumI ws) ws).take t) x.2.toNat
          have hb2 := shQ_bound h hS hx.2
          rw [gI_map_range _ hx.2, List.length_take] at hb1; conv => whnf
          refine call (qpop_S _ _ _ _ _ _ hq htop) (fun v st'' hv => ?_)
          obtain ⟨rfl, hq'⟩ := hv
          have hby' : st'' bo = some ⟨2, 1, ws.length, f⟩ := hq'.sup bo _ (upd_same ..)
          conv => whnf
          refine ⟨rfl, ⟨by omega, by omega⟩, ?_⟩; conv => whnf
          refine ldV hby' rfl (by omega) (v := eI (gI (bumped ((List.range ws.length).map (shQ total (sumI ws) ws)) ((shR total (sumI ws) ws).take t)) x.2.toNat)) (by rw [Nat.zero_add]; exact hf _ hx.2) ?_; conv => whnf
          refine ⟨rfl, ⟨by omega, by omega⟩, ?_⟩; conv => whnf
          refine stV hby' rfl (by omega) (v := eI (gI (bumped ((List.range ws.length).map (shQ total (sumI ws) ws)) ((shR total (sumI ws) ws).take t)) x.2.toNat)) (by rw [Nat.zero_add]; exact hf _ hx.2) (by rfl) ?_; conv => whnf
          refine ⟨rfl, ?_⟩; conv => whnf
          have hg := hq'.grow (bo' := bo) (y' := ⟨2, 1, ws.length, fset f (0 + x.2.toNat) (eI (IntKind.i64.wrap (gI (bumped ((List.range ws.length).map (shQ total (sumI ws) ws)) ((shR total (sumI ws) ws).take t)) x.2.toNat + 1)))⟩) hbo (.inl rfl)
          rw [upd_del] at hg
          refine ⟨(shLeft total (sumI ws) ws ws.length).toNat - (t + 1), by omega, t + 1, _, false, by omega, rfl, by rw [wrapN (by omega)], fun k hk => ?_, hg.2⟩
          rw [htake, bumped_snoc, gI_set (by rw [bumped_len]; simpa using hx.2), Nat.zero_add]
          by_cases e1 : k = x.2.toNat
          · rw [if_pos e1, e1, fset_same, wrap64_of (by omega) (by omega)]
          · rw [if_neg e1, fset_ne e1]; exact hf k hk
    · have hi' : i < ws.length := by have := of_decide_eq_true h2; omega
      have hm : gI ws i ∈ ws := getD_mem hi'
      have hby : st' bo = some ⟨2, 1, ws.length, f⟩ := hq.sup bo _ (upd_same ..)
      have hqb := sumQ_bound h hS (show i ≤ ws.length by omega)
      have hqb' := sumQ_bound h hS (show i + 1 ≤ ws.length by omega)
      have hsr := sumI_map_range (shQ total (sumI ws) ws) i
      conv => whnf
      refine ⟨rfl, ⟨by omega, by omega⟩, ?_⟩; conv => whnf
      refine call1 (part_S total (gI ws i) (sumI ws) h.t0 h.t1 (h.w0 _ hm) (sumI_mem_le h.w0 hm) hS h.sum _) ?_; conv => whnf
      refine ⟨rfl, ⟨by omega, by omega⟩, ?_⟩; conv => whnf
      refine stV hby rfl (by omega) (v := .int .i64 0) (by rw [show 0 + (i : Int).toNat = i by omega]; exact hf2 i (Nat.le_refl _)) (by rfl) ?_
      conv => whnf
      have hg := hq.grow (bo' := bo) (y' := ⟨2, 1, ws.length, fset f (0 + (i : Int).toNat) (eI (shQ total (sumI ws) ws i))⟩) hbo (.inl rfl)
      rw [upd_del] at hg
      refine call (qpush_S _ q _ (total * gI ws i % sumI ws) i _ hg.2 (by rw [List.length_map, List.length_range]; omega)) (fun v st'' hv => ?_)
      obtain ⟨rfl, hq'⟩ := hv
      conv => whnf
      refine ⟨rfl, ?_⟩; conv => whnf
      refine ⟨ws.length - (i + 1), by omega, i + 1, fset f (0 + (i : Int).toNat) (eI (shQ total (sumI ws) ws i)), by omega, rfl, ?_, fun k hk => ?_, fun k hk => ?_, ?_⟩
      · rw [wrapN (by omega)]
        have e : IntKind.i64.wrap (shLeft total (sumI ws) ws i - total * gI ws i / sumI ws) = shLeft total (sumI ws) ws (i + 1) := by
          unfold shLeft
          have : total * gI ws i / sumI ws = shQ total (sumI ws) ws i := rfl
          rw [this, wrap64_of (by omega) (by omega)]; omega
        rw [e]
      · by_cases e1 : k = i
        · subst e1; rw [show 0 + (k : Int).toNat = k by omega, fset_same]
        · rw [fset_ne (by omega)]; exact hf1 k (by omega)
      · rw [fset_ne (by omega)]; exact hf2 k (by omega)
      · rw [List.range_succ, List.map_append]; exact hq'
abbrev eUnits (l : List AUnit) : AV := arrOf 3 eUnit l
abbrev gU (l : List AUnit) (k : Nat) : AUnit := l.getD k default
abbrev netsOf (us : List AUnit) : List Int := us.map AUnit.net
structure UnitsOk (us : List AUnit) : Prop where
  len : us.length ≤ 100000
  pos : ∀ u ∈ us, 0 ≤ u.net
  sum : sumI (netsOf us) ≤ 10000000000000
structure MineOk (us : List AUnit) (mine : List Int) : Prop where
  rng : ∀ k, k < mine.length → 0 ≤ gI mine k ∧ (gI mine k).toNat < us.length
  opn : ∀ k, k < mine.length → (gU us (gI mine k).toNat).opn = true
  inc : ∀ k, k + 1 < mine.length → gI mine k < gI mine (k + 1)
theorem UnitsOk.nets0 {us : List AUnit} (h : UnitsOk us) : ∀ x ∈ netsOf us, 0 ≤ x := fun x hx => by
  obtain ⟨u, hu, rfl⟩ := List.mem_map.1 hx
  exact h.pos u hu
theorem UnitsOk.le {us : List AUnit} (h : UnitsOk us) {u : AUnit} (hu : u ∈ us) : u.net ≤ 10000000000000 := by
  have := sumI_mem_le h.nets0 (List.mem_map_of_mem (f := AUnit.net) hu)
  have := h.sum
  omega
theorem MineOk.lt {us : List AUnit} {mine : List Int} (h : MineOk us mine) : ∀ j k, j < k → k < mine.length → gI mine j < gI mine k := fun j k hjk hk => by
  induction k with
  | zero => omega
  | succ k ih =>
    rcases Nat.lt_or_ge j k with hlt | hge
    · exact Int.lt_trans (ih hlt (by omega)) (h.inc k hk)
    · have : j = k := by omega
      subst this; exact h.inc j hk
theorem MineOk.len {us : List AUnit} {mine : List Int} (h : MineOk us mine) : mine.length ≤ us.length := by
  have : ∀ k, k < mine.length → (k : Int) ≤ gI mine k := fun k => by
    induction k with
    | zero => intro hk; exact (h.rng 0 hk).1
    | succ k ih => intro hk; have := ih (by omega); have := h.inc k hk; omega
  rcases Nat.eq_zero_or_pos mine.length with e | e
  · omega
  · have h1 := this (mine.length - 1) (by omega)
    have h2 := (h.rng (mine.length - 1) (by omega)).2
    omega
theorem nets_S (us : List AUnit) (h : UnitsOk us) (st : St) : S P 228 [eUnits us] st fun v st' => v = .bool true ∧ st' = st := by
  have hlen := h.len
  refine S_of_X [5] good mixed Tryz.func228 (by rfl) rfl rfl rfl ?_; conv => whnf
  refine fork (fun h1 => ?_) (fun h1 => ?_) <;> rw [h1] <;> simp only [decide_eq_true_eq, decide_eq_false_iff_not] at h1
  · exact absurd h1 (by omega)
  conv => whnf
  refine ⟨[3, 9, 10, 11], fun m vs st' => ∃ i : Nat, i ≤ us.length ∧ m = us.length - i ∧ vs = [eI (sumI ((netsOf us).take i)), eUnits us, eI us.length, eI i] ∧ st' = st, ?_, ?_⟩
  · conv => whnf
    exact ⟨_, 0, Nat.zero_le _, rfl, rfl, rfl⟩
  · rintro m vs st' ⟨i, hi, rfl, rfl, rfl⟩
    conv => whnf
    cases h2 : decide ((i : Int) < (us.length : Int))
    · have := of_decide_eq_false h2
      obtain rfl : i = us.length := by omega
      have hs := h.sum
      rw [show (netsOf us).take us.length = netsOf us from by rw [← List.length_map (f := AUnit.net), List.take_length]]; conv => whnf
      refine ⟨?_, rfl⟩
      show AV.bool (decide _) = _
      rw [decide_eq_true hs]
    · have hi' : i < us.length := by have := of_decide_eq_true h2; omega
      have hu : gU us i ∈ us := getD_mem hi'
      have p0 := h.pos _ hu
      have p1 := h.le hu
      have hsum := h.sum
      have e1 := sumI_take (l := netsOf us) (i := i) (by rw [List.length_map]; exact hi')
      have e2 := sumI_le_take h.nets0 (i + 1)
      have e3 := sumI_nonneg (l := (netsOf us).take i) (fun x hx => h.nets0 x (List.take_subset _ _ hx))
      have e4 : gI (netsOf us) i = (gU us i).net := getD_map AUnit.net us hi'
      have w : IntKind.i64.wrap (sumI ((netsOf us).take i) + (gU us i).net) = sumI ((netsOf us).take (i + 1)) := by rw [e1, e4]; exact wrap64_of (by omega) (by omega)
      conv => whnf
      refine ⟨rfl, ⟨by omega, by omega⟩, ?_⟩; conv => whnf
      refine fork (fun h3 => ?_) (fun h3 => ?_) <;> rw [h3]
      · exact absurd (of_decide_eq_true h3) (by show ¬ (gU us i).net < 0; omega)
      conv => whnf
      refine fork (fun h4 => ?_) (fun h4 => ?_) <;> rw [h4]
      · exact absurd (of_decide_eq_true h4) (by show ¬ (gU us i).net > 10000000000000; omega)
      conv => whnf
      refine ⟨rfl, ?_⟩; conv => whnf
      exact ⟨us.length - (i + 1), by omega, i + 1, by omega, rfl, by rw [wrapN (by omega), ← w]; rfl, rfl⟩
theorem cutMay_S (us : List AUnit) (mine : List Int) (h : UnitsOk us) (hm : MineOk us mine) (st : St) : S P 195 [eUnits us, eInts mine] st fun v st' => v = .bool true ∧ st' = st := by
  have hlen := h.len
  have hml := hm.len
  refine S_of_X [] good mixed Tryz.func195 (by rfl) rfl rfl rfl ?_; conv => whnf
  refine call1 (nets_S us h st) ?_; conv => whnf
  refine ⟨[0, 5, 11, 12, 13], fun m vs st' => ∃ i : Nat, i ≤ mine.length ∧ m = mine.length - i ∧ vs = [eUnits us, eI (if i = 0 then -1 else gI mine (i - 1)), eInts mine, eI mine.length, eI i] ∧ st' = st, ?_, ?_⟩
  · conv => whnf
    exact ⟨_, 0, Nat.zero_le _, rfl, rfl, rfl⟩
  · rintro m vs st' ⟨i, hi, rfl, rfl, rfl⟩
    conv => whnf
    cases h2 : decide ((i : Int) < (mine.length : Int))
    · conv => whnf
      exact ⟨rfl, rfl⟩
    · have hi' : i < mine.length := by have := of_decide_eq_true h2; omega
      have hr := hm.rng i hi'
      have ho := hm.opn i hi'
      have hlast : (if i = 0 then -1 else gI mine (i - 1)) < gI mine i := by
        split
        · omega
        · exact hm.lt (i - 1) i (by omega) hi'
      conv => whnf
      refine ⟨rfl, ⟨by omega, by omega⟩, ?_⟩; conv => whnf
      refine fork (fun h3 => ?_) (fun h3 => ?_) <;> rw [h3]
      · exact absurd (of_decide_eq_true h3) (by show ¬ gI mine i ≤ _; omega)
      conv => whnf
      refine fork (fun h4 => ?_) (fun h4 => ?_) <;> rw [h4]
      · exact absurd (of_decide_eq_true h4) (by show ¬ gI mine i ≥ (us.length : Int); omega)
      conv => whnf
      refine ⟨rfl, ⟨by show 0 ≤ gI mine i; omega, by show gI mine i < (us.length : Int); omega⟩, ?_⟩; conv => whnf
      rw [show (us.getD (mine.getD (i : Int).toNat default).toNat default).opn = true from ho]; conv => whnf
      refine ⟨rfl, ?_⟩; conv => whnf
      exact ⟨mine.length - (i + 1), by omega, i + 1, by omega, rfl, by rw [wrapN (by omega), if_neg (show ¬ i + 1 = 0 by omega)]; rfl, rfl⟩
def half (x rate : Int) : Int := (if 0 ≤ rate ∧ rate ≤ 10000 then times x rate 10000 1 else (0, 2)).1
theorem half_bound (x rate : Int) : 0 ≤ half x rate ∧ half x rate ≤ 100000000000000 := by
  unfold half
  split
  · unfold times
    split
    · exact ⟨Int.le_refl _, by decide⟩
    · rename_i hb
      rw [Bool.not_eq_false] at hb
      simp only [rightB, Bool.and_eq_true, decide_eq_true_eq, bne_iff_ne, ne_eq] at hb
      have hq : 0 ≤ x * rate / 10000 := Int.ediv_nonneg (Int.mul_nonneg hb.1.1.1.1.1.1 hb.1.1.1.1.2.1) (by omega)
      split
      · exact ⟨Int.le_refl _, by decide⟩
      · split
        · exact ⟨Int.le_refl _, by decide⟩
        · rename_i h1 h2
          refine ⟨?_, Int.le_of_not_gt h2⟩
          show 0 ≤ roundQ (x * rate / 10000) (x * rate % 10000) 10000 1
          unfold roundQ
          repeat' split
          all_goals omega
  · exact ⟨Int.le_refl _, by decide⟩
def offC (x rate amount : Int) : Int := if x < half x rate + amount then x else half x rate + amount
theorem off_S (x rate amount : Int) (h0 : 0 ≤ amount) (h1 : amount ≤ 10000000000000) (st : St) : S P 231 [eI x, eI rate, eI amount] st fun v st' => v = eI (offC x rate amount) ∧ st' = st := by
  refine S_of_X [] good mixed Tryz.func231 (by rfl) rfl rfl rfl ?_; conv => whnf
  refine call1 (rate_S x rate 1 st) ?_
  have hb := half_bound x rate
  have w : IntKind.i64.wrap (half x rate + amount) = half x rate + amount := wrap64_of (by omega) (by omega)
  conv => whnf
  refine ⟨?_, rfl⟩
  show AV.int .i64 (if x < IntKind.i64.wrap (half x rate + amount) then x else IntKind.i64.wrap (half x rate + amount)) = _
  rw [w]; rfl
theorem offC_bound {x rate amount : Int} (hx : 0 ≤ x) (h0 : 0 ≤ amount) : 0 ≤ offC x rate amount ∧ offC x rate amount ≤ x := by
  have := half_bound x rate
  unfold offC
  split <;> omega
def eCut (p : Promo) (nets : List Int) : AV := .agg [eS p.id, eI p.kind, eI p.prio, eS p.group, eS p.code, eB p.closes, eStrs p.scope.skus, eStrs p.scope.cats, eI p.least, eI p.rate, eI p.amount, eI p.buy, eI p.get, arrOf 3 ePart p.parts, arrOf 3 eTier p.tiers, eInts nets]
theorem each_S (p : Promo) (nets : List Int) (rate amount : Int) (h0 : 0 ≤ amount) (h1 : amount ≤ 10000000000000) (hl : nets.length ≤ 100000) (st : St) : S P 229 [eCut p nets, eI rate, eI amount] st fun v st' => v = eInts (nets.map fun x => offC x rate amount) ∧ st' = st := by
  have he : eInts (nets.map fun x => offC x rate amount) = .arr 1 nets.length (fun k => eI (gI (nets.map fun x => offC x rate amount) k)) := by unfold eInts arrOf; rw [List.length_map]
  rw [he]
  refine S_col (ty := 2) ?_
  refine S_of_X [3] good mixed Tryz.func229 (by rfl) rfl rfl rfl ?_; conv => whnf
  refine ⟨[1, 2, 7, 11, 12, 13], fun m vs st' => ∃ (i : Nat) (sv : AV), i ≤ nets.length ∧ m = nets.length - i ∧ vs = [eI rate, eI amount, sv, eInts nets, eI nets.length, eI i] ∧ Col 2 1 (fun k => eI (gI (nets.map fun x => offC x rate amount) k)) st i sv st', ?_, ?_⟩
  · conv => whnf
    exact ⟨_, 0, .emp, Nat.zero_le _, rfl, rfl, Col.start _ _ _ _⟩
  · rintro m vs st' ⟨i, sv, hi, rfl, rfl, hc⟩
    conv => whnf
    cases h : decide ((i : Int) < (nets.length : Int))
    · have := of_decide_eq_false h
      obtain rfl : i = nets.length := by omega
      conv => whnf
      exact hc
    · have hi' : i < nets.length := by have := of_decide_eq_true h; omega
      conv => whnf
      refine ⟨rfl, ⟨by omega, by omega⟩, ?_⟩; conv => whnf
      refine call1 (off_S (gI nets i) rate amount h0 h1 _) ?_; conv => whnf
      refine Col.app (q := r2) rfl rfl rfl rfl rfl ?_ (by show (i + 1) * 8 ≤ 140737488355328; omega) hc (fun sv' st'' hc' => ?_)
      · rw [show gI (nets.map fun x => offC x rate amount) i = offC (gI nets i) rate amount from getD_map (fun x => offC x rate amount) nets hi']; rfl
      conv => whnf
      refine ⟨rfl, ?_⟩; conv => whnf
      exact ⟨nets.length - (i + 1), by omega, i + 1, sv', by omega, rfl, by rw [wrapN (by omega)], hc'⟩
def offsP (p : Promo) (nets : List Int) : List Int := nets.map fun x => offC x p.rate 0
def offsA (p : Promo) (nets : List Int) : List Int := nets.map fun x => offC x 0 p.amount
theorem percent_S (p : Promo) (nets : List Int) (hl : nets.length ≤ 100000) (st : St) : S P 199 [eCut p nets] st fun v st' => v = eInts (offsP p nets) ∧ st' = st := by
  refine S_of_X [1] good mixed Tryz.func199 (by rfl) rfl rfl rfl ?_; conv => whnf
  refine call1 (each_S p nets p.rate 0 (by omega) (by omega) hl st) ?_; conv => whnf
  exact ⟨rfl, rfl⟩
theorem amount_S (p : Promo) (nets : List Int) (h0 : 0 ≤ p.amount) (h1 : p.amount ≤ 10000000000000) (hl : nets.length ≤ 100000) (st : St) : S P 200 [eCut p nets] st fun v st' => v = eInts (offsA p nets) ∧ st' = st := by
  refine S_of_X [1] good mixed Tryz.func200 (by rfl) rfl rfl rfl ?_; conv => whnf
  refine call1 (each_S p nets 0 p.amount h0 h1 hl st) ?_; conv => whnf
  exact ⟨rfl, rfl⟩
def reachedB (l : List Tier) (x : Int) : Option Tier := l.reverse.find? fun t => decide (t.least ≤ x)
theorem getD_reverse {α : Type} [Inhabited α] {l : List α} {k : Nat} (hk : k < l.length) : l.reverse.getD k default = l.getD (l.length - 1 - k) default := by
  rw [List.getD_eq_getElem?_getD, List.getD_eq_getElem?_getD, List.getElem?_reverse hk]
theorem reached_some {l : List Tier} {x : Int} {i : Nat} (hi : i < l.length) (h : ∀ k, i < k → k < l.length → decide ((l.getD k default).least ≤ x) = false) (hp : decide ((l.getD i default).least ≤ x) = true) : reachedB l x = some (l.getD i default) := by
  have e : l.getD i default = l.reverse.getD (l.length - 1 - i) default := by
    rw [getD_reverse (by omega), show l.length - 1 - (l.length - 1 - i) = i by omega]
  rw [e] at hp ⊢
  exact find_some (by rw [List.length_reverse]; omega) (fun k hk => by rw [getD_reverse (by omega)]; exact h _ (by omega) (by omega)) hp
theorem reached_none {l : List Tier} {x : Int} (h : ∀ k, k < l.length → decide ((l.getD k default).least ≤ x) = false) : reachedB l x = none :=
  find_none fun k hk => by rw [List.length_reverse] at hk; rw [getD_reverse hk]; exact h _ (by omega)
theorem reached_S (l : List Tier) (x : Int) (hl : l.length ≤ 100000) (st : St) : S P 230 [arrOf 3 eTier l, eI x] st fun v st' => v = .tuple [eTier ((reachedB l x).getD default), .bool (reachedB l x).isSome] ∧ st' = st := by
  refine S_sup ?_
  refine S_of_X [] good mixed Tryz.func230 (by rfl) rfl rfl rfl ?_; conv => whnf
  intro b hb; conv => whnf
  have w0 : IntKind.i64.wrap ((l.length : Int) - 1) = (l.length : Int) - 1 := wrap64_of (by omega) (by omega)
  refine ⟨[0, 1, 4, 6], fun m vs st' => ∃ (i : Int) (f : Nat → AV) (u : Tier), -1 ≤ i ∧ i < l.length ∧ (∀ k : Nat, i < k → k < l.length → decide ((l.getD k default).least ≤ x) = false) ∧ m = (i + 1).toNat ∧ vs = [arrOf 3 eTier l, eI x, .optr 3 b 0 0, eI i] ∧ st' = upd st b ⟨192, 3, 1, f⟩ ∧ f 0 = eTier u, ?_, ?_⟩
  · conv => whnf
    exact ⟨_, (l.length : Int) - 1, _, default, by omega, by omega, fun k h1 h2 => by omega, rfl, by rw [w0], rfl, rfl⟩
  · rintro m vs st' ⟨i, f, u, h0, hi, hno, rfl, rfl, rfl, hf⟩
    conv => whnf
    cases h : decide (i ≥ 0)
    · have := of_decide_eq_false h
      have hr : reachedB l x = none := reached_none fun k hk => hno k (by omega) hk
      conv => whnf
      refine stV (upd_same ..) rfl (by omega) hf (by rfl) ?_; conv => whnf
      refine ldV (upd_same ..) rfl (by omega) (fset_same ..) ?_; conv => whnf
      refine ⟨by rw [hr]; rfl, ((Sup.refl st).upd hb).over hb⟩
    · have hi0 := of_decide_eq_true h
      conv => whnf
      refine ⟨rfl, ⟨by omega, by omega⟩, ?_⟩; conv => whnf
      refine fork (fun h1 => ?_) (fun h1 => ?_)
      · have hr : reachedB l x = some (l.getD i.toNat default) := reached_some (by omega) (fun k h2 h3 => hno k (by omega) h3) h1
        rw [h1]; conv => whnf
        refine ⟨rfl, ⟨by omega, by omega⟩, ?_⟩; conv => whnf
        refine stV (upd_same ..) rfl (by omega) hf (by rfl) ?_; conv => whnf
        refine ldV (upd_same ..) rfl (by omega) (fset_same ..) ?_; conv => whnf
        refine ⟨by rw [hr]; rfl, ((Sup.refl st).upd hb).over hb⟩
      · have w : IntKind.i64.wrap (i - 1) = i - 1 := wrap64_of (by omega) (by omega)
        rw [h1]; conv => whnf
        refine ⟨rfl, ?_⟩; conv => whnf
        refine ⟨i.toNat, by omega, i - 1, f, u, by omega, by omega, fun k h2 h3 => ?_, by omega, by rw [w], rfl, hf⟩
        rcases (by omega : k = i.toNat ∨ i < k) with e | e
        · rw [e]; exact h1
        · exact hno k e h3
def TiersOk (l : List Tier) : Prop := l.length ≤ 6 ∧ ∀ t ∈ l, 0 ≤ t.amount ∧ t.amount ≤ 10000000000000
theorem reached_ok {l : List Tier} (h : TiersOk l) (x : Int) : 0 ≤ ((reachedB l x).getD default).amount ∧ ((reachedB l x).getD default).amount ≤ 10000000000000 := by
  cases hr : reachedB l x with
  | none => exact ⟨Int.le_refl _, by decide⟩
  | some t =>
    have : t ∈ l := List.mem_reverse.1 (List.mem_of_find?_eq_some hr)
    exact h.2 t this
def offsC (p : Promo) (nets : List Int) : List Int := match reachedB p.tiers nets.length with
  | none => []
  | some t => nets.map fun x => offC x t.rate t.amount
def offsS (p : Promo) (nets : List Int) : List Int := match reachedB p.tiers (sumI nets) with
  | none => []
  | some t => largestB (offC (sumI nets) t.rate t.amount) nets
theorem count_S (p : Promo) (nets : List Int) (ht : TiersOk p.tiers) (hl : nets.length ≤ 100000) (st : St) : S P 202 [eCut p nets] st fun v st' => v = eInts (offsC p nets) ∧ st' = st := by
  refine S.post (post := fun v st' => (v = eInts (offsC p nets) ∨ (offsC p nets = [] ∧ v = .emp)) ∧ Sup st st') ?_ (fun v st' ⟨h, hs⟩ => ⟨_, st, ⟨rfl, rfl⟩, (hs.shift _).trans (by
    rcases h with rfl | ⟨h0, rfl⟩
    · exact Shift.keep _ _
    · rw [h0]; exact shift_emp 1 _)⟩)
  have htl := ht.1
  refine S_of_X [1] good mixed Tryz.func202 (by rfl) rfl rfl rfl ?_; conv => whnf
  refine call1 (reached_S p.tiers nets.length (by omega) st) ?_; conv => whnf
  intro b hb; conv => whnf
  refine stV (upd_same ..) rfl (by omega) rfl (by rfl) ?_; conv => whnf
  have hsup : ∀ x y : Blk, Sup st (upd (upd st b x) b y) := fun x y => ((Sup.refl st).upd hb).over hb
  have hok := reached_ok ht nets.length
  cases hr : reachedB p.tiers nets.length with
  | none =>
    have hB : offsC p nets = [] := by unfold offsC; rw [hr]
    conv => whnf
    exact ⟨.inr ⟨hB, rfl⟩, hsup _ _⟩
  | some t =>
    have hB : offsC p nets = nets.map fun x => offC x t.rate t.amount := by unfold offsC; rw [hr]
    rw [hr] at hok; conv => whnf
    refine ldV (upd_same ..) rfl (by omega) (v := eTier t) (by rw [fset_same]; rfl) ?_; conv => whnf
    refine ldV (upd_same ..) rfl (by omega) (v := eTier t) (by rw [fset_same]; rfl) ?_; conv => whnf
    refine call1 (each_S p nets t.rate t.amount hok.1 hok.2 hl _) ?_; conv => whnf
    exact ⟨.inl (by rw [hB]; rfl), hsup _ _⟩
theorem spend_S (p : Promo) (nets : List Int) (ht : TiersOk p.tiers) (hl : nets.length ≤ 100000) (h0 : ∀ x ∈ nets, 0 ≤ x) (hs : sumI nets ≤ 10000000000000) (st : St) : S P 201 [eCut p nets] st fun v st' => v = eInts (offsS p nets) ∧ st' = st := by
  refine S.post (post := fun v st' => (v = eInts (offsS p nets) ∨ (offsS p nets = [] ∧ v = .emp)) ∧ Sup st st') ?_ (fun v st' ⟨h, hs⟩ => ⟨_, st, ⟨rfl, rfl⟩, (hs.shift _).trans (by
    rcases h with rfl | ⟨h0, rfl⟩
    · exact Shift.keep _ _
    · rw [h0]; exact shift_emp 1 _)⟩)
  have htl := ht.1
  have hsn := sumI_nonneg h0
  refine S_of_X [1] good mixed Tryz.func201 (by rfl) rfl rfl rfl ?_; conv => whnf
  refine ⟨[1, 3, 11, 12, 13], fun m vs st' => ∃ i : Nat, i ≤ nets.length ∧ m = nets.length - i ∧ vs = [.fptr (eCut p nets) 0, eI (sumI (nets.take i)), eInts nets, eI nets.length, eI i] ∧ st' = st, ?_, ?_⟩
  · conv => whnf
    exact ⟨_, 0, Nat.zero_le _, rfl, rfl, rfl⟩
  · rintro m vs st' ⟨i, hi, rfl, rfl, rfl⟩
    conv => whnf
    cases h : decide ((i : Int) < (nets.length : Int))
    · have := of_decide_eq_false h
      obtain rfl : i = nets.length := by omega
      rw [List.take_length]; conv => whnf
      refine call1 (reached_S p.tiers (sumI nets) (by omega) _) ?_; conv => whnf
      intro b hb; conv => whnf
      refine stV (upd_same ..) rfl (by omega) rfl (by rfl) ?_; conv => whnf
      have hsup : ∀ x y : Blk, Sup st' (upd (upd st' b x) b y) := fun x y => ((Sup.refl st').upd hb).over hb
      have hok := reached_ok ht (sumI nets)
      cases hr : reachedB p.tiers (sumI nets) with
      | none =>
        have hB : offsS p nets = [] := by unfold offsS; rw [hr]
        conv => whnf
        exact ⟨.inr ⟨hB, rfl⟩, hsup _ _⟩
      | some t =>
        have hB : offsS p nets = largestB (offC (sumI nets) t.rate t.amount) nets := by unfold offsS; rw [hr]
        rw [hr] at hok
        have hob : 0 ≤ offC (sumI nets) t.rate t.amount ∧ offC (sumI nets) t.rate t.amount ≤ sumI nets := offC_bound hsn hok.1
        have hW : Weights (offC (sumI nets) t.rate t.amount) nets := ⟨hob.1, by omega, hl, h0, by omega, fun e => by omega⟩
        conv => whnf
        refine ⟨[], [], [0, 1, 2, 3, 4, 5, 6, 7, 8, 9, 10, 11, 12, 13], by kernel_rfl, ?_⟩; conv => whnf
        refine ldV (upd_same ..) rfl (by omega) (v := eTier t) (by rw [fset_same]; rfl) ?_; conv => whnf
        refine ldV (upd_same ..) rfl (by omega) (v := eTier t) (by rw [fset_same]; rfl) ?_; conv => whnf
        refine ⟨_, callQ (off_S (sumI nets) t.rate t.amount hok.1 hok.2 _), ?_⟩; conv => whnf
        refine ⟨_, callQ (largest_S _ nets hW _), ?_⟩; conv => whnf
        exact ⟨.inl (by rw [hB]; rfl), hsup _ _⟩
    · have hi' : i < nets.length := by have := of_decide_eq_true h; omega
      have e1 := sumI_take hi'
      have e2 := sumI_le_take h0 (i + 1)
      have e3 := sumI_nonneg (l := nets.take i) (fun x hx => h0 x (List.take_subset _ _ hx))
      have e4 : 0 ≤ gI nets i := h0 _ (getD_mem hi')
      have w : IntKind.i64.wrap (sumI (nets.take i) + gI nets i) = sumI (nets.take (i + 1)) := by rw [e1]; exact wrap64_of (by omega) (by omega)
      conv => whnf
      refine ⟨rfl, ⟨by omega, by omega⟩, ?_⟩; conv => whnf
      refine ⟨rfl, ?_⟩; conv => whnf
      exact ⟨nets.length - (i + 1), by omega, i + 1, by omega, rfl, by rw [wrapN (by omega), ← w]; rfl, rfl⟩
def HasU (st : St) (b : Nat) (us : List AUnit) : Prop := ∃ f, st b = some ⟨136, 3, us.length, f⟩ ∧ ∀ k, k < us.length → f k = eUnit (gU us k)
theorem gU_set {us : List AUnit} {j : Nat} (hj : j < us.length) (x : AUnit) (k : Nat) : gU (us.set j x) k = if k = j then x else gU us k := by
  unfold gU
  simp only [List.getD_eq_getElem?_getD, List.getElem?_set]
  by_cases h : k = j
  · subst h; simp [hj]
  · rw [if_neg (fun e => h e.symm), if_neg h]
def close1 (us : List AUnit) (i : Nat) : List AUnit := us.set i { gU us i with opn := false }
def closeB (us : List AUnit) (mine : List Int) : List AUnit := mine.foldl (fun us i => close1 us i.toNat) us
theorem closeB_len (us : List AUnit) (mine : List Int) : (closeB us mine).length = us.length := by
  unfold closeB
  induction mine generalizing us with
  | nil => rfl
  | cons x l ih => simp only [List.foldl_cons]; rw [ih]; simp [close1]
theorem HasU.set {st' : St} {b : Nat} {us : List AUnit} {f : Nat → AV} (hf : ∀ k, k < us.length → f k = eUnit (gU us k)) {j : Nat} (hj : j < us.length) (x : AUnit) (h : st' b = some ⟨136, 3, us.length, fset f j (eUnit x)⟩) : HasU st' b (us.set j x) := by
  refine ⟨_, by rw [h, List.length_set], fun k hk => ?_⟩
  rw [List.length_set] at hk
  rw [gU_set hj]
  by_cases e : k = j
  · rw [if_pos e, e, fset_same]
  · rw [if_neg e, fset_ne e]; exact hf k hk
theorem close_S (b : Nat) (us : List AUnit) (mine : List Int) (hm : ∀ x ∈ mine, 0 ≤ x ∧ x.toNat < us.length) (hl : mine.length ≤ 1000000) (st : St) (hb : HasU st b us) :
    S P 198 [.own 3 b 0 us.length, eInts mine] st fun v st' => v = .tuple [] ∧ HasU st' b (closeB us mine) ∧ ∀ c, c ≠ b → st' c = st c := by
  refine S_of_X [] good mixed Tryz.func198 (by rfl) rfl rfl rfl ?_; conv => whnf
  refine ⟨[0, 6, 7, 8], fun m vs st' => ∃ i : Nat, i ≤ mine.length ∧ m = mine.length - i ∧ vs = [.own 3 b 0 us.length, eInts mine, eI mine.length, eI i] ∧ HasU st' b (closeB us (mine.take i)) ∧ ∀ c, c ≠ b → st' c = st c, ?_, ?_⟩
  · conv => whnf
    exact ⟨_, 0, Nat.zero_le _, rfl, rfl, hb, fun _ _ => rfl⟩
  · rintro m vs st' ⟨i, hi, rfl, rfl, ⟨f, hst, hf⟩, hfr⟩
    have hlen := closeB_len us (mine.take i)
    conv => whnf
    cases h : decide ((i : Int) < (mine.length : Int))
    · have := of_decide_eq_false h
      obtain rfl : i = mine.length := by omega
      rw [List.take_length] at hst hf; conv => whnf
      exact ⟨rfl, ⟨f, hst, hf⟩, hfr⟩
    · have hi' : i < mine.length := by have := of_decide_eq_true h; omega
      have hx : 0 ≤ gI mine i ∧ (gI mine i).toNat < us.length := hm _ (getD_mem hi')
      conv => whnf
      refine ⟨rfl, ⟨by omega, by omega⟩, ?_⟩; conv => whnf
      refine ⟨rfl, ⟨by show 0 ≤ gI mine i; exact hx.1, by show gI mine i < (us.length : Int); have := hx.2; have := hx.1; omega⟩, ?_⟩; conv => whnf
      refine stV hst rfl (by show 0 + (gI mine i).toNat < _; have := hx.2; omega) (v := eUnit (gU (closeB us (mine.take i)) (gI mine i).toNat)) (by rw [Nat.zero_add]; exact hf _ (show (gI mine i).toNat < (closeB us (mine.take i)).length by have := hx.2; omega)) (by rfl) ?_; conv => whnf
      refine ⟨rfl, ?_⟩; conv => whnf
      refine ⟨mine.length - (i + 1), by omega, i + 1, by omega, rfl, by rw [wrapN (by omega)], ?_, fun c hc => by rw [upd_ne hc]; exact hfr c hc⟩
      have e : closeB us (mine.take (i + 1)) = close1 (closeB us (mine.take i)) (gI mine i).toNat := foldl_next hi' _ _
      rw [e]
      refine HasU.set hf (by have := hx.2; omega) _ ?_
      rw [upd_same, Nat.zero_add]; rfl
theorem cloneU_S (us : List AUnit) (hl : us.length ≤ 100000) (st : St) : S P 194 [eUnits us] st fun v st' => Col 136 3 (fun k => eUnit (gU us k)) st us.length v st' := by
  refine S_of_X [] good mixed Tryz.func194 (by rfl) rfl rfl rfl ?_
  cases us with
  | nil =>
    conv => whnf
    refine ⟨?_, ?_⟩
    · conv => whnf
      exact Col.start _ _ _ _
    · conv => whnf
      refine apE rfl rfl rfl rfl rfl (by show 0 * 24 ≤ _; omega) (fun _ => ?_) (fun h => absurd h (by show ¬ 0 < 0; omega)); conv => whnf
      exact Col.start _ _ _ _
  | cons u us =>
    conv => whnf
    refine Col.apps (n := 0) (m := us.length + 1) (q := r136) (f := fun k => eUnit (gU (u :: us) k)) rfl rfl rfl rfl rfl (fun i hi => by rw [Nat.zero_add]) (by show (0 + (us.length + 1)) * 24 ≤ 140737488355328; simp only [List.length_cons] at hl; omega) (Col.start _ _ _ _) (fun sv' st'' hc' => ?_); conv => whnf
    rw [Nat.zero_add] at hc'
    exact hc'
theorem Shift.agg {a b : List AV} {st st' : St} (h : Shift a st b st') : Shift [.agg a] st [.agg b] st' := Shift.one fun w c hS hr => by
  cases hr with
  | agg cs vs hlen hg =>
    obtain ⟨h1, h2, h3⟩ := h w vs hS ⟨hlen, hg⟩
    exact ⟨h1, h3, .agg _ _ h2.1 h2.2⟩
theorem Shift.last {v v' : AV} {s t : St} (h : Shift [v] s [v'] t) : ∀ cs : List AV, Shift (cs ++ [v]) s (cs ++ [v']) t
  | [] => h
  | x :: cs => Shift.cons (Shift.keep [x] s) (Shift.last h cs)
def ResU (st : St) (us : List AUnit) (sv : AV) (st' : St) : Prop := Sup st st' ∧ ((us = [] ∧ sv = .emp) ∨ ∃ b, st b = none ∧ sv = .own 3 b 0 us.length ∧ HasU st' b us)
theorem ResU.shift {st : St} {us : List AUnit} {sv : AV} {st' : St} (h : ResU st us sv st') : Shift [sv] st' [eUnits us] st := by
  obtain ⟨hs, ⟨rfl, rfl⟩ | ⟨b, hb, rfl, f, hst, hf⟩⟩ := h
  · exact (hs.shift _).trans (shift_emp 3 _)
  · have hsup : Sup (upd st b ⟨136, 3, us.length, f⟩) st' := fun c x hc => by
      by_cases e : c = b
      · subst e; rw [upd_same] at hc; rw [hst]; exact hc
      · rw [upd_ne e] at hc; exact hs c x hc
    have h2 := shift_own (st := upd st b ⟨136, 3, us.length, f⟩) (e := 3) (b := b) (n := us.length) (f := fun k => eUnit (gU us k)) (upd_same ..) rfl (Nat.le_refl _) hf
    rw [del_upd hb] at h2
    exact (hsup.shift _).trans h2
theorem ResU.ofCol {st : St} {us : List AUnit} {sv : AV} {st' : St} (h : Col 136 3 (fun k => eUnit (gU us k)) st us.length sv st') : ResU st us sv st' := by
  rcases h with ⟨h0, rfl, rfl⟩ | ⟨h0, b, g, hb, rfl, rfl, hg⟩
  · exact ⟨Sup.refl _, .inl ⟨List.eq_nil_of_length_eq_zero h0, rfl⟩⟩
  · exact ⟨(Sup.refl st).upd hb, .inr ⟨b, hb, rfl, g, upd_same .., hg⟩⟩
def netsAt (us : List AUnit) (mine : List Int) : List Int := mine.map fun i => (gU us i.toNat).net
def offsOf (p : Promo) (nets : List Int) : List Int := if p.kind = 1 then offsP p nets else if p.kind = 2 then offsA p nets else if p.kind = 5 then offsS p nets else offsC p nets
def less1 (us : List AUnit) (i : Nat) (x : Int) : List AUnit := us.set i { gU us i with net := (gU us i).net - x }
def takeOff (us : List AUnit) (mine offs : List Int) : Nat → List AUnit
  | 0 => us
  | k + 1 => less1 (takeOff us mine offs k) (gI mine k).toNat (gI offs k)
def applyB (p : Promo) (us : List AUnit) (mine : List Int) : List AUnit × Int :=
  let offs := offsOf p (netsAt us mine)
  let us1 := takeOff us mine offs offs.length
  (if (decide (sumI offs > 0) && p.closes) = true then closeB us1 mine else us1, sumI offs)
theorem takeOff_len (us : List AUnit) (mine offs : List Int) (k : Nat) : (takeOff us mine offs k).length = us.length := by
  induction k with
  | zero => rfl
  | succ k ih => unfold takeOff less1; rw [List.length_set, ih]
theorem takeOff_net {us : List AUnit} {mine offs : List Int} (hm : MineOk us mine) : ∀ k, k ≤ mine.length → ∀ j, j < us.length → (∀ i, i < k → j ≠ (gI mine i).toNat) → gU (takeOff us mine offs k) j = gU us j
  | 0, _, j, hj, _ => rfl
  | k + 1, hk, j, hj, hne => by
    have ih := takeOff_net (offs := offs) hm k (by omega) j hj (fun i hi => hne i (by omega))
    unfold takeOff less1
    rw [gU_set (by rw [takeOff_len]; exact (hm.rng k (by omega)).2), if_neg (hne k (by omega))]
    exact ih
theorem takeOff_at {us : List AUnit} {mine offs : List Int} (hm : MineOk us mine) {k : Nat} (hk : k < mine.length) : gU (takeOff us mine offs k) (gI mine k).toNat = gU us (gI mine k).toNat :=
  takeOff_net hm k (by omega) _ (hm.rng k hk).2 fun i hi => by
    have h1 := hm.lt i k hi hk
    have h2 := (hm.rng i (by omega)).1
    omega
theorem sumI_set {l : List Int} {j : Nat} (hj : j < l.length) (x : Int) : sumI (l.set j x) = sumI l - gI l j + x := by
  have e1 : l.set j x = l.take j ++ x :: l.drop (j + 1) := List.set_eq_take_append_cons_drop (l := l) (i := j) (a := x) |>.trans (by rw [if_pos hj])
  have e2 : l = l.take j ++ gI l j :: l.drop (j + 1) := by
    have : gI l j = l[j] := by simp [gI, hj]
    rw [this, ← List.drop_eq_getElem_cons hj, List.take_append_drop]
  have c1 : ∀ (y : Int) (r : List Int), sumI (y :: r) = y + sumI r := fun y r => by
    have := sumI_append [y] r
    rw [List.singleton_append] at this
    rw [this]; simp [sumI]
  have h2 : sumI l = sumI (l.take j) + (gI l j + sumI (l.drop (j + 1))) := by
    conv => lhs; rw [e2]
    rw [sumI_append, c1]
  rw [e1, sumI_append, c1, h2]; omega
theorem bumped_sum {qs : List Int} {R : List QE} (h : ∀ e ∈ R, e.2.toNat < qs.length) : sumI (bumped qs R) = sumI qs + R.length := by
  unfold bumped
  induction R generalizing qs with
  | nil => simp
  | cons e R ih =>
    simp only [List.foldl_cons, List.length_cons]
    have he := h e (List.mem_cons_self ..)
    rw [ih (fun x hx => by rw [List.length_set]; exact h x (List.mem_cons_of_mem _ hx)), sumI_set he]
    omega
theorem largest_sum {total : Int} {ws : List Int} (h : Weights total ws) : sumI (largestB total ws) = total ∧ (largestB total ws).length = ws.length ∧ ∀ x ∈ largestB total ws, 0 ≤ x := by
  unfold largestB
  split
  · rename_i h0
    have ht := h.none h0
    refine ⟨?_, by simp, fun x hx => ?_⟩
    · rw [ht]
      have : ∀ l : List Int, sumI (l.map fun _ => (0 : Int)) = 0 := fun l => by
        induction l with
        | nil => rfl
        | cons x l ih =>
          have := sumI_append [(0 : Int)] (l.map fun _ => (0 : Int))
          rw [List.singleton_append] at this
          rw [List.map_cons, this, ih]; rfl
      exact this ws
    · obtain ⟨_, _, rfl⟩ := List.mem_map.1 hx; exact Int.le_refl _
  · rename_i h0
    have hS : 0 < sumI ws := by have := sumI_nonneg h.w0; omega
    obtain ⟨l0, l1⟩ := left_range h hS
    have hR := shR_len total (sumI ws) ws
    have hmem : ∀ e ∈ (shR total (sumI ws) ws).take (shLeft total (sumI ws) ws ws.length).toNat, e.2.toNat < ((List.range ws.length).map (shQ total (sumI ws) ws)).length := fun e he => by
      rw [List.length_map, List.length_range]; exact (shR_mem (List.take_subset _ _ he)).2
    refine ⟨?_, by rw [bumped_len]; simp, fun x hx => ?_⟩
    · rw [bumped_sum hmem, List.length_take]
      unfold shLeft at *
      omega
    · obtain ⟨k, hk, rfl⟩ := mem_getD hx
      rw [bumped_len, List.length_map, List.length_range] at hk
      have hb := (bumped_bound ((List.range ws.length).map (shQ total (sumI ws) ws)) ((shR total (sumI ws) ws).take (shLeft total (sumI ws) ws ws.length).toNat) k).1
      have hq := (shQ_bound h hS hk).1
      rw [gI_map_range _ hk] at hb
      show 0 ≤ gI _ k
      omega
theorem sum_map_le {l : List Int} {f : Int → Int} (h : ∀ x ∈ l, 0 ≤ f x ∧ f x ≤ x) : sumI (l.map f) ≤ sumI l ∧ ∀ y ∈ l.map f, 0 ≤ y := by
  have c1 : ∀ (y : Int) (r : List Int), sumI (y :: r) = y + sumI r := fun y r => by
    have := sumI_append [y] r
    rw [List.singleton_append] at this
    rw [this]; simp [sumI]
  refine ⟨?_, fun y hy => by obtain ⟨x, hx, rfl⟩ := List.mem_map.1 hy; exact (h x hx).1⟩
  induction l with
  | nil => exact Int.le_refl _
  | cons x l ih =>
    rw [List.map_cons, c1, c1]
    have := ih (fun y hy => h y (List.mem_cons_of_mem _ hy))
    have := (h x (List.mem_cons_self ..)).2
    omega
structure AskOk (p : Promo) : Prop where
  fit : PromoFit p
  right : promoC p = true
  kind : p.kind = 1 ∨ p.kind = 2 ∨ p.kind = 5 ∨ p.kind = 6
  tiers : p.kind = 5 ∨ p.kind = 6 → TiersOk p.tiers
  amount : p.kind = 2 → 0 ≤ p.amount ∧ p.amount ≤ 10000000000000
theorem offs_bound {p : Promo} (hp : AskOk p) {nets : List Int} (h0 : ∀ x ∈ nets, 0 ≤ x) (hs : sumI nets ≤ 10000000000000) (hl : nets.length ≤ 100000) :
    sumI (offsOf p nets) ≤ sumI nets ∧ (offsOf p nets).length ≤ nets.length ∧ ∀ y ∈ offsOf p nets, 0 ≤ y := by
  have hn := sumI_nonneg h0
  rcases hp.kind with e | e | e | e
  · have : offsOf p nets = offsP p nets := by unfold offsOf; rw [if_pos e]
    rw [this]
    have h := sum_map_le (l := nets) (f := fun x => offC x p.rate 0) (fun x hx => offC_bound (h0 x hx) (by omega))
    exact ⟨h.1, by simp [offsP], h.2⟩
  · have : offsOf p nets = offsA p nets := by unfold offsOf; rw [if_neg (by omega), if_pos e]
    rw [this]
    have h := sum_map_le (l := nets) (f := fun x => offC x 0 p.amount) (fun x hx => offC_bound (h0 x hx) (hp.amount e).1)
    exact ⟨h.1, by simp [offsA], h.2⟩
  · have : offsOf p nets = offsS p nets := by unfold offsOf; rw [if_neg (by omega), if_neg (by omega), if_pos e]
    rw [this]
    have hok := reached_ok (hp.tiers (.inl e)) (sumI nets)
    unfold offsS
    split
    · exact ⟨hn, by simp, fun y hy => by cases hy⟩
    · rename_i t hr
      rw [hr] at hok
      have hob : 0 ≤ offC (sumI nets) t.rate t.amount ∧ offC (sumI nets) t.rate t.amount ≤ sumI nets := offC_bound hn hok.1
      have hW : Weights (offC (sumI nets) t.rate t.amount) nets := ⟨hob.1, by omega, hl, h0, by omega, fun e => by omega⟩
      obtain ⟨a, b, c⟩ := largest_sum hW
      exact ⟨by rw [a]; exact hob.2, by omega, c⟩
  · have : offsOf p nets = offsC p nets := by unfold offsOf; rw [if_neg (by omega), if_neg (by omega), if_neg (by omega)]
    rw [this]
    have hok := reached_ok (hp.tiers (.inr e)) nets.length
    unfold offsC
    split
    · exact ⟨hn, by simp, fun y hy => by cases hy⟩
    · rename_i t hr
      rw [hr] at hok
      have h := sum_map_le (l := nets) (f := fun x => offC x t.rate t.amount) (fun x hx => offC_bound (h0 x hx) hok.1)
      exact ⟨h.1, by simp, h.2⟩
end Go.Proofs.YtfajkgonocpddaaGreat
