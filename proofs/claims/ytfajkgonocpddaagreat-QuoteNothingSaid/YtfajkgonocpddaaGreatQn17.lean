/- Part 17 of the proof: contracts of the functions that the law reaches -/
import Derived.Test.YtfajkgonocpddaaGreatQn16
set_option maxRecDepth 100000
set_option linter.unusedVariables false
set_option linter.unusedSimpArgs false
namespace Go.Proofs.YtfajkgonocpddaaGreat
open Go Go.Ab
attribute [local irreducible] upd del
abbrev Big : Nat := 9223372036854775807
def upB (lo hi x : Int) : Bool := decide (x ≥ lo) && decide (x ≤ hi)
def allAt {α : Type} [Inhabited α] (l : List α) (p : Nat → α → Bool) : Bool := (List.range l.length).all fun k => p k (l.getD k default)
theorem allAt_yes {α : Type} [Inhabited α] {l : List α} {p : Nat → α → Bool} (h : ∀ k, k < l.length → p k (l.getD k default) = true) : allAt l p = true := all_range h
theorem allAt_no {α : Type} [Inhabited α] {l : List α} {p : Nat → α → Bool} {k : Nat} (hk : k < l.length) (h : p k (l.getD k default) = false) : allAt l p = false := not_range hk h
theorem lt_next {i : Nat} {q : Nat → Prop} (h : ∀ k, k < i → q k) (hi : q i) : ∀ k, k < i + 1 → q k := fun k hk => by
  rcases Nat.lt_succ_iff_lt_or_eq.1 hk with h' | h'
  · exact h k h'
  · rw [h']; exact hi
theorem len_map {α : Type} [Inhabited α] (g : α → Str) (l : List α) (st : St) : Shift [.arr 1 l.length (fun k => eS (g (l.getD k default)))] st [eStrs (l.map g)] st := by
  have e : eStrs (l.map g) = .arr 1 l.length (fun k => eS ((l.map g).getD k default)) := by unfold eStrs arrOf; rw [List.length_map]
  rw [e]
  exact Shift.arr fun i hi => by rw [getD_map g l hi]
theorem day_S (x : Int) (st : St) : S P 184 [eI x] st fun v st' => v = .bool (upB 0 100000 x) ∧ st' = st := by
  refine S_of_X [] good mixed Tryz.func184 (by rfl) rfl rfl rfl ?_
  repeat' ((conv => whnf); first  | (refine fork (fun h => ?_) (fun h => ?_) <;> rw [h]))
  all_goals (conv => whnf)
  all_goals (refine ⟨?_, rfl⟩; show AV.bool _ = AV.bool _; congr 1)
  all_goals (simp only [upB, *, Bool.true_and, Bool.false_and, Bool.and_true, Bool.and_false, Bool.or_true, Bool.or_false, Bool.true_or, Bool.false_or, Bool.not_true, Bool.not_false, Bool.not_not]; try rfl)
theorem rrate_S (x : Int) (st : St) : S P 185 [eI x] st fun v st' => v = .bool (upB 0 10000 x) ∧ st' = st := by
  refine S_of_X [] good mixed Tryz.func185 (by rfl) rfl rfl rfl ?_
  repeat' ((conv => whnf); first  | (refine fork (fun h => ?_) (fun h => ?_) <;> rw [h]))
  all_goals (conv => whnf)
  all_goals (refine ⟨?_, rfl⟩; show AV.bool _ = AV.bool _; congr 1)
  all_goals (simp only [upB, *, Bool.true_and, Bool.false_and, Bool.and_true, Bool.and_false, Bool.or_true, Bool.or_false, Bool.true_or, Bool.false_or, Bool.not_true, Bool.not_false, Bool.not_not]; try rfl)
theorem kind_S (x : Int) (st : St) : S P 223 [eI x] st fun v st' => v = .bool (upB 1 9 x) ∧ st' = st := by
  refine S_of_X [] good mixed Tryz.func223 (by rfl) rfl rfl rfl ?_
  repeat' ((conv => whnf); first  | (refine fork (fun h => ?_) (fun h => ?_) <;> rw [h]))
  all_goals (conv => whnf)
  all_goals (refine ⟨?_, rfl⟩; show AV.bool _ = AV.bool _; congr 1)
  all_goals (simp only [upB, *, Bool.true_and, Bool.false_and, Bool.and_true, Bool.and_false, Bool.or_true, Bool.or_false, Bool.true_or, Bool.false_or, Bool.not_true, Bool.not_false, Bool.not_not]; try rfl)
def lineC (x : Line) : Bool := upB 0 100000 x.qty && upB 0 1000000000 x.price
theorem line_S (x : Line) (st : St) : S P 188 [eLine x] st fun v st' => v = .bool (lineC x) ∧ st' = st := by
  refine S_of_X [1] good mixed Tryz.func188 (by rfl) rfl rfl rfl ?_
  repeat' ((conv => whnf); first  | (refine fork (fun h => ?_) (fun h => ?_) <;> rw [h]))
  all_goals (conv => whnf)
  all_goals (refine ⟨?_, rfl⟩; show AV.bool _ = AV.bool _; congr 1)
  all_goals (simp only [lineC, upB, *, Bool.true_and, Bool.false_and, Bool.and_true, Bool.and_false, Bool.or_true, Bool.or_false, Bool.true_or, Bool.false_or, Bool.not_true, Bool.not_false, Bool.not_not]; try rfl)
def shipC (x : Ab.Ship) : Bool := upB 0 1000000000 x.fee && upB 0 10000000000000 x.free
theorem ship_S (x : Ab.Ship) (st : St) : S P 139 [eShip x] st fun v st' => v = .bool (shipC x) ∧ st' = st := by
  refine S_of_X [1] good mixed Tryz.func139 (by rfl) rfl rfl rfl ?_
  repeat' ((conv => whnf); first  | (refine fork (fun h => ?_) (fun h => ?_) <;> rw [h]))
  all_goals (conv => whnf)
  all_goals (refine ⟨?_, rfl⟩; show AV.bool _ = AV.bool _; congr 1)
  all_goals (simp only [shipC, upB, *, Bool.true_and, Bool.false_and, Bool.and_true, Bool.and_false, Bool.or_true, Bool.or_false, Bool.true_or, Bool.false_or, Bool.not_true, Bool.not_false, Bool.not_not]; try rfl)
abbrev eOne (p : Promo) : AV := .agg (cellsOf (ePromo p))
def pRate (p : Promo) : Bool := upB 1 10000 p.rate
def pAmount (p : Promo) : Bool := upB 1 1000000000 p.amount
def pBuyGet (p : Promo) : Bool := pRate p && (upB 1 100 p.buy && upB 1 100 p.get)
def partC (x : Part) : Bool := scopeB x.scope && !(decide (x.count < 1) || decide (x.count > 100))
theorem pRate_S (p : Promo) (st : St) : S P 215 [eOne p] st fun v st' => v = .bool (pRate p) ∧ st' = st := by
  refine S_of_X [1] good mixed Tryz.func215 (by rfl) rfl rfl rfl ?_
  repeat' ((conv => whnf); first  | (refine fork (fun h => ?_) (fun h => ?_) <;> rw [h]))
  all_goals (conv => whnf)
  all_goals (refine ⟨?_, rfl⟩; show AV.bool _ = AV.bool _; congr 1)
  all_goals (simp only [pRate, upB, *, Bool.true_and, Bool.false_and, Bool.and_true, Bool.and_false, Bool.or_true, Bool.or_false, Bool.true_or, Bool.false_or, Bool.not_true, Bool.not_false, Bool.not_not]; try rfl)
theorem pAmount_S (p : Promo) (st : St) : S P 216 [eOne p] st fun v st' => v = .bool (pAmount p) ∧ st' = st := by
  refine S_of_X [1] good mixed Tryz.func216 (by rfl) rfl rfl rfl ?_
  repeat' ((conv => whnf); first  | (refine fork (fun h => ?_) (fun h => ?_) <;> rw [h]))
  all_goals (conv => whnf)
  all_goals (refine ⟨?_, rfl⟩; show AV.bool _ = AV.bool _; congr 1)
  all_goals (simp only [pAmount, upB, *, Bool.true_and, Bool.false_and, Bool.and_true, Bool.and_false, Bool.or_true, Bool.or_false, Bool.true_or, Bool.false_or, Bool.not_true, Bool.not_false, Bool.not_not]; try rfl)
theorem pBuyGet_S (p : Promo) (st : St) : S P 217 [eOne p] st fun v st' => v = .bool (pBuyGet p) ∧ st' = st := by
  refine S_of_X [1] good mixed Tryz.func217 (by rfl) rfl rfl rfl ?_
  repeat' ((conv => whnf); first | refine call1 (pRate_S p st) ?_ | (refine fork (fun h => ?_) (fun h => ?_) <;> rw [h]))
  all_goals (conv => whnf)
  all_goals (refine ⟨?_, rfl⟩; show AV.bool _ = AV.bool _; congr 1)
  all_goals (simp only [pBuyGet, upB, *, Bool.true_and, Bool.false_and, Bool.and_true, Bool.and_false, Bool.or_true, Bool.or_false, Bool.true_or, Bool.false_or, Bool.not_true, Bool.not_false, Bool.not_not]; try rfl)
def isNil (s : Str) : Bool := s.toList == (⟨#[]⟩ : Str).toList
def namedC (s : Str) : Bool := isNil s || nameB s
theorem named_S (s : Str) (st : St) : S P 249 [eS s] st fun v st' => v = .bool (namedC s) ∧ st' = st := by
  refine S_of_X [] good mixed Tryz.func249 (by rfl) rfl rfl rfl ?_
  repeat' ((conv => whnf); first | refine call1 (name_S s st) ?_ | (refine fork (fun h => ?_) (fun h => ?_) <;> rw [h]))
  all_goals (conv => whnf)
  all_goals (refine ⟨?_, rfl⟩; show AV.bool _ = AV.bool _; congr 1)
  all_goals (simp only [namedC, isNil, *, Bool.true_and, Bool.false_and, Bool.and_true, Bool.and_false, Bool.or_true, Bool.or_false, Bool.true_or, Bool.false_or, Bool.not_true, Bool.not_false, Bool.not_not]; try rfl)
theorem notPart_S (x : Part) (h1 : x.scope.skus.length ≤ Big) (h2 : x.scope.cats.length ≤ Big) (st : St) : S P 247 [ePart x] st fun v st' => v = .bool (!partC x) ∧ st' = st := by
  refine S_of_X [1] good mixed Tryz.func247 (by rfl) rfl rfl rfl ?_
  repeat' ((conv => whnf); first | refine call1 (scope_S x.scope h1 h2 st) ?_ | (refine fork (fun h => ?_) (fun h => ?_) <;> rw [h]))
  all_goals (conv => whnf)
  all_goals (refine ⟨?_, rfl⟩; show AV.bool _ = AV.bool _; congr 1)
  all_goals (simp only [partC, Bool.not_eq_true', Bool.not_eq_false', *, Bool.true_and, Bool.false_and, Bool.and_true, Bool.and_false, Bool.or_true, Bool.or_false, Bool.true_or, Bool.false_or, Bool.not_true, Bool.not_false, Bool.not_not] at *; try simp only [*, Bool.true_and, Bool.false_and, Bool.not_true, Bool.not_false, Bool.true_or, Bool.false_or, Bool.not_not])
def PartsFit (l : List Part) : Prop := l.length ≤ Big ∧ ∀ x ∈ l, x.scope.skus.length ≤ Big ∧ x.scope.cats.length ≤ Big
def pBundle (p : Promo) : Bool := !(decide ((p.parts.length : Int) < 1) || decide ((p.parts.length : Int) > 3) || decide (p.amount < 0) || decide (p.amount > 10000000000000)) && !(p.parts.any fun x => !partC x)
theorem pBundle_S (p : Promo) (hp : PartsFit p.parts) (st : St) : S P 218 [eOne p] st fun v st' => v = .bool (pBundle p) ∧ st' = st := by
  refine S_of_X [1] good mixed Tryz.func218 (by rfl) rfl rfl rfl ?_
  repeat' ((conv => whnf); first | refine call1 (partsHas_S p.parts hp.1 _ [] (fun x => !partC x) st fun x hx => notPart_S x (hp.2 x hx).1 (hp.2 x hx).2 st) ?_ | (refine fork (fun h => ?_) (fun h => ?_) <;> rw [h]))
  all_goals (conv => whnf)
  all_goals (refine ⟨?_, rfl⟩; show AV.bool _ = AV.bool _; congr 1)
  all_goals (simp only [pBundle, *, Bool.true_and, Bool.false_and, Bool.and_true, Bool.and_false, Bool.or_true, Bool.or_false, Bool.true_or, Bool.false_or, Bool.not_true, Bool.not_false, Bool.not_not]; try rfl)
def tierAt (l : List Tier) (k : Nat) (x : Tier) : Bool :=
  !(decide (x.least ≤ (if k = 0 then -1 else (l.getD (k - 1) default).least)) || decide (x.least > 10000000000000) || decide (x.rate < 0) || decide (x.rate > 10000) || decide (x.amount < 0) || decide (x.amount > 10000000000000) || (x.rate == 0 && x.amount == 0))
def tiersC (l : List Tier) : Bool := !(decide ((l.length : Int) < 1) || decide ((l.length : Int) > 6)) && allAt l (tierAt l)
theorem tiers_S (p : Promo) (st : St) : S P 219 [eOne p] st fun v st' => v = .bool (tiersC p.tiers) ∧ st' = st := by
  refine S_of_X [1, 5] good mixed Tryz.func219 (by rfl) rfl rfl rfl ?_
  repeat' ((conv => whnf); first  | (refine fork (fun h => ?_) (fun h => ?_) <;> rw [h]))
  all_goals (conv => whnf)
  all_goals first
    | (refine ⟨?_, rfl⟩; show AV.bool _ = AV.bool _; congr 1; simp only [tiersC, *, Bool.true_or, Bool.or_true, Bool.not_true, Bool.false_and]; done)
    | skip
  generalize hl : p.tiers = l at *
  have hs : l.length ≤ 6 := by simp only [decide_eq_true_eq, decide_eq_false_iff_not] at *; omega
  have ht : tiersC l = allAt l (tierAt l) := by simp only [tiersC, *, Bool.or_false, Bool.not_false, Bool.true_and]
  refine ⟨[3, 20, 21, 22], fun m vs st' => ∃ i : Nat, i ≤ l.length ∧ (∀ k, k < i → tierAt l k (l.getD k default) = true) ∧ m = l.length - i ∧ vs = [eI (if i = 0 then -1 else (l.getD (i - 1) default).least), arrOf 3 eTier l, eI l.length, eI i] ∧ st' = st, ?_, ?_⟩
  · conv => whnf
    exact ⟨_, 0, Nat.zero_le _, fun k hk => absurd hk (by omega), rfl, rfl, rfl⟩
  · rintro m vs st' ⟨i, hi, hok, rfl, rfl, rfl⟩
    conv => whnf
    cases h : decide ((i : Int) < (l.length : Int))
    · have := of_decide_eq_false h
      conv => whnf
      refine ⟨?_, rfl⟩
      rw [ht, allAt_yes fun k hk => hok k (by omega)]; rfl
    · have hi' : i < l.length := by have := of_decide_eq_true h; omega
      conv => whnf
      refine ⟨rfl, ⟨by omega, by omega⟩, ?_⟩
      have yes : tierAt l i (l.getD (i : Int).toNat default) = true → ∀ k, k < i + 1 → tierAt l k (l.getD k default) = true := fun h => lt_next hok h
      have no : tierAt l i (l.getD (i : Int).toNat default) = false → tiersC l = false := fun h => by rw [ht]; exact allAt_no hi' h
      unfold tierAt at yes no
      repeat' ((conv => whnf); first  | (refine fork (fun h => ?_) (fun h => ?_) <;> rw [h]))
      all_goals (conv => whnf)
      all_goals first
        | (refine ⟨?_, rfl⟩; rw [no (by simp only [*, Bool.true_and, Bool.and_self, Bool.or_true, Bool.true_or, Bool.not_true])]; rfl)
        | (refine ⟨rfl, ?_⟩
           conv => whnf
           exact ⟨l.length - (i + 1), by omega, i + 1, by omega, yes (by simp only [*, Bool.false_and, Bool.and_false, Bool.or_false, Bool.not_false]), rfl, by rw [wrapN (by omega), if_neg (show ¬ i + 1 = 0 by omega)]; rfl, rfl⟩)
def pHead (p : Promo) : Bool := nameB p.id && upB 0 1000 p.prio && namedC p.group && namedC p.code && scopeB p.scope && upB 0 10000000000000 p.least
structure ScopeFit (s : Scope) : Prop where
  skus : s.skus.length ≤ Big
  cats : s.cats.length ≤ Big
theorem pHead_S (p : Promo) (hsc : ScopeFit p.scope) (st : St) : S P 220 [eOne p] st fun v st' => v = .bool (pHead p) ∧ st' = st := by
  refine S_of_X [1] good mixed Tryz.func220 (by rfl) rfl rfl rfl ?_
  repeat' ((conv => whnf); first | refine call1 (name_S _ st) ?_ | refine call1 (named_S _ st) ?_ | refine call1 (scope_S p.scope hsc.skus hsc.cats st) ?_ | (refine fork (fun h => ?_) (fun h => ?_) <;> rw [h]))
  all_goals (conv => whnf)
  all_goals (refine ⟨?_, rfl⟩; show AV.bool _ = AV.bool _; congr 1)
  all_goals (simp only [pHead, upB, *, Bool.true_and, Bool.false_and, Bool.and_true, Bool.and_false, Bool.or_true, Bool.or_false, Bool.true_or, Bool.false_or, Bool.not_true, Bool.not_false, Bool.not_not]; try rfl)
def pPlain (p : Promo) : Bool :=
  (((p.kind == 1) || (p.kind == 7) || (p.kind == 3)) || p.rate == 0) && ((p.kind == 2) || (p.kind == 4) || p.amount == 0) && ((p.kind == 3) || (p.buy == 0 && p.get == 0)) && ((p.kind == 4) || p.parts.length == 0) && ((p.kind == 5) || (p.kind == 6) || p.tiers.length == 0) && (((p.kind != 4) && (p.kind != 7)) || (p.scope.skus.length + p.scope.cats.length == 0)) && ((p.kind != 7) || !p.closes)
theorem nat_eq0 (n : Nat) : ((n : Int) == 0) = (n == 0) := by
  rw [Bool.eq_iff_iff, beq_iff_eq, beq_iff_eq]; omega
set_option maxHeartbeats 4000000 in
theorem pPlain_S (p : Promo) (hk : 1 ≤ p.kind ∧ p.kind ≤ 7) (hs1 : p.scope.skus.length ≤ 20) (hs2 : p.scope.cats.length ≤ 20) (st : St) : S P 221 [eOne p] st fun v st' => v = .bool (pPlain p) ∧ st' = st := by
  refine S_of_X [1] good mixed Tryz.func221 (by rfl) rfl rfl rfl ?_
  obtain ⟨id, kind, prio, group, code, closes, scope, least, rate, amount, buy, get, parts, tiers⟩ := p
  simp only at *
  have wl : IntKind.i64.wrap ((scope.skus.length : Int) + (scope.cats.length : Int)) = ((scope.skus.length + scope.cats.length : Nat) : Int) := by rw [wrap64_of (by omega) (by omega)]; omega
  rcases (by omega : kind = 1 ∨ kind = 2 ∨ kind = 3 ∨ kind = 4 ∨ kind = 5 ∨ kind = 6 ∨ kind = 7) with rfl | rfl | rfl | rfl | rfl | rfl | rfl
  all_goals repeat' ((conv => whnf); first  | (refine fork (fun h => ?_) (fun h => ?_) <;> rw [h]))
  all_goals (conv => whnf)
  all_goals (refine ⟨?_, rfl⟩; show AV.bool _ = AV.bool _; congr 1)
  all_goals (try rw [wl] at *)
  all_goals (simp only [nat_eq0] at *; simp [pPlain, *])
theorem callQ {P : Program} {f : FuncId} {args : List AV} {st : St} {v : AV} (h : S P f args st fun v' st' => v' = v ∧ st' = st) : xCall P f args st fun v' st' => v' = v ∧ st' = st := call h fun _ _ h => h
structure PromoFit (p : Promo) : Prop where
  scope : ScopeFit p.scope
  parts : PartsFit p.parts
def pKind (p : Promo) : Bool :=
  if p.kind = 1 then pRate p else if p.kind = 2 then pAmount p else if p.kind = 3 then pBuyGet p else if p.kind = 4 then pBundle p else if p.kind = 5 then tiersC p.tiers else if p.kind = 6 then tiersC p.tiers else pRate p
def promoC (p : Promo) : Bool := decide (p.kind ≥ 1) && decide (p.kind < 8) && pHead p && pPlain p && pKind p
theorem scopeB_len {s : Scope} (h : scopeB s = true) : s.skus.length ≤ 20 ∧ s.cats.length ≤ 20 := by
  simp only [scopeB, Bool.and_eq_true, decide_eq_true_eq] at h
  exact ⟨h.1.1, h.2.1⟩
theorem pHead_len {p : Promo} (h : pHead p = true) : p.scope.skus.length ≤ 20 ∧ p.scope.cats.length ≤ 20 := by
  simp only [pHead, Bool.and_eq_true] at h
  exact scopeB_len h.1.2
theorem promo_S (p : Promo) (hp : PromoFit p) (st : St) : S P 181 [ePromo p] st fun v st' => v = .bool (promoC p) ∧ st' = st := by
  refine S_of_X [1, 3, 4] good mixed Tryz.func181 (by rfl) rfl rfl rfl ?_; conv => whnf
  refine ⟨[], [], [0, 1, 2, 3, 4, 5, 6, 7, 8, 9, 10, 11, 12, 13, 14, 15, 16, 17, 18, 19, 20, 21, 22, 23, 24], by kernel_rfl, ?_⟩; conv => whnf
  refine fork (fun h1 => ?_) (fun h1 => ?_) <;> rw [h1]
  case refine_2 =>
    conv => whnf
    refine ⟨?_, rfl⟩
    simp only [promoC, h1, Bool.false_and]; rfl
  conv => whnf
  refine fork (fun h2 => ?_) (fun h2 => ?_) <;> rw [h2]
  case refine_2 =>
    conv => whnf
    refine ⟨?_, rfl⟩
    simp only [promoC, h1, h2, Bool.false_and, Bool.and_false]; rfl
  have hk : 1 ≤ p.kind ∧ p.kind ≤ 7 := by simp only [decide_eq_true_eq] at h1 h2; omega
  conv => whnf
  refine ⟨_, callQ (pHead_S p hp.scope st), ?_⟩; conv => whnf
  refine fork (fun h3 => ?_) (fun h3 => ?_)
  case refine_2 =>
    rw [h3]; conv => whnf
    refine ⟨?_, rfl⟩
    simp only [promoC, h3, Bool.false_and, Bool.and_false]; rfl
  rw [h3]
  have hl := pHead_len h3
  conv => whnf
  refine ⟨_, callQ (pPlain_S p hk hl.1 hl.2 st), ?_⟩; conv => whnf
  refine fork (fun h4 => ?_) (fun h4 => ?_)
  case refine_2 =>
    rw [h4]; conv => whnf
    refine ⟨?_, rfl⟩
    simp only [promoC, h4, Bool.false_and, Bool.and_false]; rfl
  rw [h4]
  have hspec : promoC p = pKind p := by simp only [promoC, h1, h2, h3, h4, Bool.true_and]
  rw [hspec]
  suffices hcall : ∀ f, f = (if p.kind = 1 then 215 else if p.kind = 2 then 216 else if p.kind = 3 then 217 else if p.kind = 4 then 218 else if p.kind = 5 then 219 else if p.kind = 6 then 219 else 215) → S P f [eOne p] st fun v st' => v = .bool (pKind p) ∧ st' = st by
    clear hspec h1 h2 h3 h4 hl
    generalize pKind p = B at *
    clear hp
    obtain ⟨id, kind, prio, group, code, closes, scope, least, rate, amount, buy, get, parts, tiers⟩ := p
    simp only at hk hcall
    rcases (by omega : kind = 1 ∨ kind = 2 ∨ kind = 3 ∨ kind = 4 ∨ kind = 5 ∨ kind = 6 ∨ kind = 7) with rfl | rfl | rfl | rfl | rfl | rfl | rfl
    all_goals (conv => whnf)
    all_goals (refine ⟨⟨by dsimp only; omega, by dsimp only; omega⟩, ?_⟩; conv => whnf)
    all_goals (refine ⟨_, callQ (hcall _ rfl), ?_⟩; conv => whnf)
    all_goals exact ⟨rfl, rfl⟩
  rintro f rfl
  unfold pKind
  rcases (by omega : p.kind = 1 ∨ p.kind = 2 ∨ p.kind = 3 ∨ p.kind = 4 ∨ p.kind = 5 ∨ p.kind = 6 ∨ p.kind = 7) with e | e | e | e | e | e | e <;> rw [e]
  · exact pRate_S p st
  · exact pAmount_S p st
  · exact pBuyGet_S p st
  · exact pBundle_S p hp.parts st
  · exact tiers_S p st
  · exact tiers_S p st
  · exact pRate_S p st
theorem notCode_S (s : Str) (st : St) : S P 143 [eS s] st fun v st' => v = .bool (!nameB s) ∧ st' = st := by
  refine S_of_X [] good mixed Tryz.func143 (by rfl) rfl rfl rfl ?_; conv => whnf
  refine call1 (name_S s st) ?_; conv => whnf
  exact ⟨rfl, rfl⟩
def codesC (l : List Str) : Bool := decide ((l.length : Int) ≤ 4) && riseB l && !(l.any fun s => !nameB s)
theorem codes_S (l : List Str) (hl : l.length ≤ Big) (st : St) : S P 98 [eStrs l] st fun v st' => v = .bool (codesC l) ∧ st' = st := by
  refine S_of_X [] good mixed Tryz.func98 (by rfl) rfl rfl rfl ?_
  repeat' ((conv => whnf); first | refine call1 (rise_S l hl st) ?_ | refine call1 (strsHas_S l hl _ [] (fun s => !nameB s) st fun x _ => notCode_S x st) ?_ | (refine fork (fun h => ?_) (fun h => ?_) <;> rw [h]))
  all_goals (conv => whnf)
  all_goals (refine ⟨?_, rfl⟩; show AV.bool _ = AV.bool _; congr 1)
  all_goals (simp only [codesC, *, Bool.true_and, Bool.false_and, Bool.and_true, Bool.and_false]; try rfl)
theorem sameId_S (p x : Promo) (st : St) : S P 183 [ePromo x, .fptr (ePromo p) 0] st fun v st' => v = .bool (x.id.toList == p.id.toList) ∧ st' = st := by
  refine S_of_X [2] good mixed Tryz.func183 (by rfl) rfl rfl rfl ?_; conv => whnf
  exact ⟨rfl, rfl⟩
theorem shift_take {α : Type} [Inhabited α] (e : Nat) (enc : α → AV) (l : List α) (i n : Nat) (f : Nat → AV) (hi : i ≤ l.length) (hn : n = i) (hf : ∀ k, k < i → f k = enc (l.getD k default)) (st : St) : Shift [.arr e n f] st [arrOf e enc (l.take i)] st := by
  subst hn
  have el : (l.take n).length = n := by rw [List.length_take]; omega
  have e2 : arrOf e enc (l.take n) = .arr e n (fun k => enc ((l.take n).getD k default)) := by unfold arrOf; rw [el]
  rw [e2]
  refine Shift.arr fun k hk => ?_
  rw [hf k hk]
  congr 1
  simp [List.getD_eq_getElem?_getD, List.getElem?_take_of_lt hk]
def promoAt (l : List Promo) (k : Nat) (p : Promo) : Bool := promoC p && !((l.take k).any fun x => x.id.toList == p.id.toList)
def promosC (l : List Promo) : Bool := decide ((l.length : Int) ≤ 60) && allAt l (promoAt l)
theorem promos_S (l : List Promo) (hl : l.length ≤ Big) (hf : ∀ p ∈ l, PromoFit p) (st : St) : S P 138 [arrOf 15 ePromo l] st fun v st' => v = .bool (promosC l) ∧ st' = st := by
  refine S_of_X [4] good mixed Tryz.func138 (by rfl) rfl rfl rfl ?_; conv => whnf
  refine fork (fun h => ?_) (fun h => ?_) <;> rw [h] <;> simp only [decide_eq_true_eq, decide_eq_false_iff_not] at h
  · conv => whnf
    refine ⟨?_, rfl⟩
    rw [show promosC l = false by unfold promosC; rw [decide_eq_false (by omega), Bool.false_and]]; rfl
  have ht : promosC l = allAt l (promoAt l) := by unfold promosC; rw [decide_eq_true (by omega), Bool.true_and]
  conv => whnf
  refine ⟨[0, 8, 9, 10], fun m vs st' => ∃ i : Nat, i ≤ l.length ∧ (∀ k, k < i → promoAt l k (l.getD k default) = true) ∧ m = l.length - i ∧ vs = [arrOf 15 ePromo l, arrOf 15 ePromo l, eI l.length, eI i] ∧ st' = st, ?_, ?_⟩
  · conv => whnf
    exact ⟨_, 0, Nat.zero_le _, fun k hk => absurd hk (by omega), rfl, rfl, rfl⟩
  · rintro m vs st' ⟨i, hi, hok, rfl, rfl, rfl⟩
    conv => whnf
    cases h : decide ((i : Int) < (l.length : Int))
    · have := of_decide_eq_false h
      conv => whnf
      refine ⟨?_, rfl⟩
      rw [ht, allAt_yes fun k hk => hok k (by omega)]; rfl
    · have hi' : i < l.length := by have := of_decide_eq_true h; omega
      conv => whnf
      refine ⟨rfl, ⟨by omega, by omega⟩, ?_⟩
      have yes : promoAt l i (l.getD (i : Int).toNat default) = true → ∀ k, k < i + 1 → promoAt l k (l.getD k default) = true := fun h => lt_next hok h
      have no : promoAt l i (l.getD (i : Int).toNat default) = false → promosC l = false := fun h => by rw [ht]; exact allAt_no hi' h
      have hmem : l.getD (i : Int).toNat default ∈ l := by
        rw [Int.toNat_natCast, List.getD_eq_getElem?_getD, List.getElem?_eq_getElem hi']; exact List.getElem_mem hi'
      unfold promoAt at yes no; conv => whnf
      refine call1 (promo_S (l.getD (i : Int).toNat default) (hf _ hmem) _) ?_; conv => whnf
      refine fork (fun h1 => ?_) (fun h1 => ?_)
      · rw [h1]; conv => whnf
        refine ⟨?_, rfl⟩
        rw [no (by rw [show promoC (l.getD (i : Int).toNat default) = false by simpa using h1, Bool.false_and])]; rfl
      · rw [h1]
        have h1' : promoC (l.getD (i : Int).toNat default) = true := by simpa using h1
        conv => whnf
        refine ⟨rfl, ⟨by omega, by omega, by omega⟩, ?_⟩; conv => whnf
        refine call_shift (Shift.cons (shift_take 15 ePromo l i _ _ hi (by omega) (fun k hk => by simp) _) (Shift.keep _ _)) (call1 (promosHas_S (l.take i) (by rw [List.length_take]; omega) _ [.fptr (ePromo (l.getD (i : Int).toNat default)) 0] (fun x => x.id.toList == (l.getD (i : Int).toNat default).id.toList) _ fun x _ => sameId_S _ x _) ?_); conv => whnf
        refine fork (fun h2 => ?_) (fun h2 => ?_)
        · rw [h2]; conv => whnf
          refine ⟨?_, rfl⟩
          rw [no (by rw [h2, Bool.not_true, Bool.and_false])]; rfl
        · rw [h2]; conv => whnf
          refine ⟨rfl, ?_⟩; conv => whnf
          exact ⟨l.length - (i + 1), by omega, i + 1, by omega, yes (by rw [h1', h2]; rfl), rfl, by rw [wrapN (by omega)], rfl⟩
def itemC (x : Ab.Item) : Bool := !(!nameB x.sku || !nameB x.cat || decide (x.price < 0) || decide (x.price > 1000000000))
def itemsC (l : List Ab.Item) : Bool := !decide ((l.length : Int) > 500) && (allAt l (fun _ x => itemC x) && riseB (l.map Ab.Item.sku))
theorem items_S (l : List Ab.Item) (st : St) : S P 137 [arrOf 4 eItem l] st fun v st' => v = .bool (itemsC l) ∧ st' = st := by
  refine S_sup ?_
  refine S_of_X [5] good mixed Tryz.func137 (by rfl) rfl rfl rfl ?_; conv => whnf
  refine fork (fun h => ?_) (fun h => ?_) <;> rw [h]
  · conv => whnf
    refine ⟨?_, Sup.refl _⟩
    rw [show itemsC l = false by unfold itemsC; rw [h]; rfl]; rfl
  have hs : l.length ≤ 500 := by simp only [decide_eq_false_iff_not] at h; omega
  have ht : itemsC l = (allAt l (fun _ x => itemC x) && riseB (l.map Ab.Item.sku)) := by unfold itemsC; rw [h, Bool.not_false, Bool.true_and]
  conv => whnf
  refine ⟨[3, 9, 10, 11], fun m vs st' => ∃ (i : Nat) (sv : AV), i ≤ l.length ∧ (∀ k, k < i → (fun (_ : Nat) (x : Ab.Item) => itemC x) k (l.getD k default) = true) ∧ m = l.length - i ∧ vs = [sv, arrOf 4 eItem l, eI l.length, eI i] ∧ Col 9 1 (fun k => eS (Ab.Item.sku (l.getD k default))) st i sv st', ?_, ?_⟩
  · conv => whnf
    exact ⟨_, 0, .emp, Nat.zero_le _, fun k hk => absurd hk (by omega), rfl, rfl, Col.start _ _ _ _⟩
  · rintro m vs st' ⟨i, sv, hi, hok, rfl, rfl, hc⟩
    conv => whnf
    cases h : decide ((i : Int) < (l.length : Int))
    · have := of_decide_eq_false h
      obtain rfl : i = l.length := by omega
      conv => whnf
      refine call_shift (hc.shift.trans (len_map Ab.Item.sku l st)) (call1 (rise_S (l.map Ab.Item.sku) (by rw [List.length_map]; omega) st) ?_); conv => whnf
      refine ⟨?_, Sup.refl _⟩
      rw [ht, allAt_yes fun k hk => hok k (by omega), Bool.true_and]; rfl
    · have hi' : i < l.length := by have := of_decide_eq_true h; omega
      conv => whnf
      refine ⟨rfl, ⟨by omega, by omega⟩, ?_⟩
      have yes : (fun (_ : Nat) (x : Ab.Item) => itemC x) i (l.getD (i : Int).toNat default) = true → ∀ k, k < i + 1 → (fun (_ : Nat) (x : Ab.Item) => itemC x) k (l.getD k default) = true := fun h => lt_next hok h
      have no : (fun (_ : Nat) (x : Ab.Item) => itemC x) i (l.getD (i : Int).toNat default) = false → itemsC l = false := fun h => by rw [ht, allAt_no hi' h, Bool.false_and]
      have hmem : l.getD (i : Int).toNat default ∈ l := by
        rw [Int.toNat_natCast, List.getD_eq_getElem?_getD, List.getElem?_eq_getElem hi']; exact List.getElem_mem hi'
      have hsup := hc.sup
      simp only [itemC] at yes no
      repeat' ((conv => whnf); first | refine call1 (name_S _ _) ?_ | (refine fork (fun h => ?_) (fun h => ?_) <;> rw [h]))
      all_goals (conv => whnf)
      all_goals first
        | (refine ⟨?_, hsup⟩; rw [no (by first | (simp only [*, Bool.true_and, Bool.and_self, Bool.or_true, Bool.true_or, Bool.not_true]; done) | simpa using h)]; rfl)
        | skip
      refine Col.app rfl rfl rfl rfl rfl ?_ (by show (i + 1) * 16 ≤ 140737488355328; omega) hc (fun sv' st'' hc' => ?_)
      · rfl
      conv => whnf
      refine ⟨rfl, ?_⟩; conv => whnf
      exact ⟨l.length - (i + 1), by omega, i + 1, sv', by omega, yes (by first | (simp only [*, Bool.false_and, Bool.and_false, Bool.or_false, Bool.not_false]; done) | simpa using h), rfl, by rw [wrapN (by omega)], hc'⟩
def rateC (x : CatRate) : Bool := !(!nameB x.cat || !upB 0 10000 x.rate)
def zoneC (z : Zone) : Bool := !(!nameB z.name || !upB 0 10000 z.rest || !upB 0 10000 z.ship || decide ((z.rates.length : Int) > 40)) && (allAt z.rates (fun _ x => rateC x) && riseB (z.rates.map CatRate.cat))
theorem zone_S (z : Zone) (st : St) : S P 161 [eZone z] st fun v st' => v = .bool (zoneC z) ∧ st' = st := by
  refine S_sup ?_
  refine S_of_X [1, 5] good mixed Tryz.func161 (by rfl) rfl rfl rfl ?_
  repeat' ((conv => whnf); first | refine call1 (name_S _ _) ?_ | refine call1 (rrate_S _ _) ?_ | (refine fork (fun h => ?_) (fun h => ?_) <;> rw [h]))
  all_goals (conv => whnf)
  all_goals first
    | (refine ⟨?_, Sup.refl _⟩
       rw [show zoneC z = false by unfold zoneC; simp only [*, Bool.true_or, Bool.or_true, Bool.not_true, Bool.false_and]]
       rfl)
    | skip
  have hs : z.rates.length ≤ 40 := by simp only [decide_eq_false_iff_not] at h; omega
  have ht : zoneC z = (allAt z.rates (fun _ x => rateC x) && riseB (z.rates.map CatRate.cat)) := by unfold zoneC; simp only [*, Bool.or_false, Bool.not_false, Bool.true_and]
  refine ⟨[3, 29, 30, 31], fun m vs st' => ∃ (i : Nat) (sv : AV), i ≤ z.rates.length ∧ (∀ k, k < i → (fun (_ : Nat) (x : CatRate) => rateC x) k (z.rates.getD k default) = true) ∧ m = z.rates.length - i ∧ vs = [sv, arrOf 2 eCatRate z.rates, eI z.rates.length, eI i] ∧ Col 9 1 (fun k => eS (CatRate.cat (z.rates.getD k default))) st i sv st', ?_, ?_⟩
  · conv => whnf
    exact ⟨_, 0, .emp, Nat.zero_le _, fun k hk => absurd hk (by omega), rfl, rfl, Col.start _ _ _ _⟩
  · rintro m vs st' ⟨i, sv, hi, hok, rfl, rfl, hc⟩
    conv => whnf
    cases h : decide ((i : Int) < (z.rates.length : Int))
    · have := of_decide_eq_false h
      obtain rfl : i = z.rates.length := by omega
      conv => whnf
      refine call_shift (hc.shift.trans (len_map CatRate.cat z.rates st)) (call1 (rise_S (z.rates.map CatRate.cat) (by rw [List.length_map]; omega) st) ?_); conv => whnf
      refine ⟨?_, Sup.refl _⟩
      rw [ht, allAt_yes fun k hk => hok k (by omega), Bool.true_and]; rfl
    · have hi' : i < z.rates.length := by have := of_decide_eq_true h; omega
      conv => whnf
      refine ⟨rfl, ⟨by omega, by omega⟩, ?_⟩
      have yes : (fun (_ : Nat) (x : CatRate) => rateC x) i (z.rates.getD (i : Int).toNat default) = true → ∀ k, k < i + 1 → (fun (_ : Nat) (x : CatRate) => rateC x) k (z.rates.getD k default) = true := fun h => lt_next hok h
      have no : (fun (_ : Nat) (x : CatRate) => rateC x) i (z.rates.getD (i : Int).toNat default) = false → zoneC z = false := fun h => by rw [ht, allAt_no hi' h, Bool.false_and]
      have hmem : z.rates.getD (i : Int).toNat default ∈ z.rates := by
        rw [Int.toNat_natCast, List.getD_eq_getElem?_getD, List.getElem?_eq_getElem hi']; exact List.getElem_mem hi'
      have hsup := hc.sup
      simp only [rateC] at yes no
      repeat' ((conv => whnf); first | refine call1 (name_S _ _) ?_ | refine call1 (rrate_S _ _) ?_ | (refine fork (fun h => ?_) (fun h => ?_) <;> rw [h]))
      all_goals (conv => whnf)
      all_goals first
        | (refine ⟨?_, hsup⟩; rw [no (by first | (simp only [*, Bool.true_and, Bool.and_self, Bool.or_true, Bool.true_or, Bool.not_true]; done) | simpa using h)]; rfl)
        | skip
      refine Col.app rfl rfl rfl rfl rfl ?_ (by show (i + 1) * 16 ≤ 140737488355328; omega) hc (fun sv' st'' hc' => ?_)
      · rfl
      conv => whnf
      refine ⟨rfl, ?_⟩; conv => whnf
      exact ⟨z.rates.length - (i + 1), by omega, i + 1, sv', by omega, yes (by first | (simp only [*, Bool.false_and, Bool.and_false, Bool.or_false, Bool.not_false]; done) | simpa using h), rfl, by rw [wrapN (by omega)], hc'⟩
def taxC (x : Tax) : Bool := !(decide (x.round < 0) || decide (x.round > 2) || decide ((x.zones.length : Int) > 20)) && (allAt x.zones (fun _ z => zoneC z) && riseB (x.zones.map Zone.name))
theorem tax_S (x : Tax) (st : St) : S P 112 [eTax x] st fun v st' => v = .bool (taxC x) ∧ st' = st := by
  refine S_sup ?_
  refine S_of_X [1, 5] good mixed Tryz.func112 (by rfl) rfl rfl rfl ?_
  repeat' ((conv => whnf); first  | (refine fork (fun h => ?_) (fun h => ?_) <;> rw [h]))
  all_goals (conv => whnf)
  all_goals first
    | (refine ⟨?_, Sup.refl _⟩
       rw [show taxC x = false by unfold taxC; simp only [*, Bool.true_or, Bool.or_true, Bool.not_true, Bool.false_and]]
       rfl)
    | skip
  have hs : x.zones.length ≤ 20 := by simp only [decide_eq_false_iff_not] at h; omega
  have ht : taxC x = (allAt x.zones (fun _ z => zoneC z) && riseB (x.zones.map Zone.name)) := by unfold taxC; simp only [*, Bool.or_false, Bool.not_false, Bool.true_and]
  refine ⟨[3, 21, 22, 23], fun m vs st' => ∃ (i : Nat) (sv : AV), i ≤ x.zones.length ∧ (∀ k, k < i → (fun (_ : Nat) (z : Zone) => zoneC z) k (x.zones.getD k default) = true) ∧ m = x.zones.length - i ∧ vs = [sv, arrOf 4 eZone x.zones, eI x.zones.length, eI i] ∧ Col 9 1 (fun k => eS (Zone.name (x.zones.getD k default))) st i sv st', ?_, ?_⟩
  · conv => whnf
    exact ⟨_, 0, .emp, Nat.zero_le _, fun k hk => absurd hk (by omega), rfl, rfl, Col.start _ _ _ _⟩
  · rintro m vs st' ⟨i, sv, hi, hok, rfl, rfl, hc⟩
    conv => whnf
    cases h : decide ((i : Int) < (x.zones.length : Int))
    · have := of_decide_eq_false h
      obtain rfl : i = x.zones.length := by omega
      conv => whnf
      refine call_shift (hc.shift.trans (len_map Zone.name x.zones st)) (call1 (rise_S (x.zones.map Zone.name) (by rw [List.length_map]; omega) st) ?_); conv => whnf
      refine ⟨?_, Sup.refl _⟩
      rw [ht, allAt_yes fun k hk => hok k (by omega), Bool.true_and]; rfl
    · have hi' : i < x.zones.length := by have := of_decide_eq_true h; omega
      conv => whnf
      refine ⟨rfl, ⟨by omega, by omega⟩, ?_⟩
      have yes : (fun (_ : Nat) (z : Zone) => zoneC z) i (x.zones.getD (i : Int).toNat default) = true → ∀ k, k < i + 1 → (fun (_ : Nat) (z : Zone) => zoneC z) k (x.zones.getD k default) = true := fun h => lt_next hok h
      have no : (fun (_ : Nat) (z : Zone) => zoneC z) i (x.zones.getD (i : Int).toNat default) = false → taxC x = false := fun h => by rw [ht, allAt_no hi' h, Bool.false_and]
      have hmem : x.zones.getD (i : Int).toNat default ∈ x.zones := by
        rw [Int.toNat_natCast, List.getD_eq_getElem?_getD, List.getElem?_eq_getElem hi']; exact List.getElem_mem hi'
      have hsup := hc.sup
      simp only [not_true] at yes no
      conv => whnf
      refine call1 (zone_S (x.zones.getD (i : Int).toNat default) _) ?_; conv => whnf
      refine fork (fun h => ?_) (fun h => ?_) <;> rw [h]
      all_goals (conv => whnf)
      all_goals first
        | (refine ⟨?_, hsup⟩; rw [no (by first | (simp only [*, Bool.true_and, Bool.and_self, Bool.or_true, Bool.true_or, Bool.not_true]; done) | simpa using h)]; rfl)
        | skip
      refine Col.app rfl rfl rfl rfl rfl ?_ (by show (i + 1) * 16 ≤ 140737488355328; omega) hc (fun sv' st'' hc' => ?_)
      · rfl
      conv => whnf
      refine ⟨rfl, ?_⟩; conv => whnf
      exact ⟨x.zones.length - (i + 1), by omega, i + 1, sv', by omega, yes (by first | (simp only [*, Bool.false_and, Bool.and_false, Bool.or_false, Bool.not_false]; done) | simpa using h), rfl, by rw [wrapN (by omega)], hc'⟩
def kindAt (l : List Int) (i : Nat) (k : Int) : Bool := !(!upB 1 9 k || (l.take i).any fun y => k == y)
def kindsC (l : List Int) : Bool := allAt l (kindAt l)
theorem kinds_S (l : List Int) (hl : l.length < 9223372036854775807) (st : St) : S P 186 [eInts l] st fun v st' => v = .bool (kindsC l) ∧ st' = st := by
  refine S_of_X [] good mixed Tryz.func186 (by rfl) rfl rfl rfl ?_; conv => whnf
  refine ⟨[0, 5, 6, 7], fun m vs st' => ∃ i : Nat, i ≤ l.length ∧ (∀ k, k < i → kindAt l k (l.getD k default) = true) ∧ m = l.length - i ∧ vs = [eInts l, eInts l, eI l.length, eI i] ∧ st' = st, ?_, ?_⟩
  · conv => whnf
    exact ⟨_, 0, Nat.zero_le _, fun k hk => absurd hk (by omega), rfl, rfl, rfl⟩
  · rintro m vs st' ⟨i, hi, hok, rfl, rfl, rfl⟩
    conv => whnf
    cases h : decide ((i : Int) < (l.length : Int))
    · have := of_decide_eq_false h
      conv => whnf
      refine ⟨?_, rfl⟩
      rw [show kindsC l = true from allAt_yes fun k hk => hok k (by omega)]; rfl
    · have hi' : i < l.length := by have := of_decide_eq_true h; omega
      conv => whnf
      refine ⟨rfl, ⟨by omega, by omega⟩, ?_⟩
      have yes : kindAt l i (l.getD (i : Int).toNat default) = true → ∀ k, k < i + 1 → kindAt l k (l.getD k default) = true := fun h => lt_next hok h
      have no : kindAt l i (l.getD (i : Int).toNat default) = false → kindsC l = false := fun h => allAt_no hi' h
      unfold kindAt at yes no; conv => whnf
      refine call1 (kind_S _ _) ?_; conv => whnf
      refine fork (fun h1 => ?_) (fun h1 => ?_)
      · rw [h1]; conv => whnf
        refine ⟨?_, rfl⟩
        rw [no (by rw [h1]; rfl)]; rfl
      · rw [h1]; conv => whnf
        refine ⟨rfl, ⟨by omega, by omega, by omega⟩, ?_⟩; conv => whnf
        refine call_shift (Shift.cons (shift_take 1 eI l i _ _ hi (by omega) (fun k hk => by simp) _) (Shift.keep _ _)) (call1 (intsIn_S (l.take i) (by rw [List.length_take]; omega) _ _) ?_); conv => whnf
        refine fork (fun h2 => ?_) (fun h2 => ?_)
        · rw [h2]; conv => whnf
          refine ⟨?_, rfl⟩
          rw [no (by rw [h2, Bool.or_true, Bool.not_true])]; rfl
        · rw [h2]; conv => whnf
          refine ⟨rfl, ?_⟩; conv => whnf
          exact ⟨l.length - (i + 1), by omega, i + 1, by omega, yes (by rw [h1, h2]; rfl), rfl, by rw [wrapN (by omega)], rfl⟩
def policyC (p : Policy) : Bool := upB 0 100000 p.window && upB 0 100000 p.grace && decide (p.mode ≥ 1) && decide (p.mode ≤ 3) && upB 0 10000 p.restock && kindsC p.order && kindsC p.credit
structure RulesFit (r : Rules) : Prop where
  promos : r.promos.length ≤ Big
  fit : ∀ p ∈ r.promos, PromoFit p
  order : r.policy.order.length < 9223372036854775807
  credit : r.policy.credit.length < 9223372036854775807
theorem policy_S (p : Policy) (h1 : p.order.length < 9223372036854775807) (h2 : p.credit.length < 9223372036854775807) (st : St) : S P 140 [ePolicy p] st fun v st' => v = .bool (policyC p) ∧ st' = st := by
  refine S_of_X [1] good mixed Tryz.func140 (by rfl) rfl rfl rfl ?_
  repeat' ((conv => whnf); first | refine call1 (day_S _ st) ?_ | refine call1 (rrate_S _ st) ?_ | refine call1 (kinds_S p.order h1 st) ?_ | refine call1 (kinds_S p.credit h2 st) ?_ | (refine fork (fun h => ?_) (fun h => ?_) <;> rw [h]))
  all_goals (conv => whnf)
  all_goals (refine ⟨?_, rfl⟩; show AV.bool _ = AV.bool _; congr 1)
  all_goals (simp only [policyC, *, Bool.true_and, Bool.false_and, Bool.and_true, Bool.and_false, Bool.or_true, Bool.or_false, Bool.true_or, Bool.false_or, Bool.not_true, Bool.not_false, Bool.not_not]; try rfl)
def rulesC (r : Rules) : Bool := itemsC r.items && promosC r.promos && taxC r.tax && shipC r.ship && policyC r.policy
theorem rules_S (r : Rules) (hf : RulesFit r) (st : St) : S P 97 [eRules r] st fun v st' => v = .bool (rulesC r) ∧ st' = st := by
  refine S_of_X [1] good mixed Tryz.func97 (by rfl) rfl rfl rfl ?_
  repeat' ((conv => whnf); first | refine call1 (items_S r.items st) ?_ | refine call1 (promos_S r.promos hf.promos hf.fit st) ?_ | refine call1 (tax_S r.tax st) ?_ | refine call1 (ship_S r.ship st) ?_ | refine call1 (policy_S r.policy hf.order hf.credit st) ?_ | (refine fork (fun h => ?_) (fun h => ?_) <;> rw [h]))
  all_goals (conv => whnf)
  all_goals (refine ⟨?_, rfl⟩; show AV.bool _ = AV.bool _; congr 1)
  all_goals (simp only [rulesC, *, Bool.true_and, Bool.false_and, Bool.and_true, Bool.and_false, Bool.or_true, Bool.or_false, Bool.true_or, Bool.false_or, Bool.not_true, Bool.not_false, Bool.not_not]; try rfl)
end Go.Proofs.YtfajkgonocpddaaGreat
namespace Go.Proofs.YtfajkgonocpddaaGreat
open Go Go.Ab
theorem bl_irrefl : ∀ x : List UInt8, Op.bytesLess x x = false
  | [] => rfl
  | a :: x => by simp [Op.bytesLess, bl_irrefl x, UInt8.lt_irrefl]
theorem bl_trans : ∀ x y z : List UInt8, Op.bytesLess x y = true → Op.bytesLess y z = true → Op.bytesLess x z = true
  | _, _, [], _, h => by simp [Op.bytesLess] at h
  | _, [], _ :: _, h, _ => by simp [Op.bytesLess] at h
  | [], _ :: _, _ :: _, _, _ => by simp [Op.bytesLess]
  | a :: x, b :: y, c :: z, h1, h2 => by
    simp only [Op.bytesLess, Bool.or_eq_true, Bool.and_eq_true, decide_eq_true_eq, beq_iff_eq] at *
    rcases h1 with h1 | ⟨rfl, h1⟩
    · rcases h2 with h2 | ⟨rfl, h2⟩
      · exact .inl (UInt8.lt_trans h1 h2)
      · exact .inl h1
    · rcases h2 with h2 | ⟨rfl, h2⟩
      · exact .inl h2
      · exact .inr ⟨rfl, bl_trans x y z h1 h2⟩
theorem bl_tri : ∀ x y : List UInt8, Op.bytesLess x y = false → Op.bytesLess y x = false → x = y
  | [], [], _, _ => rfl
  | [], _ :: _, h, _ => by simp [Op.bytesLess] at h
  | _ :: _, [], _, h => by simp [Op.bytesLess] at h
  | a :: x, b :: y, h1, h2 => by
    simp only [Op.bytesLess, Bool.or_eq_false_iff, Bool.and_eq_false_iff, decide_eq_false_iff_not, beq_eq_false_iff_ne] at *
    have hab : a = b := by
      have n1 := UInt8.not_lt.1 h1.1
      have n2 := UInt8.not_lt.1 h2.1
      exact UInt8.le_antisymm n2 n1
    subst hab
    rw [bl_tri x y (h1.2.resolve_left (by simp)) (h2.2.resolve_left (by simp))]
theorem slt_irrefl (a : Str) : slt a a = false := bl_irrefl _
theorem slt_trans {a b c : Str} (h1 : slt a b = true) (h2 : slt b c = true) : slt a c = true := bl_trans _ _ _ h1 h2
theorem slt_tri {a b : Str} (h1 : slt a b = false) (h2 : slt b a = false) : a.toList = b.toList := bl_tri _ _ h1 h2
theorem slt_asymm {a b : Str} (h : slt a b = true) : slt b a = false := by
  cases hb : slt b a with
  | false => rfl
  | true => have := slt_trans h hb; rw [slt_irrefl] at this; cases this
theorem sle_trans {a b c : Str} (h1 : slt b a = false) (h2 : slt c b = false) : slt c a = false := by
  cases hca : slt c a with
  | false => rfl
  | true =>
    cases hab : slt a b with
    | true => have := slt_trans hca hab; rw [this] at h2; cases h2
    | false =>
      have e := slt_tri hab h1
      have : slt c b = true := by unfold slt at *; rw [← e]; exact hca
      rw [this] at h2; cases h2
theorem slt_congr {a a' b b' : Str} (h1 : a.toList = a'.toList) (h2 : b.toList = b'.toList) : slt a b = slt a' b' := by unfold slt; rw [h1, h2]
def sortedAt (l : List Str) (k : Nat) : Bool := k == 0 || !slt (l.getD k default) (l.getD (k - 1) default)
theorem sorted_mono {l : List Str} (h : ∀ k, k < l.length → sortedAt l k = true) {a b : Nat} (hab : a ≤ b) (hb : b < l.length) : slt (l.getD b default) (l.getD a default) = false := by
  induction b with
  | zero => have : a = 0 := by omega
            subst this; exact slt_irrefl _
  | succ b ih =>
    rcases Nat.lt_or_ge a (b + 1) with hlt | hge
    · have h1 := ih (by omega) (by omega)
      have h2 := h (b + 1) hb
      simp only [sortedAt, Nat.add_one_ne_zero, beq_iff_eq, Bool.or_eq_true, Bool.not_eq_true', Nat.add_sub_cancel, false_or] at h2
      exact sle_trans h1 h2
    · have : a = b + 1 := by omega
      subst this; exact slt_irrefl _
end Go.Proofs.YtfajkgonocpddaaGreat
namespace Go.Proofs.YtfajkgonocpddaaGreat
open Go Go.Ab
attribute [local irreducible] upd del
theorem nan_S (a : Str) (st : St) : S P 136 [eS a] st fun v st' => v = .bool false ∧ st' = st := by
  refine S_of_X [] good mixed Tryz.func136 (by rfl) rfl rfl rfl ?_; conv => whnf
  refine ⟨?_, rfl⟩
  show AV.bool (!(a.toList == a.toList)) = _
  simp
def cmpS (a b : Str) : Int := if slt a b = true then -1 else if slt b a = true then 1 else 0
theorem gtr_slt (a b : Str) : (!(Op.bytesLess a.toList b.toList || a.toList == b.toList)) = slt b a := by
  cases h1 : Op.bytesLess a.toList b.toList with
  | true => rw [slt_asymm (a := a) (b := b) h1]; rfl
  | false =>
    cases h2 : slt b a with
    | true =>
      have hne : (a.toList == b.toList) = false := by
        rw [beq_eq_false_iff_ne]; intro e
        unfold slt at h2; rw [e, bl_irrefl] at h2; cases h2
      rw [hne]; rfl
    | false => rw [slt_tri (a := a) (b := b) h1 h2]; simp
theorem cmp_S (a b : Str) (st : St) : S P 93 [eS a, eS b] st fun v st' => v = eI (cmpS a b) ∧ st' = st := by
  refine S_of_X [] good mixed Tryz.func93 (by rfl) rfl rfl rfl ?_; conv => whnf
  refine call1 (nan_S _ _) ?_; conv => whnf
  refine call1 (nan_S _ _) ?_; conv => whnf
  refine fork (fun h => ?_) (fun h => ?_) <;> rw [h]
  · conv => whnf
    exact ⟨by rw [show cmpS a b = -1 from if_pos h]; rfl, rfl⟩
  · have h0 : ¬ slt a b = true := by rw [show slt a b = false from h]; simp
    conv => whnf
    refine fork (fun h2 => ?_) (fun h2 => ?_)
    · have h3 : slt b a = true := by rw [← gtr_slt a b]; exact h2
      rw [h2]; conv => whnf
      exact ⟨by rw [show cmpS a b = 1 by unfold cmpS; rw [if_neg h0, if_pos h3]]; rfl, rfl⟩
    · have h3 : ¬ slt b a = true := by rw [← gtr_slt a b, Bool.not_eq_true]; exact h2
      rw [h2]; conv => whnf
      exact ⟨by rw [show cmpS a b = 0 by unfold cmpS; rw [if_neg h0, if_neg h3]]; rfl, rfl⟩
theorem bySku_S (a b : Ab.Item) (st : St) : S P 56 [eItem a, eItem b] st fun v st' => v = eI (cmpS a.sku b.sku) ∧ st' = st := by
  refine S_of_X [2, 3] good mixed Tryz.func56 (by rfl) rfl rfl rfl ?_; conv => whnf
  refine call1 (cmp_S _ _ _) ?_; conv => whnf
  exact ⟨rfl, rfl⟩
theorem cmpS_neg (a b : Str) : decide (cmpS a b < 0) = slt a b := by
  unfold cmpS
  split
  · rename_i h; rw [h]; rfl
  · rename_i h
    rw [Bool.not_eq_true] at h
    rw [h]; split <;> rfl
theorem cmpS_zero (a b : Str) : (cmpS a b == 0) = (a.toList == b.toList) := by
  unfold cmpS
  split
  · rename_i h
    have : (a.toList == b.toList) = false := by
      rw [beq_eq_false_iff_ne]; intro e
      unfold slt at h; rw [e, bl_irrefl] at h; cases h
    rw [this]; rfl
  · split
    · rename_i h1 h
      have : (a.toList == b.toList) = false := by
        rw [beq_eq_false_iff_ne]; intro e
        unfold slt at h; rw [e, bl_irrefl] at h; cases h
      rw [this]; rfl
    · rename_i h1 h2
      rw [Bool.not_eq_true] at h1 h2
      rw [slt_tri h1 h2]; simp
abbrev skus (l : List Ab.Item) : List Str := l.map Ab.Item.sku
theorem sku_at (l : List Ab.Item) {k : Nat} (hk : k < l.length) : (skus l).getD k default = (l.getD k default).sku := getD_map Ab.Item.sku l hk
def sortedB (l : List Str) : Bool := (List.range l.length).all (sortedAt l)
theorem sorted_S (l : List Ab.Item) (hl : l.length < 9223372036854775807) (st : St) : S P 55 [arrOf 4 eItem l, .fn (.func 56) [] []] st fun v st' => v = .bool (sortedB (skus l)) ∧ st' = st := by
  refine S_of_X [] good mixed Tryz.func55 (by rfl) rfl rfl rfl ?_; conv => whnf
  have hlen : (skus l).length = l.length := List.length_map ..
  refine ⟨[0, 1, 5], fun m vs st' => ∃ i : Int, -1 ≤ i ∧ i < l.length ∧ (∀ k : Nat, i < k → k < l.length → sortedAt (skus l) k = true) ∧ m = (i + 1).toNat ∧ vs = [arrOf 4 eItem l, .fn (.func 56) [] [], eI i] ∧ st' = st, ?_, ?_⟩
  · conv => whnf
    have w : IntKind.i64.wrap ((l.length : Int) - 1) = (l.length : Int) - 1 := wrap64_of (by omega) (by omega)
    exact ⟨_, (l.length : Int) - 1, by omega, by omega, fun k h1 h2 => by omega, rfl, by rw [w], rfl⟩
  · rintro m vs st' ⟨i, h0, hi, hok, rfl, rfl, rfl⟩
    conv => whnf
    cases h : decide (i > 0)
    · have := of_decide_eq_false h
      conv => whnf
      refine ⟨?_, rfl⟩
      rw [show sortedB (skus l) = true from all_range' fun k hk => ?_]; rfl
      rw [hlen] at hk
      rcases Nat.eq_zero_or_pos k with e | e
      · subst e; rfl
      · exact hok k (by omega) hk
    · have hp := of_decide_eq_true h
      have w : IntKind.i64.wrap (i - 1) = i - 1 := wrap64_of (by omega) (by omega)
      conv => whnf
      refine ⟨[], [], [0, 1, 2, 3, 4, 5, 6, 7, 8, 9, 10, 11], by kernel_rfl, ?_⟩; conv => whnf
      refine ⟨rfl, ⟨by omega, by omega⟩, ?_⟩; conv => whnf
      rw [w]
      refine ⟨rfl, ⟨by omega, by omega⟩, ?_⟩; conv => whnf
      refine ⟨_, callQ (bySku_S (l.getD i.toNat default) (l.getD (i - 1).toNat default) _), ?_⟩; conv => whnf
      rw [cmpS_neg]
      have e : sortedAt (skus l) i.toNat = !slt (l.getD i.toNat default).sku (l.getD (i - 1).toNat default).sku := by
        unfold sortedAt
        rw [beq_false_of_ne (by omega), Bool.false_or, sku_at l (by omega), sku_at l (by omega), show i.toNat - 1 = (i - 1).toNat by omega]
      refine fork (fun h2 => ?_) (fun h2 => ?_)
      · rw [h2] at e ⊢; conv => whnf
        refine ⟨?_, rfl⟩
        rw [show sortedB (skus l) = false from not_range (k := i.toNat) (by omega) e]; rfl
      · rw [h2] at e ⊢; conv => whnf
        refine ⟨rfl, ?_⟩; conv => whnf
        exact ⟨i.toNat, by omega, i - 1, by omega, by omega, fun k h1 h2 => by
          rcases (by omega : k = i.toNat ∨ i < k) with e' | e'
          · rw [e']; exact e
          · exact hok k e' h2, by omega, by rw [w], rfl⟩
theorem find1_S (s : Str) (x : Ab.Item) (st : St) : S P 58 [eItem x, .fptr (eS s) 0] st fun v st' => v = .bool (x.sku.toList == s.toList) ∧ st' = st := by
  refine S_of_X [2] good mixed Tryz.func58 (by rfl) rfl rfl rfl ?_; conv => whnf
  exact ⟨rfl, rfl⟩
abbrev findB (l : List Ab.Item) (s : Str) : Int := idx (fun x => x.sku.toList == s.toList) l
theorem half_le {i j : Int} (hi : 0 ≤ i) (hij : i < j) (hj : j ≤ 4611686018427387904) : IntKind.i64.wrap ((IntKind.u64.wrap (IntKind.i64.wrap (i + j))).fdiv (2 ^ (min (1 : Int).toNat IntKind.u64.bits))) = (i + j) / 2 := by
  rw [wrap64_of (x := i + j) (by omega) (by omega), wrapU_of (x := i + j) (by omega) (by omega)]
  rw [show (min (1 : Int).toNat IntKind.u64.bits) = 1 from rfl, Int.fdiv_eq_ediv_of_nonneg _ (by decide)]
  rw [show ((2 : Int) ^ 1) = 2 from rfl, wrap64_of (x := (i + j) / 2) (by omega) (by omega)]
theorem search_S (l : List Ab.Item) (x : Ab.Item) (hl : l.length ≤ 4611686018427387904) (hs : sortedB (skus l) = true) (st : St) :
    S P 59 [arrOf 4 eItem l, eItem x, .fn (.func 56) [] []] st fun v st' => (∃ (i : Nat) (b : Bool), v = .tuple [eI i, .bool b] ∧ (if b = true then findB l x.sku = i else findB l x.sku = -1)) ∧ st' = st := by
  refine S_of_X [4] good mixed Tryz.func59 (by rfl) rfl rfl rfl ?_; conv => whnf
  have hlen : (skus l).length = l.length := List.length_map ..
  have hmono : ∀ a b : Nat, a ≤ b → b < l.length → slt (l.getD b default).sku (l.getD a default).sku = false := fun a b hab hb => by
    have := sorted_mono (l := skus l) (fun k hk => List.all_eq_true.1 hs k (List.mem_range.2 hk)) hab (by omega)
    rwa [sku_at l hb, sku_at l (by omega)] at this
  refine ⟨[0, 2, 4, 8, 9, 10], fun m vs st' => ∃ i j : Nat, i ≤ j ∧ j ≤ l.length ∧ (∀ k, k < i → slt (l.getD k default).sku x.sku = true) ∧ (∀ k, j ≤ k → k < l.length → slt (l.getD k default).sku x.sku = false) ∧ m = j - i ∧
    vs = [arrOf 4 eItem l, .fn (.func 56) [] [], .fptr (eItem x) 0, eI l.length, eI i, eI j] ∧ st' = st, ?_, ?_⟩
  · conv => whnf
    exact ⟨_, 0, l.length, Nat.zero_le _, Nat.le_refl _, fun k hk => absurd hk (by omega), fun k h1 h2 => absurd h1 (by omega), rfl, rfl, rfl⟩
  · rintro m vs st' ⟨i, j, hij, hj, hlo, hhi, rfl, rfl, rfl⟩
    conv => whnf
    cases h : decide ((i : Int) < (j : Int))
    · have := of_decide_eq_false h
      obtain rfl : i = j := by omega
      conv => whnf
      refine ⟨[], [], [0, 1, 2, 3, 4, 5, 6, 7, 8, 9, 10, 11, 12, 13, 14, 15], by kernel_rfl, ?_⟩; conv => whnf
      have hne : ∀ k, k < i → ((l.getD k default).sku.toList == x.sku.toList) = false := fun k hk => by
        rw [beq_eq_false_iff_ne]; intro e
        have := hlo k hk
        unfold slt at this; rw [e, bl_irrefl] at this; cases this
      refine fork (fun h1 => ?_) (fun h1 => ?_) <;> rw [h1] <;> simp only [decide_eq_true_eq, decide_eq_false_iff_not] at h1
      · conv => whnf
        refine ⟨rfl, ⟨by omega, by omega⟩, ?_⟩; conv => whnf
        refine ⟨_, callQ (bySku_S (l.getD (i : Int).toNat default) x _), ?_⟩; conv => whnf
        rw [cmpS_zero]
        refine ⟨⟨i, (l.getD (i : Int).toNat default).sku.toList == x.sku.toList, rfl, ?_⟩, rfl⟩
        split
        · rename_i he
          exact idx_at (by omega) hne he
        · rename_i he
          rw [Bool.not_eq_true] at he
          have hlt : slt (l.getD i default).sku x.sku = false := hhi i (Nat.le_refl _) (by omega)
          refine idx_none fun k hk => ?_
          rcases Nat.lt_or_ge k i with hki | hki
          · exact hne k hki
          · rw [beq_eq_false_iff_ne]; intro e
            have h3 := hmono i k hki hk
            rw [beq_eq_false_iff_ne] at he
            refine he (slt_tri hlt ?_)
            rw [← slt_congr (a := (l.getD k default).sku) e rfl]; exact h3
      · conv => whnf
        refine ⟨⟨i, false, rfl, ?_⟩, rfl⟩
        rw [if_neg (by simp)]
        exact idx_none fun k hk => hne k (by omega)
    · have hlt := of_decide_eq_true h
      conv => whnf
      rw [half_le (i := i) (j := j) (by omega) (by omega) (by omega)]
      have eh : ((i : Int) + (j : Int)) / 2 = (((i + j) / 2 : Nat) : Int) := by omega
      rw [eh]
      generalize hh : (i + j) / 2 = mid at *
      refine ⟨[], [], [0, 1, 2, 3, 4, 5, 6, 7], by kernel_rfl, ?_⟩; conv => whnf
      refine ⟨rfl, ⟨by omega, by omega⟩, ?_⟩; conv => whnf
      refine ⟨_, callQ (bySku_S (l.getD (mid : Int).toNat default) x _), ?_⟩; conv => whnf
      rw [cmpS_neg]
      refine fork (fun h1 => ?_) (fun h1 => ?_)
      · have h1' : slt (l.getD mid default).sku x.sku = true := h1
        rw [h1]; conv => whnf
        refine ⟨rfl, ?_⟩; conv => whnf
        refine ⟨j - (mid + 1), by omega, mid + 1, j, by omega, hj, fun k hk => ?_, hhi, rfl, by rw [wrapN (by omega)], rfl⟩
        cases hk2 : slt (l.getD k default).sku x.sku with
        | true => rfl
        | false =>
          have h3 := hmono k mid (by omega) (by omega)
          have := sle_trans hk2 (show slt (l.getD mid default).sku (l.getD k default).sku = false from h3)
          rw [h1'] at this
          cases this
      · have h1' : slt (l.getD mid default).sku x.sku = false := h1
        rw [h1]; conv => whnf
        refine ⟨rfl, ?_⟩; conv => whnf
        refine ⟨mid - i, by omega, i, mid, by omega, by omega, hlo, fun k h2 h3 => ?_, rfl, rfl, rfl⟩
        exact sle_trans (b := (l.getD mid default).sku) (by exact h1') (hmono mid k h2 h3)
theorem find_S (l : List Ab.Item) (s : Str) (hl : l.length ≤ 4611686018427387904) (st : St) : S P 33 [arrOf 4 eItem l, eS s] st fun v st' => v = eI (findB l s) ∧ st' = st := by
  refine S_of_X [3, 5] good mixed Tryz.func33 (by rfl) rfl rfl rfl ?_; conv => whnf
  refine call1 (sorted_S l (by omega) _) ?_; conv => whnf
  refine fork (fun h => ?_) (fun h => ?_)
  · rw [h]; conv => whnf
    refine call1 (itemsIndex_S l (by omega) _ [.fptr (eS s) 0] (fun x => x.sku.toList == s.toList) _ fun x _ => find1_S s x _) ?_; conv => whnf
    exact ⟨rfl, rfl⟩
  · rw [h]
    have hs : sortedB (skus l) = true := by simpa using h
    conv => whnf
    refine call (search_S l ⟨s, ⟨#[]⟩, 0, false⟩ hl hs _) (fun v st' hv => ?_)
    obtain ⟨⟨i, b, rfl, hb⟩, rfl⟩ := hv
    conv => whnf
    cases b with
    | true =>
      conv => whnf
      rw [if_pos rfl] at hb
      exact ⟨by rw [show findB l s = i from hb]; rfl, rfl⟩
    | false =>
      conv => whnf
      rw [if_neg (by simp)] at hb
      exact ⟨by rw [show findB l s = -1 from hb]; rfl, rfl⟩
def unitsN (l : List Line) : Int := l.foldl (fun s x => s + x.qty) 0
def grossN (l : List Line) : Int := l.foldl (fun s x => s + x.qty * x.price) 0
theorem lineC_iff (x : Line) : lineC x = true ↔ (0 ≤ x.qty ∧ x.qty ≤ 100000) ∧ (0 ≤ x.price ∧ x.price ≤ 1000000000) := by
  simp [lineC, upB]
theorem line_mul {x : Line} (h : lineC x = true) : 0 ≤ x.qty * x.price ∧ x.qty * x.price ≤ 100000000000000 := by
  obtain ⟨⟨a, b⟩, c, d⟩ := (lineC_iff x).1 h
  exact ⟨Int.mul_nonneg a c, Int.mul_le_mul b d c (by omega)⟩
theorem sums_S (l : List Line) (hl : l.length ≤ 1000) (hok : ∀ x ∈ l, lineC x = true) (st : St) : S P 189 [arrOf 3 eLine l] st fun v st' => v = .tuple [eI (unitsN l), eI (grossN l)] ∧ st' = st := by
  refine S_of_X [7] good mixed Tryz.func189 (by rfl) rfl rfl rfl ?_; conv => whnf
  refine ⟨[4, 5, 8, 9, 10], fun m vs st' => ∃ i : Nat, i ≤ l.length ∧ (0 ≤ unitsN (l.take i) ∧ unitsN (l.take i) ≤ i * 100000) ∧ (0 ≤ grossN (l.take i) ∧ grossN (l.take i) ≤ i * 100000000000000) ∧ m = l.length - i ∧ vs = [eI (unitsN (l.take i)), eI (grossN (l.take i)), arrOf 3 eLine l, eI l.length, eI i] ∧ st' = st, ?_, ?_⟩
  · conv => whnf
    exact ⟨_, 0, Nat.zero_le _, ⟨Int.le_refl _, by simp [unitsN]⟩, ⟨Int.le_refl _, by simp [grossN]⟩, rfl, rfl, rfl⟩
  · rintro m vs st' ⟨i, hi, hu, hg, rfl, rfl, rfl⟩
    conv => whnf
    cases h : decide ((i : Int) < (l.length : Int))
    · have := of_decide_eq_false h
      obtain rfl : i = l.length := by omega
      conv => whnf
      refine ⟨?_, rfl⟩
      rw [List.take_length]; rfl
    · have hi' : i < l.length := by have := of_decide_eq_true h; omega
      have hmem : l.getD (i : Int).toNat default ∈ l := by
        rw [Int.toNat_natCast, List.getD_eq_getElem?_getD, List.getElem?_eq_getElem hi']; exact List.getElem_mem hi'
      have hx := hok _ hmem
      obtain ⟨⟨q0, q1⟩, _⟩ := (lineC_iff _).1 hx
      obtain ⟨m0, m1⟩ := line_mul hx
      have eu : unitsN (l.take (i + 1)) = unitsN (l.take i) + (l.getD (i : Int).toNat default).qty := foldl_next hi' _ _
      have eg : grossN (l.take (i + 1)) = grossN (l.take i) + (l.getD (i : Int).toNat default).qty * (l.getD (i : Int).toNat default).price := foldl_next hi' _ _
      have w1 : IntKind.i64.wrap (unitsN (l.take i) + (l.getD (i : Int).toNat default).qty) = unitsN (l.take (i + 1)) := by rw [eu]; exact wrap64_of (by omega) (by omega)
      have w2 : IntKind.i64.wrap ((l.getD (i : Int).toNat default).qty * (l.getD (i : Int).toNat default).price) = (l.getD (i : Int).toNat default).qty * (l.getD (i : Int).toNat default).price := wrap64_of (by omega) (by omega)
      have w3 : IntKind.i64.wrap (grossN (l.take i) + (l.getD (i : Int).toNat default).qty * (l.getD (i : Int).toNat default).price) = grossN (l.take (i + 1)) := by rw [eg]; exact wrap64_of (by omega) (by omega)
      conv => whnf
      refine ⟨rfl, ⟨by omega, by omega⟩, ?_⟩; conv => whnf
      refine ⟨rfl, ?_⟩; conv => whnf
      refine ⟨l.length - (i + 1), by omega, i + 1, by omega, ?_, ?_, rfl, ?_, rfl⟩
      · rw [eu]; omega
      · rw [eg]; omega
      · rw [wrapN (by omega), ← w1, ← w3, w2]
def badLine (kn : Str → Bool) (x : Line) : Bool := !(kn x.sku && lineC x)
def checkE (kn : Str → Bool) (l : List Line) : Int :=
  if l.length > 1000 then 6 else match l.find? (badLine kn) with
    | some x => if kn x.sku = true then 2 else 7
    | none => if (decide (unitsN l > 100000) || decide (grossN l > 10000000000000)) = true then 5 else 0
theorem find_some {α : Type} [Inhabited α] {p : α → Bool} {l : List α} {i : Nat} (hi : i < l.length) (h : ∀ k, k < i → p (l.getD k default) = false) (hp : p (l.getD i default) = true) : l.find? p = some (l.getD i default) := by
  induction l generalizing i with
  | nil => simp at hi
  | cons a l ih =>
    cases i with
    | zero => simp only [List.getD_cons_zero] at hp ⊢; rw [List.find?_cons_of_pos hp]
    | succ i =>
      have h0 := h 0 (by omega)
      simp only [List.getD_cons_zero] at h0
      rw [List.find?_cons_of_neg (by simp [h0])]
      simp only [List.getD_cons_succ] at hp ⊢
      exact ih (by simpa using hi) (fun k hk => by simpa using h (k + 1) (by omega)) hp
theorem find_none {α : Type} [Inhabited α] {p : α → Bool} {l : List α} (h : ∀ k, k < l.length → p (l.getD k default) = false) : l.find? p = none := by
  rw [List.find?_eq_none]
  intro x hx
  obtain ⟨i, hi, rfl⟩ := List.getElem_of_mem hx
  have := h i hi
  simpa [hi] using this
theorem getD_mem {α : Type} [Inhabited α] {l : List α} {i : Nat} (hi : i < l.length) : l.getD i default ∈ l := by
  rw [List.getD_eq_getElem?_getD, List.getElem?_eq_getElem hi]; exact List.getElem_mem hi
theorem mem_getD {α : Type} [Inhabited α] {l : List α} {x : α} (h : x ∈ l) : ∃ i, i < l.length ∧ x = l.getD i default := by
  obtain ⟨i, hi, rfl⟩ := List.getElem_of_mem h
  exact ⟨i, hi, by simp [hi]⟩
theorem check_S (l : List Line) (kn : Str → Bool) (g : FuncId) (cs : List AV) (st : St) (hg : ∀ x ∈ l, S P g (eS x.sku :: cs) st fun v st' => v = .bool (kn x.sku) ∧ st' = st) :
    S P 145 [arrOf 3 eLine l, .fn (.func g) [] cs] st fun v st' => v = eI (checkE kn l) ∧ st' = st := by
  refine S_of_X [6] good mixed Tryz.func145 (by rfl) rfl rfl rfl ?_; conv => whnf
  refine fork (fun h => ?_) (fun h => ?_) <;> rw [h] <;> simp only [decide_eq_true_eq, decide_eq_false_iff_not] at h
  · conv => whnf
    exact ⟨by rw [show checkE kn l = 6 from if_pos (by omega)]; rfl, rfl⟩
  have hs : l.length ≤ 1000 := by omega
  have hc : checkE kn l = match l.find? (badLine kn) with
    | some x => if kn x.sku = true then 2 else 7
    | none => if (decide (unitsN l > 100000) || decide (grossN l > 10000000000000)) = true then 5 else 0 := if_neg (by omega)
  conv => whnf
  refine ⟨[0, 1, 12, 13, 14], fun m vs st' => ∃ i : Nat, i ≤ l.length ∧ (∀ k, k < i → badLine kn (l.getD k default) = false) ∧ m = l.length - i ∧ vs = [arrOf 3 eLine l, .fn (.func g) [] cs, arrOf 3 eLine l, eI l.length, eI i] ∧ st' = st, ?_, ?_⟩
  · conv => whnf
    exact ⟨_, 0, Nat.zero_le _, fun k hk => absurd hk (by omega), rfl, rfl, rfl⟩
  · rintro m vs st' ⟨i, hi, hok, rfl, rfl, rfl⟩
    conv => whnf
    cases h : decide ((i : Int) < (l.length : Int))
    · have := of_decide_eq_false h
      rw [find_none fun k hk => hok k (by omega)] at hc
      have hall : ∀ x ∈ l, lineC x = true := fun x hx => by
        obtain ⟨k, hk, rfl⟩ := mem_getD hx
        have := hok k (by omega)
        simp only [badLine, Bool.not_eq_false', Bool.and_eq_true] at this
        exact this.2
      conv => whnf
      refine call1 (sums_S l hs hall _) ?_; conv => whnf
      refine fork (fun h1 => ?_) (fun h1 => ?_)
      · rw [h1] at hc ⊢; conv => whnf
        exact ⟨by rw [hc]; rfl, rfl⟩
      · rw [h1] at hc ⊢; conv => whnf
        refine fork (fun h2 => ?_) (fun h2 => ?_)
        · rw [h2] at hc ⊢; conv => whnf
          exact ⟨by rw [hc]; rfl, rfl⟩
        · rw [h2] at hc ⊢; conv => whnf
          exact ⟨by rw [hc]; rfl, rfl⟩
    · have hi' : i < l.length := by have := of_decide_eq_true h; omega
      have hmem : l.getD (i : Int).toNat default ∈ l := getD_mem hi'
      conv => whnf
      refine ⟨rfl, ⟨by omega, by omega⟩, ?_⟩; conv => whnf
      refine call1 (hg _ hmem) ?_; conv => whnf
      refine fork (fun h1 => ?_) (fun h1 => ?_)
      · have hk : kn (l.getD (i : Int).toNat default).sku = false := by simpa using h1
        rw [h1]; conv => whnf
        rw [find_some hi' hok (by show badLine kn (l.getD (i : Int).toNat default) = true; unfold badLine; rw [hk]; rfl)] at hc
        simp only at hc
        rw [if_neg (by rw [show kn (l.getD i default).sku = false from hk]; simp)] at hc
        exact ⟨by rw [hc]; rfl, rfl⟩
      · have hk : kn (l.getD (i : Int).toNat default).sku = true := by simpa using h1
        rw [h1]; conv => whnf
        refine call1 (line_S (l.getD (i : Int).toNat default) _) ?_; conv => whnf
        refine fork (fun h2 => ?_) (fun h2 => ?_)
        · have hl : lineC (l.getD (i : Int).toNat default) = false := by simpa using h2
          rw [h2]; conv => whnf
          rw [find_some hi' hok (by show badLine kn (l.getD (i : Int).toNat default) = true; unfold badLine; rw [hl, Bool.and_false]; rfl)] at hc
          simp only at hc
          rw [if_pos (show kn (l.getD i default).sku = true from hk)] at hc
          exact ⟨by rw [hc]; rfl, rfl⟩
        · have hl : lineC (l.getD (i : Int).toNat default) = true := by simpa using h2
          rw [h2]; conv => whnf
          refine ⟨rfl, ?_⟩; conv => whnf
          exact ⟨l.length - (i + 1), by omega, i + 1, by omega, lt_next hok (by show badLine kn (l.getD (i : Int).toNat default) = false; unfold badLine; rw [hk, hl]; rfl), rfl, by rw [wrapN (by omega)], rfl⟩
theorem anySku_S (s : Str) (st : St) : S P 147 [eS s] st fun v st' => v = .bool true ∧ st' = st := by
  refine S_of_X [] good mixed Tryz.func147 (by rfl) rfl rfl rfl ?_; conv => whnf
  exact ⟨rfl, rfl⟩
theorem may_S (l : List Line) (st : St) : S P 100 [arrOf 3 eLine l] st fun v st' => v = .bool (checkE (fun _ => true) l == 0) ∧ st' = st := by
  refine S_of_X [] good mixed Tryz.func100 (by rfl) rfl rfl rfl ?_; conv => whnf
  refine call1 (check_S l (fun _ => true) _ [] _ fun x _ => anySku_S x.sku _) ?_; conv => whnf
  exact ⟨rfl, rfl⟩
theorem known_S (items : List Ab.Item) (hl : items.length ≤ 4611686018427387904) (s : Str) (st : St) : S P 146 [eS s, .fptr (arrOf 4 eItem items) 0] st fun v st' => v = .bool (decide (findB items s ≥ 0)) ∧ st' = st := by
  refine S_of_X [] good mixed Tryz.func146 (by rfl) rfl rfl rfl ?_; conv => whnf
  refine call1 (find_S items s hl _) ?_; conv => whnf
  exact ⟨rfl, rfl⟩
def known (items : List Ab.Item) (s : Str) : Bool := decide (findB items s ≥ 0)
theorem Check_S (items : List Ab.Item) (l : List Line) (hl : items.length ≤ 4611686018427387904) (st : St) : S P 99 [arrOf 4 eItem items, arrOf 3 eLine l] st fun v st' => v = eI (checkE (known items) l) ∧ st' = st := by
  refine S_of_X [2] good mixed Tryz.func99 (by rfl) rfl rfl rfl ?_; conv => whnf
  refine call1 (check_S l (known items) _ [.fptr (arrOf 4 eItem items) 0] _ fun x _ => known_S items hl x.sku _) ?_; conv => whnf
  exact ⟨rfl, rfl⟩
def itemsOf (items : List Ab.Item) (l : List Line) : List Ab.Item := l.map fun x => items.getD (findB items x.sku).toNat default
theorem itemsOf_S (items : List Ab.Item) (l : List Line) (hi : items.length ≤ 4611686018427387904) (hl : l.length ≤ 1000) (hk : ∀ x ∈ l, known items x.sku = true) (st : St) : S P 45 [arrOf 4 eItem items, arrOf 3 eLine l] st fun v st' => v = arrOf 4 eItem (itemsOf items l) ∧ st' = st := by
  have he : arrOf 4 eItem (itemsOf items l) = .arr 4 l.length (fun k => eItem ((itemsOf items l).getD k default)) := by unfold arrOf; rw [show (itemsOf items l).length = l.length from List.length_map ..]
  rw [he]
  refine S_col (ty := 75) ?_
  refine S_of_X [7] good mixed Tryz.func45 (by rfl) rfl rfl rfl ?_; conv => whnf
  refine ⟨[0, 5, 9, 10, 11], fun m vs st' => ∃ (i : Nat) (sv : AV), i ≤ l.length ∧ m = l.length - i ∧ vs = [arrOf 4 eItem items, sv, arrOf 3 eLine l, eI l.length, eI i] ∧ Col 75 4 (fun k => eItem ((itemsOf items l).getD k default)) st i sv st', ?_, ?_⟩
  · conv => whnf
    exact ⟨_, 0, .emp, Nat.zero_le _, rfl, rfl, Col.start _ _ _ _⟩
  · rintro m vs st' ⟨i, sv, hi, rfl, rfl, hc⟩
    conv => whnf
    cases h : decide ((i : Int) < (l.length : Int))
    · have := of_decide_eq_false h
      obtain rfl : i = l.length := by omega
      conv => whnf
      exact hc
    · have hi' : i < l.length := by have := of_decide_eq_true h; omega
      have hmem : l.getD (i : Int).toNat default ∈ l := getD_mem hi'
      have hkn := hk _ hmem
      simp only [known, decide_eq_true_eq] at hkn
      have hlt := (idx_lt (fun x : Ab.Item => x.sku.toList == (l.getD (i : Int).toNat default).sku.toList) items).2
      conv => whnf
      refine ⟨rfl, ⟨by omega, by omega⟩, ?_⟩; conv => whnf
      refine call1 (find_S items (l.getD (i : Int).toNat default).sku (by omega) _) ?_; conv => whnf
      refine fork (fun h1 => ?_) (fun h1 => ?_)
      · exact absurd (of_decide_eq_true h1) (by omega)
      · rw [h1]; conv => whnf
        refine ⟨rfl, ⟨by omega, by omega⟩, ?_⟩; conv => whnf
        refine Col.app rfl rfl rfl rfl rfl ?_ (by show (i + 1) * 48 ≤ 140737488355328; omega) hc (fun sv' st'' hc' => ?_)
        · have e : (itemsOf items l).getD i default = items.getD (findB items (l.getD i default).sku).toNat default := getD_map (fun x : Line => items.getD (findB items x.sku).toNat default) l hi'
          rw [e]; rfl
        conv => whnf
        refine ⟨rfl, ?_⟩; conv => whnf
        exact ⟨l.length - (i + 1), by omega, i + 1, sv', by omega, rfl, by rw [wrapN (by omega)], hc'⟩
end Go.Proofs.YtfajkgonocpddaaGreat
namespace Go.Ab
abbrev QE := Int × Int
def prior (a b : QE) : Bool := decide (a.1 > b.1) || (a.1 == b.1 && decide (a.2 < b.2))
theorem prior_iff (a b : QE) : prior a b = true ↔ a.1 > b.1 ∨ (a.1 = b.1 ∧ a.2 < b.2) := by simp [prior]
theorem prior_no (a b : QE) : prior a b = false ↔ ¬ (a.1 > b.1 ∨ (a.1 = b.1 ∧ a.2 < b.2)) := by rw [← prior_iff, Bool.not_eq_true]
theorem prior_asymm {a b : QE} (h : prior a b = true) : prior b a = false := by rw [prior_iff] at h; rw [prior_no]; omega
theorem prior_irrefl (a : QE) : prior a a = false := by rw [prior_no]; omega
theorem nah_trans {a b c : QE} (h : prior a b = false) (k : prior b c = false) : prior a c = false := by rw [prior_no] at *; omega
theorem nah_lt {a b c : QE} (h : prior a b = false) (k : prior c b = true) : prior a c = false := by rw [prior_no] at *; rw [prior_iff] at k; omega
theorem prior_tri {a b : QE} (h : prior a b = false) (k : prior b a = false) : a = b := by
  rw [prior_no] at *
  exact Prod.ext (by omega) (by omega)
abbrev at_ (l : List QE) (k : Nat) : QE := l.getD k default
def swp (l : List QE) (i j : Nat) : List QE := (l.set i (at_ l j)).set j (at_ l i)
theorem swp_len (l : List QE) (i j : Nat) : (swp l i j).length = l.length := by simp [swp]
theorem swp_at {l : List QE} {i j : Nat} (hi : i < l.length) (hj : j < l.length) (k : Nat) : at_ (swp l i j) k = if k = j then at_ l i else if k = i then at_ l j else at_ l k := by
  unfold swp at_
  simp only [List.getD_eq_getElem?_getD, List.getElem?_set, List.length_set]
  by_cases h1 : k = j
  · subst h1; simp [hj]
  · rw [if_neg (fun e => h1 e.symm), if_neg h1]
    by_cases h2 : k = i
    · subst h2; simp [hi]
    · rw [if_neg (fun e => h2 e.symm), if_neg h2]
theorem swp_perm {l : List QE} {i j : Nat} (hi : i < l.length) (hj : j < l.length) : (swp l i j).Perm l := by
  have e1 : at_ l j = l[j] := by simp [at_, hj]
  have e2 : at_ l i = l[i] := by simp [at_, hi]
  unfold swp
  rw [e1, e2]
  exact List.set_set_perm hi hj
def Nah (l : List QE) (c p : Nat) : Prop := prior (at_ l c) (at_ l p) = false
def par (c : Nat) : Nat := (c - 1) / 2
def Heap (l : List QE) (m : Nat) : Prop := ∀ c, 0 < c → c < m → Nah l c (par c)
structure Rise (l : List QE) (m j : Nat) : Prop where
  a : ∀ c, 0 < c → c < m → c ≠ j → Nah l c (par c)
  b : ∀ c, 0 < c → c < m → par c = j → 0 < j → Nah l c (par j)
structure Sink (l : List QE) (m i : Nat) : Prop where
  a : ∀ c, 0 < c → c < m → par c ≠ i → Nah l c (par c)
  b : ∀ c, 0 < c → c < m → par c = i → 0 < i → Nah l c (par i)
theorem Rise.done {l : List QE} {m j : Nat} (h : Rise l m j) (hj : j = 0 ∨ Nah l j (par j)) : Heap l m := fun c h0 hc => by
  by_cases e : c = j
  · subst e; rcases hj with hj | hj
    · omega
    · exact hj
  · exact h.a c h0 hc e
theorem Rise.step {l : List QE} {m j : Nat} (h : Rise l m j) (hm : m ≤ l.length) (hj : j < m) (h0 : 0 < j) (ha : prior (at_ l j) (at_ l (par j)) = true) : Rise (swp l (par j) j) m (par j) := by
  have hp : par j < j := by unfold par; omega
  have sw := swp_at (l := l) (i := par j) (j := j) (by omega) (by omega)
  refine ⟨fun c hc0 hcm hne => ?_, fun c hc0 hcm hpc hp0 => ?_⟩
  · have hpc : par c < c := by unfold par; omega
    unfold Nah
    rw [sw c, sw (par c)]
    by_cases ecj : c = j
    · subst ecj
      rw [if_pos rfl, if_neg (by omega), if_pos rfl]
      exact prior_asymm ha
    · rw [if_neg ecj, if_neg hne]
      by_cases epj : par c = j
      · rw [if_pos epj]; exact h.b c hc0 hcm epj h0
      · rw [if_neg epj]
        by_cases epi : par c = par j
        · rw [if_pos epi]
          have := h.a c hc0 hcm ecj
          unfold Nah at this; rw [epi] at this
          exact nah_lt this ha
        · rw [if_neg epi]; exact h.a c hc0 hcm ecj
  · have hpp : par (par j) < par j := by unfold par at *; omega
    have hpj := h.a (par j) hp0 (by omega) (by omega)
    unfold Nah at *
    rw [sw c, sw (par (par j)), if_neg (show ¬ par (par j) = j by omega), if_neg (show ¬ par (par j) = par j by omega)]
    by_cases ecj : c = j
    · rw [if_pos ecj]; exact hpj
    · rw [if_neg ecj, if_neg (show ¬ c = par j by unfold par at *; omega)]
      have := h.a c hc0 hcm ecj
      unfold Nah at this; rw [hpc] at this
      exact nah_trans this hpj
theorem Sink.done {l : List QE} {m i : Nat} (h : Sink l m i) (hc : ∀ c, 0 < c → c < m → par c = i → Nah l c i) : Heap l m := fun c h0 hcm => by
  by_cases e : par c = i
  · rw [e]; exact hc c h0 hcm e
  · exact h.a c h0 hcm e
theorem Sink.step {l : List QE} {m i j : Nat} (h : Sink l m i) (hm : m ≤ l.length) (hj : j < m) (h0 : 0 < j) (hp : par j = i) (ha : prior (at_ l j) (at_ l i) = true)
    (hb : ∀ c, 0 < c → c < m → par c = i → Nah l c j) : Sink (swp l i j) m j := by
  have hij : i < j := by rw [← hp]; unfold par; omega
  have sw := swp_at (l := l) (i := i) (j := j) (by omega) (by omega)
  refine ⟨fun c hc0 hcm hne => ?_, fun c hc0 hcm hpc hp0 => ?_⟩
  · have hpc : par c < c := by unfold par; omega
    unfold Nah
    rw [sw c, sw (par c), if_neg hne]
    by_cases ecj : c = j
    · subst ecj
      rw [if_pos rfl, if_pos hp]
      exact prior_asymm ha
    · rw [if_neg ecj]
      by_cases epi : par c = i
      · rw [if_pos epi, if_neg (by omega)]
        exact hb c hc0 hcm epi
      · rw [if_neg epi]
        by_cases eci : c = i
        · rw [if_pos eci]
          subst eci
          exact h.b j h0 hj hp hc0
        · rw [if_neg eci]; exact h.a c hc0 hcm epi
  · have : j < c := by unfold par at hpc; omega
    unfold Nah
    rw [hp, sw c, sw i, if_neg (show ¬ c = j by omega), if_neg (show ¬ c = i by omega), if_neg (show ¬ i = j by omega), if_pos rfl]
    have := h.a c hc0 hcm (by omega)
    unfold Nah at this; rw [hpc] at this; exact this
theorem Heap.top {l : List QE} {m : Nat} (h : Heap l m) : ∀ k, k < m → Nah l k 0 := by
  intro k
  induction k using Nat.strongRecOn with
  | _ k ih =>
    intro hk
    rcases Nat.eq_zero_or_pos k with e | e
    · subst e; exact prior_irrefl _
    · have hp : par k < k := by unfold par; omega
      exact nah_trans (h k e hk) (ih (par k) hp (by omega))
theorem Heap.up {l : List QE} {m : Nat} (h : Heap l m) (x : QE) (hm : m = l.length) : Rise (l ++ [x]) (m + 1) m := by
  have old : ∀ k, k < m → at_ (l ++ [x]) k = at_ l k := fun k hk => by
    unfold at_; rw [List.getD_eq_getElem?_getD, List.getD_eq_getElem?_getD, List.getElem?_append_left (by omega)]
  refine ⟨fun c h0 hc hne => ?_, fun c h0 hc hpc hm0 => ?_⟩
  · have hp : par c < c := by unfold par; omega
    unfold Nah
    rw [old c (by omega), old (par c) (by omega)]
    exact h c h0 (by omega)
  · unfold par at hpc; omega
theorem Heap.down {l : List QE} {m : Nat} (h : Heap l (m + 1)) (hm : m < l.length) : Sink (swp l 0 m) m 0 := by
  have sw := swp_at (l := l) (i := 0) (j := m) (by omega) (by omega)
  refine ⟨fun c h0 hc hne => ?_, fun c h0 hc hpc h00 => by omega⟩
  have hp : par c < c := by unfold par; omega
  unfold Nah
  rw [sw c, sw (par c), if_neg (by omega), if_neg (by omega), if_neg (by omega), if_neg hne]
  exact h c h0 (by omega)
end Go.Ab
namespace Go.Proofs.YtfajkgonocpddaaGreat
open Go Go.Ab
attribute [local irreducible] upd del
def eEnt (x : QE) : AV := .agg [eI x.1, eI x.2]
def HasE (st : St) (b : Nat) (l : List QE) : Prop := ∃ f, st b = some ⟨206, 2, l.length, f⟩ ∧ ∀ k, k < l.length → f k = eEnt (at_ l k)
theorem less_S (b : Nat) (l : List QE) (n i j : Nat) (st : St) (h : HasE st b l) (hn : n ≤ l.length) (hi : i < n) (hj : j < n) :
    S P 285 [.own 2 b 0 n, eI i, eI j] st fun v st' => v = .bool (prior (at_ l i) (at_ l j)) ∧ st' = st := by
  obtain ⟨f, hst, hf⟩ := h
  refine S_of_X [] good mixed Tryz.func285 (by rfl) rfl rfl rfl ?_; conv => whnf
  refine ⟨[], [], [0, 1, 2, 3, 4, 5, 6, 7, 8, 9, 10, 11, 12, 13, 14, 15, 16, 17, 18, 19, 20, 21, 22, 23, 24, 25, 26, 27, 28, 29, 30, 31, 32, 33, 34, 35, 36, 37], by kernel_rfl, ?_⟩; conv => whnf
  have fi : f (0 + (i : Int).toNat) = eEnt (at_ l i) := by rw [Nat.zero_add]; exact hf i (by omega)
  have fj : f (0 + (j : Int).toNat) = eEnt (at_ l j) := by rw [Nat.zero_add]; exact hf j (by omega)
  have li : 0 + (i : Int).toNat < l.length := by omega
  have lj : 0 + (j : Int).toNat < l.length := by omega
  refine ⟨rfl, ⟨by omega, by omega⟩, ?_⟩; conv => whnf
  refine ldV hst rfl li fi ?_; conv => whnf
  refine ⟨rfl, ⟨by omega, by omega⟩, ?_⟩; conv => whnf
  refine ldV hst rfl lj fj ?_; conv => whnf
  unfold prior
  refine fork (fun h1 => ?_) (fun h1 => ?_) <;> rw [h1]
  · conv => whnf
    exact ⟨rfl, rfl⟩
  conv => whnf
  refine ⟨rfl, ⟨by omega, by omega⟩, ?_⟩; conv => whnf
  refine ldV hst rfl li fi ?_; conv => whnf
  refine ⟨rfl, ⟨by omega, by omega⟩, ?_⟩; conv => whnf
  refine ldV hst rfl lj fj ?_; conv => whnf
  refine fork (fun h2 => ?_) (fun h2 => ?_) <;> rw [h2]
  · conv => whnf
    refine ⟨rfl, ⟨by omega, by omega⟩, ?_⟩; conv => whnf
    refine ldV hst rfl li fi ?_; conv => whnf
    refine ⟨rfl, ⟨by omega, by omega⟩, ?_⟩; conv => whnf
    refine ldV hst rfl lj fj ?_; conv => whnf
    exact ⟨rfl, rfl⟩
  · conv => whnf
    exact ⟨rfl, rfl⟩
theorem len_S (b n : Nat) (st : St) : S P 284 [.own 2 b 0 n] st fun v st' => v = eI n ∧ st' = st := by
  refine S_of_X [] good mixed Tryz.func284 (by rfl) rfl rfl rfl ?_; conv => whnf
  exact ⟨rfl, rfl⟩
theorem swap_S (b : Nat) (l : List QE) (n i j : Nat) (st : St) (h : HasE st b l) (hn : n ≤ l.length) (hi : i < n) (hj : j < n) :
    S P 286 [.own 2 b 0 n, eI i, eI j] st fun v st' => v = .tuple [] ∧ HasE st' b (swp l i j) ∧ ∀ c, c ≠ b → st' c = st c := by
  obtain ⟨f, hst, hf⟩ := h
  refine S_of_X [] good mixed Tryz.func286 (by rfl) rfl rfl rfl ?_; conv => whnf
  have fi : f (0 + (i : Int).toNat) = eEnt (at_ l i) := by rw [Nat.zero_add]; exact hf i (by omega)
  have fj : f (0 + (j : Int).toNat) = eEnt (at_ l j) := by rw [Nat.zero_add]; exact hf j (by omega)
  have li : 0 + (i : Int).toNat < l.length := by omega
  have lj : 0 + (j : Int).toNat < l.length := by omega
  have ei : 0 + (i : Int).toNat = i := by omega
  have ej : 0 + (j : Int).toNat = j := by omega
  have hfj : fset f (0 + (i : Int).toNat) (setCells (eEnt (at_ l i)) 0 (cellsOf (eEnt (at_ l j)))) (0 + (j : Int).toNat) = eEnt (at_ l j) := by
    by_cases h : j = i
    · subst h; rw [fset_same]; rfl
    · rw [fset_ne (by omega)]; exact fj
  refine ⟨[13, 15], [], [0, 1, 2, 3, 4, 5, 6, 7, 8, 9, 10, 11, 12, 13, 14, 15], by kernel_rfl, ?_⟩; conv => whnf
  refine ⟨rfl, ⟨by omega, by omega⟩, ?_⟩; conv => whnf
  refine ldV hst rfl lj fj ?_; conv => whnf
  refine ⟨rfl, ⟨by omega, by omega⟩, ?_⟩; conv => whnf
  refine ldV hst rfl li fi ?_; conv => whnf
  refine ⟨rfl, ⟨by omega, by omega⟩, ?_⟩; conv => whnf
  refine stV hst rfl li fi (by rfl) ?_; conv => whnf
  refine ⟨rfl, ⟨by omega, by omega⟩, ?_⟩; conv => whnf
  refine stV (v := eEnt (at_ l j)) (upd_same ..) rfl lj hfj (by rfl) ?_; conv => whnf
  refine ⟨rfl, ⟨_, by rw [upd_same, swp_len], fun k hk => ?_⟩, fun c hc => by rw [upd_ne hc, upd_ne hc]⟩
  rw [swp_len] at hk
  rw [swp_at (by omega) (by omega)]
  by_cases h1 : k = j
  · subst h1
    rw [if_pos rfl, ej, fset_same]; rfl
  · rw [if_neg h1, fset_ne (by omega)]
    by_cases h2 : k = i
    · subst h2
      rw [if_pos rfl, ei, fset_same]; rfl
    · rw [if_neg h2, fset_ne (by omega)]; exact hf k hk
def HasQ (st : St) (q : Nat) (sv : AV) : Prop := ∃ f, st q = some ⟨201, 1, 1, f⟩ ∧ f 0 = .agg [sv]
abbrev hI (q : Nat) : AV := .iface 204 (.optr 1 q 0 0)
theorem HasQ.frame {st st' : St} {q b : Nat} {sv : AV} (h : HasQ st q sv) (hqb : q ≠ b) (hf : ∀ c, c ≠ b → st' c = st c) : HasQ st' q sv := by
  obtain ⟨f, h1, h2⟩ := h
  exact ⟨f, by rw [hf q hqb]; exact h1, h2⟩
theorem parW (j : Nat) (hj : j < 4611686018427387904) : IntKind.i64.wrap ((IntKind.i64.wrap ((j : Int) - 1)).tdiv 2) = ((par j : Nat) : Int) := by
  rw [wrap64_of (x := (j : Int) - 1) (by omega) (by omega)]
  unfold par
  rcases Nat.eq_zero_or_pos j with e | e
  · subst e; rfl
  · rw [Int.tdiv_eq_ediv_of_nonneg (by omega), wrap64_of (by omega) (by omega)]; omega
theorem hup_S (q b : Nat) (l : List QE) (j : Nat) (st : St) (hq : HasQ st q (.own 2 b 0 l.length)) (hqb : q ≠ b) (he : HasE st b l) (hr : Ab.Rise l l.length j) (hj : j < l.length) (hl : l.length < 4611686018427387904) :
    S P 191 [hI q, eI j] st fun v st' => v = .tuple [] ∧ ∃ l', l'.Perm l ∧ Heap l' l.length ∧ HasE st' b l' ∧ ∀ c, c ≠ b → st' c = st c := by
  refine S_of_X [] good mixed Tryz.func191 (by rfl) rfl rfl rfl ?_; conv => whnf
  refine ⟨[0, 1], fun m vs st' => ∃ (j : Nat) (l' : List QE), l'.Perm l ∧ HasE st' b l' ∧ (∀ c, c ≠ b → st' c = st c) ∧ Ab.Rise l' l.length j ∧ j < l.length ∧ m = j ∧ vs = [hI q, eI j], ?_, ?_⟩
  · conv => whnf
    exact ⟨_, j, l, List.Perm.refl _, he, fun c _ => rfl, hr, hj, rfl, rfl⟩
  · clear hr hj he
    rintro j vs st' ⟨_, l', hp, he, hfr, hr, hj, rfl, rfl⟩
    have hlen : l'.length = l.length := hp.length_eq
    obtain ⟨f, hqs, hq0⟩ := hq.frame hqb hfr
    have hpj : par j ≤ j := by unfold par; omega
    conv => whnf
    rw [parW j (by omega)]
    refine fork (fun h1 => ?_) (fun h1 => ?_) <;> rw [h1]
    · have : j = 0 := by
        have := of_decide_eq_true h1
        unfold par at this; omega
      conv => whnf
      exact ⟨rfl, l', hp, hr.done (.inl this), he, hfr⟩
    · have hj0 : 0 < j := by
        rcases Nat.eq_zero_or_pos j with e | e
        · subst e; cases h1
        · exact e
      conv => whnf
      refine ldV hqs rfl (by omega) hq0 ?_; conv => whnf
      refine call1 (less_S b l' l.length j (par j) _ he (by omega) (by omega) (by omega)) ?_; conv => whnf
      refine fork (fun h2 => ?_) (fun h2 => ?_) <;> rw [h2]
      · conv => whnf
        exact ⟨rfl, l', hp, hr.done (.inr (by have := h2; simp only [Bool.not_eq_true'] at this; exact this)), he, hfr⟩
      · have h2' : prior (at_ l' j) (at_ l' (par j)) = true := by have := h2; simp only [Bool.not_eq_false'] at this; exact this
        have hlt : par j < j := by unfold par; omega
        conv => whnf
        refine ldV hqs rfl (by omega) hq0 ?_; conv => whnf
        refine call (swap_S b l' l.length (par j) j _ he (by omega) (by omega) (by omega)) (fun v st'' hv => ?_)
        obtain ⟨rfl, he', hfr'⟩ := hv
        conv => whnf
        refine ⟨rfl, ?_⟩; conv => whnf
        exact ⟨par j, hlt, par j, swp l' (par j) j, (swp_perm (by omega) (by omega)).trans hp, he', fun c hc => (hfr' c hc).trans (hfr c hc), hr.step (by omega) hj hj0 h2', by omega, rfl, rfl⟩
theorem j1W (i : Nat) (hi : i < 2305843009213693952) : IntKind.i64.wrap (IntKind.i64.wrap (2 * (i : Int)) + 1) = ((2 * i + 1 : Nat) : Int) := by
  rw [wrap64_of (x := 2 * (i : Int)) (by omega) (by omega), wrap64_of (by omega) (by omega)]; omega
theorem hdown_S (q b : Nat) (l : List QE) (n m : Nat) (st : St) (hq : HasQ st q (.own 2 b 0 n)) (hqb : q ≠ b) (he : HasE st b l) (hs : Ab.Sink l m 0) (hmn : m ≤ n) (hn : n ≤ l.length) (hl : l.length < 2305843009213693952) :
    S P 192 [hI q, eI 0, eI m] st fun v st' => (∃ x, v = .bool x) ∧ ∃ l', l'.Perm l ∧ (∀ k, m ≤ k → at_ l' k = at_ l k) ∧ Heap l' m ∧ HasE st' b l' ∧ ∀ c, c ≠ b → st' c = st c := by
  refine S_of_X [] good mixed Tryz.func192 (by rfl) rfl rfl rfl ?_; conv => whnf
  refine ⟨[0, 1, 2, 7], fun t vs st' => ∃ (i : Nat) (l' : List QE), l'.Perm l ∧ (∀ k, m ≤ k → at_ l' k = at_ l k) ∧ HasE st' b l' ∧ (∀ c, c ≠ b → st' c = st c) ∧ Ab.Sink l' m i ∧ i ≤ l.length ∧ t = l.length - i ∧ vs = [hI q, eI 0, eI m, eI i], ?_, ?_⟩
  · conv => whnf
    exact ⟨_, 0, l, List.Perm.refl _, fun _ _ => rfl, he, fun c _ => rfl, hs, Nat.zero_le _, rfl, rfl⟩
  · clear hs he
    rintro t vs st' ⟨i, l', hp, hk, he, hfr, hs, hi, rfl, rfl⟩
    have hlen : l'.length = l.length := hp.length_eq
    obtain ⟨f, hqs, hq0⟩ := hq.frame hqb hfr
    have kid : ∀ c, 0 < c → (par c = i ↔ c = 2 * i + 1 ∨ c = 2 * i + 2) := fun c hc => by unfold par; omega
    conv => whnf
    rw [j1W i (by omega)]
    refine fork (fun h1 => ?_) (fun h1 => ?_) <;> rw [h1] <;> simp only [decide_eq_true_eq, decide_eq_false_iff_not] at h1
    · conv => whnf
      exact ⟨⟨_, rfl⟩, l', hp, hk, hs.done (fun c hc0 hcm hpc => by have := (kid c hc0).1 hpc; omega), he, hfr⟩
    have him : 2 * i + 1 < m := by omega
    conv => whnf
    have w2 : IntKind.i64.wrap (((2 * i + 1 : Nat) : Int) + 1) = ((2 * i + 2 : Nat) : Int) := by rw [wrap64_of (by omega) (by omega)]; omega
    rw [w2]
    -- behind the choice of a child
    have tail : ∀ (j : Nat), 0 < j → j < m → par j = i → (∀ c, 0 < c → c < m → par c = i → Nah l' c j) → ∀ (K : KK), (∀ v st'' l'', v = .tuple [] → l''.Perm l → (∀ k, m ≤ k → at_ l'' k = at_ l k) → HasE st'' b l'' → (∀ c, c ≠ b → st'' c = st c) → prior (at_ l' j) (at_ l' i) = true → Ab.Sink l'' m j → K v st'') → prior (at_ l' j) (at_ l' i) = true → xCall P 286 [.own 2 b 0 n, eI i, eI j] st' K := by
      intro j hj0 hjm hpj hbest K hK hpr
      have hij : i < j := by rw [← hpj]; unfold par; omega
      refine call (swap_S b l' n i j _ he (by omega) (by omega) (by omega)) (fun v st'' hv => ?_)
      obtain ⟨rfl, he', hfr'⟩ := hv
      refine hK _ _ (swp l' i j) rfl ((swp_perm (by omega) (by omega)).trans hp) (fun k hkm => ?_) he' (fun c hc => (hfr' c hc).trans (hfr c hc)) hpr (hs.step (by omega) hjm hj0 hpj hpr hbest)
      rw [swp_at (by omega) (by omega), if_neg (by omega), if_neg (by omega)]; exact hk k hkm
    refine fork (fun h3 => ?_) (fun h3 => ?_) <;> rw [h3] <;> simp only [decide_eq_true_eq, decide_eq_false_iff_not] at h3
    · conv => whnf
      refine ldV hqs rfl (by omega) hq0 ?_; conv => whnf
      refine call1 (less_S b l' n (2 * i + 2) (2 * i + 1) _ he (by omega) (by omega) (by omega)) ?_; conv => whnf
      refine fork (fun h4 => ?_) (fun h4 => ?_) <;> rw [h4]
      · have hbest : ∀ c, 0 < c → c < m → par c = i → Nah l' c (2 * i + 2) := fun c hc0 hcm hpc => by
          rcases (kid c hc0).1 hpc with e | e
          · subst e; exact prior_asymm h4
          · subst e; exact prior_irrefl _
        conv => whnf
        refine ldV hqs rfl (by omega) hq0 ?_; conv => whnf
        refine call1 (less_S b l' n (2 * i + 2) i _ he (by omega) (by omega) (by omega)) ?_; conv => whnf
        refine fork (fun h5 => ?_) (fun h5 => ?_) <;> rw [h5]
        · conv => whnf
          exact ⟨⟨_, rfl⟩, l', hp, hk, hs.done (fun c hc0 hcm hpc => nah_trans (hbest c hc0 hcm hpc) (show Nah l' (2 * i + 2) i by have := h5; simp only [Bool.not_eq_true'] at this; exact this)), he, hfr⟩
        · conv => whnf
          refine ldV hqs rfl (by omega) hq0 ?_; conv => whnf
          refine tail (2 * i + 2) (by omega) (by omega) ((kid _ (by omega)).2 (.inr rfl)) hbest _ (fun v st'' l'' hv hp' hk' he' hfr' hpr hs' => ?_) (by have := h5; simp only [Bool.not_eq_false'] at this; exact this)
          subst hv; conv => whnf
          refine ⟨rfl, ?_⟩; conv => whnf
          exact ⟨l.length - (2 * i + 2), by omega, 2 * i + 2, l'', hp', hk', he', hfr', hs', by omega, rfl, rfl⟩
      · have hbest : ∀ c, 0 < c → c < m → par c = i → Nah l' c (2 * i + 1) := fun c hc0 hcm hpc => by
          rcases (kid c hc0).1 hpc with e | e
          · subst e; exact prior_irrefl _
          · subst e; exact h4
        conv => whnf
        refine ldV hqs rfl (by omega) hq0 ?_; conv => whnf
        refine call1 (less_S b l' n (2 * i + 1) i _ he (by omega) (by omega) (by omega)) ?_; conv => whnf
        refine fork (fun h5 => ?_) (fun h5 => ?_) <;> rw [h5]
        · conv => whnf
          exact ⟨⟨_, rfl⟩, l', hp, hk, hs.done (fun c hc0 hcm hpc => nah_trans (hbest c hc0 hcm hpc) (show Nah l' (2 * i + 1) i by have := h5; simp only [Bool.not_eq_true'] at this; exact this)), he, hfr⟩
        · conv => whnf
          refine ldV hqs rfl (by omega) hq0 ?_; conv => whnf
          refine tail (2 * i + 1) (by omega) (by omega) ((kid _ (by omega)).2 (.inl rfl)) hbest _ (fun v st'' l'' hv hp' hk' he' hfr' hpr hs' => ?_) (by have := h5; simp only [Bool.not_eq_false'] at this; exact this)
          subst hv; conv => whnf
          refine ⟨rfl, ?_⟩; conv => whnf
          exact ⟨l.length - (2 * i + 1), by omega, 2 * i + 1, l'', hp', hk', he', hfr', hs', by omega, rfl, rfl⟩
    · have hbest : ∀ c, 0 < c → c < m → par c = i → Nah l' c (2 * i + 1) := fun c hc0 hcm hpc => by
        rcases (kid c hc0).1 hpc with e | e
        · subst e; exact prior_irrefl _
        · omega
      conv => whnf
      refine ldV hqs rfl (by omega) hq0 ?_; conv => whnf
      refine call1 (less_S b l' n (2 * i + 1) i _ he (by omega) (by omega) (by omega)) ?_; conv => whnf
      refine fork (fun h5 => ?_) (fun h5 => ?_) <;> rw [h5]
      · conv => whnf
        exact ⟨⟨_, rfl⟩, l', hp, hk, hs.done (fun c hc0 hcm hpc => nah_trans (hbest c hc0 hcm hpc) (show Nah l' (2 * i + 1) i by have := h5; simp only [Bool.not_eq_true'] at this; exact this)), he, hfr⟩
      · conv => whnf
        refine ldV hqs rfl (by omega) hq0 ?_; conv => whnf
        refine tail (2 * i + 1) (by omega) (by omega) ((kid _ (by omega)).2 (.inl rfl)) hbest _ (fun v st'' l'' hv hp' hk' he' hfr' hpr hs' => ?_) (by have := h5; simp only [Bool.not_eq_false'] at this; exact this)
        subst hv; conv => whnf
        refine ⟨rfl, ?_⟩; conv => whnf
        exact ⟨l.length - (2 * i + 1), by omega, 2 * i + 1, l'', hp', hk', he', hfr', hs', by omega, rfl, rfl⟩
theorem HasE.frame {st st' : St} {b c : Nat} {l : List QE} (h : HasE st b l) (hc : c ≠ b) (hf : ∀ a, a ≠ c → st' a = st a) : HasE st' b l := by
  obtain ⟨f, h1, h2⟩ := h
  exact ⟨f, by rw [hf b (fun e => hc e.symm)]; exact h1, h2⟩
theorem epop_S (q b : Nat) (l : List QE) (n : Nat) (st : St) (hq : HasQ st q (.own 2 b 0 (n + 1))) (hqb : q ≠ b) (he : HasE st b l) (hn : n < l.length) (hl : l.length < 2305843009213693952) :
    S P 287 [.optr 1 q 0 0] st fun v st' => v = .iface 206 (eEnt (at_ l n)) ∧ HasQ st' q (.own 2 b 0 n) ∧ ∀ c, c ≠ q → st' c = st c := by
  obtain ⟨fq, hqs, hq0⟩ := hq
  obtain ⟨f, hst, hf⟩ := he
  refine S_of_X [4] good mixed Tryz.func287 (by rfl) rfl rfl rfl ?_; conv => whnf
  refine ldV hqs rfl (by omega) hq0 ?_; conv => whnf
  have w : IntKind.i64.wrap (((n + 1 : Nat) : Int) - 1) = (n : Int) := by rw [wrap64_of (by omega) (by omega)]; omega
  rw [w]
  refine ldV hqs rfl (by omega) hq0 ?_; conv => whnf
  refine ⟨rfl, ⟨by omega, by omega⟩, ?_⟩; conv => whnf
  refine ldV hst rfl (by omega) (v := eEnt (at_ l n)) (by rw [show 0 + (n : Int).toNat = n by omega]; exact hf n hn) ?_; conv => whnf
  refine ldV hqs rfl (by omega) hq0 ?_; conv => whnf
  refine ⟨rfl, ⟨by omega, by omega, by omega⟩, .inl rfl, ?_⟩; conv => whnf
  refine stV hqs rfl (by omega) hq0 (by rfl) ?_; conv => whnf
  refine ⟨rfl, ⟨_, upd_same .., ?_⟩, fun c hc => by rw [upd_ne hc]⟩
  rw [fset_same]
  show AV.agg [AV.own 2 b _ _] = _
  congr 3 <;> simp
theorem epush_S (q : Nat) (sv : AV) (l : List QE) (x : QE) (st st0 : St) (hq : HasQ st q sv) (h0 : st0 q = none) (hsup : Sup st0 st) (hl : l.length < 2305843009213)
    (hs : (l = [] ∧ sv = .emp) ∨ ∃ b, q ≠ b ∧ st0 b = none ∧ sv = .own 2 b 0 l.length ∧ HasE st b l) :
    S P 288 [.optr 1 q 0 0, .iface 206 (eEnt x)] st fun v st' => v = .tuple [] ∧ ∃ b, q ≠ b ∧ st0 b = none ∧ HasQ st' q (.own 2 b 0 (l.length + 1)) ∧ HasE st' b (l ++ [x]) ∧ Sup st0 st' := by
  obtain ⟨fq, hqs, hq0⟩ := hq
  refine S_of_X [] good mixed Tryz.func288 (by rfl) rfl rfl rfl ?_; conv => whnf
  intro c hc
  have hcq : q ≠ c := fun e => by subst e; rw [hqs] at hc; cases hc
  conv => whnf
  refine stV (upd_same ..) rfl (by omega) rfl (by rfl) ?_; conv => whnf
  refine ⟨[6, 8], [], [0, 1, 2, 3, 4, 5, 6, 7, 8], by kernel_rfl, ?_⟩; conv => whnf
  refine ldV (by rw [upd_ne hcq, upd_ne hcq]; exact hqs) rfl (by omega) hq0 ?_; conv => whnf
  have hc0 : st0 c = none := hsup.none hc
  rcases hs with ⟨rfl, rfl⟩ | ⟨b, hqb, hb0, rfl, f, hst, hf⟩
  · conv => whnf
    refine ldV (upd_same ..) rfl (by omega) rfl ?_; conv => whnf
    refine ⟨_, ⟨rfl, rfl⟩, ?_⟩; conv => whnf
    refine apE rfl rfl rfl rfl (srcArr ..) (by show 1 * 16 ≤ _; omega) (fun h => absurd h (by omega)) (fun _ b hb => ?_)
    have hbq : b ≠ q := fun e => by subst e; rw [upd_ne hcq, upd_ne hcq, hqs] at hb; cases hb
    have hbc : b ≠ c := fun e => by subst e; rw [upd_same] at hb; cases hb
    have hb' : st b = none := by rw [upd_ne hbc, upd_ne hbc] at hb; exact hb
    conv => whnf
    refine stV (by rw [upd_ne hbq.symm, upd_ne hcq, upd_ne hcq]; exact hqs) rfl (by omega) hq0 (by rfl) ?_; conv => whnf
    refine ⟨rfl, b, hbq.symm, hsup.none hb', ⟨_, upd_same .., by rw [fset_same]; rfl⟩, ⟨_, by rw [upd_ne hbq, upd_same]; rfl, fun k hk => ?_⟩, ?_⟩
    · have : k = 0 := by simpa using hk
      subst this; rfl
    · exact (((hsup.over hc0).over hc0).over (hsup.none hb')).over h0
  · have hbc : b ≠ c := fun e => by subst e; rw [hst] at hc; cases hc
    conv => whnf
    refine ldV (upd_same ..) rfl (by omega) rfl ?_; conv => whnf
    refine ⟨_, ⟨rfl, rfl⟩, ?_⟩; conv => whnf
    refine apO (q := r206) (n := l.length) rfl rfl rfl rfl (srcArr ..) (by rw [upd_ne hbc, upd_ne hbc]; exact hst) rfl rfl rfl (by show (l.length + 1) * 16 ≤ _; omega) (fun h => absurd h (by omega)) (fun _ b' hb' => ?_)
    have hb'q : b' ≠ q := fun e => by
      subst e
      rcases hb' with e | e
      · exact hqb e
      · rw [upd_ne hcq, upd_ne hcq, hqs] at e; cases e
    have hb'0 : st0 b' = none := by
      rcases hb' with rfl | e
      · exact hb0
      · by_cases hbc' : b' = c
        · subst hbc'; exact hc0
        · rw [upd_ne hbc', upd_ne hbc'] at e; exact hsup.none e
    conv => whnf
    refine stV (by rw [upd_ne hb'q.symm]; unfold del; rw [if_neg hqb, upd_ne hcq, upd_ne hcq]; exact hqs) rfl (by omega) hq0 (by rfl) ?_; conv => whnf
    refine ⟨rfl, b', hb'q.symm, hb'0, ⟨_, upd_same .., by rw [fset_same]; rfl⟩, ⟨_, by rw [upd_ne hb'q, upd_same, List.length_append]; rfl, fun k hk => ?_⟩, ?_⟩
    · rw [List.length_append] at hk
      simp only [List.length_cons, List.length_nil] at hk
      unfold at_
      by_cases hkl : k < l.length
      · simp only [hkl, if_true]
        rw [hf k hkl, List.getD_eq_getElem?_getD, List.getElem?_append_left hkl, ← List.getD_eq_getElem?_getD]
      · have : k = l.length := by omega
        subst this
        simp only [Nat.lt_irrefl, if_false, Nat.sub_self]
        rw [show (l ++ [x]).getD l.length default = x by simp [List.getD_eq_getElem?_getD]]
        rfl
    · exact ((((hsup.over hc0).over hc0).del hb0).over hb'0).over h0
theorem hpush_S (q : Nat) (sv : AV) (l : List QE) (x : QE) (st st0 : St) (hq : HasQ st q sv) (h0 : st0 q = none) (hsup : Sup st0 st) (hl : l.length < 2305843009213) (hh : Heap l l.length)
    (hs : (l = [] ∧ sv = .emp) ∨ ∃ b, q ≠ b ∧ st0 b = none ∧ sv = .own 2 b 0 l.length ∧ HasE st b l) :
    S P 151 [hI q, .iface 206 (eEnt x)] st fun v st' => v = .tuple [] ∧ ∃ b l', q ≠ b ∧ st0 b = none ∧ l'.Perm (l ++ [x]) ∧ Heap l' l'.length ∧ HasQ st' q (.own 2 b 0 l'.length) ∧ HasE st' b l' ∧ Sup st0 st' := by
  refine S_of_X [] good mixed Tryz.func151 (by rfl) rfl rfl rfl ?_; conv => whnf
  refine call (epush_S q sv l x st st0 hq h0 hsup hl hs) (fun v st' hv => ?_)
  obtain ⟨rfl, b, hqb, hb0, ⟨fq, hqs, hq0⟩, he, hsup'⟩ := hv
  conv => whnf
  refine ldV hqs rfl (by omega) hq0 ?_; conv => whnf
  refine call1 (len_S b (l.length + 1) _) ?_; conv => whnf
  have w : IntKind.i64.wrap (((l.length + 1 : Nat) : Int) - 1) = (l.length : Int) := by rw [wrap64_of (by omega) (by omega)]; omega
  rw [w]
  have e1 : (l ++ [x]).length = l.length + 1 := by simp
  have hr : Ab.Rise (l ++ [x]) (l ++ [x]).length l.length := by rw [e1]; exact hh.up x rfl
  refine call (hup_S q b (l ++ [x]) l.length _ (by rw [e1]; exact ⟨fq, hqs, hq0⟩) hqb he hr (by omega) (by omega)) (fun v st'' hv => ?_)
  obtain ⟨rfl, l', hp, hh', he', hfr⟩ := hv
  conv => whnf
  have el : l'.length = (l ++ [x]).length := hp.length_eq
  refine ⟨rfl, b, l', hqb, hb0, hp, by rw [el]; exact hh', ?_, he', fun c y hc => ?_⟩
  · rw [el, e1]; exact HasQ.frame ⟨fq, hqs, hq0⟩ hqb hfr
  · rw [hfr c (fun e => by subst e; rw [hb0] at hc; cases hc)]; exact hsup' c y hc
theorem take_perm {l l' : List QE} {m : Nat} (hm : m < l.length) (hp : l'.Perm l) (hk : ∀ k, m ≤ k → at_ l' k = at_ (swp l 0 m) k) : (at_ l 0 :: l'.take m).Perm (l.take (m + 1)) := by
  have hlen : l'.length = l.length := hp.length_eq
  have e1 : l'.drop m = at_ l 0 :: l.drop (m + 1) := by
    refine List.ext_getElem? fun i => ?_
    rw [List.getElem?_drop]
    have hi := hk (m + i) (by omega)
    rw [swp_at (by omega) hm] at hi
    rcases Nat.lt_or_ge (m + i) l.length with h | h
    · have a1 : l'[m + i]? = some (at_ l' (m + i)) := by
        unfold at_; rw [List.getD_eq_getElem?_getD, List.getElem?_eq_getElem (by omega)]; rfl
      rw [a1, hi]
      cases i with
      | zero => simp
      | succ i =>
        rw [if_neg (by omega), if_neg (by omega), List.getElem?_cons_succ, List.getElem?_drop]
        unfold at_
        rw [List.getD_eq_getElem?_getD, show m + (i + 1) = m + 1 + i by omega, List.getElem?_eq_getElem (by omega)]; rfl
    · rw [List.getElem?_eq_none (by omega)]
      cases i with
      | zero => omega
      | succ i => rw [List.getElem?_cons_succ, List.getElem?_drop, List.getElem?_eq_none (by omega)]
  have h1 : (l'.take m ++ (at_ l 0 :: l.drop (m + 1))).Perm (l.take (m + 1) ++ l.drop (m + 1)) := by
    rw [← e1, List.take_append_drop, List.take_append_drop]; exact hp
  have h2 : ((at_ l 0 :: l'.take m) ++ l.drop (m + 1)).Perm (l.take (m + 1) ++ l.drop (m + 1)) := by
    refine List.Perm.trans ?_ h1
    exact List.perm_middle.symm
  exact (List.perm_append_right_iff _).1 h2
theorem hpop_S (q b : Nat) (l : List QE) (n : Nat) (st : St) (hq : HasQ st q (.own 2 b 0 (n + 1))) (hqb : q ≠ b) (he : HasE st b l) (hh : Heap l (n + 1)) (hn : n < l.length) (hl : l.length < 2305843009213693952) :
    S P 152 [hI q] st fun v st' => v = .iface 206 (eEnt (at_ l 0)) ∧ ∃ l', l'.length = l.length ∧ (at_ l 0 :: l'.take n).Perm (l.take (n + 1)) ∧ Heap l' n ∧ HasQ st' q (.own 2 b 0 n) ∧ HasE st' b l' ∧ ∀ c, c ≠ q → c ≠ b → st' c = st c := by
  obtain ⟨fq, hqs, hq0⟩ := hq
  refine S_of_X [] good mixed Tryz.func152 (by rfl) rfl rfl rfl ?_; conv => whnf
  refine ldV hqs rfl (by omega) hq0 ?_; conv => whnf
  refine call1 (len_S b (n + 1) _) ?_; conv => whnf
  have w : IntKind.i64.wrap (((n + 1 : Nat) : Int) - 1) = (n : Int) := by rw [wrap64_of (by omega) (by omega)]; omega
  rw [w]
  refine ldV hqs rfl (by omega) hq0 ?_; conv => whnf
  refine call (swap_S b l (n + 1) 0 n _ he (by omega) (by omega) (by omega)) (fun v st1 hv => ?_)
  obtain ⟨rfl, he1, hfr1⟩ := hv
  have hq1 : HasQ st1 q (.own 2 b 0 (n + 1)) := HasQ.frame ⟨fq, hqs, hq0⟩ hqb hfr1
  have hd : Ab.Sink (swp l 0 n) n 0 := hh.down hn
  have hsl : (swp l 0 n).length = l.length := swp_len l 0 n
  conv => whnf
  refine call (hdown_S q b (swp l 0 n) (n + 1) n _ hq1 hqb he1 hd (by omega) (by omega) (by omega)) (fun v st2 hv => ?_)
  obtain ⟨⟨y, rfl⟩, l', hp, hk, hh', he2, hfr2⟩ := hv
  have hl' : l'.length = l.length := hp.length_eq.trans hsl
  have hq2 : HasQ st2 q (.own 2 b 0 (n + 1)) := hq1.frame hqb hfr2
  have htop : at_ l' n = at_ l 0 := by rw [hk n (Nat.le_refl _), swp_at (by omega) hn, if_pos rfl]
  conv => whnf
  refine call (epop_S q b l' n _ hq2 hqb he2 (by omega) (by omega)) (fun v st3 hv => ?_)
  obtain ⟨rfl, hq3, hfr3⟩ := hv
  rw [htop]; conv => whnf
  refine ⟨rfl, l', hl', take_perm hn (hp.trans (swp_perm (by omega) hn)) hk, hh', hq3, he2.frame hqb hfr3, fun c h1 h2 => by rw [hfr3 c h1, hfr2 c h2, hfr1 c h2]⟩
structure QSt (st0 : St) (q : Nat) (fresh : Bool) (es : List QE) (st : St) : Prop where
  new : st0 q = none
  sup : Sup st0 st
  has : ∃ sv, HasQ st q sv ∧ ((es = [] ∧ sv = .emp) ∨ ∃ b l n, q ≠ b ∧ st0 b = none ∧ sv = .own 2 b 0 n ∧ n ≤ l.length ∧ l.length < 2305843009213 ∧ Heap l n ∧ HasE st b l ∧ (l.take n).Perm es ∧ (fresh = true → n = l.length))
theorem QSt.perm {st0 st : St} {q : Nat} {f : Bool} {es es' : List QE} (h : QSt st0 q f es st) (hp : es.Perm es') : QSt st0 q f es' st := by
  obtain ⟨h1, h2, sv, hq, h3⟩ := h
  refine ⟨h1, h2, sv, hq, ?_⟩
  rcases h3 with ⟨rfl, hs⟩ | ⟨b, l, n, a1, a2, a3, a4, a5, a6, a7, a8, a9⟩
  · exact .inl ⟨List.Perm.eq_nil hp.symm, hs⟩
  · exact .inr ⟨b, l, n, a1, a2, a3, a4, a5, a6, a7, a8.trans hp, a9⟩
theorem qnew_S (st : St) : S P 102 [] st fun v st' => ∃ q, v = .optr 1 q 0 0 ∧ QSt st q true [] st' := by
  refine S_of_X [] good mixed Tryz.func102 (by rfl) rfl rfl rfl ?_; conv => whnf
  intro q hq; conv => whnf
  exact ⟨q, rfl, hq, (Sup.refl st).upd hq, .emp, ⟨_, upd_same .., rfl⟩, .inl ⟨rfl, rfl⟩⟩
theorem qpush_S (st0 : St) (q : Nat) (es : List QE) (r k : Int) (st : St) (h : QSt st0 q true es st) (hl : es.length < 2305843009212) : S P 104 [.optr 1 q 0 0, eI r, eI k] st fun v st' => v = .tuple [] ∧ QSt st0 q true (es ++ [(r, k)]) st' := by
  obtain ⟨h1, h2, sv, hq, h3⟩ := h
  refine S_of_X [] good mixed Tryz.func104 (by rfl) rfl rfl rfl ?_; conv => whnf
  have hex : ∃ l : List QE, l.Perm es ∧ Heap l l.length ∧ ((l = [] ∧ sv = .emp) ∨ ∃ b, q ≠ b ∧ st0 b = none ∧ sv = .own 2 b 0 l.length ∧ HasE st b l) := by
    rcases h3 with ⟨rfl, hs⟩ | ⟨b, l, n, a1, a2, a3, a4, a5, a6, a7, a8, a9⟩
    · exact ⟨[], List.Perm.refl _, fun c h0 hc => absurd hc (by simp), .inl ⟨rfl, hs⟩⟩
    · have e := a9 rfl
      subst e
      rw [List.take_length] at a8
      exact ⟨l, a8, a6, .inr ⟨b, a1, a2, a3, a7⟩⟩
  obtain ⟨l, hp, hh, hs⟩ := hex
  have hll : l.length = es.length := hp.length_eq
  refine call (hpush_S q sv l (r, k) st st0 hq h1 h2 (by omega) hh hs) (fun v st' hv => ?_)
  obtain ⟨rfl, b, l', hqb, hb0, hp', hh', hq', he', hsup'⟩ := hv
  have hl' : l'.length = l.length + 1 := by rw [hp'.length_eq]; simp
  conv => whnf
  exact ⟨rfl, h1, hsup', _, hq', .inr ⟨b, l', l'.length, hqb, hb0, rfl, Nat.le_refl _, by omega, hh', he', by rw [List.take_length]; exact hp'.trans (hp.append_right _), fun _ => rfl⟩⟩
theorem qlen_S (st0 : St) (q : Nat) (f : Bool) (es : List QE) (st : St) (h : QSt st0 q f es st) : S P 105 [.optr 1 q 0 0] st fun v st' => v = eI es.length ∧ st' = st := by
  obtain ⟨h1, h2, sv, ⟨fq, hqs, hq0⟩, h3⟩ := h
  refine S_of_X [] good mixed Tryz.func105 (by rfl) rfl rfl rfl ?_; conv => whnf
  rcases h3 with ⟨rfl, rfl⟩ | ⟨b, l, n, a1, a2, rfl, a4, a5, a6, a7, a8, a9⟩
  · refine ldV hqs rfl (by omega) hq0 ?_; conv => whnf
    exact ⟨rfl, rfl⟩
  · refine ldV hqs rfl (by omega) hq0 ?_; conv => whnf
    refine ⟨?_, rfl⟩
    have : es.length = n := by rw [← a8.length_eq, List.length_take]; omega
    rw [this]; rfl
theorem qpop0_S (st0 : St) (q : Nat) (f : Bool) (st : St) (h : QSt st0 q f [] st) : S P 106 [.optr 1 q 0 0] st fun v st' => v = .tuple [eI 0, eI 0, .bool false] ∧ st' = st := by
  obtain ⟨h1, h2, sv, ⟨fq, hqs, hq0⟩, h3⟩ := h
  refine S_of_X [] good mixed Tryz.func106 (by rfl) rfl rfl rfl ?_; conv => whnf
  rcases h3 with ⟨_, rfl⟩ | ⟨b, l, n, a1, a2, rfl, a4, a5, a6, a7, a8, a9⟩
  · refine ldV hqs rfl (by omega) hq0 ?_; conv => whnf
    exact ⟨rfl, rfl⟩
  · have e : n = 0 := by
      have := a8.length_eq
      rw [List.length_take, List.length_nil] at this; omega
    subst e
    refine ldV hqs rfl (by omega) hq0 ?_; conv => whnf
    exact ⟨rfl, rfl⟩
theorem qpop_S (st0 : St) (q : Nat) (f : Bool) (x : QE) (es : List QE) (st : St) (h : QSt st0 q f (x :: es) st) (htop : ∀ y ∈ es, prior y x = false) : S P 106 [.optr 1 q 0 0] st fun v st' => v = .tuple [eI x.1, eI x.2, .bool true] ∧ QSt st0 q false es st' := by
  obtain ⟨h1, h2, sv, hq, h3⟩ := h
  rcases h3 with ⟨h, _⟩ | ⟨b, l, n, a1, a2, rfl, a4, a5, a6, a7, a8, a9⟩
  · cases h
  have hn : n = es.length + 1 := by
    have := a8.length_eq
    rw [List.length_take, List.length_cons] at this; omega
  subst hn
  have hx : at_ l 0 = x := by
    have m0 : at_ l 0 ∈ x :: es := by
      refine a8.subset ?_
      have : (l.take (es.length + 1)).getD 0 default = at_ l 0 := by
        unfold at_; rw [List.getD_eq_getElem?_getD, List.getD_eq_getElem?_getD, List.getElem?_take_of_lt (by omega)]
      rw [← this]; exact getD_mem (by rw [List.length_take]; omega)
    have hmem : x ∈ l.take (es.length + 1) := a8.symm.subset (List.mem_cons_self ..)
    obtain ⟨k, hk, he⟩ := mem_getD hmem
    rw [List.length_take] at hk
    have hxk : x = at_ l k := by
      rw [he]; unfold at_; rw [List.getD_eq_getElem?_getD, List.getD_eq_getElem?_getD, List.getElem?_take_of_lt (by omega)]
    have t1 : prior x (at_ l 0) = false := by rw [hxk]; exact a6.top k (by omega)
    rcases List.mem_cons.1 m0 with e | e
    · exact e
    · exact prior_tri (htop _ e) t1
  have hq' := hq
  obtain ⟨fq, hqs, hq0⟩ := hq
  refine S_of_X [] good mixed Tryz.func106 (by rfl) rfl rfl rfl ?_; conv => whnf
  refine ldV hqs rfl (by omega) hq0 ?_; conv => whnf
  refine call (hpop_S q b l es.length st hq' a1 a7 a6 (by omega) (by omega)) (fun v st' hv => ?_)
  obtain ⟨rfl, l', hl', hp', hh', hq3, he3, hfr⟩ := hv
  rw [hx] at hp' ⊢
  have hsup' : Sup st0 st' := fun c y hc => by
    rw [hfr c (fun e => by subst e; rw [h1] at hc; cases hc) (fun e => by subst e; rw [a2] at hc; cases hc)]; exact h2 c y hc
  conv => whnf
  intro c hc; conv => whnf
  refine stV (upd_same ..) rfl (by omega) rfl (by rfl) ?_; conv => whnf
  refine ⟨[], [], [0, 1, 2, 3, 4, 5, 6], by kernel_rfl, ?_⟩; conv => whnf
  refine ldV (upd_same ..) rfl (by omega) rfl ?_; conv => whnf
  refine ldV (upd_same ..) rfl (by omega) rfl ?_; conv => whnf
  obtain ⟨fq', hqs', hq0'⟩ := hq3
  obtain ⟨fe, hes, hef⟩ := he3
  have hcq : q ≠ c := fun e => by subst e; rw [hqs'] at hc; cases hc
  have hcb : b ≠ c := fun e => by subst e; rw [hes] at hc; cases hc
  have hc0 : st0 c = none := hsup'.none hc
  refine ⟨rfl, h1, (hsup'.over hc0).over hc0, _, ⟨fq', by rw [upd_ne hcq, upd_ne hcq]; exact hqs', hq0'⟩, .inr ⟨b, l', es.length, a1, a2, rfl, by omega, by omega, hh', ⟨fe, by rw [upd_ne hcb, upd_ne hcb]; exact hes, hef⟩, ?_, fun e => by cases e⟩⟩
  exact (List.perm_cons x).1 (hp'.trans a8)
end Go.Proofs.YtfajkgonocpddaaGreat
