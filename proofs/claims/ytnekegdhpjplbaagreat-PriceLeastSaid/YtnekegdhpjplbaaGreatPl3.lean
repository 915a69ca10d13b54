/- Part 3 of the proof: contracts of the functions that the law reaches -/
import Derived.Test.YtnekegdhpjplbaaGreatPl2
/- Contracts: what may be: items, rules. -/
set_option maxRecDepth 100000
set_option linter.unusedVariables false
set_option linter.unusedSimpArgs false
namespace Go.Proofs.YtnekegdhpjplbaaGreat
open Go Go.Ab
attribute [local irreducible] upd del

def itemC (x : Ab.Item) : Bool := !(!nameB x.sku || !nameB x.cat || decide (x.price < 0) || decide (x.price > 1000000000))
def itemsC (l : List Ab.Item) : Bool := !decide ((l.length : Int) > 500) && (allAt l (fun _ x => itemC x) && riseB (l.map Ab.Item.sku))
theorem items_S (l : List Ab.Item) (st : St) : S P 125 [arrOf 4 eItem l] st fun v st' => v = .bool (itemsC l) ∧ st' = st := by
  refine S_sup ?_
  refine S_of_X [5] good mixed Tryz.func125 (by rfl) rfl rfl rfl ?_
  conv => whnf
  refine fork (fun h => ?_) (fun h => ?_) <;> rw [h]
  · conv => whnf
    refine ⟨?_, Sup.refl _⟩
    rw [show itemsC l = false by unfold itemsC; rw [h]; rfl]; rfl
  have hs : l.length ≤ 500 := by simp only [decide_eq_false_iff_not] at h; omega
  have ht : itemsC l = (allAt l (fun _ x => itemC x) && riseB (l.map Ab.Item.sku)) := by unfold itemsC; rw [h, Bool.not_false, Bool.true_and]
  conv => whnf
  refine ⟨[3, 9, 10, 11], fun m vs st' => ∃ (i : Nat) (sv : AV), i ≤ l.length ∧ (∀ k, k < i → (fun (_ : Nat) (x : Ab.Item) => itemC x) k (l.getD k default) = true) ∧ m = l.length - i ∧ vs = [sv, arrOf 4 eItem l, eI l.length, eI i] ∧ Col 9 1 (fun k => eS (Ab.Item.sku (l.getD k default))) st i sv st', ?_, ?_⟩
  · conv => whnf
    exact ⟨_, 0, .emp, Nat.zero_le _, fun k hk => absurd hk (by omega), rfl, rfl, Col.start _ _ _ _⟩
  · rintro m vs st' ⟨i, sv, hi, hok, rfl, rfl, hc⟩
    conv => whnf
    cases h : decide ((i : Int) < (l.length : Int))
    · have := of_decide_eq_false h
      obtain rfl : i = l.length := by omega
      conv => whnf
      refine call_shift (hc.shift.trans (len_map Ab.Item.sku l st)) (call1 (rise_S (l.map Ab.Item.sku) (by rw [List.length_map]; omega) st) ?_)
      conv => whnf
      refine ⟨?_, Sup.refl _⟩
      rw [ht, allAt_yes fun k hk => hok k (by omega), Bool.true_and]; rfl
    · have hi' : i < l.length := by have := of_decide_eq_true h; omega
      conv => whnf
      refine ⟨rfl, ⟨by omega, by omega⟩, ?_⟩
      have yes : (fun (_ : Nat) (x : Ab.Item) => itemC x) i (l.getD (i : Int).toNat default) = true → ∀ k, k < i + 1 → (fun (_ : Nat) (x : Ab.Item) => itemC x) k (l.getD k default) = true := fun h => lt_next hok h
      have no : (fun (_ : Nat) (x : Ab.Item) => itemC x) i (l.getD (i : Int).toNat default) = false → itemsC l = false := fun h => by rw [ht, allAt_no hi' h, Bool.false_and]
      have hmem : l.getD (i : Int).toNat default ∈ l := by
        rw [Int.toNat_natCast, List.getD_eq_getElem?_getD, List.getElem?_eq_getElem hi']; exact List.getElem_mem hi'
      have hsup := hc.sup
      simp only [itemC] at yes no
      repeat' ((conv => whnf); first | refine call1 (name_S _ _) ?_ | (refine fork (fun h => ?_) (fun h => ?_) <;> rw [h]))
      all_goals (conv => whnf)
      all_goals first
        | (refine ⟨?_, hsup⟩; rw [no (by first | (simp only [*, Bool.true_and, Bool.and_self, Bool.or_true, Bool.true_or, Bool.not_true]; done) | simpa using h)]; rfl)
        | skip
      refine Col.app rfl rfl rfl rfl rfl ?_ (by show (i + 1) * 16 ≤ 140737488355328; omega) hc (fun sv' st'' hc' => ?_)
      · rfl
      conv => whnf
      refine ⟨rfl, ?_⟩
      conv => whnf
      exact ⟨l.length - (i + 1), by omega, i + 1, sv', by omega, yes (by first | (simp only [*, Bool.false_and, Bool.and_false, Bool.or_false, Bool.not_false]; done) | simpa using h), rfl, by rw [wrapN (by omega)], hc'⟩

def rateC (x : CatRate) : Bool := !(!nameB x.cat || !upB 0 10000 x.rate)
def zoneC (z : Zone) : Bool := !(!nameB z.name || !upB 0 10000 z.rest || !upB 0 10000 z.ship || decide ((z.rates.length : Int) > 40)) && (allAt z.rates (fun _ x => rateC x) && riseB (z.rates.map CatRate.cat))
theorem zone_S (z : Zone) (st : St) : S P 184 [eZone z] st fun v st' => v = .bool (zoneC z) ∧ st' = st := by
  refine S_sup ?_
  refine S_of_X [1, 5] good mixed Tryz.func184 (by rfl) rfl rfl rfl ?_
  repeat' ((conv => whnf); first | refine call1 (name_S _ _) ?_ | refine call1 (rrate_S _ _) ?_ | (refine fork (fun h => ?_) (fun h => ?_) <;> rw [h]))
  all_goals (conv => whnf)
  all_goals first
    | (refine ⟨?_, Sup.refl _⟩
       rw [show zoneC z = false by unfold zoneC; simp only [*, Bool.true_or, Bool.or_true, Bool.not_true, Bool.false_and]]
       rfl)
    | skip
  have hs : z.rates.length ≤ 40 := by simp only [decide_eq_false_iff_not] at h; omega
  have ht : zoneC z = (allAt z.rates (fun _ x => rateC x) && riseB (z.rates.map CatRate.cat)) := by unfold zoneC; simp only [*, Bool.or_false, Bool.not_false, Bool.true_and]
  refine ⟨[3, 29, 30, 31], fun m vs st' => ∃ (i : Nat) (sv : AV), i ≤ z.rates.length ∧ (∀ k, k < i → (fun (_ : Nat) (x : CatRate) => rateC x) k (z.rates.getD k default) = true) ∧ m = z.rates.length - i ∧ vs = [sv, arrOf 2 eCatRate z.rates, eI z.rates.length, eI i] ∧ Col 9 1 (fun k => eS (CatRate.cat (z.rates.getD k default))) st i sv st', ?_, ?_⟩
  · conv => whnf
    exact ⟨_, 0, .emp, Nat.zero_le _, fun k hk => absurd hk (by omega), rfl, rfl, Col.start _ _ _ _⟩
  · rintro m vs st' ⟨i, sv, hi, hok, rfl, rfl, hc⟩
    conv => whnf
    cases h : decide ((i : Int) < (z.rates.length : Int))
    · have := of_decide_eq_false h
      obtain rfl : i = z.rates.length := by omega
      conv => whnf
      refine call_shift (hc.shift.trans (len_map CatRate.cat z.rates st)) (call1 (rise_S (z.rates.map CatRate.cat) (by rw [List.length_map]; omega) st) ?_)
      conv => whnf
      refine ⟨?_, Sup.refl _⟩
      rw [ht, allAt_yes fun k hk => hok k (by omega), Bool.true_and]; rfl
    · have hi' : i < z.rates.length := by have := of_decide_eq_true h; omega
      conv => whnf
      refine ⟨rfl, ⟨by omega, by omega⟩, ?_⟩
      have yes : (fun (_ : Nat) (x : CatRate) => rateC x) i (z.rates.getD (i : Int).toNat default) = true → ∀ k, k < i + 1 → (fun (_ : Nat) (x : CatRate) => rateC x) k (z.rates.getD k default) = true := fun h => lt_next hok h
      have no : (fun (_ : Nat) (x : CatRate) => rateC x) i (z.rates.getD (i : Int).toNat default) = false → zoneC z = false := fun h => by rw [ht, allAt_no hi' h, Bool.false_and]
      have hmem : z.rates.getD (i : Int).toNat default ∈ z.rates := by
        rw [Int.toNat_natCast, List.getD_eq_getElem?_getD, List.getElem?_eq_getElem hi']; exact List.getElem_mem hi'
      have hsup := hc.sup
      simp only [rateC] at yes no
      repeat' ((conv => whnf); first | refine call1 (name_S _ _) ?_ | refine call1 (rrate_S _ _) ?_ | (refine fork (fun h => ?_) (fun h => ?_) <;> rw [h]))
      all_goals (conv => whnf)
      all_goals first
        | (refine ⟨?_, hsup⟩; rw [no (by first | (simp only [*, Bool.true_and, Bool.and_self, Bool.or_true, Bool.true_or, Bool.not_true]; done) | simpa using h)]; rfl)
        | skip
      refine Col.app rfl rfl rfl rfl rfl ?_ (by show (i + 1) * 16 ≤ 140737488355328; omega) hc (fun sv' st'' hc' => ?_)
      · rfl
      conv => whnf
      refine ⟨rfl, ?_⟩
      conv => whnf
      exact ⟨z.rates.length - (i + 1), by omega, i + 1, sv', by omega, yes (by first | (simp only [*, Bool.false_and, Bool.and_false, Bool.or_false, Bool.not_false]; done) | simpa using h), rfl, by rw [wrapN (by omega)], hc'⟩

def taxC (x : Tax) : Bool := !(decide (x.round < 0) || decide (x.round > 2) || decide ((x.zones.length : Int) > 20)) && (allAt x.zones (fun _ z => zoneC z) && riseB (x.zones.map Zone.name))
theorem tax_S (x : Tax) (st : St) : S P 127 [eTax x] st fun v st' => v = .bool (taxC x) ∧ st' = st := by
  refine S_sup ?_
  refine S_of_X [1, 5] good mixed Tryz.func127 (by rfl) rfl rfl rfl ?_
  repeat' ((conv => whnf); first  | (refine fork (fun h => ?_) (fun h => ?_) <;> rw [h]))
  all_goals (conv => whnf)
  all_goals first
    | (refine ⟨?_, Sup.refl _⟩
       rw [show taxC x = false by unfold taxC; simp only [*, Bool.true_or, Bool.or_true, Bool.not_true, Bool.false_and]]
       rfl)
    | skip
  have hs : x.zones.length ≤ 20 := by simp only [decide_eq_false_iff_not] at h; omega
  have ht : taxC x = (allAt x.zones (fun _ z => zoneC z) && riseB (x.zones.map Zone.name)) := by unfold taxC; simp only [*, Bool.or_false, Bool.not_false, Bool.true_and]
  refine ⟨[3, 21, 22, 23], fun m vs st' => ∃ (i : Nat) (sv : AV), i ≤ x.zones.length ∧ (∀ k, k < i → (fun (_ : Nat) (z : Zone) => zoneC z) k (x.zones.getD k default) = true) ∧ m = x.zones.length - i ∧ vs = [sv, arrOf 4 eZone x.zones, eI x.zones.length, eI i] ∧ Col 9 1 (fun k => eS (Zone.name (x.zones.getD k default))) st i sv st', ?_, ?_⟩
  · conv => whnf
    exact ⟨_, 0, .emp, Nat.zero_le _, fun k hk => absurd hk (by omega), rfl, rfl, Col.start _ _ _ _⟩
  · rintro m vs st' ⟨i, sv, hi, hok, rfl, rfl, hc⟩
    conv => whnf
    cases h : decide ((i : Int) < (x.zones.length : Int))
    · have := of_decide_eq_false h
      obtain rfl : i = x.zones.length := by omega
      conv => whnf
      refine call_shift (hc.shift.trans (len_map Zone.name x.zones st)) (call1 (rise_S (x.zones.map Zone.name) (by rw [List.length_map]; omega) st) ?_)
      conv => whnf
      refine ⟨?_, Sup.refl _⟩
      rw [ht, allAt_yes fun k hk => hok k (by omega), Bool.true_and]; rfl
    · have hi' : i < x.zones.length := by have := of_decide_eq_true h; omega
      conv => whnf
      refine ⟨rfl, ⟨by omega, by omega⟩, ?_⟩
      have yes : (fun (_ : Nat) (z : Zone) => zoneC z) i (x.zones.getD (i : Int).toNat default) = true → ∀ k, k < i + 1 → (fun (_ : Nat) (z : Zone) => zoneC z) k (x.zones.getD k default) = true := fun h => lt_next hok h
      have no : (fun (_ : Nat) (z : Zone) => zoneC z) i (x.zones.getD (i : Int).toNat default) = false → taxC x = false := fun h => by rw [ht, allAt_no hi' h, Bool.false_and]
      have hmem : x.zones.getD (i : Int).toNat default ∈ x.zones := by
        rw [Int.toNat_natCast, List.getD_eq_getElem?_getD, List.getElem?_eq_getElem hi']; exact List.getElem_mem hi'
      have hsup := hc.sup
      simp only [not_true] at yes no
      conv => whnf
      refine call1 (zone_S (x.zones.getD (i : Int).toNat default) _) ?_
      conv => whnf
      refine fork (fun h => ?_) (fun h => ?_) <;> rw [h]
      all_goals (conv => whnf)
      all_goals first
        | (refine ⟨?_, hsup⟩; rw [no (by first | (simp only [*, Bool.true_and, Bool.and_self, Bool.or_true, Bool.true_or, Bool.not_true]; done) | simpa using h)]; rfl)
        | skip
      refine Col.app rfl rfl rfl rfl rfl ?_ (by show (i + 1) * 16 ≤ 140737488355328; omega) hc (fun sv' st'' hc' => ?_)
      · rfl
      conv => whnf
      refine ⟨rfl, ?_⟩
      conv => whnf
      exact ⟨x.zones.length - (i + 1), by omega, i + 1, sv', by omega, yes (by first | (simp only [*, Bool.false_and, Bool.and_false, Bool.or_false, Bool.not_false]; done) | simpa using h), rfl, by rw [wrapN (by omega)], hc'⟩

def kindAt (l : List Int) (i : Nat) (k : Int) : Bool := !(!upB 1 9 k || (l.take i).any fun y => k == y)
def kindsC (l : List Int) : Bool := allAt l (kindAt l)
theorem kinds_S (l : List Int) (hl : l.length < 9223372036854775807) (st : St) : S P 187 [eInts l] st fun v st' => v = .bool (kindsC l) ∧ st' = st := by
  refine S_of_X [] good mixed Tryz.func187 (by rfl) rfl rfl rfl ?_
  conv => whnf
  refine ⟨[0, 5, 6, 7], fun m vs st' => ∃ i : Nat, i ≤ l.length ∧ (∀ k, k < i → kindAt l k (l.getD k default) = true) ∧ m = l.length - i ∧ vs = [eInts l, eInts l, eI l.length, eI i] ∧ st' = st, ?_, ?_⟩
  · conv => whnf
    exact ⟨_, 0, Nat.zero_le _, fun k hk => absurd hk (by omega), rfl, rfl, rfl⟩
  · rintro m vs st' ⟨i, hi, hok, rfl, rfl, rfl⟩
    conv => whnf
    cases h : decide ((i : Int) < (l.length : Int))
    · have := of_decide_eq_false h
      conv => whnf
      refine ⟨?_, rfl⟩
      rw [show kindsC l = true from allAt_yes fun k hk => hok k (by omega)]; rfl
    · have hi' : i < l.length := by have := of_decide_eq_true h; omega
      conv => whnf
      refine ⟨rfl, ⟨by omega, by omega⟩, ?_⟩
      have yes : kindAt l i (l.getD (i : Int).toNat default) = true → ∀ k, k < i + 1 → kindAt l k (l.getD k default) = true := fun h => lt_next hok h
      have no : kindAt l i (l.getD (i : Int).toNat default) = false → kindsC l = false := fun h => allAt_no hi' h
      unfold kindAt at yes no
      conv => whnf
      refine call1 (kind_S _ _) ?_
      conv => whnf
      refine fork (fun h1 => ?_) (fun h1 => ?_)
      · rw [h1]
        conv => whnf
        refine ⟨?_, rfl⟩
        rw [no (by rw [h1]; rfl)]; rfl
      · rw [h1]
        conv => whnf
        refine ⟨rfl, ⟨by omega, by omega, by omega⟩, ?_⟩
        conv => whnf
        refine call_shift (Shift.cons (shift_take 1 eI l i _ _ hi (by omega) (fun k hk => by simp) _) (Shift.keep _ _)) (call1 (intsIn_S (l.take i) (by rw [List.length_take]; omega) _ _) ?_)
        conv => whnf
        refine fork (fun h2 => ?_) (fun h2 => ?_)
        · rw [h2]
          conv => whnf
          refine ⟨?_, rfl⟩
          rw [no (by rw [h2, Bool.or_true, Bool.not_true])]; rfl
        · rw [h2]
          conv => whnf
          refine ⟨rfl, ?_⟩
          conv => whnf
          exact ⟨l.length - (i + 1), by omega, i + 1, by omega, yes (by rw [h1, h2]; rfl), rfl, by rw [wrapN (by omega)], rfl⟩
def policyC (p : Policy) : Bool := upB 0 100000 p.window && upB 0 100000 p.grace && decide (p.mode ≥ 1) && decide (p.mode ≤ 3) && upB 0 10000 p.restock && kindsC p.order && kindsC p.credit
structure RulesFit (r : Rules) : Prop where
  promos : r.promos.length ≤ Big
  fit : ∀ p ∈ r.promos, PromoFit p
  order : r.policy.order.length < 9223372036854775807
  credit : r.policy.credit.length < 9223372036854775807

theorem policy_S (p : Policy) (h1 : p.order.length < 9223372036854775807) (h2 : p.credit.length < 9223372036854775807) (st : St) : S P 129 [ePolicy p] st fun v st' => v = .bool (policyC p) ∧ st' = st := by
  refine S_of_X [1] good mixed Tryz.func129 (by rfl) rfl rfl rfl ?_
  repeat' ((conv => whnf); first | refine call1 (day_S _ st) ?_ | refine call1 (rrate_S _ st) ?_ | refine call1 (kinds_S p.order h1 st) ?_ | refine call1 (kinds_S p.credit h2 st) ?_ | (refine fork (fun h => ?_) (fun h => ?_) <;> rw [h]))
  all_goals (conv => whnf)
  all_goals (refine ⟨?_, rfl⟩; show AV.bool _ = AV.bool _; congr 1)
  all_goals (simp only [policyC, *, Bool.true_and, Bool.false_and, Bool.and_true, Bool.and_false, Bool.or_true, Bool.or_false, Bool.true_or, Bool.false_or, Bool.not_true, Bool.not_false, Bool.not_not]; try rfl)

def rulesC (r : Rules) : Bool := itemsC r.items && promosC r.promos && taxC r.tax && shipC r.ship && policyC r.policy

theorem rules_S (r : Rules) (hf : RulesFit r) (st : St) : S P 76 [eRules r] st fun v st' => v = .bool (rulesC r) ∧ st' = st := by
  refine S_of_X [1] good mixed Tryz.func76 (by rfl) rfl rfl rfl ?_
  repeat' ((conv => whnf); first | refine call1 (items_S r.items st) ?_ | refine call1 (promos_S r.promos hf.promos hf.fit st) ?_ | refine call1 (tax_S r.tax st) ?_ | refine call1 (ship_S r.ship st) ?_ | refine call1 (policy_S r.policy hf.order hf.credit st) ?_ | (refine fork (fun h => ?_) (fun h => ?_) <;> rw [h]))
  all_goals (conv => whnf)
  all_goals (refine ⟨?_, rfl⟩; show AV.bool _ = AV.bool _; congr 1)
  all_goals (simp only [rulesC, *, Bool.true_and, Bool.false_and, Bool.and_true, Bool.and_false, Bool.or_true, Bool.or_false, Bool.true_or, Bool.false_or, Bool.not_true, Bool.not_false, Bool.not_not]; try rfl)

end Go.Proofs.YtnekegdhpjplbaaGreat
/- Plain: the order of texts. -/
set_option linter.unusedVariables false
namespace Go.Proofs.YtnekegdhpjplbaaGreat
open Go Go.Ab
theorem bl_irrefl : ∀ x : List UInt8, Op.bytesLess x x = false
  | [] => rfl
  | a :: x => by simp [Op.bytesLess, bl_irrefl x, UInt8.lt_irrefl]
theorem bl_trans : ∀ x y z : List UInt8, Op.bytesLess x y = true → Op.bytesLess y z = true → Op.bytesLess x z = true
  | _, _, [], _, h => by simp [Op.bytesLess] at h
  | _, [], _ :: _, h, _ => by simp [Op.bytesLess] at h
  | [], _ :: _, _ :: _, _, _ => by simp [Op.bytesLess]
  | a :: x, b :: y, c :: z, h1, h2 => by
    simp only [Op.bytesLess, Bool.or_eq_true, Bool.and_eq_true, decide_eq_true_eq, beq_iff_eq] at *
    rcases h1 with h1 | ⟨rfl, h1⟩
    · rcases h2 with h2 | ⟨rfl, h2⟩
      · exact .inl (UInt8.lt_trans h1 h2)
      · exact .inl h1
    · rcases h2 with h2 | ⟨rfl, h2⟩
      · exact .inl h2
      · exact .inr ⟨rfl, bl_trans x y z h1 h2⟩
theorem bl_tri : ∀ x y : List UInt8, Op.bytesLess x y = false → Op.bytesLess y x = false → x = y
  | [], [], _, _ => rfl
  | [], _ :: _, h, _ => by simp [Op.bytesLess] at h
  | _ :: _, [], _, h => by simp [Op.bytesLess] at h
  | a :: x, b :: y, h1, h2 => by
    simp only [Op.bytesLess, Bool.or_eq_false_iff, Bool.and_eq_false_iff, decide_eq_false_iff_not, beq_eq_false_iff_ne] at *
    have hab : a = b := by
      have n1 := UInt8.not_lt.1 h1.1
      have n2 := UInt8.not_lt.1 h2.1
      exact UInt8.le_antisymm n2 n1
    subst hab
    rw [bl_tri x y (h1.2.resolve_left (by simp)) (h2.2.resolve_left (by simp))]
theorem slt_irrefl (a : Str) : slt a a = false := bl_irrefl _
theorem slt_trans {a b c : Str} (h1 : slt a b = true) (h2 : slt b c = true) : slt a c = true := bl_trans _ _ _ h1 h2
theorem slt_tri {a b : Str} (h1 : slt a b = false) (h2 : slt b a = false) : a.toList = b.toList := bl_tri _ _ h1 h2
theorem slt_asymm {a b : Str} (h : slt a b = true) : slt b a = false := by
  cases hb : slt b a with
  | false => rfl
  | true => have := slt_trans h hb; rw [slt_irrefl] at this; cases this
/-- Not behind, and not behind: not behind. -/
theorem sle_trans {a b c : Str} (h1 : slt b a = false) (h2 : slt c b = false) : slt c a = false := by
  cases hca : slt c a with
  | false => rfl
  | true =>
    cases hab : slt a b with
    | true => have := slt_trans hca hab; rw [this] at h2; cases h2
    | false =>
      have e := slt_tri hab h1
      have : slt c b = true := by unfold slt at *; rw [← e]; exact hca
      rw [this] at h2; cases h2
theorem slt_congr {a a' b b' : Str} (h1 : a.toList = a'.toList) (h2 : b.toList = b'.toList) : slt a b = slt a' b' := by unfold slt; rw [h1, h2]
/-- Sorted: none is ahead of the one before. -/
def sortedAt (l : List Str) (k : Nat) : Bool := k == 0 || !slt (l.getD k default) (l.getD (k - 1) default)
theorem sorted_mono {l : List Str} (h : ∀ k, k < l.length → sortedAt l k = true) {a b : Nat} (hab : a ≤ b) (hb : b < l.length) : slt (l.getD b default) (l.getD a default) = false := by
  induction b with
  | zero => have : a = 0 := by omega
            subst this; exact slt_irrefl _
  | succ b ih =>
    rcases Nat.lt_or_ge a (b + 1) with hlt | hge
    · have h1 := ih (by omega) (by omega)
      have h2 := h (b + 1) hb
      simp only [sortedAt, Nat.add_one_ne_zero, beq_iff_eq, Bool.or_eq_true, Bool.not_eq_true', Nat.add_sub_cancel, false_or] at h2
      exact sle_trans h1 h2
    · have : a = b + 1 := by omega
      subst this; exact slt_irrefl _
end Go.Proofs.YtnekegdhpjplbaaGreat
/- Contracts: where an item stands. -/
set_option maxRecDepth 100000
set_option linter.unusedVariables false
set_option linter.unusedSimpArgs false
namespace Go.Proofs.YtnekegdhpjplbaaGreat
open Go Go.Ab
attribute [local irreducible] upd del
theorem nan_S (a : Str) (st : St) : S P 191 [eS a] st fun v st' => v = .bool false ∧ st' = st := by
  refine S_of_X [] good mixed Tryz.func191 (by rfl) rfl rfl rfl ?_
  conv => whnf
  refine ⟨?_, rfl⟩
  show AV.bool (!(a.toList == a.toList)) = _
  simp
def cmpS (a b : Str) : Int := if slt a b = true then -1 else if slt b a = true then 1 else 0
theorem gtr_slt (a b : Str) : (!(Op.bytesLess a.toList b.toList || a.toList == b.toList)) = slt b a := by
  cases h1 : Op.bytesLess a.toList b.toList with
  | true => rw [slt_asymm (a := a) (b := b) h1]; rfl
  | false =>
    cases h2 : slt b a with
    | true =>
      have hne : (a.toList == b.toList) = false := by
        rw [beq_eq_false_iff_ne]; intro e
        unfold slt at h2; rw [e, bl_irrefl] at h2; cases h2
      rw [hne]; rfl
    | false => rw [slt_tri (a := a) (b := b) h1 h2]; simp
theorem cmp_S (a b : Str) (st : St) : S P 143 [eS a, eS b] st fun v st' => v = eI (cmpS a b) ∧ st' = st := by
  refine S_of_X [] good mixed Tryz.func143 (by rfl) rfl rfl rfl ?_
  conv => whnf
  refine call1 (nan_S _ _) ?_
  conv => whnf
  refine call1 (nan_S _ _) ?_
  conv => whnf
  refine fork (fun h => ?_) (fun h => ?_) <;> rw [h]
  · conv => whnf
    exact ⟨by rw [show cmpS a b = -1 from if_pos h]; rfl, rfl⟩
  · have h0 : ¬ slt a b = true := by rw [show slt a b = false from h]; simp
    conv => whnf
    refine fork (fun h2 => ?_) (fun h2 => ?_)
    · have h3 : slt b a = true := by rw [← gtr_slt a b]; exact h2
      rw [h2]
      conv => whnf
      exact ⟨by rw [show cmpS a b = 1 by unfold cmpS; rw [if_neg h0, if_pos h3]]; rfl, rfl⟩
    · have h3 : ¬ slt b a = true := by rw [← gtr_slt a b, Bool.not_eq_true]; exact h2
      rw [h2]
      conv => whnf
      exact ⟨by rw [show cmpS a b = 0 by unfold cmpS; rw [if_neg h0, if_neg h3]]; rfl, rfl⟩
theorem bySku_S (a b : Ab.Item) (st : St) : S P 155 [eItem a, eItem b] st fun v st' => v = eI (cmpS a.sku b.sku) ∧ st' = st := by
  refine S_of_X [2, 3] good mixed Tryz.func155 (by rfl) rfl rfl rfl ?_
  conv => whnf
  refine call1 (cmp_S _ _ _) ?_
  conv => whnf
  exact ⟨rfl, rfl⟩
theorem cmpS_neg (a b : Str) : decide (cmpS a b < 0) = slt a b := by
  unfold cmpS
  split
  · rename_i h; rw [h]; rfl
  · rename_i h
    rw [Bool.not_eq_true] at h
    rw [h]; split <;> rfl
theorem cmpS_zero (a b : Str) : (cmpS a b == 0) = (a.toList == b.toList) := by
  unfold cmpS
  split
  · rename_i h
    have : (a.toList == b.toList) = false := by
      rw [beq_eq_false_iff_ne]; intro e
      unfold slt at h; rw [e, bl_irrefl] at h; cases h
    rw [this]; rfl
  · split
    · rename_i h1 h
      have : (a.toList == b.toList) = false := by
        rw [beq_eq_false_iff_ne]; intro e
        unfold slt at h; rw [e, bl_irrefl] at h; cases h
      rw [this]; rfl
    · rename_i h1 h2
      rw [Bool.not_eq_true] at h1 h2
      rw [slt_tri h1 h2]; simp
abbrev skus (l : List Ab.Item) : List Str := l.map Ab.Item.sku
theorem sku_at (l : List Ab.Item) {k : Nat} (hk : k < l.length) : (skus l).getD k default = (l.getD k default).sku := getD_map Ab.Item.sku l hk
def sortedB (l : List Str) : Bool := (List.range l.length).all (sortedAt l)
theorem sorted_S (l : List Ab.Item) (hl : l.length < 9223372036854775807) (st : St) : S P 154 [arrOf 4 eItem l, .fn (.func 155) [] []] st fun v st' => v = .bool (sortedB (skus l)) ∧ st' = st := by
  refine S_of_X [] good mixed Tryz.func154 (by rfl) rfl rfl rfl ?_
  conv => whnf
  have hlen : (skus l).length = l.length := List.length_map ..
  refine ⟨[0, 1, 5], fun m vs st' => ∃ i : Int, -1 ≤ i ∧ i < l.length ∧ (∀ k : Nat, i < k → k < l.length → sortedAt (skus l) k = true) ∧ m = (i + 1).toNat ∧ vs = [arrOf 4 eItem l, .fn (.func 155) [] [], eI i] ∧ st' = st, ?_, ?_⟩
  · conv => whnf
    have w : IntKind.i64.wrap ((l.length : Int) - 1) = (l.length : Int) - 1 := wrap64_of (by omega) (by omega)
    exact ⟨_, (l.length : Int) - 1, by omega, by omega, fun k h1 h2 => by omega, rfl, by rw [w], rfl⟩
  · rintro m vs st' ⟨i, h0, hi, hok, rfl, rfl, rfl⟩
    conv => whnf
    cases h : decide (i > 0)
    · have := of_decide_eq_false h
      conv => whnf
      refine ⟨?_, rfl⟩
      rw [show sortedB (skus l) = true from all_range' fun k hk => ?_]; rfl
      rw [hlen] at hk
      rcases Nat.eq_zero_or_pos k with e | e
      · subst e; rfl
      · exact hok k (by omega) hk
    · have hp := of_decide_eq_true h
      have w : IntKind.i64.wrap (i - 1) = i - 1 := wrap64_of (by omega) (by omega)
      conv => whnf
      refine ⟨[], [], [0, 1, 2, 3, 4, 5, 6, 7, 8, 9, 10, 11], by kernel_rfl, ?_⟩
      conv => whnf
      refine ⟨rfl, ⟨by omega, by omega⟩, ?_⟩
      conv => whnf
      rw [w]
      refine ⟨rfl, ⟨by omega, by omega⟩, ?_⟩
      conv => whnf
      refine ⟨_, callQ (bySku_S (l.getD i.toNat default) (l.getD (i - 1).toNat default) _), ?_⟩
      conv => whnf
      rw [cmpS_neg]
      have e : sortedAt (skus l) i.toNat = !slt (l.getD i.toNat default).sku (l.getD (i - 1).toNat default).sku := by
        unfold sortedAt
        rw [beq_false_of_ne (by omega), Bool.false_or, sku_at l (by omega), sku_at l (by omega), show i.toNat - 1 = (i - 1).toNat by omega]
      refine fork (fun h2 => ?_) (fun h2 => ?_)
      · rw [h2] at e ⊢
        conv => whnf
        refine ⟨?_, rfl⟩
        rw [show sortedB (skus l) = false from not_range (k := i.toNat) (by omega) e]; rfl
      · rw [h2] at e ⊢
        conv => whnf
        refine ⟨rfl, ?_⟩
        conv => whnf
        exact ⟨i.toNat, by omega, i - 1, by omega, by omega, fun k h1 h2 => by
          rcases (by omega : k = i.toNat ∨ i < k) with e' | e'
          · rw [e']; exact e
          · exact hok k e' h2, by omega, by rw [w], rfl⟩
theorem find1_S (s : Str) (x : Ab.Item) (st : St) : S P 157 [eItem x, .fptr (eS s) 0] st fun v st' => v = .bool (x.sku.toList == s.toList) ∧ st' = st := by
  refine S_of_X [2] good mixed Tryz.func157 (by rfl) rfl rfl rfl ?_
  conv => whnf
  exact ⟨rfl, rfl⟩
abbrev findB (l : List Ab.Item) (s : Str) : Int := idx (fun x => x.sku.toList == s.toList) l
theorem half_le {i j : Int} (hi : 0 ≤ i) (hij : i < j) (hj : j ≤ 4611686018427387904) : IntKind.i64.wrap ((IntKind.u64.wrap (IntKind.i64.wrap (i + j))).fdiv (2 ^ (min (1 : Int).toNat IntKind.u64.bits))) = (i + j) / 2 := by
  rw [wrap64_of (x := i + j) (by omega) (by omega), wrapU_of (x := i + j) (by omega) (by omega)]
  rw [show (min (1 : Int).toNat IntKind.u64.bits) = 1 from rfl, Int.fdiv_eq_ediv_of_nonneg _ (by decide)]
  rw [show ((2 : Int) ^ 1) = 2 from rfl, wrap64_of (x := (i + j) / 2) (by omega) (by omega)]
theorem search_S (l : List Ab.Item) (x : Ab.Item) (hl : l.length ≤ 4611686018427387904) (hs : sortedB (skus l) = true) (st : St) :
    S P 158 [arrOf 4 eItem l, eItem x, .fn (.func 155) [] []] st fun v st' => (∃ (i : Nat) (b : Bool), v = .tuple [eI i, .bool b] ∧ (if b = true then findB l x.sku = i else findB l x.sku = -1)) ∧ st' = st := by
  refine S_of_X [4] good mixed Tryz.func158 (by rfl) rfl rfl rfl ?_
  conv => whnf
  have hlen : (skus l).length = l.length := List.length_map ..
  have hmono : ∀ a b : Nat, a ≤ b → b < l.length → slt (l.getD b default).sku (l.getD a default).sku = false := fun a b hab hb => by
    have := sorted_mono (l := skus l) (fun k hk => List.all_eq_true.1 hs k (List.mem_range.2 hk)) hab (by omega)
    rwa [sku_at l hb, sku_at l (by omega)] at this
  refine ⟨[0, 2, 4, 8, 9, 10], fun m vs st' => ∃ i j : Nat, i ≤ j ∧ j ≤ l.length ∧ (∀ k, k < i → slt (l.getD k default).sku x.sku = true) ∧ (∀ k, j ≤ k → k < l.length → slt (l.getD k default).sku x.sku = false) ∧ m = j - i ∧
    vs = [arrOf 4 eItem l, .fn (.func 155) [] [], .fptr (eItem x) 0, eI l.length, eI i, eI j] ∧ st' = st, ?_, ?_⟩
  · conv => whnf
    exact ⟨_, 0, l.length, Nat.zero_le _, Nat.le_refl _, fun k hk => absurd hk (by omega), fun k h1 h2 => absurd h1 (by omega), rfl, rfl, rfl⟩
  · rintro m vs st' ⟨i, j, hij, hj, hlo, hhi, rfl, rfl, rfl⟩
    conv => whnf
    cases h : decide ((i : Int) < (j : Int))
    · have := of_decide_eq_false h
      obtain rfl : i = j := by omega
      conv => whnf
      refine ⟨[], [], [0, 1, 2, 3, 4, 5, 6, 7, 8, 9, 10, 11, 12, 13, 14, 15], by kernel_rfl, ?_⟩
      conv => whnf
      have hne : ∀ k, k < i → ((l.getD k default).sku.toList == x.sku.toList) = false := fun k hk => by
        rw [beq_eq_false_iff_ne]; intro e
        have := hlo k hk
        unfold slt at this; rw [e, bl_irrefl] at this; cases this
      refine fork (fun h1 => ?_) (fun h1 => ?_) <;> rw [h1] <;> simp only [decide_eq_true_eq, decide_eq_false_iff_not] at h1
      · conv => whnf
        refine ⟨rfl, ⟨by omega, by omega⟩, ?_⟩
        conv => whnf
        refine ⟨_, callQ (bySku_S (l.getD (i : Int).toNat default) x _), ?_⟩
        conv => whnf
        rw [cmpS_zero]
        refine ⟨⟨i, (l.getD (i : Int).toNat default).sku.toList == x.sku.toList, rfl, ?_⟩, rfl⟩
        split
        · rename_i he
          exact idx_at (by omega) hne he
        · rename_i he
          rw [Bool.not_eq_true] at he
          have hlt : slt (l.getD i default).sku x.sku = false := hhi i (Nat.le_refl _) (by omega)
          refine idx_none fun k hk => ?_
          rcases Nat.lt_or_ge k i with hki | hki
          · exact hne k hki
          · rw [beq_eq_false_iff_ne]; intro e
            have h3 := hmono i k hki hk
            rw [beq_eq_false_iff_ne] at he
            refine he (slt_tri hlt ?_)
            rw [← slt_congr (a := (l.getD k default).sku) e rfl]; exact h3
      · conv => whnf
        refine ⟨⟨i, false, rfl, ?_⟩, rfl⟩
        rw [if_neg (by simp)]
        exact idx_none fun k hk => hne k (by omega)
    · have hlt := of_decide_eq_true h
      conv => whnf
      rw [half_le (i := i) (j := j) (by omega) (by omega) (by omega)]
      have eh : ((i : Int) + (j : Int)) / 2 = (((i + j) / 2 : Nat) : Int) := by omega
      rw [eh]
      generalize hh : (i + j) / 2 = mid at *
      refine ⟨[], [], [0, 1, 2, 3, 4, 5, 6, 7], by kernel_rfl, ?_⟩
      conv => whnf
      refine ⟨rfl, ⟨by omega, by omega⟩, ?_⟩
      conv => whnf
      refine ⟨_, callQ (bySku_S (l.getD (mid : Int).toNat default) x _), ?_⟩
      conv => whnf
      rw [cmpS_neg]
      refine fork (fun h1 => ?_) (fun h1 => ?_)
      · have h1' : slt (l.getD mid default).sku x.sku = true := h1
        rw [h1]
        conv => whnf
        refine ⟨rfl, ?_⟩
        conv => whnf
        refine ⟨j - (mid + 1), by omega, mid + 1, j, by omega, hj, fun k hk => ?_, hhi, rfl, by rw [wrapN (by omega)], rfl⟩
        cases hk2 : slt (l.getD k default).sku x.sku with
        | true => rfl
        | false =>
          have h3 := hmono k mid (by omega) (by omega)
          have := sle_trans hk2 (show slt (l.getD mid default).sku (l.getD k default).sku = false from h3)
          rw [h1'] at this
          cases this
      · have h1' : slt (l.getD mid default).sku x.sku = false := h1
        rw [h1]
        conv => whnf
        refine ⟨rfl, ?_⟩
        conv => whnf
        refine ⟨mid - i, by omega, i, mid, by omega, by omega, hlo, fun k h2 h3 => ?_, rfl, rfl, rfl⟩
        exact sle_trans (b := (l.getD mid default).sku) (by exact h1') (hmono mid k h2 h3)
theorem find_S (l : List Ab.Item) (s : Str) (hl : l.length ≤ 4611686018427387904) (st : St) : S P 94 [arrOf 4 eItem l, eS s] st fun v st' => v = eI (findB l s) ∧ st' = st := by
  refine S_of_X [3, 5] good mixed Tryz.func94 (by rfl) rfl rfl rfl ?_
  conv => whnf
  refine call1 (sorted_S l (by omega) _) ?_
  conv => whnf
  refine fork (fun h => ?_) (fun h => ?_)
  · rw [h]
    conv => whnf
    refine call1 (itemsIndex_S l (by omega) _ [.fptr (eS s) 0] (fun x => x.sku.toList == s.toList) _ fun x _ => find1_S s x _) ?_
    conv => whnf
    exact ⟨rfl, rfl⟩
  · rw [h]
    have hs : sortedB (skus l) = true := by simpa using h
    conv => whnf
    refine call (search_S l ⟨s, ⟨#[]⟩, 0, false⟩ hl hs _) (fun v st' hv => ?_)
    obtain ⟨⟨i, b, rfl, hb⟩, rfl⟩ := hv
    conv => whnf
    cases b with
    | true =>
      conv => whnf
      rw [if_pos rfl] at hb
      exact ⟨by rw [show findB l s = i from hb]; rfl, rfl⟩
    | false =>
      conv => whnf
      rw [if_neg (by simp)] at hb
      exact ⟨by rw [show findB l s = -1 from hb]; rfl, rfl⟩
end Go.Proofs.YtnekegdhpjplbaaGreat
/- Contracts: baskets. -/
set_option maxRecDepth 100000
set_option linter.unusedVariables false
set_option linter.unusedSimpArgs false
namespace Go.Proofs.YtnekegdhpjplbaaGreat
open Go Go.Ab
attribute [local irreducible] upd del
def unitsN (l : List Line) : Int := l.foldl (fun s x => s + x.qty) 0
def grossN (l : List Line) : Int := l.foldl (fun s x => s + x.qty * x.price) 0
theorem lineC_iff (x : Line) : lineC x = true ↔ (0 ≤ x.qty ∧ x.qty ≤ 100000) ∧ (0 ≤ x.price ∧ x.price ≤ 1000000000) := by
  simp [lineC, upB]
theorem line_mul {x : Line} (h : lineC x = true) : 0 ≤ x.qty * x.price ∧ x.qty * x.price ≤ 100000000000000 := by
  obtain ⟨⟨a, b⟩, c, d⟩ := (lineC_iff x).1 h
  exact ⟨Int.mul_nonneg a c, Int.mul_le_mul b d c (by omega)⟩
theorem sums_S (l : List Line) (hl : l.length ≤ 1000) (hok : ∀ x ∈ l, lineC x = true) (st : St) : S P 204 [arrOf 3 eLine l] st fun v st' => v = .tuple [eI (unitsN l), eI (grossN l)] ∧ st' = st := by
  refine S_of_X [7] good mixed Tryz.func204 (by rfl) rfl rfl rfl ?_
  conv => whnf
  refine ⟨[4, 5, 8, 9, 10], fun m vs st' => ∃ i : Nat, i ≤ l.length ∧ (0 ≤ unitsN (l.take i) ∧ unitsN (l.take i) ≤ i * 100000) ∧ (0 ≤ grossN (l.take i) ∧ grossN (l.take i) ≤ i * 100000000000000) ∧ m = l.length - i ∧ vs = [eI (unitsN (l.take i)), eI (grossN (l.take i)), arrOf 3 eLine l, eI l.length, eI i] ∧ st' = st, ?_, ?_⟩
  · conv => whnf
    exact ⟨_, 0, Nat.zero_le _, ⟨Int.le_refl _, by simp [unitsN]⟩, ⟨Int.le_refl _, by simp [grossN]⟩, rfl, rfl, rfl⟩
  · rintro m vs st' ⟨i, hi, hu, hg, rfl, rfl, rfl⟩
    conv => whnf
    cases h : decide ((i : Int) < (l.length : Int))
    · have := of_decide_eq_false h
      obtain rfl : i = l.length := by omega
      conv => whnf
      refine ⟨?_, rfl⟩
      rw [List.take_length]; rfl
    · have hi' : i < l.length := by have := of_decide_eq_true h; omega
      have hmem : l.getD (i : Int).toNat default ∈ l := by
        rw [Int.toNat_natCast, List.getD_eq_getElem?_getD, List.getElem?_eq_getElem hi']; exact List.getElem_mem hi'
      have hx := hok _ hmem
      obtain ⟨⟨q0, q1⟩, _⟩ := (lineC_iff _).1 hx
      obtain ⟨m0, m1⟩ := line_mul hx
      have eu : unitsN (l.take (i + 1)) = unitsN (l.take i) + (l.getD (i : Int).toNat default).qty := foldl_next hi' _ _
      have eg : grossN (l.take (i + 1)) = grossN (l.take i) + (l.getD (i : Int).toNat default).qty * (l.getD (i : Int).toNat default).price := foldl_next hi' _ _
      have w1 : IntKind.i64.wrap (unitsN (l.take i) + (l.getD (i : Int).toNat default).qty) = unitsN (l.take (i + 1)) := by rw [eu]; exact wrap64_of (by omega) (by omega)
      have w2 : IntKind.i64.wrap ((l.getD (i : Int).toNat default).qty * (l.getD (i : Int).toNat default).price) = (l.getD (i : Int).toNat default).qty * (l.getD (i : Int).toNat default).price := wrap64_of (by omega) (by omega)
      have w3 : IntKind.i64.wrap (grossN (l.take i) + (l.getD (i : Int).toNat default).qty * (l.getD (i : Int).toNat default).price) = grossN (l.take (i + 1)) := by rw [eg]; exact wrap64_of (by omega) (by omega)
      conv => whnf
      refine ⟨rfl, ⟨by omega, by omega⟩, ?_⟩
      conv => whnf
      refine ⟨rfl, ?_⟩
      conv => whnf
      refine ⟨l.length - (i + 1), by omega, i + 1, by omega, ?_, ?_, rfl, ?_, rfl⟩
      · rw [eu]; omega
      · rw [eg]; omega
      · rw [wrapN (by omega), ← w1, ← w3, w2]
def badLine (kn : Str → Bool) (x : Line) : Bool := !(kn x.sku && lineC x)
def checkE (kn : Str → Bool) (l : List Line) : Int :=
  if l.length > 1000 then 6 else match l.find? (badLine kn) with
    | some x => if kn x.sku = true then 2 else 7
    | none => if (decide (unitsN l > 100000) || decide (grossN l > 10000000000000)) = true then 5 else 0
theorem find_some {α : Type} [Inhabited α] {p : α → Bool} {l : List α} {i : Nat} (hi : i < l.length) (h : ∀ k, k < i → p (l.getD k default) = false) (hp : p (l.getD i default) = true) : l.find? p = some (l.getD i default) := by
  induction l generalizing i with
  | nil => simp at hi
  | cons a l ih =>
    cases i with
    | zero => simp only [List.getD_cons_zero] at hp ⊢; rw [List.find?_cons_of_pos hp]
    | succ i =>
      have h0 := h 0 (by omega)
      simp only [List.getD_cons_zero] at h0
      rw [List.find?_cons_of_neg (by simp [h0])]
      simp only [List.getD_cons_succ] at hp ⊢
      exact ih (by simpa using hi) (fun k hk => by simpa using h (k + 1) (by omega)) hp
theorem find_none {α : Type} [Inhabited α] {p : α → Bool} {l : List α} (h : ∀ k, k < l.length → p (l.getD k default) = false) : l.find? p = none := by
  rw [List.find?_eq_none]
  intro x hx
  obtain ⟨i, hi, rfl⟩ := List.getElem_of_mem hx
  have := h i hi
  simpa [hi] using this
theorem getD_mem {α : Type} [Inhabited α] {l : List α} {i : Nat} (hi : i < l.length) : l.getD i default ∈ l := by
  rw [List.getD_eq_getElem?_getD, List.getElem?_eq_getElem hi]; exact List.getElem_mem hi
theorem mem_getD {α : Type} [Inhabited α] {l : List α} {x : α} (h : x ∈ l) : ∃ i, i < l.length ∧ x = l.getD i default := by
  obtain ⟨i, hi, rfl⟩ := List.getElem_of_mem h
  exact ⟨i, hi, by simp [hi]⟩
theorem check_S (l : List Line) (kn : Str → Bool) (g : FuncId) (cs : List AV) (st : St) (hg : ∀ x ∈ l, S P g (eS x.sku :: cs) st fun v st' => v = .bool (kn x.sku) ∧ st' = st) :
    S P 146 [arrOf 3 eLine l, .fn (.func g) [] cs] st fun v st' => v = eI (checkE kn l) ∧ st' = st := by
  refine S_of_X [6] good mixed Tryz.func146 (by rfl) rfl rfl rfl ?_
  conv => whnf
  refine fork (fun h => ?_) (fun h => ?_) <;> rw [h] <;> simp only [decide_eq_true_eq, decide_eq_false_iff_not] at h
  · conv => whnf
    exact ⟨by rw [show checkE kn l = 6 from if_pos (by omega)]; rfl, rfl⟩
  have hs : l.length ≤ 1000 := by omega
  have hc : checkE kn l = match l.find? (badLine kn) with
    | some x => if kn x.sku = true then 2 else 7
    | none => if (decide (unitsN l > 100000) || decide (grossN l > 10000000000000)) = true then 5 else 0 := if_neg (by omega)
  conv => whnf
  refine ⟨[0, 1, 12, 13, 14], fun m vs st' => ∃ i : Nat, i ≤ l.length ∧ (∀ k, k < i → badLine kn (l.getD k default) = false) ∧ m = l.length - i ∧ vs = [arrOf 3 eLine l, .fn (.func g) [] cs, arrOf 3 eLine l, eI l.length, eI i] ∧ st' = st, ?_, ?_⟩
  · conv => whnf
    exact ⟨_, 0, Nat.zero_le _, fun k hk => absurd hk (by omega), rfl, rfl, rfl⟩
  · rintro m vs st' ⟨i, hi, hok, rfl, rfl, rfl⟩
    conv => whnf
    cases h : decide ((i : Int) < (l.length : Int))
    · have := of_decide_eq_false h
      rw [find_none fun k hk => hok k (by omega)] at hc
      have hall : ∀ x ∈ l, lineC x = true := fun x hx => by
        obtain ⟨k, hk, rfl⟩ := mem_getD hx
        have := hok k (by omega)
        simp only [badLine, Bool.not_eq_false', Bool.and_eq_true] at this
        exact this.2
      conv => whnf
      refine call1 (sums_S l hs hall _) ?_
      conv => whnf
      refine fork (fun h1 => ?_) (fun h1 => ?_)
      · rw [h1] at hc ⊢
        conv => whnf
        exact ⟨by rw [hc]; rfl, rfl⟩
      · rw [h1] at hc ⊢
        conv => whnf
        refine fork (fun h2 => ?_) (fun h2 => ?_)
        · rw [h2] at hc ⊢
          conv => whnf
          exact ⟨by rw [hc]; rfl, rfl⟩
        · rw [h2] at hc ⊢
          conv => whnf
          exact ⟨by rw [hc]; rfl, rfl⟩
    · have hi' : i < l.length := by have := of_decide_eq_true h; omega
      have hmem : l.getD (i : Int).toNat default ∈ l := getD_mem hi'
      conv => whnf
      refine ⟨rfl, ⟨by omega, by omega⟩, ?_⟩
      conv => whnf
      refine call1 (hg _ hmem) ?_
      conv => whnf
      refine fork (fun h1 => ?_) (fun h1 => ?_)
      · have hk : kn (l.getD (i : Int).toNat default).sku = false := by simpa using h1
        rw [h1]
        conv => whnf
        rw [find_some hi' hok (by show badLine kn (l.getD (i : Int).toNat default) = true; unfold badLine; rw [hk]; rfl)] at hc
        simp only at hc
        rw [if_neg (by rw [show kn (l.getD i default).sku = false from hk]; simp)] at hc
        exact ⟨by rw [hc]; rfl, rfl⟩
      · have hk : kn (l.getD (i : Int).toNat default).sku = true := by simpa using h1
        rw [h1]
        conv => whnf
        refine call1 (line_S (l.getD (i : Int).toNat default) _) ?_
        conv => whnf
        refine fork (fun h2 => ?_) (fun h2 => ?_)
        · have hl : lineC (l.getD (i : Int).toNat default) = false := by simpa using h2
          rw [h2]
          conv => whnf
          rw [find_some hi' hok (by show badLine kn (l.getD (i : Int).toNat default) = true; unfold badLine; rw [hl, Bool.and_false]; rfl)] at hc
          simp only at hc
          rw [if_pos (show kn (l.getD i default).sku = true from hk)] at hc
          exact ⟨by rw [hc]; rfl, rfl⟩
        · have hl : lineC (l.getD (i : Int).toNat default) = true := by simpa using h2
          rw [h2]
          conv => whnf
          refine ⟨rfl, ?_⟩
          conv => whnf
          exact ⟨l.length - (i + 1), by omega, i + 1, by omega, lt_next hok (by show badLine kn (l.getD (i : Int).toNat default) = false; unfold badLine; rw [hk, hl]; rfl), rfl, by rw [wrapN (by omega)], rfl⟩
theorem anySku_S (s : Str) (st : St) : S P 159 [eS s] st fun v st' => v = .bool true ∧ st' = st := by
  refine S_of_X [] good mixed Tryz.func159 (by rfl) rfl rfl rfl ?_
  conv => whnf
  exact ⟨rfl, rfl⟩
theorem may_S (l : List Line) (st : St) : S P 95 [arrOf 3 eLine l] st fun v st' => v = .bool (checkE (fun _ => true) l == 0) ∧ st' = st := by
  refine S_of_X [] good mixed Tryz.func95 (by rfl) rfl rfl rfl ?_
  conv => whnf
  refine call1 (check_S l (fun _ => true) _ [] _ fun x _ => anySku_S x.sku _) ?_
  conv => whnf
  exact ⟨rfl, rfl⟩
theorem known_S (items : List Ab.Item) (hl : items.length ≤ 4611686018427387904) (s : Str) (st : St) : S P 147 [eS s, .fptr (arrOf 4 eItem items) 0] st fun v st' => v = .bool (decide (findB items s ≥ 0)) ∧ st' = st := by
  refine S_of_X [] good mixed Tryz.func147 (by rfl) rfl rfl rfl ?_
  conv => whnf
  refine call1 (find_S items s hl _) ?_
  conv => whnf
  exact ⟨rfl, rfl⟩
def known (items : List Ab.Item) (s : Str) : Bool := decide (findB items s ≥ 0)
theorem Check_S (items : List Ab.Item) (l : List Line) (hl : items.length ≤ 4611686018427387904) (st : St) : S P 83 [arrOf 4 eItem items, arrOf 3 eLine l] st fun v st' => v = eI (checkE (known items) l) ∧ st' = st := by
  refine S_of_X [2] good mixed Tryz.func83 (by rfl) rfl rfl rfl ?_
  conv => whnf
  refine call1 (check_S l (known items) _ [.fptr (arrOf 4 eItem items) 0] _ fun x _ => known_S items hl x.sku _) ?_
  conv => whnf
  exact ⟨rfl, rfl⟩
def itemsOf (items : List Ab.Item) (l : List Line) : List Ab.Item := l.map fun x => items.getD (findB items x.sku).toNat default
theorem itemsOf_S (items : List Ab.Item) (l : List Line) (hi : items.length ≤ 4611686018427387904) (hl : l.length ≤ 1000) (hk : ∀ x ∈ l, known items x.sku = true) (st : St) : S P 55 [arrOf 4 eItem items, arrOf 3 eLine l] st fun v st' => v = arrOf 4 eItem (itemsOf items l) ∧ st' = st := by
  have he : arrOf 4 eItem (itemsOf items l) = .arr 4 l.length (fun k => eItem ((itemsOf items l).getD k default)) := by unfold arrOf; rw [show (itemsOf items l).length = l.length from List.length_map ..]
  rw [he]
  refine S_col (ty := 93) ?_
  refine S_of_X [7] good mixed Tryz.func55 (by rfl) rfl rfl rfl ?_
  conv => whnf
  refine ⟨[0, 5, 9, 10, 11], fun m vs st' => ∃ (i : Nat) (sv : AV), i ≤ l.length ∧ m = l.length - i ∧ vs = [arrOf 4 eItem items, sv, arrOf 3 eLine l, eI l.length, eI i] ∧ Col 93 4 (fun k => eItem ((itemsOf items l).getD k default)) st i sv st', ?_, ?_⟩
  · conv => whnf
    exact ⟨_, 0, .emp, Nat.zero_le _, rfl, rfl, Col.start _ _ _ _⟩
  · rintro m vs st' ⟨i, sv, hi, rfl, rfl, hc⟩
    conv => whnf
    cases h : decide ((i : Int) < (l.length : Int))
    · have := of_decide_eq_false h
      obtain rfl : i = l.length := by omega
      conv => whnf
      exact hc
    · have hi' : i < l.length := by have := of_decide_eq_true h; omega
      have hmem : l.getD (i : Int).toNat default ∈ l := getD_mem hi'
      have hkn := hk _ hmem
      simp only [known, decide_eq_true_eq] at hkn
      have hlt := (idx_lt (fun x : Ab.Item => x.sku.toList == (l.getD (i : Int).toNat default).sku.toList) items).2
      conv => whnf
      refine ⟨rfl, ⟨by omega, by omega⟩, ?_⟩
      conv => whnf
      refine call1 (find_S items (l.getD (i : Int).toNat default).sku (by omega) _) ?_
      conv => whnf
      refine fork (fun h1 => ?_) (fun h1 => ?_)
      · exact absurd (of_decide_eq_true h1) (by omega)
      · rw [h1]
        conv => whnf
        refine ⟨rfl, ⟨by omega, by omega⟩, ?_⟩
        conv => whnf
        refine Col.app rfl rfl rfl rfl rfl ?_ (by show (i + 1) * 48 ≤ 140737488355328; omega) hc (fun sv' st'' hc' => ?_)
        · have e : (itemsOf items l).getD i default = items.getD (findB items (l.getD i default).sku).toNat default := getD_map (fun x : Line => items.getD (findB items x.sku).toNat default) l hi'
          rw [e]; rfl
        conv => whnf
        refine ⟨rfl, ?_⟩
        conv => whnf
        exact ⟨l.length - (i + 1), by omega, i + 1, sv', by omega, rfl, by rw [wrapN (by omega)], hc'⟩
end Go.Proofs.YtnekegdhpjplbaaGreat
/- Contracts: the reference's names, scopes, goods. -/
set_option maxRecDepth 100000
set_option linter.unusedVariables false
set_option linter.unusedSimpArgs false
namespace Go.Proofs.YtnekegdhpjplbaaGreat
open Go Go.Ab
attribute [local irreducible] upd del
abbrev Sm (n : Nat) : Prop := n ≤ 4611686018427387904
theorem rName_S (s : Str) (hs : Sm s.size) (st : St) : S P 171 [eS s] st fun v st' => v = .bool (nameB s) ∧ st' = st := by
  refine S_of_X [] good mixed Tryz.func171 (by rfl) rfl rfl rfl ?_
  conv => whnf
  refine lp s.size [0, 3] (fun i vs st' => (∀ k, k < i → okc (chr s k) = true) ∧ vs = [eS s, eI i] ∧ st' = st) ?_ ?_
  · conv => whnf
    exact ⟨fun k hk => absurd hk (by omega), rfl, rfl⟩
  · rintro i vs st' hi ⟨hok, rfl, rfl⟩
    conv => whnf
    cases h : decide ((i : Int) < (s.size : Int))
    · obtain rfl := stop_at h hi
      have e : nameB s = (decide ((s.size : Int) ≥ 1) && decide ((s.size : Int) ≤ 12)) := by
        unfold nameB
        rw [all_range hok, Bool.and_true]
        congr 1 <;> exact decide_eq_decide.2 (by omega)
      rw [e]
      conv => whnf
      refine fork (fun h1 => ?_) (fun h1 => ?_) <;> rw [h1] <;> (conv => whnf) <;> exact ⟨rfl, rfl⟩
    · have hi' := go_on h
      have no : okc (chr s i) = false → nameB s = false := fun h => by unfold nameB; rw [not_range hi' h, Bool.and_false]
      have yes : okc (chr s i) = true → ∀ k, k < i + 1 → okc (chr s k) = true := fun h => lt_next hok h
      conv => whnf
      refine idxS (i := i) rfl hi' ?_
      generalize chr s i = c at *
      repeat' ((conv => whnf); refine fork (fun h => ?_) (fun h => ?_) <;> rw [h])
      all_goals (conv => whnf)
      all_goals first
        | (refine ⟨?_, rfl⟩
           rw [no (by rw [← Bool.not_eq_true, okc_iff]; simp only [Bool.not_eq_true', Bool.not_eq_false', beq_iff_eq, beq_eq_false_iff_ne, ne_eq, decide_eq_true_eq, decide_eq_false_iff_not] at *; omega)]
           rfl)
        | (refine ⟨rfl, ?_⟩
           conv => whnf
           exact nx hi' ⟨yes ((okc_iff c).2 (by simp only [Bool.not_eq_true', Bool.not_eq_false', beq_iff_eq, beq_eq_false_iff_ne, ne_eq, decide_eq_true_eq, decide_eq_false_iff_not] at *; omega)), by rw [wrapN (by omega)], rfl⟩)
theorem rin_S (x m : Int) (st : St) : S P 109 [eI x, eI m] st fun v st' => v = .bool (upB 0 m x) ∧ st' = st := by
  refine S_of_X [] good mixed Tryz.func109 (by rfl) rfl rfl rfl ?_
  conv => whnf
  unfold upB
  refine fork (fun h => ?_) (fun h => ?_) <;> rw [h] <;> (conv => whnf) <;> exact ⟨rfl, rfl⟩
theorem rhas_S (l : List Str) (s : Str) (hl : Sm l.length) (st : St) : S P 112 [eStrs l, eS s] st fun v st' => v = .bool (l.any fun y => y.toList == s.toList) ∧ st' = st := by
  refine S_of_X [] good mixed Tryz.func112 (by rfl) rfl rfl rfl ?_
  conv => whnf
  refine lp l.length [0, 1, 5] (fun i vs st' => (∀ k, k < i → ((l.getD k default).toList == s.toList) = false) ∧ vs = [eStrs l, eS s, eI i] ∧ st' = st) ?_ ?_
  · conv => whnf
    exact ⟨fun k hk => absurd hk (by omega), rfl, rfl⟩
  · rintro i vs st' hi ⟨hok, rfl, rfl⟩
    conv => whnf
    cases h : decide ((i : Int) < (l.length : Int))
    · obtain rfl := stop_at h hi
      conv => whnf
      refine ⟨?_, rfl⟩
      rw [List.any_eq_false.2 fun x hx => by obtain ⟨k, hk, rfl⟩ := mem_getD hx; rw [hok k hk]; simp]; rfl
    · have hi' := go_on h
      conv => whnf
      refine ⟨rfl, ⟨by omega, by omega⟩, ?_⟩
      conv => whnf
      cases h1 : ((l.getD (i : Int).toNat default).toList == s.toList)
      · conv => whnf
        refine ⟨rfl, ?_⟩
        conv => whnf
        exact nx hi' ⟨lt_next hok h1, by rw [wrapN (by omega)], rfl⟩
      · conv => whnf
        refine ⟨?_, rfl⟩
        rw [List.any_eq_true.2 ⟨_, getD_mem hi', h1⟩]; rfl
theorem sle_iff (a b : Str) : (Op.bytesLess a.toList b.toList || a.toList == b.toList) = !slt b a := by
  show (slt a b || _) = _
  cases h : slt a b with
  | true => rw [slt_asymm h]; rfl
  | false =>
    cases h2 : slt b a with
    | true =>
      rw [Bool.false_or, Bool.not_true, beq_eq_false_iff_ne]
      intro e
      rw [slt_congr e.symm e, h] at h2; cases h2
    | false => rw [Bool.false_or, beq_iff_eq.2 (slt_tri h h2)]; rfl
theorem rnames_S (l : List Str) (m : Int) (hl : Sm l.length) (hs : ∀ s ∈ l, Sm s.size) (st : St) : S P 111 [eStrs l, eI m] st fun v st' => v = .bool (namesB l && decide ((l.length : Int) ≤ m)) ∧ st' = st := by
  have hN : namesB l = allAt l fun k x => nameB x && riseAt l k := by
    unfold namesB riseB allAt
    rw [← Bool.coe_iff_coe]
    simp only [Bool.and_eq_true, List.all_eq_true, List.mem_range, Bool.not_eq_true', List.any_eq_false, Bool.not_eq_true, Bool.not_eq_false']
    exact ⟨fun ⟨a, b⟩ k hk => ⟨Bool.not_eq_false _ ▸ b _ (getD_mem hk), a k hk⟩, fun h => ⟨fun k hk => (h k hk).2, fun x hx => by obtain ⟨k, hk, rfl⟩ := mem_getD hx; rw [(h k hk).1]; simp⟩⟩
  rw [hN]
  refine S_of_X [] good mixed Tryz.func111 (by rfl) rfl rfl rfl ?_
  conv => whnf
  refine lp l.length [0, 1, 5] (fun i vs st' => (∀ k, k < i → (nameB (l.getD k default) && riseAt l k) = true) ∧ vs = [eStrs l, eI m, eI i] ∧ st' = st) ?_ ?_
  · conv => whnf
    exact ⟨fun k hk => absurd hk (by omega), rfl, rfl⟩
  · rintro i vs st' hi ⟨hok, rfl, rfl⟩
    conv => whnf
    cases h : decide ((i : Int) < (l.length : Int))
    · obtain rfl := stop_at h hi
      conv => whnf
      rw [allAt_yes hok]
      exact ⟨rfl, rfl⟩
    · have hi' := go_on h
      have yes : (nameB (l.getD (i : Int).toNat default) && riseAt l i) = true → ∀ k, k < i + 1 → (nameB (l.getD k default) && riseAt l k) = true := fun h => lt_next hok h
      have no : (nameB (l.getD (i : Int).toNat default) && riseAt l i) = false → (allAt l fun k x => nameB x && riseAt l k) = false := fun h => allAt_no hi' h
      conv => whnf
      refine ⟨[], [], List.range 22, by kernel_rfl, ?_⟩
      conv => whnf
      refine ⟨rfl, ⟨by omega, by omega⟩, ?_⟩
      conv => whnf
      have n1 := rName_S (l.getD (i : Int).toNat default) (hs _ (getD_mem hi')) st'
      generalize nameB (l.getD (i : Int).toNat default) = b1 at n1 no yes
      refine ⟨_, callQ n1, ?_⟩
      conv => whnf
      cases b1
      · conv => whnf
        rw [no rfl]
        exact ⟨rfl, rfl⟩
      · rw [Bool.true_and] at no yes
        conv => whnf
        cases h2 : decide ((i : Int) > 0)
        · have h0 : i = 0 := by have := of_decide_eq_false h2; omega
          conv => whnf
          refine ⟨rfl, ?_⟩
          conv => whnf
          exact nx hi' ⟨yes (by rw [h0]; rfl), by rw [wrapN (by omega)], rfl⟩
        · have hp : 0 < i := by have := of_decide_eq_true h2; omega
          have hw : IntKind.i64.wrap ((i : Int) - 1) = ((i - 1 : Nat) : Int) := by rw [wrap64_of (by omega) (by omega)]; omega
          have e : riseAt l i = !(Op.bytesLess (l.getD (i : Int).toNat default).toList (l.getD ((i - 1 : Nat) : Int).toNat default).toList || (l.getD (i : Int).toNat default).toList == (l.getD ((i - 1 : Nat) : Int).toNat default).toList) := by
            rw [sle_iff, Bool.not_not]
            unfold riseAt
            rw [Int.toNat_natCast, Int.toNat_natCast, beq_false_of_ne (by omega), Bool.false_or]
          rw [e] at yes no
          conv => whnf
          refine ⟨rfl, ⟨by omega, by omega⟩, ?_⟩
          conv => whnf
          rw [hw]
          refine ⟨rfl, ⟨by omega, by omega⟩, ?_⟩
          conv => whnf
          generalize (Op.bytesLess (l.getD (i : Int).toNat default).toList (l.getD ((i - 1 : Nat) : Int).toNat default).toList || (l.getD (i : Int).toNat default).toList == (l.getD ((i - 1 : Nat) : Int).toNat default).toList) = b at *
          cases b
          · conv => whnf
            refine ⟨rfl, ?_⟩
            conv => whnf
            exact nx hi' ⟨yes rfl, by rw [wrapN (by omega)], rfl⟩
          · conv => whnf
            rw [no rfl]
            exact ⟨rfl, rfl⟩
end Go.Proofs.YtnekegdhpjplbaaGreat
/- Contracts: the reference's scopes, goods, parts, tiers, rates, taxes. -/
set_option maxRecDepth 100000
set_option linter.unusedVariables false
set_option linter.unusedSimpArgs false
namespace Go.Proofs.YtnekegdhpjplbaaGreat
open Go Go.Ab
attribute [local irreducible] upd del
structure ScopeSm (s : Scope) : Prop where
  n1 : Sm s.skus.length
  n2 : Sm s.cats.length
  s1 : ∀ x ∈ s.skus, Sm x.size
  s2 : ∀ x ∈ s.cats, Sm x.size
theorem rScope_S (s : Scope) (h : ScopeSm s) (st : St) : S P 227 [eScope s] st fun v st' => v = .bool (scopeB s) ∧ st' = st := by
  refine S_of_X [1] good mixed Tryz.func227 (by rfl) rfl rfl rfl ?_
  conv => whnf
  refine call1 (rnames_S s.skus 20 h.n1 h.s1 st) ?_
  have e : scopeB s = ((namesB s.skus && decide ((s.skus.length : Int) ≤ 20)) && (namesB s.cats && decide ((s.cats.length : Int) ≤ 20))) := by
    unfold scopeB
    rw [Bool.and_comm (decide _), Bool.and_comm (decide (s.cats.length ≤ 20))]
    rw [show decide ((s.skus.length : Int) ≤ 20) = decide (s.skus.length ≤ 20) from decide_eq_decide.2 (by omega), show decide ((s.cats.length : Int) ≤ 20) = decide (s.cats.length ≤ 20) from decide_eq_decide.2 (by omega)]
  rw [e]
  cases (namesB s.skus && decide ((s.skus.length : Int) ≤ 20))
  · conv => whnf
    exact ⟨rfl, rfl⟩
  · conv => whnf
    refine call1 (rnames_S s.cats 20 h.n2 h.s2 st) ?_
    conv => whnf
    exact ⟨rfl, rfl⟩
theorem rFind_S (l : List Ab.Item) (s : Str) (hl : Sm l.length) (st : St) : S P 90 [arrOf 4 eItem l, eS s] st fun v st' => v = eI (findB l s) ∧ st' = st := by
  refine S_of_X [] good mixed Tryz.func90 (by rfl) rfl rfl rfl ?_
  conv => whnf
  refine lp l.length [0, 1, 5] (fun i vs st' => (∀ k, k < i → ((l.getD k default).sku.toList == s.toList) = false) ∧ vs = [arrOf 4 eItem l, eS s, eI i] ∧ st' = st) ?_ ?_
  · conv => whnf
    exact ⟨fun k hk => absurd hk (by omega), rfl, rfl⟩
  · rintro i vs st' hi ⟨hok, rfl, rfl⟩
    conv => whnf
    cases h : decide ((i : Int) < (l.length : Int))
    · obtain rfl := stop_at h hi
      conv => whnf
      exact ⟨by rw [show findB l s = -1 from idx_none fun k hk => hok k hk]; rfl, rfl⟩
    · have hi' := go_on h
      conv => whnf
      refine ⟨rfl, ⟨by omega, by omega⟩, ?_⟩
      conv => whnf
      refine fork (fun h1 => ?_) (fun h1 => ?_) <;> rw [h1]
      · conv => whnf
        exact ⟨by rw [show findB l s = i from idx_at hi' hok h1]; rfl, rfl⟩
      · conv => whnf
        refine ⟨rfl, ?_⟩
        conv => whnf
        exact nx hi' ⟨lt_next hok h1, by rw [wrapN (by omega)], rfl⟩
theorem rise_le {L : List Str} {i : Nat} (hp : 0 < i) : riseAt L i = !(Op.bytesLess (L.getD i default).toList (L.getD (i - 1) default).toList || (L.getD i default).toList == (L.getD (i - 1) default).toList) := by
  rw [sle_iff, Bool.not_not]
  unfold riseAt
  rw [beq_false_of_ne (by omega), Bool.false_or]
theorem wrapP {i : Nat} (h : 0 < i) (h2 : i < 9223372036854775807) : IntKind.i64.wrap ((i : Int) - 1) = ((i - 1 : Nat) : Int) := by rw [wrap64_of (by omega) (by omega)]; omega
def goodAt (l : List Ab.Item) (k : Nat) (x : Ab.Item) : Bool := nameB x.sku && nameB x.cat && upB 0 1000000000 x.price && riseAt (l.map Ab.Item.sku) k
theorem rGoods_S (l : List Ab.Item) (hl : Sm l.length) (hs : ∀ x ∈ l, Sm x.sku.size ∧ Sm x.cat.size) (st : St) : S P 106 [arrOf 4 eItem l] st fun v st' => v = .bool (itemsC l) ∧ st' = st := by
  have hN : itemsC l = (allAt l (goodAt l) && decide ((l.length : Int) ≤ 500)) := by
    unfold itemsC allAt riseB goodAt itemC upB
    rw [List.length_map, ← Bool.coe_iff_coe]
    simp only [Bool.and_eq_true, List.all_eq_true, List.mem_range, Bool.not_eq_true', Bool.or_eq_false_iff, Bool.not_eq_false', decide_eq_true_eq, decide_eq_false_iff_not]
    constructor
    · rintro ⟨h1, h2, h3⟩
      exact ⟨fun k hk => ⟨⟨⟨(h2 k hk).1.1.1, (h2 k hk).1.1.2⟩, by have := (h2 k hk).1.2; have := (h2 k hk).2; omega⟩, h3 k hk⟩, by omega⟩
    · rintro ⟨h1, h2⟩
      exact ⟨by omega, fun k hk => ⟨⟨⟨(h1 k hk).1.1.1, (h1 k hk).1.1.2⟩, by have := (h1 k hk).1.2; omega⟩, by have := (h1 k hk).1.2; omega⟩, fun k hk => (h1 k hk).2⟩
  rw [hN]
  refine S_of_X [] good mixed Tryz.func106 (by rfl) rfl rfl rfl ?_
  conv => whnf
  refine lp l.length [0, 3] (fun i vs st' => (∀ k, k < i → goodAt l k (l.getD k default) = true) ∧ vs = [arrOf 4 eItem l, eI i] ∧ st' = st) ?_ ?_
  · conv => whnf
    exact ⟨fun k hk => absurd hk (by omega), rfl, rfl⟩
  · rintro i vs st' hi ⟨hok, rfl, rfl⟩
    conv => whnf
    cases h : decide ((i : Int) < (l.length : Int))
    · obtain rfl := stop_at h hi
      conv => whnf
      rw [allAt_yes hok]
      exact ⟨rfl, rfl⟩
    · have hi' := go_on h
      have yes : goodAt l i (l.getD (i : Int).toNat default) = true → ∀ k, k < i + 1 → goodAt l k (l.getD k default) = true := fun h => lt_next hok h
      have no : goodAt l i (l.getD (i : Int).toNat default) = false → allAt l (goodAt l) = false := fun h => allAt_no hi' h
      have hm := hs _ (getD_mem hi')
      have n1 := rName_S (l.getD (i : Int).toNat default).sku hm.1 st'
      have n2 := rName_S (l.getD (i : Int).toNat default).cat hm.2 st'
      have n3 := rin_S (l.getD (i : Int).toNat default).price 1000000000 st'
      have e : 0 < i → riseAt (l.map Ab.Item.sku) i = !(Op.bytesLess (l.getD i default).sku.toList (l.getD (i - 1) default).sku.toList || (l.getD i default).sku.toList == (l.getD (i - 1) default).sku.toList) := fun hp => by
        rw [rise_le hp]
        have e1 : (l.map Ab.Item.sku).getD i default = (l.getD i default).sku := getD_map Ab.Item.sku l hi'
        have e2 : (l.map Ab.Item.sku).getD (i - 1) default = (l.getD (i - 1) default).sku := getD_map Ab.Item.sku l (by omega)
        rw [e1, e2]
      have e0 : i = 0 → riseAt (l.map Ab.Item.sku) i = true := fun h => by rw [h]; rfl
      rw [show goodAt l i (l.getD (i : Int).toNat default) = (nameB (l.getD (i : Int).toNat default).sku && nameB (l.getD (i : Int).toNat default).cat && upB 0 1000000000 (l.getD (i : Int).toNat default).price && riseAt (l.map Ab.Item.sku) i) from rfl] at yes no
      generalize nameB (l.getD (i : Int).toNat default).sku = b1 at n1 yes no
      generalize nameB (l.getD (i : Int).toNat default).cat = b2 at n2 yes no
      generalize upB 0 1000000000 (l.getD (i : Int).toNat default).price = b3 at n3 yes no
      conv => whnf
      refine ⟨[], [], List.range 43, by kernel_rfl, ?_⟩
      cases h0 : decide ((i : Int) > 0)
      · have h0' : i = 0 := by have := of_decide_eq_false h0; omega
        replace e := e0 h0'
        repeat' ((conv => whnf); first | refine ⟨rfl, ⟨by omega, by omega⟩, ?_⟩ | refine ⟨_, callQ n1, ?_⟩ | refine ⟨_, callQ n2, ?_⟩ | refine ⟨_, callQ n3, ?_⟩ | rw [h0] | cases b1 | cases b2 | cases b3)
        all_goals (conv => whnf)
        all_goals first
          | (rw [no (by rfl)]; exact ⟨rfl, rfl⟩)
          | (refine ⟨rfl, ?_⟩; conv => whnf
             exact nx hi' ⟨yes (by rw [e]; rfl), by rw [wrapN (by omega)], rfl⟩)
      · have h0' : 0 < i := by have := of_decide_eq_true h0; omega
        replace e := e h0'
        have hw := wrapP h0' (by omega)
        repeat' ((conv => whnf); first | refine ⟨rfl, ⟨by omega, by omega⟩, ?_⟩ | refine ⟨rfl, ⟨by rw [hw]; omega, by rw [hw]; omega⟩, ?_⟩ | refine ⟨_, callQ n1, ?_⟩ | refine ⟨_, callQ n2, ?_⟩ | refine ⟨_, callQ n3, ?_⟩ | rw [h0] | cases b1 | cases b2 | cases b3 | refine fork (fun h => ?_) (fun h => ?_))
        all_goals (conv => whnf)
        all_goals first
          | (rw [no (by rfl)]; exact ⟨rfl, rfl⟩)
          | (rw [hw] at h; rw [no (by rw [e]; exact congrArg not h)]; exact ⟨rfl, rfl⟩)
          | (rw [hw] at h; refine ⟨rfl, ?_⟩; conv => whnf
             exact nx hi' ⟨yes (by rw [e]; exact congrArg not h), by rw [wrapN (by omega)], rfl⟩)
end Go.Proofs.YtnekegdhpjplbaaGreat
/- Plain: heaps. -/
set_option linter.unusedVariables false
set_option linter.unusedSimpArgs false
namespace Go.Ab
/-- A rank, and whose it is. -/
abbrev QE := Int × Int
def prior (a b : QE) : Bool := decide (a.1 > b.1) || (a.1 == b.1 && decide (a.2 < b.2))
theorem prior_iff (a b : QE) : prior a b = true ↔ a.1 > b.1 ∨ (a.1 = b.1 ∧ a.2 < b.2) := by simp [prior]
theorem prior_no (a b : QE) : prior a b = false ↔ ¬ (a.1 > b.1 ∨ (a.1 = b.1 ∧ a.2 < b.2)) := by rw [← prior_iff, Bool.not_eq_true]
theorem prior_asymm {a b : QE} (h : prior a b = true) : prior b a = false := by rw [prior_iff] at h; rw [prior_no]; omega
theorem prior_irrefl (a : QE) : prior a a = false := by rw [prior_no]; omega
theorem prior_trans {a b c : QE} (h : prior a b = true) (k : prior b c = true) : prior a c = true := by rw [prior_iff] at *; omega
/-- not prior, and not prior -/
theorem nah_trans {a b c : QE} (h : prior a b = false) (k : prior b c = false) : prior a c = false := by rw [prior_no] at *; omega
theorem nah_lt {a b c : QE} (h : prior a b = false) (k : prior c b = true) : prior a c = false := by rw [prior_no] at *; rw [prior_iff] at k; omega
theorem prior_tri {a b : QE} (h : prior a b = false) (k : prior b a = false) : a = b := by
  rw [prior_no] at *
  exact Prod.ext (by omega) (by omega)
abbrev at_ (l : List QE) (k : Nat) : QE := l.getD k default
def swp (l : List QE) (i j : Nat) : List QE := (l.set i (at_ l j)).set j (at_ l i)
theorem swp_len (l : List QE) (i j : Nat) : (swp l i j).length = l.length := by simp [swp]
theorem swp_at {l : List QE} {i j : Nat} (hi : i < l.length) (hj : j < l.length) (k : Nat) : at_ (swp l i j) k = if k = j then at_ l i else if k = i then at_ l j else at_ l k := by
  unfold swp at_
  simp only [List.getD_eq_getElem?_getD, List.getElem?_set, List.length_set]
  by_cases h1 : k = j
  · subst h1; simp [hj]
  · rw [if_neg (fun e => h1 e.symm), if_neg h1]
    by_cases h2 : k = i
    · subst h2; simp [hi]
    · rw [if_neg (fun e => h2 e.symm), if_neg h2]
theorem swp_perm {l : List QE} {i j : Nat} (hi : i < l.length) (hj : j < l.length) : (swp l i j).Perm l := by
  have e1 : at_ l j = l[j] := by simp [at_, hj]
  have e2 : at_ l i = l[i] := by simp [at_, hi]
  unfold swp
  rw [e1, e2]
  exact List.set_set_perm hi hj
/-- A child is not prior of its parent. -/
def Nah (l : List QE) (c p : Nat) : Prop := prior (at_ l c) (at_ l p) = false
def par (c : Nat) : Nat := (c - 1) / 2
def Heap (l : List QE) (m : Nat) : Prop := ∀ c, 0 < c → c < m → Nah l c (par c)
structure Rise (l : List QE) (m j : Nat) : Prop where
  a : ∀ c, 0 < c → c < m → c ≠ j → Nah l c (par c)
  b : ∀ c, 0 < c → c < m → par c = j → 0 < j → Nah l c (par j)
structure Sink (l : List QE) (m i : Nat) : Prop where
  a : ∀ c, 0 < c → c < m → par c ≠ i → Nah l c (par c)
  b : ∀ c, 0 < c → c < m → par c = i → 0 < i → Nah l c (par i)
theorem Rise.done {l : List QE} {m j : Nat} (h : Rise l m j) (hj : j = 0 ∨ Nah l j (par j)) : Heap l m := fun c h0 hc => by
  by_cases e : c = j
  · subst e; rcases hj with hj | hj
    · omega
    · exact hj
  · exact h.a c h0 hc e
theorem Rise.step {l : List QE} {m j : Nat} (h : Rise l m j) (hm : m ≤ l.length) (hj : j < m) (h0 : 0 < j) (ha : prior (at_ l j) (at_ l (par j)) = true) : Rise (swp l (par j) j) m (par j) := by
  have hp : par j < j := by unfold par; omega
  have sw := swp_at (l := l) (i := par j) (j := j) (by omega) (by omega)
  refine ⟨fun c hc0 hcm hne => ?_, fun c hc0 hcm hpc hp0 => ?_⟩
  · have hpc : par c < c := by unfold par; omega
    unfold Nah
    rw [sw c, sw (par c)]
    by_cases ecj : c = j
    · subst ecj
      rw [if_pos rfl, if_neg (by omega), if_pos rfl]
      exact prior_asymm ha
    · rw [if_neg ecj, if_neg hne]
      by_cases epj : par c = j
      · rw [if_pos epj]; exact h.b c hc0 hcm epj h0
      · rw [if_neg epj]
        by_cases epi : par c = par j
        · rw [if_pos epi]
          have := h.a c hc0 hcm ecj
          unfold Nah at this; rw [epi] at this
          exact nah_lt this ha
        · rw [if_neg epi]; exact h.a c hc0 hcm ecj
  · have hpp : par (par j) < par j := by unfold par at *; omega
    have hpj := h.a (par j) hp0 (by omega) (by omega)
    unfold Nah at *
    rw [sw c, sw (par (par j)), if_neg (show ¬ par (par j) = j by omega), if_neg (show ¬ par (par j) = par j by omega)]
    by_cases ecj : c = j
    · rw [if_pos ecj]; exact hpj
    · rw [if_neg ecj, if_neg (show ¬ c = par j by unfold par at *; omega)]
      have := h.a c hc0 hcm ecj
      unfold Nah at this; rw [hpc] at this
      exact nah_trans this hpj
theorem Sink.done {l : List QE} {m i : Nat} (h : Sink l m i) (hc : ∀ c, 0 < c → c < m → par c = i → Nah l c i) : Heap l m := fun c h0 hcm => by
  by_cases e : par c = i
  · rw [e]; exact hc c h0 hcm e
  · exact h.a c h0 hcm e
theorem Sink.step {l : List QE} {m i j : Nat} (h : Sink l m i) (hm : m ≤ l.length) (hj : j < m) (h0 : 0 < j) (hp : par j = i) (ha : prior (at_ l j) (at_ l i) = true)
    (hb : ∀ c, 0 < c → c < m → par c = i → Nah l c j) : Sink (swp l i j) m j := by
  have hij : i < j := by rw [← hp]; unfold par; omega
  have sw := swp_at (l := l) (i := i) (j := j) (by omega) (by omega)
  refine ⟨fun c hc0 hcm hne => ?_, fun c hc0 hcm hpc hp0 => ?_⟩
  · have hpc : par c < c := by unfold par; omega
    unfold Nah
    rw [sw c, sw (par c), if_neg hne]
    by_cases ecj : c = j
    · subst ecj
      rw [if_pos rfl, if_pos hp]
      exact prior_asymm ha
    · rw [if_neg ecj]
      by_cases epi : par c = i
      · rw [if_pos epi, if_neg (by omega)]
        exact hb c hc0 hcm epi
      · rw [if_neg epi]
        by_cases eci : c = i
        · rw [if_pos eci]
          subst eci
          exact h.b j h0 hj hp hc0
        · rw [if_neg eci]; exact h.a c hc0 hcm epi
  · have : j < c := by unfold par at hpc; omega
    unfold Nah
    rw [hp, sw c, sw i, if_neg (show ¬ c = j by omega), if_neg (show ¬ c = i by omega), if_neg (show ¬ i = j by omega), if_pos rfl]
    have := h.a c hc0 hcm (by omega)
    unfold Nah at this; rw [hpc] at this; exact this
theorem Heap.top {l : List QE} {m : Nat} (h : Heap l m) : ∀ k, k < m → Nah l k 0 := by
  intro k
  induction k using Nat.strongRecOn with
  | _ k ih =>
    intro hk
    rcases Nat.eq_zero_or_pos k with e | e
    · subst e; exact prior_irrefl _
    · have hp : par k < k := by unfold par; omega
      exact nah_trans (h k e hk) (ih (par k) hp (by omega))
theorem Heap.up {l : List QE} {m : Nat} (h : Heap l m) (x : QE) (hm : m = l.length) : Rise (l ++ [x]) (m + 1) m := by
  have old : ∀ k, k < m → at_ (l ++ [x]) k = at_ l k := fun k hk => by
    unfold at_; rw [List.getD_eq_getElem?_getD, List.getD_eq_getElem?_getD, List.getElem?_append_left (by omega)]
  refine ⟨fun c h0 hc hne => ?_, fun c h0 hc hpc hm0 => ?_⟩
  · have hp : par c < c := by unfold par; omega
    unfold Nah
    rw [old c (by omega), old (par c) (by omega)]
    exact h c h0 (by omega)
  · unfold par at hpc; omega
/-- Behind the swap that takes the first one to the end. -/
theorem Heap.down {l : List QE} {m : Nat} (h : Heap l (m + 1)) (hm : m < l.length) : Sink (swp l 0 m) m 0 := by
  have sw := swp_at (l := l) (i := 0) (j := m) (by omega) (by omega)
  refine ⟨fun c h0 hc hne => ?_, fun c h0 hc hpc h00 => by omega⟩
  have hp : par c < c := by unfold par; omega
  unfold Nah
  rw [sw c, sw (par c), if_neg (by omega), if_neg (by omega), if_neg (by omega), if_neg hne]
  exact h c h0 (by omega)
end Go.Ab
/- Contracts: a queue's entries. -/
set_option maxRecDepth 100000
set_option linter.unusedVariables false
set_option linter.unusedSimpArgs false
namespace Go.Proofs.YtnekegdhpjplbaaGreat
open Go Go.Ab
attribute [local irreducible] upd del
def eEnt (x : QE) : AV := .agg [eI x.1, eI x.2]
def HasE (st : St) (b : Nat) (l : List QE) : Prop := ∃ f, st b = some ⟨211, 2, l.length, f⟩ ∧ ∀ k, k < l.length → f k = eEnt (at_ l k)
theorem less_S (b : Nat) (l : List QE) (n i j : Nat) (st : St) (h : HasE st b l) (hn : n ≤ l.length) (hi : i < n) (hj : j < n) :
    S P 298 [.own 2 b 0 n, eI i, eI j] st fun v st' => v = .bool (prior (at_ l i) (at_ l j)) ∧ st' = st := by
  obtain ⟨f, hst, hf⟩ := h
  refine S_of_X [] good mixed Tryz.func298 (by rfl) rfl rfl rfl ?_
  conv => whnf
  refine ⟨[], [], [0, 1, 2, 3, 4, 5, 6, 7, 8, 9, 10, 11, 12, 13, 14, 15, 16, 17, 18, 19, 20, 21, 22, 23, 24, 25, 26, 27, 28, 29, 30, 31, 32, 33, 34, 35, 36, 37], by kernel_rfl, ?_⟩
  conv => whnf
  have fi : f (0 + (i : Int).toNat) = eEnt (at_ l i) := by rw [Nat.zero_add]; exact hf i (by omega)
  have fj : f (0 + (j : Int).toNat) = eEnt (at_ l j) := by rw [Nat.zero_add]; exact hf j (by omega)
  have li : 0 + (i : Int).toNat < l.length := by omega
  have lj : 0 + (j : Int).toNat < l.length := by omega
  refine ⟨rfl, ⟨by omega, by omega⟩, ?_⟩
  conv => whnf
  refine ldV hst rfl li fi ?_
  conv => whnf
  refine ⟨rfl, ⟨by omega, by omega⟩, ?_⟩
  conv => whnf
  refine ldV hst rfl lj fj ?_
  conv => whnf
  unfold prior
  refine fork (fun h1 => ?_) (fun h1 => ?_) <;> rw [h1]
  · conv => whnf
    exact ⟨rfl, rfl⟩
  conv => whnf
  refine ⟨rfl, ⟨by omega, by omega⟩, ?_⟩
  conv => whnf
  refine ldV hst rfl li fi ?_
  conv => whnf
  refine ⟨rfl, ⟨by omega, by omega⟩, ?_⟩
  conv => whnf
  refine ldV hst rfl lj fj ?_
  conv => whnf
  refine fork (fun h2 => ?_) (fun h2 => ?_) <;> rw [h2]
  · conv => whnf
    refine ⟨rfl, ⟨by omega, by omega⟩, ?_⟩
    conv => whnf
    refine ldV hst rfl li fi ?_
    conv => whnf
    refine ⟨rfl, ⟨by omega, by omega⟩, ?_⟩
    conv => whnf
    refine ldV hst rfl lj fj ?_
    conv => whnf
    exact ⟨rfl, rfl⟩
  · conv => whnf
    exact ⟨rfl, rfl⟩
theorem len_S (b n : Nat) (st : St) : S P 297 [.own 2 b 0 n] st fun v st' => v = eI n ∧ st' = st := by
  refine S_of_X [] good mixed Tryz.func297 (by rfl) rfl rfl rfl ?_
  conv => whnf
  exact ⟨rfl, rfl⟩
theorem setCells2 (x u : QE) : setCells (eEnt x) 0 (cellsOf (eEnt u)) = eEnt u := rfl
theorem swap_S (b : Nat) (l : List QE) (n i j : Nat) (st : St) (h : HasE st b l) (hn : n ≤ l.length) (hi : i < n) (hj : j < n) :
    S P 299 [.own 2 b 0 n, eI i, eI j] st fun v st' => v = .tuple [] ∧ HasE st' b (swp l i j) ∧ ∀ c, c ≠ b → st' c = st c := by
  obtain ⟨f, hst, hf⟩ := h
  refine S_of_X [] good mixed Tryz.func299 (by rfl) rfl rfl rfl ?_
  conv => whnf
  have fi : f (0 + (i : Int).toNat) = eEnt (at_ l i) := by rw [Nat.zero_add]; exact hf i (by omega)
  have fj : f (0 + (j : Int).toNat) = eEnt (at_ l j) := by rw [Nat.zero_add]; exact hf j (by omega)
  have li : 0 + (i : Int).toNat < l.length := by omega
  have lj : 0 + (j : Int).toNat < l.length := by omega
  have ei : 0 + (i : Int).toNat = i := by omega
  have ej : 0 + (j : Int).toNat = j := by omega
  have hfj : fset f (0 + (i : Int).toNat) (setCells (eEnt (at_ l i)) 0 (cellsOf (eEnt (at_ l j)))) (0 + (j : Int).toNat) = eEnt (at_ l j) := by
    by_cases h : j = i
    · subst h; rw [fset_same]; rfl
    · rw [fset_ne (by omega)]; exact fj
  refine ⟨[13, 15], [], [0, 1, 2, 3, 4, 5, 6, 7, 8, 9, 10, 11, 12, 13, 14, 15], by kernel_rfl, ?_⟩
  conv => whnf
  refine ⟨rfl, ⟨by omega, by omega⟩, ?_⟩
  conv => whnf
  refine ldV hst rfl lj fj ?_
  conv => whnf
  refine ⟨rfl, ⟨by omega, by omega⟩, ?_⟩
  conv => whnf
  refine ldV hst rfl li fi ?_
  conv => whnf
  refine ⟨rfl, ⟨by omega, by omega⟩, ?_⟩
  conv => whnf
  refine stV hst rfl li fi (by rfl) ?_
  conv => whnf
  refine ⟨rfl, ⟨by omega, by omega⟩, ?_⟩
  conv => whnf
  refine stV (v := eEnt (at_ l j)) (upd_same ..) rfl lj hfj (by rfl) ?_
  conv => whnf
  refine ⟨rfl, ⟨_, by rw [upd_same, swp_len], fun k hk => ?_⟩, fun c hc => by rw [upd_ne hc, upd_ne hc]⟩
  rw [swp_len] at hk
  rw [swp_at (by omega) (by omega)]
  by_cases h1 : k = j
  · subst h1
    rw [if_pos rfl, ej, fset_same]; rfl
  · rw [if_neg h1, fset_ne (by omega)]
    by_cases h2 : k = i
    · subst h2
      rw [if_pos rfl, ei, fset_same]; rfl
    · rw [if_neg h2, fset_ne (by omega)]; exact hf k hk
end Go.Proofs.YtnekegdhpjplbaaGreat
/- Contracts: heaps. -/
set_option maxRecDepth 100000
set_option linter.unusedVariables false
set_option linter.unusedSimpArgs false
namespace Go.Proofs.YtnekegdhpjplbaaGreat
open Go Go.Ab
attribute [local irreducible] upd del
def HasQ (st : St) (q : Nat) (sv : AV) : Prop := ∃ f, st q = some ⟨207, 1, 1, f⟩ ∧ f 0 = .agg [sv]
abbrev hI (q : Nat) : AV := .iface 209 (.optr 1 q 0 0)
theorem HasQ.frame {st st' : St} {q b : Nat} {sv : AV} (h : HasQ st q sv) (hqb : q ≠ b) (hf : ∀ c, c ≠ b → st' c = st c) : HasQ st' q sv := by
  obtain ⟨f, h1, h2⟩ := h
  exact ⟨f, by rw [hf q hqb]; exact h1, h2⟩
theorem parW (j : Nat) (hj : j < 4611686018427387904) : IntKind.i64.wrap ((IntKind.i64.wrap ((j : Int) - 1)).tdiv 2) = ((par j : Nat) : Int) := by
  rw [wrap64_of (x := (j : Int) - 1) (by omega) (by omega)]
  unfold par
  rcases Nat.eq_zero_or_pos j with e | e
  · subst e; rfl
  · rw [Int.tdiv_eq_ediv_of_nonneg (by omega), wrap64_of (by omega) (by omega)]; omega
theorem hup_S (q b : Nat) (l : List QE) (j : Nat) (st : St) (hq : HasQ st q (.own 2 b 0 l.length)) (hqb : q ≠ b) (he : HasE st b l) (hr : Ab.Rise l l.length j) (hj : j < l.length) (hl : l.length < 4611686018427387904) :
    S P 206 [hI q, eI j] st fun v st' => v = .tuple [] ∧ ∃ l', l'.Perm l ∧ Heap l' l.length ∧ HasE st' b l' ∧ ∀ c, c ≠ b → st' c = st c := by
  refine S_of_X [] good mixed Tryz.func206 (by rfl) rfl rfl rfl ?_
  conv => whnf
  refine ⟨[0, 1], fun m vs st' => ∃ (j : Nat) (l' : List QE), l'.Perm l ∧ HasE st' b l' ∧ (∀ c, c ≠ b → st' c = st c) ∧ Ab.Rise l' l.length j ∧ j < l.length ∧ m = j ∧ vs = [hI q, eI j], ?_, ?_⟩
  · conv => whnf
    exact ⟨_, j, l, List.Perm.refl _, he, fun c _ => rfl, hr, hj, rfl, rfl⟩
  · clear hr hj he
    rintro j vs st' ⟨_, l', hp, he, hfr, hr, hj, rfl, rfl⟩
    have hlen : l'.length = l.length := hp.length_eq
    obtain ⟨f, hqs, hq0⟩ := hq.frame hqb hfr
    have hpj : par j ≤ j := by unfold par; omega
    conv => whnf
    rw [parW j (by omega)]
    refine fork (fun h1 => ?_) (fun h1 => ?_) <;> rw [h1]
    · have : j = 0 := by
        have := of_decide_eq_true h1
        unfold par at this; omega
      conv => whnf
      exact ⟨rfl, l', hp, hr.done (.inl this), he, hfr⟩
    · have hj0 : 0 < j := by
        rcases Nat.eq_zero_or_pos j with e | e
        · subst e; cases h1
        · exact e
      conv => whnf
      refine ldV hqs rfl (by omega) hq0 ?_
      conv => whnf
      refine call1 (less_S b l' l.length j (par j) _ he (by omega) (by omega) (by omega)) ?_
      conv => whnf
      refine fork (fun h2 => ?_) (fun h2 => ?_) <;> rw [h2]
      · conv => whnf
        exact ⟨rfl, l', hp, hr.done (.inr (by have := h2; simp only [Bool.not_eq_true'] at this; exact this)), he, hfr⟩
      · have h2' : prior (at_ l' j) (at_ l' (par j)) = true := by have := h2; simp only [Bool.not_eq_false'] at this; exact this
        have hlt : par j < j := by unfold par; omega
        conv => whnf
        refine ldV hqs rfl (by omega) hq0 ?_
        conv => whnf
        refine call (swap_S b l' l.length (par j) j _ he (by omega) (by omega) (by omega)) (fun v st'' hv => ?_)
        obtain ⟨rfl, he', hfr'⟩ := hv
        conv => whnf
        refine ⟨rfl, ?_⟩
        conv => whnf
        exact ⟨par j, hlt, par j, swp l' (par j) j, (swp_perm (by omega) (by omega)).trans hp, he', fun c hc => (hfr' c hc).trans (hfr c hc), hr.step (by omega) hj hj0 h2', by omega, rfl, rfl⟩
theorem j1W (i : Nat) (hi : i < 2305843009213693952) : IntKind.i64.wrap (IntKind.i64.wrap (2 * (i : Int)) + 1) = ((2 * i + 1 : Nat) : Int) := by
  rw [wrap64_of (x := 2 * (i : Int)) (by omega) (by omega), wrap64_of (by omega) (by omega)]; omega
theorem hdown_S (q b : Nat) (l : List QE) (n m : Nat) (st : St) (hq : HasQ st q (.own 2 b 0 n)) (hqb : q ≠ b) (he : HasE st b l) (hs : Ab.Sink l m 0) (hmn : m ≤ n) (hn : n ≤ l.length) (hl : l.length < 2305843009213693952) :
    S P 207 [hI q, eI 0, eI m] st fun v st' => (∃ x, v = .bool x) ∧ ∃ l', l'.Perm l ∧ (∀ k, m ≤ k → at_ l' k = at_ l k) ∧ Heap l' m ∧ HasE st' b l' ∧ ∀ c, c ≠ b → st' c = st c := by
  refine S_of_X [] good mixed Tryz.func207 (by rfl) rfl rfl rfl ?_
  conv => whnf
  refine ⟨[0, 1, 2, 7], fun t vs st' => ∃ (i : Nat) (l' : List QE), l'.Perm l ∧ (∀ k, m ≤ k → at_ l' k = at_ l k) ∧ HasE st' b l' ∧ (∀ c, c ≠ b → st' c = st c) ∧ Ab.Sink l' m i ∧ i ≤ l.length ∧ t = l.length - i ∧ vs = [hI q, eI 0, eI m, eI i], ?_, ?_⟩
  · conv => whnf
    exact ⟨_, 0, l, List.Perm.refl _, fun _ _ => rfl, he, fun c _ => rfl, hs, Nat.zero_le _, rfl, rfl⟩
  · clear hs he
    rintro t vs st' ⟨i, l', hp, hk, he, hfr, hs, hi, rfl, rfl⟩
    have hlen : l'.length = l.length := hp.length_eq
    obtain ⟨f, hqs, hq0⟩ := hq.frame hqb hfr
    have kid : ∀ c, 0 < c → (par c = i ↔ c = 2 * i + 1 ∨ c = 2 * i + 2) := fun c hc => by unfold par; omega
    conv => whnf
    rw [j1W i (by omega)]
    refine fork (fun h1 => ?_) (fun h1 => ?_) <;> rw [h1] <;> simp only [decide_eq_true_eq, decide_eq_false_iff_not] at h1
    · conv => whnf
      exact ⟨⟨_, rfl⟩, l', hp, hk, hs.done (fun c hc0 hcm hpc => by have := (kid c hc0).1 hpc; omega), he, hfr⟩
    have him : 2 * i + 1 < m := by omega
    conv => whnf
    have w2 : IntKind.i64.wrap (((2 * i + 1 : Nat) : Int) + 1) = ((2 * i + 2 : Nat) : Int) := by rw [wrap64_of (by omega) (by omega)]; omega
    rw [w2]
    -- behind the choice of a child
    have tail : ∀ (j : Nat), 0 < j → j < m → par j = i → (∀ c, 0 < c → c < m → par c = i → Nah l' c j) → ∀ (K : KK), (∀ v st'' l'', v = .tuple [] → l''.Perm l → (∀ k, m ≤ k → at_ l'' k = at_ l k) → HasE st'' b l'' → (∀ c, c ≠ b → st'' c = st c) → prior (at_ l' j) (at_ l' i) = true → Ab.Sink l'' m j → K v st'') → prior (at_ l' j) (at_ l' i) = true → xCall P 299 [.own 2 b 0 n, eI i, eI j] st' K := by
      intro j hj0 hjm hpj hbest K hK hpr
      have hij : i < j := by rw [← hpj]; unfold par; omega
      refine call (swap_S b l' n i j _ he (by omega) (by omega) (by omega)) (fun v st'' hv => ?_)
      obtain ⟨rfl, he', hfr'⟩ := hv
      refine hK _ _ (swp l' i j) rfl ((swp_perm (by omega) (by omega)).trans hp) (fun k hkm => ?_) he' (fun c hc => (hfr' c hc).trans (hfr c hc)) hpr (hs.step (by omega) hjm hj0 hpj hpr hbest)
      rw [swp_at (by omega) (by omega), if_neg (by omega), if_neg (by omega)]; exact hk k hkm
    refine fork (fun h3 => ?_) (fun h3 => ?_) <;> rw [h3] <;> simp only [decide_eq_true_eq, decide_eq_false_iff_not] at h3
    · conv => whnf
      refine ldV hqs rfl (by omega) hq0 ?_
      conv => whnf
      refine call1 (less_S b l' n (2 * i + 2) (2 * i + 1) _ he (by omega) (by omega) (by omega)) ?_
      conv => whnf
      refine fork (fun h4 => ?_) (fun h4 => ?_) <;> rw [h4]
      · have hbest : ∀ c, 0 < c → c < m → par c = i → Nah l' c (2 * i + 2) := fun c hc0 hcm hpc => by
          rcases (kid c hc0).1 hpc with e | e
          · subst e; exact prior_asymm h4
          · subst e; exact prior_irrefl _
        conv => whnf
        refine ldV hqs rfl (by omega) hq0 ?_
        conv => whnf
        refine call1 (less_S b l' n (2 * i + 2) i _ he (by omega) (by omega) (by omega)) ?_
        conv => whnf
        refine fork (fun h5 => ?_) (fun h5 => ?_) <;> rw [h5]
        · conv => whnf
          exact ⟨⟨_, rfl⟩, l', hp, hk, hs.done (fun c hc0 hcm hpc => nah_trans (hbest c hc0 hcm hpc) (show Nah l' (2 * i + 2) i by have := h5; simp only [Bool.not_eq_true'] at this; exact this)), he, hfr⟩
        · conv => whnf
          refine ldV hqs rfl (by omega) hq0 ?_
          conv => whnf
          refine tail (2 * i + 2) (by omega) (by omega) ((kid _ (by omega)).2 (.inr rfl)) hbest _ (fun v st'' l'' hv hp' hk' he' hfr' hpr hs' => ?_) (by have := h5; simp only [Bool.not_eq_false'] at this; exact this)
          subst hv
          conv => whnf
          refine ⟨rfl, ?_⟩
          conv => whnf
          exact ⟨l.length - (2 * i + 2), by omega, 2 * i + 2, l'', hp', hk', he', hfr', hs', by omega, rfl, rfl⟩
      · have hbest : ∀ c, 0 < c → c < m → par c = i → Nah l' c (2 * i + 1) := fun c hc0 hcm hpc => by
          rcases (kid c hc0).1 hpc with e | e
          · subst e; exact prior_irrefl _
          · subst e; exact h4
        conv => whnf
        refine ldV hqs rfl (by omega) hq0 ?_
        conv => whnf
        refine call1 (less_S b l' n (2 * i + 1) i _ he (by omega) (by omega) (by omega)) ?_
        conv => whnf
        refine fork (fun h5 => ?_) (fun h5 => ?_) <;> rw [h5]
        · conv => whnf
          exact ⟨⟨_, rfl⟩, l', hp, hk, hs.done (fun c hc0 hcm hpc => nah_trans (hbest c hc0 hcm hpc) (show Nah l' (2 * i + 1) i by have := h5; simp only [Bool.not_eq_true'] at this; exact this)), he, hfr⟩
        · conv => whnf
          refine ldV hqs rfl (by omega) hq0 ?_
          conv => whnf
          refine tail (2 * i + 1) (by omega) (by omega) ((kid _ (by omega)).2 (.inl rfl)) hbest _ (fun v st'' l'' hv hp' hk' he' hfr' hpr hs' => ?_) (by have := h5; simp only [Bool.not_eq_false'] at this; exact this)
          subst hv
          conv => whnf
          refine ⟨rfl, ?_⟩
          conv => whnf
          exact ⟨l.length - (2 * i + 1), by omega, 2 * i + 1, l'', hp', hk', he', hfr', hs', by omega, rfl, rfl⟩
    · have hbest : ∀ c, 0 < c → c < m → par c = i → Nah l' c (2 * i + 1) := fun c hc0 hcm hpc => by
        rcases (kid c hc0).1 hpc with e | e
        · subst e; exact prior_irrefl _
        · omega
      conv => whnf
      refine ldV hqs rfl (by omega) hq0 ?_
      conv => whnf
      refine call1 (less_S b l' n (2 * i + 1) i _ he (by omega) (by omega) (by omega)) ?_
      conv => whnf
      refine fork (fun h5 => ?_) (fun h5 => ?_) <;> rw [h5]
      · conv => whnf
        exact ⟨⟨_, rfl⟩, l', hp, hk, hs.done (fun c hc0 hcm hpc => nah_trans (hbest c hc0 hcm hpc) (show Nah l' (2 * i + 1) i by have := h5; simp only [Bool.not_eq_true'] at this; exact this)), he, hfr⟩
      · conv => whnf
        refine ldV hqs rfl (by omega) hq0 ?_
        conv => whnf
        refine tail (2 * i + 1) (by omega) (by omega) ((kid _ (by omega)).2 (.inl rfl)) hbest _ (fun v st'' l'' hv hp' hk' he' hfr' hpr hs' => ?_) (by have := h5; simp only [Bool.not_eq_false'] at this; exact this)
        subst hv
        conv => whnf
        refine ⟨rfl, ?_⟩
        conv => whnf
        exact ⟨l.length - (2 * i + 1), by omega, 2 * i + 1, l'', hp', hk', he', hfr', hs', by omega, rfl, rfl⟩
end Go.Proofs.YtnekegdhpjplbaaGreat
/- Contracts: queues. -/
set_option maxRecDepth 100000
set_option linter.unusedVariables false
set_option linter.unusedSimpArgs false
namespace Go.Proofs.YtnekegdhpjplbaaGreat
open Go Go.Ab
attribute [local irreducible] upd del
theorem HasE.frame {st st' : St} {b c : Nat} {l : List QE} (h : HasE st b l) (hc : c ≠ b) (hf : ∀ a, a ≠ c → st' a = st a) : HasE st' b l := by
  obtain ⟨f, h1, h2⟩ := h
  exact ⟨f, by rw [hf b (fun e => hc e.symm)]; exact h1, h2⟩
theorem epop_S (q b : Nat) (l : List QE) (n : Nat) (st : St) (hq : HasQ st q (.own 2 b 0 (n + 1))) (hqb : q ≠ b) (he : HasE st b l) (hn : n < l.length) (hl : l.length < 2305843009213693952) :
    S P 300 [.optr 1 q 0 0] st fun v st' => v = .iface 211 (eEnt (at_ l n)) ∧ HasQ st' q (.own 2 b 0 n) ∧ ∀ c, c ≠ q → st' c = st c := by
  obtain ⟨fq, hqs, hq0⟩ := hq
  obtain ⟨f, hst, hf⟩ := he
  refine S_of_X [4] good mixed Tryz.func300 (by rfl) rfl rfl rfl ?_
  conv => whnf
  refine ldV hqs rfl (by omega) hq0 ?_
  conv => whnf
  have w : IntKind.i64.wrap (((n + 1 : Nat) : Int) - 1) = (n : Int) := by rw [wrap64_of (by omega) (by omega)]; omega
  rw [w]
  refine ldV hqs rfl (by omega) hq0 ?_
  conv => whnf
  refine ⟨rfl, ⟨by omega, by omega⟩, ?_⟩
  conv => whnf
  refine ldV hst rfl (by omega) (v := eEnt (at_ l n)) (by rw [show 0 + (n : Int).toNat = n by omega]; exact hf n hn) ?_
  conv => whnf
  refine ldV hqs rfl (by omega) hq0 ?_
  conv => whnf
  refine ⟨rfl, ⟨by omega, by omega, by omega⟩, .inl rfl, ?_⟩
  conv => whnf
  refine stV hqs rfl (by omega) hq0 (by rfl) ?_
  conv => whnf
  refine ⟨rfl, ⟨_, upd_same .., ?_⟩, fun c hc => by rw [upd_ne hc]⟩
  rw [fset_same]
  show AV.agg [AV.own 2 b _ _] = _
  congr 3 <;> simp
theorem epush_S (q : Nat) (sv : AV) (l : List QE) (x : QE) (st st0 : St) (hq : HasQ st q sv) (h0 : st0 q = none) (hsup : Sup st0 st) (hl : l.length < 2305843009213)
    (hs : (l = [] ∧ sv = .emp) ∨ ∃ b, q ≠ b ∧ st0 b = none ∧ sv = .own 2 b 0 l.length ∧ HasE st b l) :
    S P 301 [.optr 1 q 0 0, .iface 211 (eEnt x)] st fun v st' => v = .tuple [] ∧ ∃ b, q ≠ b ∧ st0 b = none ∧ HasQ st' q (.own 2 b 0 (l.length + 1)) ∧ HasE st' b (l ++ [x]) ∧ Sup st0 st' := by
  obtain ⟨fq, hqs, hq0⟩ := hq
  refine S_of_X [] good mixed Tryz.func301 (by rfl) rfl rfl rfl ?_
  conv => whnf
  intro c hc
  have hcq : q ≠ c := fun e => by subst e; rw [hqs] at hc; cases hc
  conv => whnf
  refine stV (upd_same ..) rfl (by omega) rfl (by rfl) ?_
  conv => whnf
  refine ⟨[6, 8], [], [0, 1, 2, 3, 4, 5, 6, 7, 8], by kernel_rfl, ?_⟩
  conv => whnf
  refine ldV (by rw [upd_ne hcq, upd_ne hcq]; exact hqs) rfl (by omega) hq0 ?_
  conv => whnf
  have hc0 : st0 c = none := hsup.none hc
  rcases hs with ⟨rfl, rfl⟩ | ⟨b, hqb, hb0, rfl, f, hst, hf⟩
  · conv => whnf
    refine ldV (upd_same ..) rfl (by omega) rfl ?_
    conv => whnf
    refine ⟨_, ⟨rfl, rfl⟩, ?_⟩
    conv => whnf
    refine apE rfl rfl rfl rfl (srcArr ..) (by show 1 * 16 ≤ _; omega) (fun h => absurd h (by omega)) (fun _ b hb => ?_)
    have hbq : b ≠ q := fun e => by subst e; rw [upd_ne hcq, upd_ne hcq, hqs] at hb; cases hb
    have hbc : b ≠ c := fun e => by subst e; rw [upd_same] at hb; cases hb
    have hb' : st b = none := by rw [upd_ne hbc, upd_ne hbc] at hb; exact hb
    conv => whnf
    refine stV (by rw [upd_ne hbq.symm, upd_ne hcq, upd_ne hcq]; exact hqs) rfl (by omega) hq0 (by rfl) ?_
    conv => whnf
    refine ⟨rfl, b, hbq.symm, hsup.none hb', ⟨_, upd_same .., by rw [fset_same]; rfl⟩, ⟨_, by rw [upd_ne hbq, upd_same]; rfl, fun k hk => ?_⟩, ?_⟩
    · have : k = 0 := by simpa using hk
      subst this; rfl
    · exact (((hsup.over hc0).over hc0).over (hsup.none hb')).over h0
  · have hbc : b ≠ c := fun e => by subst e; rw [hst] at hc; cases hc
    conv => whnf
    refine ldV (upd_same ..) rfl (by omega) rfl ?_
    conv => whnf
    refine ⟨_, ⟨rfl, rfl⟩, ?_⟩
    conv => whnf
    refine apO (q := r211) (n := l.length) rfl rfl rfl rfl (srcArr ..) (by rw [upd_ne hbc, upd_ne hbc]; exact hst) rfl rfl rfl (by show (l.length + 1) * 16 ≤ _; omega) (fun h => absurd h (by omega)) (fun _ b' hb' => ?_)
    have hb'q : b' ≠ q := fun e => by
      subst e
      rcases hb' with e | e
      · exact hqb e
      · rw [upd_ne hcq, upd_ne hcq, hqs] at e; cases e
    have hb'0 : st0 b' = none := by
      rcases hb' with rfl | e
      · exact hb0
      · by_cases hbc' : b' = c
        · subst hbc'; exact hc0
        · rw [upd_ne hbc', upd_ne hbc'] at e; exact hsup.none e
    conv => whnf
    refine stV (by rw [upd_ne hb'q.symm]; unfold del; rw [if_neg hqb, upd_ne hcq, upd_ne hcq]; exact hqs) rfl (by omega) hq0 (by rfl) ?_
    conv => whnf
    refine ⟨rfl, b', hb'q.symm, hb'0, ⟨_, upd_same .., by rw [fset_same]; rfl⟩, ⟨_, by rw [upd_ne hb'q, upd_same, List.length_append]; rfl, fun k hk => ?_⟩, ?_⟩
    · rw [List.length_append] at hk
      simp only [List.length_cons, List.length_nil] at hk
      unfold at_
      by_cases hkl : k < l.length
      · simp only [hkl, if_true]
        rw [hf k hkl, List.getD_eq_getElem?_getD, List.getElem?_append_left hkl, ← List.getD_eq_getElem?_getD]
      · have : k = l.length := by omega
        subst this
        simp only [Nat.lt_irrefl, if_false, Nat.sub_self]
        rw [show (l ++ [x]).getD l.length default = x by simp [List.getD_eq_getElem?_getD]]
        rfl
    · exact ((((hsup.over hc0).over hc0).del hb0).over hb'0).over h0
theorem hpush_S (q : Nat) (sv : AV) (l : List QE) (x : QE) (st st0 : St) (hq : HasQ st q sv) (h0 : st0 q = none) (hsup : Sup st0 st) (hl : l.length < 2305843009213) (hh : Heap l l.length)
    (hs : (l = [] ∧ sv = .emp) ∨ ∃ b, q ≠ b ∧ st0 b = none ∧ sv = .own 2 b 0 l.length ∧ HasE st b l) :
    S P 161 [hI q, .iface 211 (eEnt x)] st fun v st' => v = .tuple [] ∧ ∃ b l', q ≠ b ∧ st0 b = none ∧ l'.Perm (l ++ [x]) ∧ Heap l' l'.length ∧ HasQ st' q (.own 2 b 0 l'.length) ∧ HasE st' b l' ∧ Sup st0 st' := by
  refine S_of_X [] good mixed Tryz.func161 (by rfl) rfl rfl rfl ?_
  conv => whnf
  refine call (epush_S q sv l x st st0 hq h0 hsup hl hs) (fun v st' hv => ?_)
  obtain ⟨rfl, b, hqb, hb0, ⟨fq, hqs, hq0⟩, he, hsup'⟩ := hv
  conv => whnf
  refine ldV hqs rfl (by omega) hq0 ?_
  conv => whnf
  refine call1 (len_S b (l.length + 1) _) ?_
  conv => whnf
  have w : IntKind.i64.wrap (((l.length + 1 : Nat) : Int) - 1) = (l.length : Int) := by rw [wrap64_of (by omega) (by omega)]; omega
  rw [w]
  have e1 : (l ++ [x]).length = l.length + 1 := by simp
  have hr : Ab.Rise (l ++ [x]) (l ++ [x]).length l.length := by rw [e1]; exact hh.up x rfl
  refine call (hup_S q b (l ++ [x]) l.length _ (by rw [e1]; exact ⟨fq, hqs, hq0⟩) hqb he hr (by omega) (by omega)) (fun v st'' hv => ?_)
  obtain ⟨rfl, l', hp, hh', he', hfr⟩ := hv
  conv => whnf
  have el : l'.length = (l ++ [x]).length := hp.length_eq
  refine ⟨rfl, b, l', hqb, hb0, hp, by rw [el]; exact hh', ?_, he', fun c y hc => ?_⟩
  · rw [el, e1]; exact HasQ.frame ⟨fq, hqs, hq0⟩ hqb hfr
  · rw [hfr c (fun e => by subst e; rw [hb0] at hc; cases hc)]; exact hsup' c y hc
theorem take_perm {l l' : List QE} {m : Nat} (hm : m < l.length) (hp : l'.Perm l) (hk : ∀ k, m ≤ k → at_ l' k = at_ (swp l 0 m) k) : (at_ l 0 :: l'.take m).Perm (l.take (m + 1)) := by
  have hlen : l'.length = l.length := hp.length_eq
  have e1 : l'.drop m = at_ l 0 :: l.drop (m + 1) := by
    refine List.ext_getElem? fun i => ?_
    rw [List.getElem?_drop]
    have hi := hk (m + i) (by omega)
    rw [swp_at (by omega) hm] at hi
    rcases Nat.lt_or_ge (m + i) l.length with h | h
    · have a1 : l'[m + i]? = some (at_ l' (m + i)) := by
        unfold at_; rw [List.getD_eq_getElem?_getD, List.getElem?_eq_getElem (by omega)]; rfl
      rw [a1, hi]
      cases i with
      | zero => simp
      | succ i =>
        rw [if_neg (by omega), if_neg (by omega), List.getElem?_cons_succ, List.getElem?_drop]
        unfold at_
        rw [List.getD_eq_getElem?_getD, show m + (i + 1) = m + 1 + i by omega, List.getElem?_eq_getElem (by omega)]; rfl
    · rw [List.getElem?_eq_none (by omega)]
      cases i with
      | zero => omega
      | succ i => rw [List.getElem?_cons_succ, List.getElem?_drop, List.getElem?_eq_none (by omega)]
  have h1 : (l'.take m ++ (at_ l 0 :: l.drop (m + 1))).Perm (l.take (m + 1) ++ l.drop (m + 1)) := by
    rw [← e1, List.take_append_drop, List.take_append_drop]; exact hp
  have h2 : ((at_ l 0 :: l'.take m) ++ l.drop (m + 1)).Perm (l.take (m + 1) ++ l.drop (m + 1)) := by
    refine List.Perm.trans ?_ h1
    exact List.perm_middle.symm
  exact (List.perm_append_right_iff _).1 h2
theorem hpop_S (q b : Nat) (l : List QE) (n : Nat) (st : St) (hq : HasQ st q (.own 2 b 0 (n + 1))) (hqb : q ≠ b) (he : HasE st b l) (hh : Heap l (n + 1)) (hn : n < l.length) (hl : l.length < 2305843009213693952) :
    S P 162 [hI q] st fun v st' => v = .iface 211 (eEnt (at_ l 0)) ∧ ∃ l', l'.length = l.length ∧ (at_ l 0 :: l'.take n).Perm (l.take (n + 1)) ∧ Heap l' n ∧ HasQ st' q (.own 2 b 0 n) ∧ HasE st' b l' ∧ ∀ c, c ≠ q → c ≠ b → st' c = st c := by
  obtain ⟨fq, hqs, hq0⟩ := hq
  refine S_of_X [] good mixed Tryz.func162 (by rfl) rfl rfl rfl ?_
  conv => whnf
  refine ldV hqs rfl (by omega) hq0 ?_
  conv => whnf
  refine call1 (len_S b (n + 1) _) ?_
  conv => whnf
  have w : IntKind.i64.wrap (((n + 1 : Nat) : Int) - 1) = (n : Int) := by rw [wrap64_of (by omega) (by omega)]; omega
  rw [w]
  refine ldV hqs rfl (by omega) hq0 ?_
  conv => whnf
  refine call (swap_S b l (n + 1) 0 n _ he (by omega) (by omega) (by omega)) (fun v st1 hv => ?_)
  obtain ⟨rfl, he1, hfr1⟩ := hv
  have hq1 : HasQ st1 q (.own 2 b 0 (n + 1)) := HasQ.frame ⟨fq, hqs, hq0⟩ hqb hfr1
  have hd : Ab.Sink (swp l 0 n) n 0 := hh.down hn
  have hsl : (swp l 0 n).length = l.length := swp_len l 0 n
  conv => whnf
  refine call (hdown_S q b (swp l 0 n) (n + 1) n _ hq1 hqb he1 hd (by omega) (by omega) (by omega)) (fun v st2 hv => ?_)
  obtain ⟨⟨y, rfl⟩, l', hp, hk, hh', he2, hfr2⟩ := hv
  have hl' : l'.length = l.length := hp.length_eq.trans hsl
  have hq2 : HasQ st2 q (.own 2 b 0 (n + 1)) := hq1.frame hqb hfr2
  have htop : at_ l' n = at_ l 0 := by rw [hk n (Nat.le_refl _), swp_at (by omega) hn, if_pos rfl]
  conv => whnf
  refine call (epop_S q b l' n _ hq2 hqb he2 (by omega) (by omega)) (fun v st3 hv => ?_)
  obtain ⟨rfl, hq3, hfr3⟩ := hv
  rw [htop]
  conv => whnf
  refine ⟨rfl, l', hl', take_perm hn (hp.trans (swp_perm (by omega) hn)) hk, hh', hq3, he2.frame hqb hfr3, fun c h1 h2 => by rw [hfr3 c h1, hfr2 c h2, hfr1 c h2]⟩
/-- What a queue holds; 'fresh': nothing was taken away yet. -/
structure QSt (st0 : St) (q : Nat) (fresh : Bool) (es : List QE) (st : St) : Prop where
  new : st0 q = none
  sup : Sup st0 st
  has : ∃ sv, HasQ st q sv ∧ ((es = [] ∧ sv = .emp) ∨ ∃ b l n, q ≠ b ∧ st0 b = none ∧ sv = .own 2 b 0 n ∧ n ≤ l.length ∧ l.length < 2305843009213 ∧ Heap l n ∧ HasE st b l ∧ (l.take n).Perm es ∧ (fresh = true → n = l.length))
theorem QSt.perm {st0 st : St} {q : Nat} {f : Bool} {es es' : List QE} (h : QSt st0 q f es st) (hp : es.Perm es') : QSt st0 q f es' st := by
  obtain ⟨h1, h2, sv, hq, h3⟩ := h
  refine ⟨h1, h2, sv, hq, ?_⟩
  rcases h3 with ⟨rfl, hs⟩ | ⟨b, l, n, a1, a2, a3, a4, a5, a6, a7, a8, a9⟩
  · exact .inl ⟨List.Perm.eq_nil hp.symm, hs⟩
  · exact .inr ⟨b, l, n, a1, a2, a3, a4, a5, a6, a7, a8.trans hp, a9⟩
theorem qnew_S (st : St) : S P 97 [] st fun v st' => ∃ q, v = .optr 1 q 0 0 ∧ QSt st q true [] st' := by
  refine S_of_X [] good mixed Tryz.func97 (by rfl) rfl rfl rfl ?_
  conv => whnf
  intro q hq
  conv => whnf
  exact ⟨q, rfl, hq, (Sup.refl st).upd hq, .emp, ⟨_, upd_same .., rfl⟩, .inl ⟨rfl, rfl⟩⟩
theorem qpush_S (st0 : St) (q : Nat) (es : List QE) (r k : Int) (st : St) (h : QSt st0 q true es st) (hl : es.length < 2305843009212) : S P 98 [.optr 1 q 0 0, eI r, eI k] st fun v st' => v = .tuple [] ∧ QSt st0 q true (es ++ [(r, k)]) st' := by
  obtain ⟨h1, h2, sv, hq, h3⟩ := h
  refine S_of_X [] good mixed Tryz.func98 (by rfl) rfl rfl rfl ?_
  conv => whnf
  have hex : ∃ l : List QE, l.Perm es ∧ Heap l l.length ∧ ((l = [] ∧ sv = .emp) ∨ ∃ b, q ≠ b ∧ st0 b = none ∧ sv = .own 2 b 0 l.length ∧ HasE st b l) := by
    rcases h3 with ⟨rfl, hs⟩ | ⟨b, l, n, a1, a2, a3, a4, a5, a6, a7, a8, a9⟩
    · exact ⟨[], List.Perm.refl _, fun c h0 hc => absurd hc (by simp), .inl ⟨rfl, hs⟩⟩
    · have e := a9 rfl
      subst e
      rw [List.take_length] at a8
      exact ⟨l, a8, a6, .inr ⟨b, a1, a2, a3, a7⟩⟩
  obtain ⟨l, hp, hh, hs⟩ := hex
  have hll : l.length = es.length := hp.length_eq
  refine call (hpush_S q sv l (r, k) st st0 hq h1 h2 (by omega) hh hs) (fun v st' hv => ?_)
  obtain ⟨rfl, b, l', hqb, hb0, hp', hh', hq', he', hsup'⟩ := hv
  have hl' : l'.length = l.length + 1 := by rw [hp'.length_eq]; simp
  conv => whnf
  exact ⟨rfl, h1, hsup', _, hq', .inr ⟨b, l', l'.length, hqb, hb0, rfl, Nat.le_refl _, by omega, hh', he', by rw [List.take_length]; exact hp'.trans (hp.append_right _), fun _ => rfl⟩⟩
theorem qlen_S (st0 : St) (q : Nat) (f : Bool) (es : List QE) (st : St) (h : QSt st0 q f es st) : S P 99 [.optr 1 q 0 0] st fun v st' => v = eI es.length ∧ st' = st := by
  obtain ⟨h1, h2, sv, ⟨fq, hqs, hq0⟩, h3⟩ := h
  refine S_of_X [] good mixed Tryz.func99 (by rfl) rfl rfl rfl ?_
  conv => whnf
  rcases h3 with ⟨rfl, rfl⟩ | ⟨b, l, n, a1, a2, rfl, a4, a5, a6, a7, a8, a9⟩
  · refine ldV hqs rfl (by omega) hq0 ?_
    conv => whnf
    exact ⟨rfl, rfl⟩
  · refine ldV hqs rfl (by omega) hq0 ?_
    conv => whnf
    refine ⟨?_, rfl⟩
    have : es.length = n := by rw [← a8.length_eq, List.length_take]; omega
    rw [this]; rfl
theorem qpop0_S (st0 : St) (q : Nat) (f : Bool) (st : St) (h : QSt st0 q f [] st) : S P 100 [.optr 1 q 0 0] st fun v st' => v = .tuple [eI 0, eI 0, .bool false] ∧ st' = st := by
  obtain ⟨h1, h2, sv, ⟨fq, hqs, hq0⟩, h3⟩ := h
  refine S_of_X [] good mixed Tryz.func100 (by rfl) rfl rfl rfl ?_
  conv => whnf
  rcases h3 with ⟨_, rfl⟩ | ⟨b, l, n, a1, a2, rfl, a4, a5, a6, a7, a8, a9⟩
  · refine ldV hqs rfl (by omega) hq0 ?_
    conv => whnf
    exact ⟨rfl, rfl⟩
  · have e : n = 0 := by
      have := a8.length_eq
      rw [List.length_take, List.length_nil] at this; omega
    subst e
    refine ldV hqs rfl (by omega) hq0 ?_
    conv => whnf
    exact ⟨rfl, rfl⟩
theorem qpop_S (st0 : St) (q : Nat) (f : Bool) (x : QE) (es : List QE) (st : St) (h : QSt st0 q f (x :: es) st) (htop : ∀ y ∈ es, prior y x = false) : S P 100 [.optr 1 q 0 0] st fun v st' => v = .tuple [eI x.1, eI x.2, .bool true] ∧ QSt st0 q false es st' := by
  obtain ⟨h1, h2, sv, hq, h3⟩ := h
  rcases h3 with ⟨h, _⟩ | ⟨b, l, n, a1, a2, rfl, a4, a5, a6, a7, a8, a9⟩
  · cases h
  have hn : n = es.length + 1 := by
    have := a8.length_eq
    rw [List.length_take, List.length_cons] at this; omega
  subst hn
  have hx : at_ l 0 = x := by
    have m0 : at_ l 0 ∈ x :: es := by
      refine a8.subset ?_
      have : (l.take (es.length + 1)).getD 0 default = at_ l 0 := by
        unfold at_; rw [List.getD_eq_getElem?_getD, List.getD_eq_getElem?_getD, List.getElem?_take_of_lt (by omega)]
      rw [← this]; exact getD_mem (by rw [List.length_take]; omega)
    have hmem : x ∈ l.take (es.length + 1) := a8.symm.subset (List.mem_cons_self ..)
    obtain ⟨k, hk, he⟩ := mem_getD hmem
    rw [List.length_take] at hk
    have hxk : x = at_ l k := by
      rw [he]; unfold at_; rw [List.getD_eq_getElem?_getD, List.getD_eq_getElem?_getD, List.getElem?_take_of_lt (by omega)]
    have t1 : prior x (at_ l 0) = false := by rw [hxk]; exact a6.top k (by omega)
    rcases List.mem_cons.1 m0 with e | e
    · exact e
    · exact prior_tri (htop _ e) t1
  have hq' := hq
  obtain ⟨fq, hqs, hq0⟩ := hq
  refine S_of_X [] good mixed Tryz.func100 (by rfl) rfl rfl rfl ?_
  conv => whnf
  refine ldV hqs rfl (by omega) hq0 ?_
  conv => whnf
  refine call (hpop_S q b l es.length st hq' a1 a7 a6 (by omega) (by omega)) (fun v st' hv => ?_)
  obtain ⟨rfl, l', hl', hp', hh', hq3, he3, hfr⟩ := hv
  rw [hx] at hp' ⊢
  have hsup' : Sup st0 st' := fun c y hc => by
    rw [hfr c (fun e => by subst e; rw [h1] at hc; cases hc) (fun e => by subst e; rw [a2] at hc; cases hc)]; exact h2 c y hc
  conv => whnf
  intro c hc
  conv => whnf
  refine stV (upd_same ..) rfl (by omega) rfl (by rfl) ?_
  conv => whnf
  refine ⟨[], [], [0, 1, 2, 3, 4, 5, 6], by kernel_rfl, ?_⟩
  conv => whnf
  refine ldV (upd_same ..) rfl (by omega) rfl ?_
  conv => whnf
  refine ldV (upd_same ..) rfl (by omega) rfl ?_
  conv => whnf
  obtain ⟨fq', hqs', hq0'⟩ := hq3
  obtain ⟨fe, hes, hef⟩ := he3
  have hcq : q ≠ c := fun e => by subst e; rw [hqs'] at hc; cases hc
  have hcb : b ≠ c := fun e => by subst e; rw [hes] at hc; cases hc
  have hc0 : st0 c = none := hsup'.none hc
  refine ⟨rfl, h1, (hsup'.over hc0).over hc0, _, ⟨fq', by rw [upd_ne hcq, upd_ne hcq]; exact hqs', hq0'⟩, .inr ⟨b, l', es.length, a1, a2, rfl, by omega, by omega, hh', ⟨fe, by rw [upd_ne hcb, upd_ne hcb]; exact hes, hef⟩, ?_, fun e => by cases e⟩⟩
  exact (List.perm_cons x).1 (hp'.trans a8)
end Go.Proofs.YtnekegdhpjplbaaGreat
/- Contracts: sorting by insertion. -/
set_option maxRecDepth 100000
set_option linter.unusedVariables false
set_option linter.unusedSimpArgs false
namespace Go.Proofs.YtnekegdhpjplbaaGreat
open Go Go.Ab
attribute [local irreducible] upd del
abbrev gI (l : List Int) (k : Nat) : Int := l.getD k default
def swI (l : List Int) (i j : Nat) : List Int := (l.set i (gI l j)).set j (gI l i)
theorem swI_len (l : List Int) (i j : Nat) : (swI l i j).length = l.length := by simp [swI]
theorem swI_at {l : List Int} {i j : Nat} (hi : i < l.length) (hj : j < l.length) (k : Nat) : gI (swI l i j) k = if k = j then gI l i else if k = i then gI l j else gI l k := by
  unfold swI gI
  simp only [List.getD_eq_getElem?_getD, List.getElem?_set, List.length_set]
  by_cases h1 : k = j
  · subst h1; simp [hj]
  · rw [if_neg (fun e => h1 e.symm), if_neg h1]
    by_cases h2 : k = i
    · subst h2; simp [hi]
    · rw [if_neg (fun e => h2 e.symm), if_neg h2]
theorem swI_perm {l : List Int} {i j : Nat} (hi : i < l.length) (hj : j < l.length) : (swI l i j).Perm l := by
  have e1 : gI l j = l[j] := by simp [gI, hj]
  have e2 : gI l i = l[i] := by simp [gI, hi]
  unfold swI
  rw [e1, e2]
  exact List.set_set_perm hi hj
def HasI (st : St) (b : Nat) (l : List Int) : Prop := ∃ f, st b = some ⟨3, 1, l.length, f⟩ ∧ ∀ k, k < l.length → f k = eI (gI l k)
/-- A total order that does not part all. -/
structure Ord (lt : Int → Int → Bool) : Prop where
  asymm : ∀ x y, lt x y = true → lt y x = false
  le : ∀ x y z, lt y x = false → lt z y = false → lt z x = false
theorem Ord.irrefl {lt : Int → Int → Bool} (h : Ord lt) (x : Int) : lt x x = false := by
  cases e : lt x x with
  | false => rfl
  | true => have := h.asymm x x e; rw [e] at this; cases this
/-- None behind is ahead, from a to e; but for the one at j. -/
def Srt (lt : Int → Int → Bool) (l : List Int) (a e : Nat) : Prop := ∀ x y, a ≤ x → x < y → y < e → lt (gI l y) (gI l x) = false
structure Ins (lt : Int → Int → Bool) (l : List Int) (a e j : Nat) : Prop where
  rest : ∀ x y, a ≤ x → x < y → y < e → x ≠ j → y ≠ j → lt (gI l y) (gI l x) = false
  up : ∀ y, j < y → y < e → lt (gI l y) (gI l j) = false
theorem Srt.ins {lt : Int → Int → Bool} {l : List Int} {a i : Nat} (h : Srt lt l a i) : Ins lt l a (i + 1) i :=
  ⟨fun x y hx hxy hy h1 h2 => h x y hx hxy (by omega), fun y h1 h2 => by omega⟩
theorem Ins.done {lt : Int → Int → Bool} (ho : Ord lt) {l : List Int} {a e j : Nat} (h : Ins lt l a e j) (hj : j ≤ a ∨ lt (gI l j) (gI l (j - 1)) = false) : Srt lt l a e := fun x y hx hxy hy => by
  by_cases h1 : x = j
  · subst h1; exact h.up y hxy hy
  · by_cases h2 : y = j
    · subst h2
      rcases hj with hj | hj
      · omega
      · by_cases h3 : x = y - 1
        · subst h3; exact hj
        · exact ho.le _ _ _ (h.rest x (y - 1) hx (by omega) (by omega) h1 (by omega)) hj
    · exact h.rest x y hx hxy hy h1 h2
theorem Ins.step {lt : Int → Int → Bool} (ho : Ord lt) {l : List Int} {a e j : Nat} (h : Ins lt l a e j) (hj : a < j) (hje : j < e) (he : e ≤ l.length) (hlt : lt (gI l j) (gI l (j - 1)) = true) : Ins lt (swI l j (j - 1)) a e (j - 1) := by
  have sw := swI_at (l := l) (i := j) (j := j - 1) (by omega) (by omega)
  refine ⟨fun x y hx hxy hy h1 h2 => ?_, fun y h1 h2 => ?_⟩
  · rw [sw x, sw y, if_neg h1, if_neg h2]
    by_cases hxj : x = j
    · rw [if_pos hxj, if_neg (by omega)]
      exact h.rest (j - 1) y (by omega) (by omega) hy (by omega) (by omega)
    · rw [if_neg hxj]
      by_cases hyj : y = j
      · rw [if_pos hyj]
        exact h.rest x (j - 1) hx (by omega) (by omega) hxj (by omega)
      · rw [if_neg hyj]; exact h.rest x y hx hxy hy hxj hyj
  · rw [sw y, sw (j - 1), if_neg (by omega), if_pos rfl]
    by_cases hyj : y = j
    · rw [if_pos hyj]; exact ho.asymm _ _ hlt
    · rw [if_neg hyj]; exact h.up y (by omega) h2
theorem isort_S (b : Nat) (l : List Int) (n a e : Nat) (g : FuncId) (cs : List AV) (cf : Int → Int → Int) (lt : Int → Int → Bool) (hlt : ∀ x y, decide (cf x y < 0) = lt x y) (ho : Ord lt) (st : St) (hb : HasI st b l) (hae : a ≤ e) (he : e ≤ n) (hn : n ≤ l.length) (hl : l.length < 4611686018427387904)
    (hg : ∀ x ∈ l, ∀ y ∈ l, ∀ st', S P g (eI x :: eI y :: cs) st' fun v s => v = eI (cf x y) ∧ s = st') :
    S P 245 [.own 1 b 0 n, eI a, eI e, .fn (.func g) [] cs] st fun v st' => v = .tuple [] ∧ ∃ l', l'.Perm l ∧ Srt lt l' a e ∧ (∀ k, k < a ∨ e ≤ k → gI l' k = gI l k) ∧ HasI st' b l' ∧ ∀ c, c ≠ b → st' c = st c := by
  refine S_of_X [] good mixed Tryz.func245 (by rfl) rfl rfl rfl ?_
  conv => whnf
  refine ⟨[0, 1, 2, 3, 8], fun m vs st' => ∃ (i : Nat) (l' : List Int), a < i ∧ (i ≤ e ∨ i = a + 1) ∧ l'.Perm l ∧ Srt lt l' a i ∧ (∀ k, k < a ∨ e ≤ k → gI l' k = gI l k) ∧ HasI st' b l' ∧ (∀ c, c ≠ b → st' c = st c) ∧ m = e - i ∧ vs = [.own 1 b 0 n, eI a, eI e, .fn (.func g) [] cs, eI i], ?_, ?_⟩
  · conv => whnf
    exact ⟨_, a + 1, l, by omega, .inr rfl, List.Perm.refl _, fun x y h1 h2 h3 => by omega, fun _ _ => rfl, hb, fun _ _ => rfl, rfl, by rw [wrapN (by omega)]⟩
  · rintro m vs st' ⟨i, l', hai, hie, hp, hs, hout, hb', hfr, rfl, rfl⟩
    have hlen : l'.length = l.length := hp.length_eq
    conv => whnf
    cases h : decide ((i : Int) < (e : Int))
    · have := of_decide_eq_false h
      conv => whnf
      refine ⟨rfl, l', hp, fun x y h1 h2 h3 => hs x y h1 h2 (by omega), hout, hb', hfr⟩
    · have hi : i < e := by have := of_decide_eq_true h; omega
      conv => whnf
      refine ⟨[0, 1, 2, 3, 8, 9], fun m vs st'' => ∃ (j : Nat) (l'' : List Int), a ≤ j ∧ j ≤ i ∧ l''.Perm l ∧ Ins lt l'' a (i + 1) j ∧ (∀ k, k < a ∨ e ≤ k → gI l'' k = gI l k) ∧ HasI st'' b l'' ∧ (∀ c, c ≠ b → st'' c = st c) ∧ m = j ∧ vs = [.own 1 b 0 n, eI a, eI e, .fn (.func g) [] cs, eI i, eI j], ?_, ?_⟩
      · conv => whnf
        exact ⟨_, i, l', by omega, Nat.le_refl _, hp, hs.ins, hout, hb', hfr, rfl, rfl⟩
      · clear hp hs hout hb' hfr hlen
        rintro j vs st'' ⟨_, l'', haj, hji, hp, hs, hout, ⟨f, hst, hf⟩, hfr, rfl, rfl⟩
        have hlen : l''.length = l.length := hp.length_eq
        have next : Srt lt l'' a (i + 1) → ∃ m', m' < e - i ∧ ∃ (i_1 : Nat) (l' : List Int), a < i_1 ∧ (i_1 ≤ e ∨ i_1 = a + 1) ∧ l'.Perm l ∧ Srt lt l' a i_1 ∧ (∀ k, k < a ∨ e ≤ k → gI l' k = gI l k) ∧ HasI st'' b l' ∧ (∀ c, c ≠ b → st'' c = st c) ∧ m' = e - i_1 ∧ [AV.own 1 b 0 n, eI a, eI e, .fn (.func g) [] cs, eI (IntKind.i64.wrap ((i : Int) + 1))] = [.own 1 b 0 n, eI a, eI e, .fn (.func g) [] cs, eI i_1] :=
          fun hsrt => ⟨e - (i + 1), by omega, i + 1, l'', by omega, .inl (by omega), hp, hsrt, hout, ⟨f, hst, hf⟩, hfr, rfl, by rw [wrapN (by omega)]⟩
        conv => whnf
        refine ⟨[], [], [0, 1, 2, 3, 4, 5, 6, 7, 8, 9, 10, 11, 12, 13, 14, 15, 16], by kernel_rfl, ?_⟩
        conv => whnf
        refine fork (fun h1 => ?_) (fun h1 => ?_) <;> rw [h1] <;> simp only [decide_eq_true_eq, decide_eq_false_iff_not] at h1
        · have w : IntKind.i64.wrap ((j : Int) - 1) = ((j - 1 : Nat) : Int) := by rw [wrap64_of (by omega) (by omega)]; omega
          have fj : f (0 + (j : Int).toNat) = eI (gI l'' j) := by rw [show 0 + (j : Int).toNat = j by omega]; exact hf j (by omega)
          have fj1 : f (0 + ((j - 1 : Nat) : Int).toNat) = eI (gI l'' (j - 1)) := by rw [show 0 + ((j - 1 : Nat) : Int).toNat = j - 1 by omega]; exact hf (j - 1) (by omega)
          conv => whnf
          refine ⟨rfl, ⟨by omega, by omega⟩, ?_⟩
          conv => whnf
          refine ldV hst rfl (by omega) fj ?_
          conv => whnf
          rw [w]
          refine ⟨rfl, ⟨by omega, by omega⟩, ?_⟩
          conv => whnf
          refine ldV hst rfl (by omega) fj1 ?_
          conv => whnf
          refine ⟨_, callQ (hg (gI l'' j) (hp.subset (getD_mem (by omega))) (gI l'' (j - 1)) (hp.subset (getD_mem (by omega))) _), ?_⟩
          conv => whnf
          rw [hlt]
          refine fork (fun h2 => ?_) (fun h2 => ?_) <;> rw [h2]
          · have hfj1 : fset f (0 + (j : Int).toNat) (setCells (eI (gI l'' j)) 0 (cellsOf (eI (gI l'' (j - 1))))) (0 + ((j - 1 : Nat) : Int).toNat) = eI (gI l'' (j - 1)) := (fset_ne (by omega)).trans fj1
            conv => whnf
            refine ⟨[15, 17], [], [0, 1, 2, 3, 4, 5, 6, 7, 8, 9, 10, 11, 12, 13, 14, 15, 16, 17], by kernel_rfl, ?_⟩
            conv => whnf
            rw [w]
            refine ⟨rfl, ⟨by omega, by omega⟩, ?_⟩
            conv => whnf
            refine ldV hst rfl (by omega) fj1 ?_
            conv => whnf
            refine ⟨rfl, ⟨by omega, by omega⟩, ?_⟩
            conv => whnf
            refine ldV hst rfl (by omega) fj ?_
            conv => whnf
            refine ⟨rfl, ⟨by omega, by omega⟩, ?_⟩
            conv => whnf
            refine stV hst rfl (by omega) fj (by rfl) ?_
            conv => whnf
            refine ⟨rfl, ⟨by omega, by omega⟩, ?_⟩
            conv => whnf
            refine stV (upd_same ..) rfl (by omega) hfj1 (by rfl) ?_
            conv => whnf
            refine ⟨rfl, ?_⟩
            conv => whnf
            have hjl : j < l''.length := by omega
            refine ⟨j - 1, by omega, j - 1, swI l'' j (j - 1), by omega, by omega, (swI_perm hjl (by omega)).trans hp, hs.step ho (by omega) (by omega) (by omega) h2, fun k hk => ?_, ⟨_, by rw [upd_same, swI_len], fun k hk => ?_⟩, fun c hc => by rw [upd_ne hc, upd_ne hc]; exact hfr c hc, rfl, by rw [w]⟩
            · rw [swI_at hjl (by omega), if_neg (by omega), if_neg (by omega)]; exact hout k hk
            · rw [swI_len] at hk
              rw [swI_at hjl (by omega)]
              by_cases e1 : k = j - 1
              · subst e1
                rw [if_pos rfl, show 0 + ((j - 1 : Nat) : Int).toNat = j - 1 by omega, fset_same]; rfl
              · rw [if_neg e1, fset_ne (by omega)]
                by_cases e2 : k = j
                · subst e2
                  rw [if_pos rfl, show 0 + (k : Int).toNat = k by omega, fset_same]; rfl
                · rw [if_neg e2, fset_ne (by omega)]; exact hf k hk
          · conv => whnf
            refine ⟨rfl, ?_⟩
            conv => whnf
            exact next (hs.done ho (.inr h2))
        · conv => whnf
          refine ⟨rfl, ?_⟩
          conv => whnf
          exact next (hs.done ho (.inl (by omega)))
end Go.Proofs.YtnekegdhpjplbaaGreat
/- Contracts: a stable sort of not more than twenty. -/
set_option maxRecDepth 100000
set_option linter.unusedVariables false
set_option linter.unusedSimpArgs false
namespace Go.Proofs.YtnekegdhpjplbaaGreat
open Go Go.Ab
attribute [local irreducible] upd del
theorem Srt.congr {lt : Int → Int → Bool} {l l' : List Int} {a e : Nat} (h : Srt lt l a e) (hk : ∀ k, a ≤ k → k < e → gI l' k = gI l k) : Srt lt l' a e := fun x y h1 h2 h3 => by
  rw [hk x h1 (by omega), hk y (by omega) h3]; exact h x y h1 h2 h3
theorem stable_S (b : Nat) (l : List Int) (g : FuncId) (cs : List AV) (cf : Int → Int → Int) (lt : Int → Int → Bool) (hlt : ∀ x y, decide (cf x y < 0) = lt x y) (ho : Ord lt) (st : St) (hb : HasI st b l) (hl : l.length ≤ 20)
    (hg : ∀ x ∈ l, ∀ y ∈ l, ∀ st', S P g (eI x :: eI y :: cs) st' fun v s => v = eI (cf x y) ∧ s = st') :
    S P 190 [.own 1 b 0 l.length, eI l.length, .fn (.func g) [] cs] st fun v st' => v = .tuple [] ∧ ∃ l', l'.Perm l ∧ Srt lt l' 0 l.length ∧ HasI st' b l' ∧ ∀ c, c ≠ b → st' c = st c := by
  refine S_of_X [] good mixed Tryz.func190 (by rfl) rfl rfl rfl ?_
  conv => whnf
  refine ⟨[0, 1, 2, 6, 7, 8], fun m vs st' => (m = 1 ∧ st' = st ∧ vs = [.own 1 b 0 l.length, eI l.length, .fn (.func g) [] cs, eI 20, eI 0, eI 20]) ∨
    (m = 0 ∧ l.length = 20 ∧ (∃ l', l'.Perm l ∧ Srt lt l' 0 l.length ∧ HasI st' b l' ∧ ∀ c, c ≠ b → st' c = st c) ∧ vs = [.own 1 b 0 l.length, eI l.length, .fn (.func g) [] cs, eI 20, eI 20, eI 40]), ?_, ?_⟩
  · conv => whnf
    exact ⟨1, .inl ⟨rfl, rfl, rfl⟩⟩
  · rintro m vs st' (⟨rfl, rfl, rfl⟩ | ⟨rfl, h20, ⟨l', hp, hs, hb', hfr⟩, rfl⟩)
    · conv => whnf
      refine fork (fun h1 => ?_) (fun h1 => ?_) <;> rw [h1] <;> simp only [decide_eq_true_eq, decide_eq_false_iff_not] at h1
      · have h20 : l.length = 20 := by omega
        conv => whnf
        refine call (isort_S b l l.length 0 20 g cs cf lt hlt ho _ hb (by omega) (by omega) (by omega) (by omega) hg) (fun v st1 hv => ?_)
        obtain ⟨rfl, l', hp, hs, hout, hb', hfr⟩ := hv
        conv => whnf
        refine ⟨rfl, ?_⟩
        conv => whnf
        exact ⟨0, by omega, .inr ⟨rfl, h20, ⟨l', hp, by rw [h20]; exact hs, hb', hfr⟩, rfl⟩⟩
      · conv => whnf
        refine call (isort_S b l l.length 0 l.length g cs cf lt hlt ho _ hb (by omega) (by omega) (by omega) (by omega) hg) (fun v st1 hv => ?_)
        obtain ⟨rfl, l', hp, hs, hout, hb', hfr⟩ := hv
        conv => whnf
        refine once [0, 1, 2, 6] ?_
        conv => whnf
        intro I
        refine fork (fun h2 => ?_) (fun h2 => ?_) <;> rw [h2] <;> simp only [decide_eq_true_eq, decide_eq_false_iff_not] at h2
        · exact absurd h2 (by omega)
        · conv => whnf
          exact ⟨rfl, l', hp, hs, hb', hfr⟩
    · have hlen : l'.length = l.length := hp.length_eq
      conv => whnf
      refine fork (fun h1 => ?_) (fun h1 => ?_) <;> rw [h1] <;> simp only [decide_eq_true_eq, decide_eq_false_iff_not] at h1
      · exact absurd h1 (by omega)
      · conv => whnf
        refine call (isort_S b l' l.length 20 l.length g cs cf lt hlt ho _ hb' (by omega) (by omega) (by omega) (by omega) (fun x hx y hy => hg x (hp.subset hx) y (hp.subset hy))) (fun v st1 hv => ?_)
        obtain ⟨rfl, l2, hp2, hs2, hout, hb2, hfr2⟩ := hv
        conv => whnf
        refine once [0, 1, 2, 6] ?_
        conv => whnf
        intro I
        refine fork (fun h2 => ?_) (fun h2 => ?_) <;> rw [h2] <;> simp only [decide_eq_true_eq, decide_eq_false_iff_not] at h2
        · exact absurd h2 (by omega)
        · conv => whnf
          exact ⟨rfl, l2, hp2.trans hp, hs.congr (fun k _ hk => hout k (by omega)), hb2, fun c hc => (hfr2 c hc).trans (hfr c hc)⟩
theorem sortStable_S (b : Nat) (l : List Int) (g : FuncId) (cs : List AV) (cf : Int → Int → Int) (lt : Int → Int → Bool) (hlt : ∀ x y, decide (cf x y < 0) = lt x y) (ho : Ord lt) (st : St) (hb : HasI st b l) (hl : l.length ≤ 20)
    (hg : ∀ x ∈ l, ∀ y ∈ l, ∀ st', S P g (eI x :: eI y :: cs) st' fun v s => v = eI (cf x y) ∧ s = st') :
    S P 141 [.own 1 b 0 l.length, .fn (.func g) [] cs] st fun v st' => v = .tuple [] ∧ ∃ l', l'.Perm l ∧ Srt lt l' 0 l.length ∧ HasI st' b l' ∧ ∀ c, c ≠ b → st' c = st c := by
  refine S_of_X [] good mixed Tryz.func141 (by rfl) rfl rfl rfl ?_
  conv => whnf
  refine call (stable_S b l g cs cf lt hlt ho st hb hl hg) (fun v st' hv => ?_)
  obtain ⟨rfl, h⟩ := hv
  conv => whnf
  exact ⟨rfl, h⟩
/-- .. of nothing. -/
theorem isort0_S (f : AV) (st : St) : S P 245 [.emp, eI 0, eI 0, f] st fun v st' => v = .tuple [] ∧ st' = st := by
  refine S_of_X [] good mixed Tryz.func245 (by rfl) rfl rfl rfl ?_
  conv => whnf
  refine once [0, 1, 2, 3, 8] ?_
  conv => whnf
  intro I
  exact ⟨rfl, rfl⟩
theorem stable0_S (f : AV) (st : St) : S P 190 [.emp, eI 0, f] st fun v st' => v = .tuple [] ∧ st' = st := by
  refine S_of_X [] good mixed Tryz.func190 (by rfl) rfl rfl rfl ?_
  conv => whnf
  refine once [0, 1, 2, 6, 7, 8] ?_
  conv => whnf
  intro I
  refine call1 (isort0_S f st) ?_
  conv => whnf
  refine once [0, 1, 2, 6] ?_
  conv => whnf
  intro I
  exact ⟨rfl, rfl⟩
theorem sortStable0_S (f : AV) (st : St) : S P 141 [.emp, f] st fun v st' => v = .tuple [] ∧ st' = st := by
  refine S_of_X [] good mixed Tryz.func141 (by rfl) rfl rfl rfl ?_
  conv => whnf
  refine call1 (stable0_S f st) ?_
  conv => whnf
  exact ⟨rfl, rfl⟩
end Go.Proofs.YtnekegdhpjplbaaGreat
/- Contracts: the order of promos. -/
set_option maxRecDepth 100000
set_option linter.unusedVariables false
set_option linter.unusedSimpArgs false
namespace Go.Proofs.YtnekegdhpjplbaaGreat
open Go Go.Ab
attribute [local irreducible] upd del
theorem QSt.grow {st0 st : St} {q bo bo' : Nat} {f : Bool} {es : List QE} {y y' : Blk} (h : QSt (upd st0 bo y) q f es st) (h0 : st0 bo = none) (hb : bo' = bo ∨ st bo' = none) : st0 bo' = none ∧ QSt (upd st0 bo' y') q f es (upd (del st bo) bo' y') := by
  obtain ⟨h1, h2, sv, ⟨fq, hqs, hq0⟩, h3⟩ := h
  have hqo : q ≠ bo := fun e => by subst e; rw [upd_same] at h1; cases h1
  have hq1 : st0 q = none := by rw [upd_ne hqo] at h1; exact h1
  have hqb : q ≠ bo' := fun e => by
    subst e
    rcases hb with e | e
    · exact hqo e
    · rw [hqs] at e; cases e
  have hsub : ∀ c x, st0 c = some x → c ≠ bo ∧ st c = some x := fun c x hc => by
    have hne : c ≠ bo := fun e => by subst e; rw [h0] at hc; cases hc
    exact ⟨hne, h2 c x (by rw [upd_ne hne]; exact hc)⟩
  have hbo' : st0 bo' = none := by
    rcases hb with e | e
    · rw [e]; exact h0
    · cases hx : st0 bo' with
      | none => rfl
      | some x => rw [(hsub _ _ hx).2] at e; cases e
  refine ⟨hbo', by rw [upd_ne hqb]; exact hq1, fun c x hc => ?_, sv, ⟨fq, by rw [upd_ne hqb]; unfold del; rw [if_neg hqo]; exact hqs, hq0⟩, ?_⟩
  · by_cases hcb : c = bo'
    · subst hcb; rw [upd_same] at hc ⊢; exact hc
    · rw [upd_ne hcb] at hc ⊢
      obtain ⟨a, b⟩ := hsub c x hc
      unfold del; rw [if_neg a]; exact b
  · rcases h3 with h3 | ⟨b, l, n, a1, a2, a3, a4, a5, a6, ⟨fe, hes, hef⟩, a8, a9⟩
    · exact .inl h3
    · have hbo : b ≠ bo := fun e => by subst e; rw [upd_same] at a2; cases a2
      have hb0 : st0 b = none := by rw [upd_ne hbo] at a2; exact a2
      have hbb : b ≠ bo' := fun e => by
        subst e
        rcases hb with e | e
        · exact hbo e
        · rw [hes] at e; cases e
      exact .inr ⟨b, l, n, a1, by rw [upd_ne hbb]; exact hb0, a3, a4, a5, a6, ⟨fe, by rw [upd_ne hbb]; unfold del; rw [if_neg hbo]; exact hes, hef⟩, a8, a9⟩
theorem QSt.begin {st0 st : St} {q bo : Nat} {f : Bool} {es : List QE} {y : Blk} (h : QSt st0 q f es st) (hb : st bo = none) : st0 bo = none ∧ QSt (upd st0 bo y) q f es (upd st bo y) := by
  obtain ⟨h1, h2, sv, ⟨fq, hqs, hq0⟩, h3⟩ := h
  have hqb : q ≠ bo := fun e => by subst e; rw [hqs] at hb; cases hb
  refine ⟨h2.none hb, by rw [upd_ne hqb]; exact h1, fun c x hc => ?_, sv, ⟨fq, by rw [upd_ne hqb]; exact hqs, hq0⟩, ?_⟩
  · by_cases hcb : c = bo
    · subst hcb; rw [upd_same] at hc ⊢; exact hc
    · rw [upd_ne hcb] at hc ⊢; exact h2 c x hc
  · rcases h3 with h3 | ⟨b, l, n, a1, a2, a3, a4, a5, a6, ⟨fe, hes, hef⟩, a8, a9⟩
    · exact .inl h3
    · have hbb : b ≠ bo := fun e => by subst e; rw [hes] at hb; cases hb
      exact .inr ⟨b, l, n, a1, by rw [upd_ne hbb]; exact a2, a3, a4, a5, a6, ⟨fe, by rw [upd_ne hbb]; exact hes, hef⟩, a8, a9⟩
/-- A list that is collected beside a queue. -/
def QOut (ty e : Nat) (fo : Nat → AV) (n : Nat) (st1 : St) (q : Nat) (f : Bool) (es : List QE) (sv : AV) (st' : St) : Prop :=
  (n = 0 ∧ sv = .emp ∧ QSt st1 q f es st') ∨ (0 < n ∧ ∃ bo g, st1 bo = none ∧ sv = .own e bo 0 n ∧ (∀ k, k < n → g k = fo k) ∧ QSt (upd st1 bo ⟨ty, e, n, g⟩) q f es st')
theorem QOut.len_S {ty e : Nat} {fo : Nat → AV} {n : Nat} {st1 : St} {q : Nat} {f : Bool} {es : List QE} {sv : AV} {st' : St} (h : QOut ty e fo n st1 q f es sv st') :
    S P 99 [.optr 1 q 0 0] st' fun v st'' => v = eI es.length ∧ st'' = st' := by
  rcases h with ⟨_, _, h⟩ | ⟨_, bo, g, _, _, _, h⟩
  · exact qlen_S _ _ _ _ _ h
  · exact qlen_S _ _ _ _ _ h
theorem QOut.pop_S {ty e : Nat} {fo : Nat → AV} {n : Nat} {st1 : St} {q : Nat} {f : Bool} {x : QE} {es : List QE} {sv : AV} {st' : St} (h : QOut ty e fo n st1 q f (x :: es) sv st') (htop : ∀ y ∈ es, prior y x = false) :
    S P 100 [.optr 1 q 0 0] st' fun v st'' => v = .tuple [eI x.1, eI x.2, .bool true] ∧ QOut ty e fo n st1 q false es sv st'' := by
  rcases h with ⟨h1, h2, h⟩ | ⟨h0, bo, g, h1, h2, h3, h⟩
  · exact (qpop_S _ _ _ _ _ _ h htop).mono fun v s hv => ⟨hv.1, .inl ⟨h1, h2, hv.2⟩⟩
  · exact (qpop_S _ _ _ _ _ _ h htop).mono fun v s hv => ⟨hv.1, .inr ⟨h0, bo, g, h1, h2, h3, hv.2⟩⟩
theorem QOut.app {T : Tab} {t : TypeId} {x sv : AV} {st1 st' : St} {k : KK} {r q : TRow} {el n qq : Nat} {fl : Bool} {es : List QE} {f g : Nat → AV} (hr : T t = some r) (hd : r.desc = .slice el) (hq : T el = some q)
    (hz : (Nat.blt 0 q.size && Nat.blt 0 q.bytes && Nat.beq q.zero.cells.size q.size) = true) (hs : srcOf q.size st' x = some (1, g)) (hg : g 0 = f n) (hb : (n + 1) * q.bytes ≤ 140737488355328)
    (hc : QOut el q.size f n st1 qq fl es sv st') (hk : ∀ sv' st'', QOut el q.size f (n + 1) st1 qq fl es sv' st'' → k sv' st'') : xApp T t sv x st' k := by
  rcases hc with ⟨rfl, rfl, h⟩ | ⟨h0, bo, y, h1, rfl, h4, h⟩
  · refine apE hr hd hq hz hs (by omega) (fun h => by omega) (fun _ b hb => ?_)
    obtain ⟨hb0, hn⟩ := h.begin (y := ⟨el, q.size, 1, g⟩) hb
    have e0 : ∀ k, k < 0 + 1 → g k = f k := fun k hk => by
      have : k = 0 := by omega
      rw [this]; exact hg
    exact hk _ _ (.inr ⟨by omega, b, g, hb0, rfl, e0, hn⟩)
  · have hby : st' bo = some ⟨el, q.size, n, y⟩ := h.sup bo _ (upd_same ..)
    refine apO hr hd hq hz hs hby rfl rfl rfl hb (fun h => by omega) (fun _ b' hb' => ?_)
    obtain ⟨hb0, hn⟩ := h.grow (y' := ⟨el, q.size, n + 1, fun i => if i < n then y i else g (i - n)⟩) h1 hb'
    refine hk _ _ (.inr ⟨by omega, b', _, hb0, rfl, fun k hk => ?_, hn⟩)
    by_cases hkn : k < n
    · simp only [hkn, if_true]; exact h4 k hkn
    · have : k = n := by omega
      subst this
      simp only [hkn, if_false, Nat.sub_self]; exact hg
theorem QOut.shift {ty e : Nat} {fo : Nat → AV} {n : Nat} {st1 : St} {q : Nat} {f : Bool} {es : List QE} {sv : AV} {st' : St} (h : QOut ty e fo n st1 q f es sv st') : Shift [sv] st' [.arr e n fo] st1 := by
  rcases h with ⟨rfl, rfl, h⟩ | ⟨h0, bo, g, h1, rfl, h3, h⟩
  · exact (h.sup.shift [.emp]).trans (shift_emp e fo)
  · have h2 := shift_own (st := upd st1 bo ⟨ty, e, n, g⟩) (e := e) (b := bo) (n := n) (f := fo) (upd_same ..) rfl (Nat.le_refl _) h3
    rw [del_upd h1] at h2
    exact (h.sup.shift [.own e bo 0 n]).trans h2
def asked (codes : List Str) (p : Promo) : Bool := isNil p.code || codes.any fun c => p.code.toList == c.toList
abbrev prAt (l : List Promo) (x : Int) : Promo := l.getD x.toNat default
/-- The places of those that are asked, among the first i. -/
def places (l : List Promo) (codes : List Str) (i : Nat) : List Int := ((List.range i).filter fun k => asked codes (l.getD k default)).map Int.ofNat
theorem places_succ (l : List Promo) (codes : List Str) (i : Nat) : places l codes (i + 1) = places l codes i ++ (if asked codes (l.getD i default) = true then [(i : Int)] else []) := by
  unfold places
  rw [List.range_succ, List.filter_append, List.map_append]
  congr 1
  by_cases h : asked codes (l.getD i default) = true
  · rw [if_pos h, List.filter_cons_of_pos (p := fun k => asked codes (l.getD k default)) h]; rfl
  · rw [if_neg h, List.filter_cons_of_neg (p := fun k => asked codes (l.getD k default)) h]; rfl
theorem places_lt {l : List Promo} {codes : List Str} {i : Nat} {x : Int} (h : x ∈ places l codes i) : 0 ≤ x ∧ x.toNat < i := by
  unfold places at h
  obtain ⟨k, hk, rfl⟩ := List.mem_map.1 h
  have := List.mem_range.1 (List.mem_filter.1 hk).1
  show 0 ≤ (k : Int) ∧ (k : Int).toNat < i
  omega
theorem places_len (l : List Promo) (codes : List Str) (i : Nat) : (places l codes i).length ≤ i := by
  unfold places
  rw [List.length_map]
  exact Nat.le_trans (List.length_filter_le ..) (by simp)
def idLt (l : List Promo) (x y : Int) : Bool := slt (prAt l x).id (prAt l y).id
theorem idOrd (l : List Promo) : Ord (idLt l) := ⟨fun x y h => slt_asymm h, fun x y z h1 h2 => sle_trans h1 h2⟩
theorem byId_S (l : List Promo) (x y : Int) (hx : 0 ≤ x ∧ x.toNat < l.length) (hy : 0 ≤ y ∧ y.toNat < l.length) (st : St) :
    S P 142 [eI x, eI y, .fptr (arrOf 15 ePromo l) 0] st fun v st' => v = eI (cmpS (prAt l x).id (prAt l y).id) ∧ st' = st := by
  refine S_of_X [] good mixed Tryz.func142 (by rfl) rfl rfl rfl ?_
  conv => whnf
  refine ⟨[], [], [0, 1, 2, 3, 4, 5, 6, 7, 8, 9, 10, 11], by kernel_rfl, ?_⟩
  conv => whnf
  refine ⟨rfl, ⟨by omega, by omega⟩, ?_⟩
  conv => whnf
  refine ⟨rfl, ⟨by omega, by omega⟩, ?_⟩
  conv => whnf
  refine ⟨_, callQ (cmp_S (prAt l x).id (prAt l y).id _), ?_⟩
  conv => whnf
  exact ⟨rfl, rfl⟩
theorem gI_append {a b : List Int} {k : Nat} (h : k < a.length) : gI (a ++ b) k = gI a k := by
  unfold gI; rw [List.getD_eq_getElem?_getD, List.getD_eq_getElem?_getD, List.getElem?_append_left h]
theorem gI_last (a : List Int) (x : Int) : gI (a ++ [x]) a.length = x := by
  unfold gI; simp [List.getD_eq_getElem?_getD]
/-- Behind the sort: places that rise by their promos' names. -/
def OrdP (l : List Promo) (codes : List Str) (o : List Int) : Prop := o.Perm (places l codes l.length) ∧ Srt (idLt l) o 0 o.length
def rankE (l : List Promo) (o : List Int) (k : Nat) : QE := ((prAt l (gI o k)).prio, (k : Int))
/-- The order in which a queue of such ranks is emptied. -/
def ranked (l : List Promo) (o : List Int) : List QE := ((List.range o.length).map (rankE l o)).mergeSort fun a b => !prior b a
theorem ranked_perm (l : List Promo) (o : List Int) : (ranked l o).Perm ((List.range o.length).map (rankE l o)) := List.mergeSort_perm ..
theorem ranked_sorted (l : List Promo) (o : List Int) : (ranked l o).Pairwise fun a b => prior b a = false := by
  have := List.pairwise_mergeSort (le := fun a b : QE => !prior b a) (fun a b c h1 h2 => by simp only [Bool.not_eq_true'] at *; exact nah_trans h2 h1) (fun a b => by
    cases h : prior b a with
    | false => rfl
    | true => rw [prior_asymm h]; rfl) ((List.range o.length).map (rankE l o))
  exact this.imp (fun h => by simpa using h)
theorem ranked_mem {l : List Promo} {o : List Int} {e : QE} (h : e ∈ ranked l o) : 0 ≤ e.2 ∧ e.2.toNat < o.length := by
  obtain ⟨k, hk, rfl⟩ := List.mem_map.1 ((ranked_perm l o).subset h)
  have := List.mem_range.1 hk
  simp only [rankE]; omega
theorem ranked_len (l : List Promo) (o : List Int) : (ranked l o).length = o.length := by
  rw [(ranked_perm l o).length_eq]; simp
abbrev resO (l : List Promo) (o : List Int) : List Int := (ranked l o).map fun e => gI o e.2.toNat
theorem QOut.sup {ty e : Nat} {fo : Nat → AV} {n : Nat} {st1 : St} {q : Nat} {f : Bool} {es : List QE} {sv : AV} {st' : St} (h : QOut ty e fo n st1 q f es sv st') : Sup st1 st' := by
  rcases h with ⟨_, _, h⟩ | ⟨_, bo, g, h1, _, _, h⟩
  · exact h.sup
  · exact ((Sup.refl st1).upd h1).trans h.sup
theorem order_S (l : List Promo) (codes : List Str) (hl : l.length ≤ 60) (hc : codes.length ≤ 9223372036854775807) (h20 : (places l codes l.length).length ≤ 20) (st : St) :
    S P 80 [arrOf 15 ePromo l, eStrs codes] st fun v st' => (∃ o : List Int, OrdP l codes o ∧ v = eInts (resO l o)) ∧ st' = st := by
  refine S.post (post := fun v st' => ∃ (o : List Int) (st1 : St) (q : Nat) (fl : Bool), OrdP l codes o ∧ Sup st st1 ∧ QOut 3 1 (fun k => eI (gI (resO l o) k)) (resO l o).length st1 q fl [] v st') ?_
    (fun v st' ⟨o, st1, q, fl, ho, hs, hq⟩ => ⟨eInts (resO l o), st, ⟨⟨o, ho, rfl⟩, rfl⟩, hq.shift.trans (hs.shift _)⟩)
  refine S_of_X [2, 7] good mixed Tryz.func80 (by rfl) rfl rfl rfl ?_
  conv => whnf
  refine ⟨[1, 2, 5, 15, 16, 17], fun m vs st' => ∃ (i : Nat) (sv : AV), i ≤ l.length ∧ m = l.length - i ∧ vs = [eStrs codes, .fptr (arrOf 15 ePromo l) 0, sv, arrOf 15 ePromo l, eI l.length, eI i] ∧ Col 3 1 (fun k => eI (gI (places l codes i) k)) st (places l codes i).length sv st', ?_, ?_⟩
  · conv => whnf
    exact ⟨_, 0, .emp, Nat.zero_le _, rfl, rfl, Col.start _ _ _ _⟩
  · rintro m vs st' ⟨i, sv, hi, rfl, rfl, hcol⟩
    conv => whnf
    cases h : decide ((i : Int) < (l.length : Int))
    · have := of_decide_eq_false h
      obtain rfl : i = l.length := by omega
      conv => whnf
      have key : ∀ K : KK, (∀ v st1 o, v = .tuple [] → OrdP l codes o → Sup st st1 → ((o = [] ∧ sv = .emp) ∨ ∃ b, sv = .own 1 b 0 o.length ∧ HasI st1 b o ∧ 0 < o.length) → K v st1) → xCall P 141 [sv, .fn (.func 142) [] [.fptr (arrOf 15 ePromo l) 0]] st' K := fun K hK => by
        rcases hcol with ⟨h0, rfl, rfl⟩ | ⟨h0, b, g, hb, rfl, rfl, hg⟩
        · have hP : places l codes l.length = [] := List.eq_nil_of_length_eq_zero h0
          refine call (sortStable0_S _ _) (fun v st1 hv => ?_)
          obtain ⟨rfl, rfl⟩ := hv
          exact hK _ _ [] rfl ⟨by rw [hP], fun x y _ _ h => by simp at h⟩ (Sup.refl _) (.inl ⟨rfl, rfl⟩)
        · refine call (sortStable_S b (places l codes l.length) _ _ (fun x y => cmpS (prAt l x).id (prAt l y).id) (idLt l) (fun x y => cmpS_neg _ _) (idOrd l) _ ⟨g, upd_same .., hg⟩ h20 (fun x hx y hy s => byId_S l x y (places_lt hx) (places_lt hy) s)) (fun v st1 hv => ?_)
          obtain ⟨rfl, l', hp, hs, hb', hfr⟩ := hv
          have hll : l'.length = (places l codes l.length).length := hp.length_eq
          refine hK _ st1 l' rfl ⟨hp, by rw [hll]; exact hs⟩ (fun c x hc => ?_) (.inr ⟨b, by rw [hll], hb', by omega⟩)
          have hne : c ≠ b := fun e => by subst e; rw [hb] at hc; cases hc
          rw [hfr c hne, upd_ne hne]; exact hc
      refine key _ (fun v st1 o hv ho hsup hsv => ?_)
      subst hv
      clear key hcol
      have hmem : ∀ k, k < o.length → 0 ≤ gI o k ∧ (gI o k).toNat < l.length := fun k hk => places_lt (ho.1.subset (getD_mem hk))
      conv => whnf
      refine call (qnew_S st1) (fun v st2 hv => ?_)
      obtain ⟨q, rfl, hq⟩ := hv
      conv => whnf
      rcases hsv with ⟨rfl, rfl⟩ | ⟨b, rfl, ⟨fb, hst, hfb⟩, hpos⟩
      · conv => whnf
        refine once [2, 5, 8, 40, 41, 42] ?_
        conv => whnf
        intro I
        refine once [5, 8, 11] ?_
        conv => whnf
        intro I
        refine call1 (qlen_S _ _ _ _ _ hq) ?_
        conv => whnf
        exact ⟨[], st1, q, true, ho, hsup, .inl ⟨by rw [List.length_map, ranked_len]; rfl, rfl, hq⟩⟩
      · have hol : o.length ≤ 60 := by rw [ho.1.length_eq]; have := places_len l codes l.length; omega
        conv => whnf
        refine ⟨[2, 5, 8, 40, 41, 42], fun m vs st' => ∃ i : Nat, i ≤ o.length ∧ m = o.length - i ∧ vs = [.fptr (arrOf 15 ePromo l) 0, .own 1 b 0 o.length, .optr 1 q 0 0, .own 1 b 0 o.length, eI o.length, eI i] ∧ QSt st1 q true ((List.range i).map (rankE l o)) st', ?_, ?_⟩
        · conv => whnf
          exact ⟨_, 0, Nat.zero_le _, rfl, rfl, hq⟩
        · clear hq
          rintro m vs st' ⟨i, hi, rfl, rfl, hq⟩
          have hst' := hq.sup b _ hst
          conv => whnf
          cases h : decide ((i : Int) < (o.length : Int))
          · have := of_decide_eq_false h
            obtain rfl : i = o.length := by omega
            conv => whnf
            refine ⟨[5, 8, 11], fun m vs st' => ∃ (t : Nat) (sv : AV) (fl : Bool), t ≤ o.length ∧ m = o.length - t ∧ vs = [.own 1 b 0 o.length, .optr 1 q 0 0, sv] ∧ QOut 3 1 (fun k => eI (gI (resO l o) k)) t st1 q fl ((ranked l o).drop t) sv st', ?_, ?_⟩
            · conv => whnf
              exact ⟨_, 0, .emp, true, Nat.zero_le _, rfl, rfl, .inl ⟨rfl, rfl, hq.perm (ranked_perm l o).symm⟩⟩
            · rintro m vs st' ⟨t, sv, fl, ht, rfl, rfl, hout⟩
              have hst' := hout.sup b _ hst
              have hrl := ranked_len l o
              conv => whnf
              refine call1 (hout.len_S) ?_
              conv => whnf
              refine fork (fun h1 => ?_) (fun h1 => ?_) <;> rw [h1] <;> simp only [decide_eq_true_eq, decide_eq_false_iff_not, List.length_drop] at h1
              · have htl : t < (ranked l o).length := by omega
                have hsplit : (ranked l o).drop t = (ranked l o)[t] :: (ranked l o).drop (t + 1) := List.drop_eq_getElem_cons htl
                have hsort := ranked_sorted l o
                have htop : ∀ y ∈ (ranked l o).drop (t + 1), prior y (ranked l o)[t] = false := fun y hy => by
                  have := hsort.sublist (List.drop_sublist t _)
                  rw [hsplit, List.pairwise_cons] at this
                  exact this.1 y hy
                have hx := ranked_mem (List.getElem_mem htl)
                have hres : gI (resO l o) t = gI o ((ranked l o)[t]).2.toNat := by
                  unfold gI resO
                  rw [List.getD_eq_getElem?_getD, List.getElem?_map, List.getElem?_eq_getElem htl]; rfl
                rw [hsplit] at hout
                generalize (ranked l o)[t] = x at *
                conv => whnf
                refine call (hout.pop_S htop) (fun v st'' hv => ?_)
                obtain ⟨rfl, hout'⟩ := hv
                have hst'' := hout'.sup b _ hst
                conv => whnf
                refine ⟨rfl, ⟨by omega, by omega⟩, ?_⟩
                conv => whnf
                refine ldV hst'' rfl (by omega) (v := eI (gI o x.2.toNat)) (by rw [Nat.zero_add]; exact hfb _ hx.2) ?_
                conv => whnf
                refine QOut.app (q := r3) rfl rfl rfl rfl rfl (by simp only [hres]; rfl) (by show (t + 1) * 8 ≤ 140737488355328; omega) hout' (fun sv' st3 hout3 => ?_)
                conv => whnf
                refine ⟨rfl, ?_⟩
                conv => whnf
                exact ⟨o.length - (t + 1), by omega, t + 1, sv', false, by omega, rfl, rfl, hout3⟩
              · have hte : t = o.length := by omega
                subst hte
                conv => whnf
                refine ⟨o, st1, q, fl, ho, hsup, ?_⟩
                rw [show (resO l o).length = o.length by rw [List.length_map, hrl]]
                rw [show (ranked l o).drop o.length = [] by rw [← hrl, List.drop_length]] at hout
                exact hout
          · have hi' : i < o.length := by have := of_decide_eq_true h; omega
            have hm := hmem i hi'
            conv => whnf
            refine ⟨rfl, ⟨by omega, by omega⟩, ?_⟩
            conv => whnf
            refine ldV hst' rfl (by omega) (v := eI (gI o i)) (by rw [show 0 + (i : Int).toNat = i by omega]; exact hfb i hi') ?_
            conv => whnf
            refine ⟨rfl, ⟨by omega, by omega⟩, ?_⟩
            conv => whnf
            refine call (qpush_S st1 q _ (prAt l (gI o i)).prio i _ hq (by rw [List.length_map, List.length_range]; omega)) (fun v st'' hv => ?_)
            obtain ⟨rfl, hq'⟩ := hv
            conv => whnf
            refine ⟨rfl, ?_⟩
            conv => whnf
            refine ⟨o.length - (i + 1), by omega, i + 1, by omega, rfl, by rw [wrapN (by omega)], ?_⟩
            rw [List.range_succ, List.map_append]; exact hq'
    · have hi' : i < l.length := by have := of_decide_eq_true h; omega
      have hpl := places_len l codes i
      conv => whnf
      refine ⟨rfl, ⟨by omega, by omega⟩, ?_⟩
      conv => whnf
      have yes : asked codes (l.getD (i : Int).toNat default) = true → ∀ (K : KK), (∀ sv' st'', Col 3 1 (fun k => eI (gI (places l codes (i + 1)) k)) st (places l codes (i + 1)).length sv' st'' → K sv' st'') → xApp T 29 sv (.arr 1 1 fun k => [AV.int .i64 (i : Int)].getD k .junk) st' K := fun ha K hK => by
        have es := places_succ l codes i
        rw [if_pos (show asked codes (l.getD i default) = true from ha)] at es
        have el : (places l codes (i + 1)).length = (places l codes i).length + 1 := by rw [es]; simp
        refine Col.app (q := r3) rfl rfl rfl rfl rfl ?_ (by show ((places l codes i).length + 1) * 8 ≤ 140737488355328; omega) (hcol.congr (f' := fun k => eI (gI (places l codes (i + 1)) k)) fun k hk => by rw [es, gI_append hk]) (fun sv' st'' hc' => hK sv' st'' (by rw [el]; exact hc'))
        rw [es, gI_last]; rfl
      have no : asked codes (l.getD (i : Int).toNat default) = false → places l codes (i + 1) = places l codes i := fun ha => by
        have es := places_succ l codes i
        rw [if_neg (show ¬ asked codes (l.getD i default) = true by rw [show asked codes (l.getD i default) = false from ha]; simp), List.append_nil] at es
        exact es
      have fin : ∀ sv' st'', Col 3 1 (fun k => eI (gI (places l codes (i + 1)) k)) st (places l codes (i + 1)).length sv' st'' → ∃ m', m' < l.length - i ∧ ∃ (i_1 : Nat) (sv : AV), i_1 ≤ l.length ∧ m' = l.length - i_1 ∧ [eStrs codes, AV.fptr (arrOf 15 ePromo l) 0, sv', arrOf 15 ePromo l, eI l.length, eI (IntKind.i64.wrap ((i : Int) + 1))] = [eStrs codes, .fptr (arrOf 15 ePromo l) 0, sv, arrOf 15 ePromo l, eI l.length, eI i_1] ∧ Col 3 1 (fun k => eI (gI (places l codes i_1) k)) st (places l codes i_1).length sv st'' :=
        fun sv' st'' hc' => ⟨l.length - (i + 1), by omega, i + 1, sv', by omega, rfl, by rw [wrapN (by omega)], hc'⟩
      refine fork (fun h1 => ?_) (fun h1 => ?_)
      · have ha : asked codes (l.getD (i : Int).toNat default) = true := by unfold asked; rw [show isNil (l.getD (i : Int).toNat default).code = true from h1, Bool.true_or]
        rw [h1]
        conv => whnf
        refine yes ha _ (fun sv' st'' hc' => ?_)
        conv => whnf
        refine ⟨rfl, ?_⟩
        conv => whnf
        exact fin _ _ hc'
      · rw [h1]
        conv => whnf
        refine call1 (strsIn_S codes hc (l.getD (i : Int).toNat default).code _) ?_
        conv => whnf
        refine fork (fun h2 => ?_) (fun h2 => ?_)
        · have ha : asked codes (l.getD (i : Int).toNat default) = true := by unfold asked; rw [h2, Bool.or_true]
          rw [h2]
          conv => whnf
          refine yes ha _ (fun sv' st'' hc' => ?_)
          conv => whnf
          refine ⟨rfl, ?_⟩
          conv => whnf
          exact fin _ _ hc'
        · have ha : asked codes (l.getD (i : Int).toNat default) = false := by unfold asked; rw [show isNil (l.getD (i : Int).toNat default).code = false from h1, h2]; rfl
          rw [h2]
          conv => whnf
          refine ⟨rfl, ?_⟩
          conv => whnf
          exact fin _ _ (by rw [no ha]; exact hcol)
end Go.Proofs.YtnekegdhpjplbaaGreat
/- Contracts: shares. -/
set_option maxRecDepth 100000
set_option linter.unusedVariables false
set_option linter.unusedSimpArgs false
namespace Go.Proofs.YtnekegdhpjplbaaGreat
open Go Go.Ab
attribute [local irreducible] upd del
abbrev MM : Int := 100000000000000
theorem add_S (a b : Int) (ha : 0 ≤ a) (hb : 0 ≤ b) (hab : a + b ≤ 100000000000000) (st : St) : S P 277 [eI a, eI b] st fun v st' => v = .tuple [eI (a + b), eI 0] ∧ st' = st := by
  have ra : (decide (0 ≤ a) && decide (a ≤ 100000000000000)) = true := by simp; omega
  have rb : (decide (0 ≤ b) && decide (b ≤ 100000000000000)) = true := by simp; omega
  have w1 : IntKind.i64.wrap (100000000000000 - b) = 100000000000000 - b := wrap64_of (by omega) (by omega)
  have w2 : IntKind.i64.wrap (a + b) = a + b := wrap64_of (by omega) (by omega)
  refine S_of_X [] good mixed Tryz.func277 (by rfl) rfl rfl rfl ?_
  conv => whnf
  refine call1 (right_S a st) ?_
  rw [ra]
  conv => whnf
  refine call1 (right_S b st) ?_
  rw [rb]
  conv => whnf
  rw [w1]
  refine fork (fun h => ?_) (fun h => ?_) <;> rw [h] <;> simp only [decide_eq_true_eq, decide_eq_false_iff_not] at h
  · exact absurd h (by omega)
  · conv => whnf
    rw [w2]
    exact ⟨rfl, rfl⟩
def sumI (l : List Int) : Int := l.foldl (fun s x => s + x) 0
theorem sumI_take {l : List Int} {i : Nat} (h : i < l.length) : sumI (l.take (i + 1)) = sumI (l.take i) + gI l i := foldl_next h _ _
theorem sumI_append (a b : List Int) : sumI (a ++ b) = sumI a + sumI b := by
  have : ∀ (b : List Int) (s : Int), b.foldl (fun s x => s + x) s = s + b.foldl (fun s x => s + x) 0 := by
    intro b
    induction b with
    | nil => intro s; simp
    | cons x b ih => intro s; simp only [List.foldl_cons]; rw [ih (s + x), ih (0 + x)]; omega
  unfold sumI
  rw [List.foldl_append, this b]
theorem sumI_nonneg {l : List Int} (h : ∀ x ∈ l, 0 ≤ x) : 0 ≤ sumI l := by
  induction l with
  | nil => exact Int.le_refl _
  | cons x l ih =>
    have := sumI_append [x] l
    rw [List.singleton_append] at this
    have e : sumI [x] = x := by simp [sumI]
    rw [this, e]
    have := ih (fun y hy => h y (List.mem_cons_of_mem _ hy))
    have := h x (List.mem_cons_self ..)
    omega
theorem sumI_le_take {l : List Int} (h : ∀ x ∈ l, 0 ≤ x) (i : Nat) : sumI (l.take i) ≤ sumI l := by
  have e := sumI_append (l.take i) (l.drop i)
  rw [List.take_append_drop] at e
  have := sumI_nonneg (l := l.drop i) (fun x hx => h x (List.drop_subset _ _ hx))
  omega
theorem sumI_mem_le {l : List Int} (h : ∀ x ∈ l, 0 ≤ x) {x : Int} (hx : x ∈ l) : x ≤ sumI l := by
  obtain ⟨i, hi, rfl⟩ := mem_getD hx
  have h1 := sumI_take hi
  have h2 := sumI_le_take h (i + 1)
  have h3 := sumI_nonneg (l := l.take i) (fun x hx => h x (List.take_subset _ _ hx))
  have e : gI l i = l.getD i default := rfl
  omega
structure Weights (total : Int) (ws : List Int) : Prop where
  t0 : 0 ≤ total
  t1 : total ≤ 100000000000000
  len : ws.length ≤ 100000
  w0 : ∀ w ∈ ws, 0 ≤ w
  sum : sumI ws ≤ 100000000000000
  none : sumI ws = 0 → total = 0
theorem ssum_S (total : Int) (ws : List Int) (hW : Weights total ws) (st : St) : S P 271 [eI total, eInts ws] st fun v st' => v = .tuple [eI (sumI ws), eI 0] ∧ st' = st := by
  have rt : (decide (0 ≤ total) && decide (total ≤ 100000000000000)) = true := by simp; exact ⟨hW.t0, hW.t1⟩
  have hw : ∀ w ∈ ws, w ≤ 100000000000000 := fun w hw => Int.le_trans (sumI_mem_le hW.w0 hw) hW.sum
  have hl := hW.len
  refine S_of_X [] good mixed Tryz.func271 (by rfl) rfl rfl rfl ?_
  conv => whnf
  refine call1 (right_S total st) ?_
  rw [rt]
  conv => whnf
  refine fork (fun h => ?_) (fun h => ?_) <;> rw [h] <;> simp only [decide_eq_true_eq, decide_eq_false_iff_not] at h
  · exact absurd h (by omega)
  conv => whnf
  refine ⟨[0, 1, 20, 21, 22], fun m vs st' => ∃ i : Nat, i ≤ ws.length ∧ m = ws.length - i ∧ vs = [eI total, eInts ws, eInts ws, eI ws.length, eI i] ∧ st' = st, ?_, ?_⟩
  · conv => whnf
    exact ⟨_, 0, Nat.zero_le _, rfl, rfl, rfl⟩
  · rintro m vs st' ⟨i, hi, rfl, rfl, rfl⟩
    conv => whnf
    cases h1 : decide ((i : Int) < (ws.length : Int))
    · conv => whnf
      refine ⟨[0, 8, 30, 31, 32], fun m vs st'' => ∃ i : Nat, i ≤ ws.length ∧ m = ws.length - i ∧ vs = [eI total, eI (sumI (ws.take i)), eInts ws, eI ws.length, eI i] ∧ st'' = st', ?_, ?_⟩
      · conv => whnf
        exact ⟨_, 0, Nat.zero_le _, rfl, rfl, rfl⟩
      · rintro m vs st'' ⟨i, hi, rfl, rfl, rfl⟩
        conv => whnf
        cases h2 : decide ((i : Int) < (ws.length : Int))
        · have := of_decide_eq_false h2
          obtain rfl : i = ws.length := by omega
          rw [List.take_length]
          conv => whnf
          refine fork (fun h3 => ?_) (fun h3 => ?_) <;> rw [h3]
          · conv => whnf
            have : total = 0 := hW.none (by simpa using h3)
            rw [this]
            conv => whnf
            exact ⟨rfl, rfl⟩
          · conv => whnf
            exact ⟨rfl, rfl⟩
        · have hi' : i < ws.length := by have := of_decide_eq_true h2; omega
          have h3 := sumI_take hi'
          have h4 := sumI_le_take hW.w0 (i + 1)
          have h5 := sumI_nonneg (l := ws.take i) (fun x hx => hW.w0 x (List.take_subset _ _ hx))
          have h6 := hW.w0 _ (getD_mem hi')
          have h7 := hW.sum
          conv => whnf
          refine ⟨rfl, ⟨by omega, by omega⟩, ?_⟩
          conv => whnf
          refine call1 (add_S (sumI (ws.take i)) (gI ws i) h5 h6 (by omega) _) ?_
          conv => whnf
          refine ⟨rfl, ?_⟩
          conv => whnf
          exact ⟨ws.length - (i + 1), by omega, i + 1, by omega, rfl, by rw [wrapN (by omega), h3], rfl⟩
    · have hi' : i < ws.length := by have := of_decide_eq_true h1; omega
      have hm : gI ws i ∈ ws := getD_mem hi'
      have rw' : (decide (0 ≤ gI ws i) && decide (gI ws i ≤ 100000000000000)) = true := by simp only [Bool.and_eq_true, decide_eq_true_eq]; exact ⟨hW.w0 _ hm, hw _ hm⟩
      conv => whnf
      refine ⟨rfl, ⟨by omega, by omega⟩, ?_⟩
      conv => whnf
      refine call1 (right_S (gI ws i) _) ?_
      rw [rw']
      conv => whnf
      refine ⟨rfl, ?_⟩
      conv => whnf
      exact ⟨ws.length - (i + 1), by omega, i + 1, by omega, rfl, by rw [wrapN (by omega)], rfl⟩
theorem part_S (total w all : Int) (h0 : 0 ≤ total) (h1 : total ≤ 100000000000000) (hw : 0 ≤ w) (hwa : w ≤ all) (ha : 0 < all) (ha' : all ≤ 100000000000000) (st : St) : S P 272 [eI total, eI w, eI all] st fun v st' => v = .tuple [eI (total * w / all), eI (total * w % all)] ∧ st' = st := by
  have e1 : IntKind.u64.wrap total = total := wrapU_of (by omega) (by omega)
  have e2 : IntKind.u64.wrap w = w := wrapU_of (by omega) (by omega)
  have e3 : IntKind.u64.wrap all = all := wrapU_of (by omega) (by omega)
  have hN : 0 ≤ total * w := Int.mul_nonneg h0 hw
  have hN' : total * w ≤ 100000000000000 * all := Int.mul_le_mul h1 hwa hw (by omega)
  have hq0 : 0 ≤ total * w / all := Int.ediv_nonneg hN (by omega)
  have hq1 : total * w / all ≤ 100000000000000 := by
    have : total * w / all < 100000000000000 + 1 := (Int.ediv_lt_iff_lt_mul ha).2 (by omega)
    omega
  have hr0 := Int.emod_nonneg (total * w) (show all ≠ 0 by omega)
  have hr1 := Int.emod_lt_of_pos (total * w) ha
  refine S_of_X [] good mixed Tryz.func272 (by rfl) rfl rfl rfl ?_
  conv => whnf
  rw [e1, e2]
  refine call1 (mul64_S total w ⟨by omega, by omega⟩ ⟨by omega, by omega⟩ st) ?_
  conv => whnf
  rw [e3]
  have hN2 : 100000000000000 * all ≤ 100000000000000 * 100000000000000 := by omega
  refine call1 (div64_S _ _ all (by omega) (by omega) (by omega) (by omega) (by omega) st) ?_
  rw [show total * w / 18446744073709551616 * 18446744073709551616 + total * w % 18446744073709551616 = total * w by omega]
  conv => whnf
  rw [wrap64_of (x := total * w / all) (by omega) (by omega), wrap64_of (x := total * w % all) (by omega) (by omega)]
  exact ⟨rfl, rfl⟩
end Go.Proofs.YtnekegdhpjplbaaGreat
/- Contracts: an amount in parts. -/
set_option maxRecDepth 100000
set_option linter.unusedVariables false
set_option linter.unusedSimpArgs false
namespace Go.Proofs.YtnekegdhpjplbaaGreat
open Go Go.Ab
attribute [local irreducible] upd del
def shQ (total S : Int) (ws : List Int) (k : Nat) : Int := total * gI ws k / S
def shE (total S : Int) (ws : List Int) (k : Nat) : QE := (total * gI ws k % S, (k : Int))
def shR (total S : Int) (ws : List Int) : List QE := ((List.range ws.length).map (shE total S ws)).mergeSort fun a b => !prior b a
def bumped (qs : List Int) (R : List QE) : List Int := R.foldl (fun acc e => acc.set e.2.toNat (gI acc e.2.toNat + 1)) qs
def shLeft (total S : Int) (ws : List Int) (i : Nat) : Int := total - sumI ((List.range i).map (shQ total S ws))
def largestB (total : Int) (ws : List Int) : List Int :=
  if sumI ws = 0 then ws.map fun _ => 0
  else bumped ((List.range ws.length).map (shQ total (sumI ws) ws)) ((shR total (sumI ws) ws).take (shLeft total (sumI ws) ws ws.length).toNat)
theorem shR_perm (total S : Int) (ws : List Int) : (shR total S ws).Perm ((List.range ws.length).map (shE total S ws)) := List.mergeSort_perm ..
theorem shR_sorted (total S : Int) (ws : List Int) : (shR total S ws).Pairwise fun a b => prior b a = false := by
  have := List.pairwise_mergeSort (le := fun a b : QE => !prior b a) (fun a b c h1 h2 => by simp only [Bool.not_eq_true'] at *; exact nah_trans h2 h1) (fun a b => by
    cases h : prior b a with
    | false => rfl
    | true => rw [prior_asymm h]; rfl) ((List.range ws.length).map (shE total S ws))
  exact this.imp (fun h => by simpa using h)
theorem shR_len (total S : Int) (ws : List Int) : (shR total S ws).length = ws.length := by
  rw [(shR_perm total S ws).length_eq]; simp
theorem shR_mem {total S : Int} {ws : List Int} {e : QE} (h : e ∈ shR total S ws) : 0 ≤ e.2 ∧ e.2.toNat < ws.length := by
  obtain ⟨k, hk, rfl⟩ := List.mem_map.1 ((shR_perm total S ws).subset h)
  have := List.mem_range.1 hk
  simp only [shE]; omega
theorem bumped_len (qs : List Int) (R : List QE) : (bumped qs R).length = qs.length := by
  unfold bumped
  induction R generalizing qs with
  | nil => rfl
  | cons e R ih => simp only [List.foldl_cons]; rw [ih]; simp
theorem bumped_snoc (qs : List Int) (R : List QE) (e : QE) : bumped qs (R ++ [e]) = (bumped qs R).set e.2.toNat (gI (bumped qs R) e.2.toNat + 1) := by
  unfold bumped; rw [List.foldl_append]; rfl
theorem sumI_map_range (f : Nat → Int) (n : Nat) : sumI ((List.range (n + 1)).map f) = sumI ((List.range n).map f) + f n := by
  rw [List.range_succ, List.map_append, sumI_append]; simp [sumI]
/-- What is left, as so many wholes: the remainders' sum. -/
theorem left_eq (total S : Int) (hS : 0 < S) (ws : List Int) : ∀ i, i ≤ ws.length → S * sumI ((List.range i).map (shQ total S ws)) + sumI ((List.range i).map fun k => total * gI ws k % S) = total * sumI (ws.take i)
  | 0, _ => by simp [sumI]
  | i + 1, h => by
    have ih := left_eq total S hS ws i (by omega)
    rw [sumI_map_range, sumI_map_range, sumI_take (by omega), Int.mul_add, Int.mul_add, ← ih]
    have := Int.mul_ediv_add_emod (total * gI ws i) S
    unfold shQ
    omega
theorem rest_bound (total S : Int) (hS : 0 < S) (ws : List Int) : ∀ i, 0 ≤ sumI ((List.range i).map fun k => total * gI ws k % S) ∧ sumI ((List.range i).map fun k => total * gI ws k % S) ≤ i * (S - 1)
  | 0 => by simp [sumI]
  | i + 1 => by
    have ih := rest_bound total S hS ws i
    rw [sumI_map_range]
    have h1 := Int.emod_nonneg (total * gI ws i) (show S ≠ 0 by omega)
    have h2 := Int.emod_lt_of_pos (total * gI ws i) hS
    have h3 : ((i + 1 : Nat) : Int) * (S - 1) = (i : Int) * (S - 1) + (S - 1) := by
      rw [show ((i + 1 : Nat) : Int) = (i : Int) + 1 by omega, Int.add_mul, Int.one_mul]
    omega
theorem left_range {total : Int} {ws : List Int} (h : Weights total ws) (hS : 0 < sumI ws) : 0 ≤ shLeft total (sumI ws) ws ws.length ∧ shLeft total (sumI ws) ws ws.length ≤ ws.length := by
  have e := left_eq total (sumI ws) hS ws ws.length (Nat.le_refl _)
  have b := rest_bound total (sumI ws) hS ws ws.length
  rw [List.take_length] at e
  have hk : sumI ws * shLeft total (sumI ws) ws ws.length = sumI ((List.range ws.length).map fun k => total * gI ws k % sumI ws) := by
    unfold shLeft
    rw [Int.mul_sub, Int.mul_comm (sumI ws) total]; omega
  constructor
  · refine Int.le_of_not_gt fun hlt => ?_
    have : sumI ws * shLeft total (sumI ws) ws ws.length < 0 := Int.mul_neg_of_pos_of_neg hS hlt
    omega
  · refine Int.le_of_not_gt fun hgt => ?_
    have h1 : sumI ws * ((ws.length : Int) + 1) ≤ sumI ws * shLeft total (sumI ws) ws ws.length := Int.mul_le_mul_of_nonneg_left (by omega) (by omega)
    have h2 : (ws.length : Int) * (sumI ws - 1) ≤ sumI ws * (ws.length : Int) := by
      rw [Int.mul_sub, Int.mul_one, Int.mul_comm]; omega
    rw [Int.mul_add, Int.mul_one] at h1
    omega
theorem shQ_bound {total : Int} {ws : List Int} (h : Weights total ws) (hS : 0 < sumI ws) {k : Nat} (hk : k < ws.length) : 0 ≤ shQ total (sumI ws) ws k ∧ shQ total (sumI ws) ws k ≤ total := by
  have hw := h.w0 _ (getD_mem hk)
  have hle := sumI_mem_le h.w0 (getD_mem hk)
  refine ⟨Int.ediv_nonneg (Int.mul_nonneg h.t0 hw) (by omega), ?_⟩
  have h1 : total * gI ws k ≤ total * sumI ws := Int.mul_le_mul_of_nonneg_left hle h.t0
  have : shQ total (sumI ws) ws k < total + 1 := (Int.ediv_lt_iff_lt_mul hS).2 (by rw [Int.add_mul, Int.one_mul]; omega)
  omega
theorem sumQ_bound {total : Int} {ws : List Int} (h : Weights total ws) (hS : 0 < sumI ws) {i : Nat} (hi : i ≤ ws.length) : 0 ≤ sumI ((List.range i).map (shQ total (sumI ws) ws)) ∧ sumI ((List.range i).map (shQ total (sumI ws) ws)) ≤ total := by
  have e := left_eq total (sumI ws) hS ws i hi
  have b := rest_bound total (sumI ws) hS ws i
  have t := sumI_le_take h.w0 i
  constructor
  · exact sumI_nonneg fun x hx => by
      obtain ⟨k, hk, rfl⟩ := List.mem_map.1 hx
      exact (shQ_bound h hS (by have := List.mem_range.1 hk; omega)).1
  · have h1 : total * sumI (ws.take i) ≤ total * sumI ws := Int.mul_le_mul_of_nonneg_left t h.t0
    refine Int.le_of_not_gt fun hgt => ?_
    have : sumI ws * (total + 1) ≤ sumI ws * sumI ((List.range i).map (shQ total (sumI ws) ws)) := Int.mul_le_mul_of_nonneg_left (by omega) (by omega)
    rw [Int.mul_add, Int.mul_one, Int.mul_comm] at this
    omega
theorem bumped_bound (qs : List Int) (R : List QE) (k : Nat) : gI qs k ≤ gI (bumped qs R) k ∧ gI (bumped qs R) k ≤ gI qs k + R.length := by
  unfold bumped
  induction R generalizing qs with
  | nil => simp
  | cons e R ih =>
    simp only [List.foldl_cons, List.length_cons]
    have h := ih (qs.set e.2.toNat (gI qs e.2.toNat + 1))
    have hs : gI qs k ≤ gI (qs.set e.2.toNat (gI qs e.2.toNat + 1)) k ∧ gI (qs.set e.2.toNat (gI qs e.2.toNat + 1)) k ≤ gI qs k + 1 := by
      unfold gI
      simp only [List.getD_eq_getElem?_getD, List.getElem?_set]
      by_cases e1 : e.2.toNat = k
      · subst e1
        by_cases e2 : e.2.toNat < qs.length
        · simp [e2]; omega
        · simp [e2]
      · rw [if_neg e1]; omega
    omega
theorem gI_map_range (f : Nat → Int) {n k : Nat} (hk : k < n) : gI ((List.range n).map f) k = f k := by
  unfold gI; simp [List.getD_eq_getElem?_getD, hk]
theorem gI_set {l : List Int} {j : Nat} (hj : j < l.length) (x : Int) (k : Nat) : gI (l.set j x) k = if k = j then x else gI l k := by
  unfold gI
  simp only [List.getD_eq_getElem?_getD, List.getElem?_set]
  by_cases h : k = j
  · subst h; simp [hj]
  · rw [if_neg (fun e => h e.symm), if_neg h]
theorem largest_S (total : Int) (ws : List Int) (h : Weights total ws) (st : St) : S P 257 [eI total, eInts ws] st fun v st' => v = .tuple [eInts (largestB total ws), eI 0] ∧ st' = st := by
  have hlen := h.len
  refine S.post (post := fun v st' => ∃ (bo : Nat) (f : Nat → AV), st bo = none ∧ v = .tuple [.own 1 bo 0 ws.length, eI 0] ∧ Sup (upd st bo ⟨2, 1, ws.length, f⟩) st' ∧ (largestB total ws).length = ws.length ∧ ∀ k, k < ws.length → f k = eI (gI (largestB total ws) k)) ?_
    (fun v st' ⟨bo, f, h0, hv, hs, hl, hf⟩ => ⟨_, st, ⟨rfl, rfl⟩, by
      rw [hv]
      refine Shift.tuple (Shift.cons ((hs.shift _).trans ?_) (Shift.keep _ _)) rfl
      have h2 := shift_own (st := upd st bo ⟨2, 1, ws.length, f⟩) (e := 1) (b := bo) (n := ws.length) (f := fun k => eI (gI (largestB total ws) k)) (upd_same ..) rfl (Nat.le_refl _) hf
      rw [del_upd h0] at h2
      have e : eInts (largestB total ws) = .arr 1 ws.length (fun k => eI (gI (largestB total ws) k)) := by unfold eInts arrOf; rw [hl]
      rw [e]; exact h2⟩)
  refine S_of_X [] good mixed Tryz.func257 (by rfl) rfl rfl rfl ?_
  conv => whnf
  refine call1 (ssum_S total ws h st) ?_
  conv => whnf
  refine mkO rfl rfl rfl (by show 8 * ws.length ≤ _; omega) (by omega) (by rfl) (fun bo hbo => ?_)
  conv => whnf
  refine fork (fun h1 => ?_) (fun h1 => ?_) <;> rw [h1]
  · have h0 : sumI ws = 0 := by simpa using h1
    have hB : largestB total ws = ws.map fun _ => 0 := if_pos h0
    conv => whnf
    refine ⟨bo, _, hbo, rfl, Sup.refl _, by rw [hB, List.length_map], fun k hk => ?_⟩
    rw [hB]
    show AV.int .i64 0 = _
    rw [show gI (ws.map fun _ => (0 : Int)) k = 0 from getD_map (fun _ => (0 : Int)) ws hk]
  have hS : 0 < sumI ws := by
    have h2 := sumI_nonneg h.w0
    have h3 : sumI ws ≠ 0 := by simpa using h1
    omega
  have hB : largestB total ws = bumped ((List.range ws.length).map (shQ total (sumI ws) ws)) ((shR total (sumI ws) ws).take (shLeft total (sumI ws) ws ws.length).toNat) := if_neg (by omega)
  have hsum := h.sum
  have ht0 := h.t0
  have ht1 := h.t1
  conv => whnf
  refine call (qnew_S _) (fun v st2 hv => ?_)
  obtain ⟨q, rfl, hq⟩ := hv
  conv => whnf
  refine ⟨[0, 6, 8, 9, 10, 35, 36, 37], fun m vs st' => ∃ (i : Nat) (f : Nat → AV), i ≤ ws.length ∧ m = ws.length - i ∧ vs = [eI total, eI (sumI ws), .own 1 bo 0 ws.length, eI (shLeft total (sumI ws) ws i), .optr 1 q 0 0, eInts ws, eI ws.length, eI i] ∧
    (∀ k, k < i → f k = eI (shQ total (sumI ws) ws k)) ∧ (∀ k, i ≤ k → f k = .int .i64 0) ∧ QSt (upd st bo ⟨2, 1, ws.length, f⟩) q true ((List.range i).map (shE total (sumI ws) ws)) st', ?_, ?_⟩
  · conv => whnf
    exact ⟨_, 0, fun _ => .int .i64 0, Nat.zero_le _, rfl, (by simp [shLeft, sumI]; rfl), fun k hk => absurd hk (by omega), fun _ _ => rfl, hq⟩
  · clear hq
    rintro m vs st' ⟨i, f, hi, rfl, rfl, hf1, hf2, hq⟩
    conv => whnf
    cases h2 : decide ((i : Int) < (ws.length : Int))
    · have := of_decide_eq_false h2
      obtain rfl : i = ws.length := by omega
      obtain ⟨l0, l1⟩ := left_range h hS
      conv => whnf
      refine ⟨[8, 10, 61, 62], fun m vs st' => ∃ (t : Nat) (f : Nat → AV) (fl : Bool), (t : Int) ≤ shLeft total (sumI ws) ws ws.length ∧ m = (shLeft total (sumI ws) ws ws.length).toNat - t ∧ vs = [.own 1 bo 0 ws.length, .optr 1 q 0 0, eI (shLeft total (sumI ws) ws ws.length), eI t] ∧
        (∀ k, k < ws.length → f k = eI (gI (bumped ((List.range ws.length).map (shQ total (sumI ws) ws)) ((shR total (sumI ws) ws).take t)) k)) ∧ QSt (upd st bo ⟨2, 1, ws.length, f⟩) q fl ((shR total (sumI ws) ws).drop t) st', ?_, ?_⟩
      · conv => whnf
        exact ⟨_, 0, f, true, by omega, rfl, rfl, fun k hk => by rw [hf1 k hk, List.take_zero]; show _ = eI (gI ((List.range ws.length).map _) k); rw [gI_map_range _ hk], hq.perm (shR_perm total (sumI ws) ws).symm⟩
      · clear hf1 hf2 hq f
        rintro m vs st' ⟨t, f, fl, ht, rfl, rfl, hf, hq⟩
        have hrl := shR_len total (sumI ws) ws
        have hby : st' bo = some ⟨2, 1, ws.length, f⟩ := hq.sup bo _ (upd_same ..)
        conv => whnf
        cases h3 : decide ((t : Int) < shLeft total (sumI ws) ws ws.length)
        · have h3' := of_decide_eq_false h3
          have hte : (shLeft total (sumI ws) ws ws.length).toNat = t := by omega
          conv => whnf
          refine ⟨bo, f, hbo, rfl, hq.sup, by rw [hB, bumped_len]; simp, fun k hk => by rw [hB, hte]; exact hf k hk⟩
        · have h3' := of_decide_eq_true h3
          have htl : t < (shR total (sumI ws) ws).length := by omega
          have hsplit : (shR total (sumI ws) ws).drop t = (shR total (sumI ws) ws)[t] :: (shR total (sumI ws) ws).drop (t + 1) := List.drop_eq_getElem_cons htl
          have htop : ∀ y ∈ (shR total (sumI ws) ws).drop (t + 1), prior y (shR total (sumI ws) ws)[t] = false := fun y hy => by
            have := (shR_sorted total (sumI ws) ws).sublist (List.drop_sublist t _)
            rw [hsplit, List.pairwise_cons] at this
            exact this.1 y hy
          have hx := shR_mem (List.getElem_mem htl)
          have htake : (shR total (sumI ws) ws).take (t + 1) = (shR total (sumI ws) ws).take t ++ [(shR total (sumI ws) ws)[t]] := List.take_succ_eq_append_getElem htl
          rw [hsplit] at hq
          generalize (shR total (sumI ws) ws)[t] = x at *
          have hb1 := bumped_bound ((List.range ws.length).map (shQ total (sumI ws) ws)) ((shR total (sumI ws) ws).take t) x.2.toNat
          have hb2 := shQ_bound h hS hx.2
          rw [gI_map_range _ hx.2, List.length_take] at hb1
          conv => whnf
          refine call (qpop_S _ _ _ _ _ _ hq htop) (fun v st'' hv => ?_)
          obtain ⟨rfl, hq'⟩ := hv
          have hby' : st'' bo = some ⟨2, 1, ws.length, f⟩ := hq'.sup bo _ (upd_same ..)
          conv => whnf
          refine ⟨rfl, ⟨by omega, by omega⟩, ?_⟩
          conv => whnf
          refine ldV hby' rfl (by omega) (v := eI (gI (bumped ((List.range ws.length).map (shQ total (sumI ws) ws)) ((shR total (sumI ws) ws).take t)) x.2.toNat)) (by rw [Nat.zero_add]; exact hf _ hx.2) ?_
          conv => whnf
          refine ⟨rfl, ⟨by omega, by omega⟩, ?_⟩
          conv => whnf
          refine stV hby' rfl (by omega) (v := eI (gI (bumped ((List.range ws.length).map (shQ total (sumI ws) ws)) ((shR total (sumI ws) ws).take t)) x.2.toNat)) (by rw [Nat.zero_add]; exact hf _ hx.2) (by rfl) ?_
          conv => whnf
          refine ⟨rfl, ?_⟩
          conv => whnf
          have hg := hq'.grow (bo' := bo) (y' := ⟨2, 1, ws.length, fset f (0 + x.2.toNat) (eI (IntKind.i64.wrap (gI (bumped ((List.range ws.length).map (shQ total (sumI ws) ws)) ((shR total (sumI ws) ws).take t)) x.2.toNat + 1)))⟩) hbo (.inl rfl)
          rw [upd_del] at hg
          refine ⟨(shLeft total (sumI ws) ws ws.length).toNat - (t + 1), by omega, t + 1, _, false, by omega, rfl, by rw [wrapN (by omega)], fun k hk => ?_, hg.2⟩
          rw [htake, bumped_snoc, gI_set (by rw [bumped_len]; simpa using hx.2), Nat.zero_add]
          by_cases e1 : k = x.2.toNat
          · rw [if_pos e1, e1, fset_same, wrap64_of (by omega) (by omega)]
          · rw [if_neg e1, fset_ne e1]; exact hf k hk
    · have hi' : i < ws.length := by have := of_decide_eq_true h2; omega
      have hm : gI ws i ∈ ws := getD_mem hi'
      have hby : st' bo = some ⟨2, 1, ws.length, f⟩ := hq.sup bo _ (upd_same ..)
      have hqb := sumQ_bound h hS (show i ≤ ws.length by omega)
      have hqb' := sumQ_bound h hS (show i + 1 ≤ ws.length by omega)
      have hsr := sumI_map_range (shQ total (sumI ws) ws) i
      conv => whnf
      refine ⟨rfl, ⟨by omega, by omega⟩, ?_⟩
      conv => whnf
      refine call1 (part_S total (gI ws i) (sumI ws) h.t0 h.t1 (h.w0 _ hm) (sumI_mem_le h.w0 hm) hS h.sum _) ?_
      conv => whnf
      refine ⟨rfl, ⟨by omega, by omega⟩, ?_⟩
      conv => whnf
      refine stV hby rfl (by omega) (v := .int .i64 0) (by rw [show 0 + (i : Int).toNat = i by omega]; exact hf2 i (Nat.le_refl _)) (by rfl) ?_
      conv => whnf
      have hg := hq.grow (bo' := bo) (y' := ⟨2, 1, ws.length, fset f (0 + (i : Int).toNat) (eI (shQ total (sumI ws) ws i))⟩) hbo (.inl rfl)
      rw [upd_del] at hg
      refine call (qpush_S _ q _ (total * gI ws i % sumI ws) i _ hg.2 (by rw [List.length_map, List.length_range]; omega)) (fun v st'' hv => ?_)
      obtain ⟨rfl, hq'⟩ := hv
      conv => whnf
      refine ⟨rfl, ?_⟩
      conv => whnf
      refine ⟨ws.length - (i + 1), by omega, i + 1, fset f (0 + (i : Int).toNat) (eI (shQ total (sumI ws) ws i)), by omega, rfl, ?_, fun k hk => ?_, fun k hk => ?_, ?_⟩
      · rw [wrapN (by omega)]
        have e : IntKind.i64.wrap (shLeft total (sumI ws) ws i - total * gI ws i / sumI ws) = shLeft total (sumI ws) ws (i + 1) := by
          unfold shLeft
          have : total * gI ws i / sumI ws = shQ total (sumI ws) ws i := rfl
          rw [this, wrap64_of (by omega) (by omega)]; omega
        rw [e]
      · by_cases e1 : k = i
        · subst e1; rw [show 0 + (k : Int).toNat = k by omega, fset_same]
        · rw [fset_ne (by omega)]; exact hf1 k (by omega)
      · rw [fset_ne (by omega)]; exact hf2 k (by omega)
      · rw [List.range_succ, List.map_append]; exact hq'
end Go.Proofs.YtnekegdhpjplbaaGreat
/- Contracts: what promos take off. -/
set_option maxRecDepth 100000
set_option linter.unusedVariables false
set_option linter.unusedSimpArgs false
namespace Go.Proofs.YtnekegdhpjplbaaGreat
open Go Go.Ab
attribute [local irreducible] upd del
abbrev eUnits (l : List AUnit) : AV := arrOf 3 eUnit l
abbrev gU (l : List AUnit) (k : Nat) : AUnit := l.getD k default
abbrev netsOf (us : List AUnit) : List Int := us.map AUnit.net
structure UnitsOk (us : List AUnit) : Prop where
  len : us.length ≤ 100000
  pos : ∀ u ∈ us, 0 ≤ u.net
  sum : sumI (netsOf us) ≤ 10000000000000
structure MineOk (us : List AUnit) (mine : List Int) : Prop where
  rng : ∀ k, k < mine.length → 0 ≤ gI mine k ∧ (gI mine k).toNat < us.length
  opn : ∀ k, k < mine.length → (gU us (gI mine k).toNat).opn = true
  inc : ∀ k, k + 1 < mine.length → gI mine k < gI mine (k + 1)
theorem UnitsOk.nets0 {us : List AUnit} (h : UnitsOk us) : ∀ x ∈ netsOf us, 0 ≤ x := fun x hx => by
  obtain ⟨u, hu, rfl⟩ := List.mem_map.1 hx
  exact h.pos u hu
theorem UnitsOk.le {us : List AUnit} (h : UnitsOk us) {u : AUnit} (hu : u ∈ us) : u.net ≤ 10000000000000 := by
  have := sumI_mem_le h.nets0 (List.mem_map_of_mem (f := AUnit.net) hu)
  have := h.sum
  omega
theorem MineOk.lt {us : List AUnit} {mine : List Int} (h : MineOk us mine) : ∀ j k, j < k → k < mine.length → gI mine j < gI mine k := fun j k hjk hk => by
  induction k with
  | zero => omega
  | succ k ih =>
    rcases Nat.lt_or_ge j k with hlt | hge
    · exact Int.lt_trans (ih hlt (by omega)) (h.inc k hk)
    · have : j = k := by omega
      subst this; exact h.inc j hk
theorem MineOk.len {us : List AUnit} {mine : List Int} (h : MineOk us mine) : mine.length ≤ us.length := by
  have : ∀ k, k < mine.length → (k : Int) ≤ gI mine k := fun k => by
    induction k with
    | zero => intro hk; exact (h.rng 0 hk).1
    | succ k ih => intro hk; have := ih (by omega); have := h.inc k hk; omega
  rcases Nat.eq_zero_or_pos mine.length with e | e
  · omega
  · have h1 := this (mine.length - 1) (by omega)
    have h2 := (h.rng (mine.length - 1) (by omega)).2
    omega
theorem nets_S (us : List AUnit) (h : UnitsOk us) (st : St) : S P 254 [eUnits us] st fun v st' => v = .bool true ∧ st' = st := by
  have hlen := h.len
  refine S_of_X [5] good mixed Tryz.func254 (by rfl) rfl rfl rfl ?_
  conv => whnf
  refine fork (fun h1 => ?_) (fun h1 => ?_) <;> rw [h1] <;> simp only [decide_eq_true_eq, decide_eq_false_iff_not] at h1
  · exact absurd h1 (by omega)
  conv => whnf
  refine ⟨[3, 9, 10, 11], fun m vs st' => ∃ i : Nat, i ≤ us.length ∧ m = us.length - i ∧ vs = [eI (sumI ((netsOf us).take i)), eUnits us, eI us.length, eI i] ∧ st' = st, ?_, ?_⟩
  · conv => whnf
    exact ⟨_, 0, Nat.zero_le _, rfl, rfl, rfl⟩
  · rintro m vs st' ⟨i, hi, rfl, rfl, rfl⟩
    conv => whnf
    cases h2 : decide ((i : Int) < (us.length : Int))
    · have := of_decide_eq_false h2
      obtain rfl : i = us.length := by omega
      have hs := h.sum
      rw [show (netsOf us).take us.length = netsOf us from by rw [← List.length_map (f := AUnit.net), List.take_length]]
      conv => whnf
      refine ⟨?_, rfl⟩
      show AV.bool (decide _) = _
      rw [decide_eq_true hs]
    · have hi' : i < us.length := by have := of_decide_eq_true h2; omega
      have hu : gU us i ∈ us := getD_mem hi'
      have p0 := h.pos _ hu
      have p1 := h.le hu
      have hsum := h.sum
      have e1 := sumI_take (l := netsOf us) (i := i) (by rw [List.length_map]; exact hi')
      have e2 := sumI_le_take h.nets0 (i + 1)
      have e3 := sumI_nonneg (l := (netsOf us).take i) (fun x hx => h.nets0 x (List.take_subset _ _ hx))
      have e4 : gI (netsOf us) i = (gU us i).net := getD_map AUnit.net us hi'
      have w : IntKind.i64.wrap (sumI ((netsOf us).take i) + (gU us i).net) = sumI ((netsOf us).take (i + 1)) := by rw [e1, e4]; exact wrap64_of (by omega) (by omega)
      conv => whnf
      refine ⟨rfl, ⟨by omega, by omega⟩, ?_⟩
      conv => whnf
      refine fork (fun h3 => ?_) (fun h3 => ?_) <;> rw [h3]
      · exact absurd (of_decide_eq_true h3) (by show ¬ (gU us i).net < 0; omega)
      conv => whnf
      refine fork (fun h4 => ?_) (fun h4 => ?_) <;> rw [h4]
      · exact absurd (of_decide_eq_true h4) (by show ¬ (gU us i).net > 10000000000000; omega)
      conv => whnf
      refine ⟨rfl, ?_⟩
      conv => whnf
      exact ⟨us.length - (i + 1), by omega, i + 1, by omega, rfl, by rw [wrapN (by omega), ← w]; rfl, rfl⟩
theorem cutMay_S (us : List AUnit) (mine : List Int) (h : UnitsOk us) (hm : MineOk us mine) (st : St) : S P 210 [eUnits us, eInts mine] st fun v st' => v = .bool true ∧ st' = st := by
  have hlen := h.len
  have hml := hm.len
  refine S_of_X [] good mixed Tryz.func210 (by rfl) rfl rfl rfl ?_
  conv => whnf
  refine call1 (nets_S us h st) ?_
  conv => whnf
  refine ⟨[0, 5, 11, 12, 13], fun m vs st' => ∃ i : Nat, i ≤ mine.length ∧ m = mine.length - i ∧ vs = [eUnits us, eI (if i = 0 then -1 else gI mine (i - 1)), eInts mine, eI mine.length, eI i] ∧ st' = st, ?_, ?_⟩
  · conv => whnf
    exact ⟨_, 0, Nat.zero_le _, rfl, rfl, rfl⟩
  · rintro m vs st' ⟨i, hi, rfl, rfl, rfl⟩
    conv => whnf
    cases h2 : decide ((i : Int) < (mine.length : Int))
    · conv => whnf
      exact ⟨rfl, rfl⟩
    · have hi' : i < mine.length := by have := of_decide_eq_true h2; omega
      have hr := hm.rng i hi'
      have ho := hm.opn i hi'
      have hlast : (if i = 0 then -1 else gI mine (i - 1)) < gI mine i := by
        split
        · omega
        · exact hm.lt (i - 1) i (by omega) hi'
      conv => whnf
      refine ⟨rfl, ⟨by omega, by omega⟩, ?_⟩
      conv => whnf
      refine fork (fun h3 => ?_) (fun h3 => ?_) <;> rw [h3]
      · exact absurd (of_decide_eq_true h3) (by show ¬ gI mine i ≤ _; omega)
      conv => whnf
      refine fork (fun h4 => ?_) (fun h4 => ?_) <;> rw [h4]
      · exact absurd (of_decide_eq_true h4) (by show ¬ gI mine i ≥ (us.length : Int); omega)
      conv => whnf
      refine ⟨rfl, ⟨by show 0 ≤ gI mine i; omega, by show gI mine i < (us.length : Int); omega⟩, ?_⟩
      conv => whnf
      rw [show (us.getD (mine.getD (i : Int).toNat default).toNat default).opn = true from ho]
      conv => whnf
      refine ⟨rfl, ?_⟩
      conv => whnf
      exact ⟨mine.length - (i + 1), by omega, i + 1, by omega, rfl, by rw [wrapN (by omega), if_neg (show ¬ i + 1 = 0 by omega)]; rfl, rfl⟩
end Go.Proofs.YtnekegdhpjplbaaGreat
/- Contracts: what promos take off, kind by kind. -/
set_option maxRecDepth 100000
set_option linter.unusedVariables false
set_option linter.unusedSimpArgs false
namespace Go.Proofs.YtnekegdhpjplbaaGreat
open Go Go.Ab
attribute [local irreducible] upd del
def half (x rate : Int) : Int := (if 0 ≤ rate ∧ rate ≤ 10000 then times x rate 10000 1 else (0, 2)).1
theorem half_bound (x rate : Int) : 0 ≤ half x rate ∧ half x rate ≤ 100000000000000 := by
  unfold half
  split
  · unfold times
    split
    · exact ⟨Int.le_refl _, by decide⟩
    · rename_i hb
      rw [Bool.not_eq_false] at hb
      simp only [rightB, Bool.and_eq_true, decide_eq_true_eq, bne_iff_ne, ne_eq] at hb
      have hq : 0 ≤ x * rate / 10000 := Int.ediv_nonneg (Int.mul_nonneg hb.1.1.1.1.1.1 hb.1.1.1.1.2.1) (by omega)
      split
      · exact ⟨Int.le_refl _, by decide⟩
      · split
        · exact ⟨Int.le_refl _, by decide⟩
        · rename_i h1 h2
          refine ⟨?_, Int.le_of_not_gt h2⟩
          show 0 ≤ roundQ (x * rate / 10000) (x * rate % 10000) 10000 1
          unfold roundQ
          repeat' split
          all_goals omega
  · exact ⟨Int.le_refl _, by decide⟩
def offC (x rate amount : Int) : Int := if x < half x rate + amount then x else half x rate + amount
theorem off_S (x rate amount : Int) (h0 : 0 ≤ amount) (h1 : amount ≤ 10000000000000) (st : St) : S P 258 [eI x, eI rate, eI amount] st fun v st' => v = eI (offC x rate amount) ∧ st' = st := by
  refine S_of_X [] good mixed Tryz.func258 (by rfl) rfl rfl rfl ?_
  conv => whnf
  refine call1 (rate_S x rate 1 st) ?_
  have hb := half_bound x rate
  have w : IntKind.i64.wrap (half x rate + amount) = half x rate + amount := wrap64_of (by omega) (by omega)
  conv => whnf
  refine ⟨?_, rfl⟩
  show AV.int .i64 (if x < IntKind.i64.wrap (half x rate + amount) then x else IntKind.i64.wrap (half x rate + amount)) = _
  rw [w]; rfl
theorem offC_bound {x rate amount : Int} (hx : 0 ≤ x) (h0 : 0 ≤ amount) : 0 ≤ offC x rate amount ∧ offC x rate amount ≤ x := by
  have := half_bound x rate
  unfold offC
  split <;> omega
def eCut (p : Promo) (nets : List Int) : AV := .agg [eS p.id, eI p.kind, eI p.prio, eS p.group, eS p.code, eB p.closes, eStrs p.scope.skus, eStrs p.scope.cats, eI p.least, eI p.rate, eI p.amount, eI p.buy, eI p.get, arrOf 3 ePart p.parts, arrOf 3 eTier p.tiers, eInts nets]
theorem each_S (p : Promo) (nets : List Int) (rate amount : Int) (h0 : 0 ≤ amount) (h1 : amount ≤ 10000000000000) (hl : nets.length ≤ 100000) (st : St) : S P 255 [eCut p nets, eI rate, eI amount] st fun v st' => v = eInts (nets.map fun x => offC x rate amount) ∧ st' = st := by
  have he : eInts (nets.map fun x => offC x rate amount) = .arr 1 nets.length (fun k => eI (gI (nets.map fun x => offC x rate amount) k)) := by unfold eInts arrOf; rw [List.length_map]
  rw [he]
  refine S_col (ty := 2) ?_
  refine S_of_X [3] good mixed Tryz.func255 (by rfl) rfl rfl rfl ?_
  conv => whnf
  refine ⟨[1, 2, 7, 11, 12, 13], fun m vs st' => ∃ (i : Nat) (sv : AV), i ≤ nets.length ∧ m = nets.length - i ∧ vs = [eI rate, eI amount, sv, eInts nets, eI nets.length, eI i] ∧ Col 2 1 (fun k => eI (gI (nets.map fun x => offC x rate amount) k)) st i sv st', ?_, ?_⟩
  · conv => whnf
    exact ⟨_, 0, .emp, Nat.zero_le _, rfl, rfl, Col.start _ _ _ _⟩
  · rintro m vs st' ⟨i, sv, hi, rfl, rfl, hc⟩
    conv => whnf
    cases h : decide ((i : Int) < (nets.length : Int))
    · have := of_decide_eq_false h
      obtain rfl : i = nets.length := by omega
      conv => whnf
      exact hc
    · have hi' : i < nets.length := by have := of_decide_eq_true h; omega
      conv => whnf
      refine ⟨rfl, ⟨by omega, by omega⟩, ?_⟩
      conv => whnf
      refine call1 (off_S (gI nets i) rate amount h0 h1 _) ?_
      conv => whnf
      refine Col.app (q := r2) rfl rfl rfl rfl rfl ?_ (by show (i + 1) * 8 ≤ 140737488355328; omega) hc (fun sv' st'' hc' => ?_)
      · rw [show gI (nets.map fun x => offC x rate amount) i = offC (gI nets i) rate amount from getD_map (fun x => offC x rate amount) nets hi']; rfl
      conv => whnf
      refine ⟨rfl, ?_⟩
      conv => whnf
      exact ⟨nets.length - (i + 1), by omega, i + 1, sv', by omega, rfl, by rw [wrapN (by omega)], hc'⟩
def offsP (p : Promo) (nets : List Int) : List Int := nets.map fun x => offC x p.rate 0
def offsA (p : Promo) (nets : List Int) : List Int := nets.map fun x => offC x 0 p.amount
theorem percent_S (p : Promo) (nets : List Int) (hl : nets.length ≤ 100000) (st : St) : S P 214 [eCut p nets] st fun v st' => v = eInts (offsP p nets) ∧ st' = st := by
  refine S_of_X [1] good mixed Tryz.func214 (by rfl) rfl rfl rfl ?_
  conv => whnf
  refine call1 (each_S p nets p.rate 0 (by omega) (by omega) hl st) ?_
  conv => whnf
  exact ⟨rfl, rfl⟩
theorem amount_S (p : Promo) (nets : List Int) (h0 : 0 ≤ p.amount) (h1 : p.amount ≤ 10000000000000) (hl : nets.length ≤ 100000) (st : St) : S P 215 [eCut p nets] st fun v st' => v = eInts (offsA p nets) ∧ st' = st := by
  refine S_of_X [1] good mixed Tryz.func215 (by rfl) rfl rfl rfl ?_
  conv => whnf
  refine call1 (each_S p nets 0 p.amount h0 h1 hl st) ?_
  conv => whnf
  exact ⟨rfl, rfl⟩
def reachedB (l : List Tier) (x : Int) : Option Tier := l.reverse.find? fun t => decide (t.least ≤ x)
theorem getD_reverse {α : Type} [Inhabited α] {l : List α} {k : Nat} (hk : k < l.length) : l.reverse.getD k default = l.getD (l.length - 1 - k) default := by
  rw [List.getD_eq_getElem?_getD, List.getD_eq_getElem?_getD, List.getElem?_reverse hk]
theorem reached_some {l : List Tier} {x : Int} {i : Nat} (hi : i < l.length) (h : ∀ k, i < k → k < l.length → decide ((l.getD k default).least ≤ x) = false) (hp : decide ((l.getD i default).least ≤ x) = true) : reachedB l x = some (l.getD i default) := by
  have e : l.getD i default = l.reverse.getD (l.length - 1 - i) default := by
    rw [getD_reverse (by omega), show l.length - 1 - (l.length - 1 - i) = i by omega]
  rw [e] at hp ⊢
  exact find_some (by rw [List.length_reverse]; omega) (fun k hk => by rw [getD_reverse (by omega)]; exact h _ (by omega) (by omega)) hp
theorem reached_none {l : List Tier} {x : Int} (h : ∀ k, k < l.length → decide ((l.getD k default).least ≤ x) = false) : reachedB l x = none :=
  find_none fun k hk => by rw [List.length_reverse] at hk; rw [getD_reverse hk]; exact h _ (by omega)
theorem reached_S (l : List Tier) (x : Int) (hl : l.length ≤ 100000) (st : St) : S P 256 [arrOf 3 eTier l, eI x] st fun v st' => v = .tuple [eTier ((reachedB l x).getD default), .bool (reachedB l x).isSome] ∧ st' = st := by
  refine S_sup ?_
  refine S_of_X [] good mixed Tryz.func256 (by rfl) rfl rfl rfl ?_
  conv => whnf
  intro b hb
  conv => whnf
  have w0 : IntKind.i64.wrap ((l.length : Int) - 1) = (l.length : Int) - 1 := wrap64_of (by omega) (by omega)
  refine ⟨[0, 1, 4, 6], fun m vs st' => ∃ (i : Int) (f : Nat → AV) (u : Tier), -1 ≤ i ∧ i < l.length ∧ (∀ k : Nat, i < k → k < l.length → decide ((l.getD k default).least ≤ x) = false) ∧ m = (i + 1).toNat ∧ vs = [arrOf 3 eTier l, eI x, .optr 3 b 0 0, eI i] ∧ st' = upd st b ⟨186, 3, 1, f⟩ ∧ f 0 = eTier u, ?_, ?_⟩
  · conv => whnf
    exact ⟨_, (l.length : Int) - 1, _, default, by omega, by omega, fun k h1 h2 => by omega, rfl, by rw [w0], rfl, rfl⟩
  · rintro m vs st' ⟨i, f, u, h0, hi, hno, rfl, rfl, rfl, hf⟩
    conv => whnf
    cases h : decide (i ≥ 0)
    · have := of_decide_eq_false h
      have hr : reachedB l x = none := reached_none fun k hk => hno k (by omega) hk
      conv => whnf
      refine stV (upd_same ..) rfl (by omega) hf (by rfl) ?_
      conv => whnf
      refine ldV (upd_same ..) rfl (by omega) (fset_same ..) ?_
      conv => whnf
      refine ⟨by rw [hr]; rfl, ((Sup.refl st).upd hb).over hb⟩
    · have hi0 := of_decide_eq_true h
      conv => whnf
      refine ⟨rfl, ⟨by omega, by omega⟩, ?_⟩
      conv => whnf
      refine fork (fun h1 => ?_) (fun h1 => ?_)
      · have hr : reachedB l x = some (l.getD i.toNat default) := reached_some (by omega) (fun k h2 h3 => hno k (by omega) h3) h1
        rw [h1]
        conv => whnf
        refine ⟨rfl, ⟨by omega, by omega⟩, ?_⟩
        conv => whnf
        refine stV (upd_same ..) rfl (by omega) hf (by rfl) ?_
        conv => whnf
        refine ldV (upd_same ..) rfl (by omega) (fset_same ..) ?_
        conv => whnf
        refine ⟨by rw [hr]; rfl, ((Sup.refl st).upd hb).over hb⟩
      · have w : IntKind.i64.wrap (i - 1) = i - 1 := wrap64_of (by omega) (by omega)
        rw [h1]
        conv => whnf
        refine ⟨rfl, ?_⟩
        conv => whnf
        refine ⟨i.toNat, by omega, i - 1, f, u, by omega, by omega, fun k h2 h3 => ?_, by omega, by rw [w], rfl, hf⟩
        rcases (by omega : k = i.toNat ∨ i < k) with e | e
        · rw [e]; exact h1
        · exact hno k e h3
end Go.Proofs.YtnekegdhpjplbaaGreat
/- Contracts: tiers; units that are closed, copied. -/
set_option maxRecDepth 100000
set_option linter.unusedVariables false
set_option linter.unusedSimpArgs false
namespace Go.Proofs.YtnekegdhpjplbaaGreat
open Go Go.Ab
attribute [local irreducible] upd del
/-- Tiers take off no more than so much. -/
def TiersOk (l : List Tier) : Prop := l.length ≤ 6 ∧ ∀ t ∈ l, 0 ≤ t.amount ∧ t.amount ≤ 10000000000000
theorem reached_ok {l : List Tier} (h : TiersOk l) (x : Int) : 0 ≤ ((reachedB l x).getD default).amount ∧ ((reachedB l x).getD default).amount ≤ 10000000000000 := by
  cases hr : reachedB l x with
  | none => exact ⟨Int.le_refl _, by decide⟩
  | some t =>
    have : t ∈ l := List.mem_reverse.1 (List.mem_of_find?_eq_some hr)
    exact h.2 t this
def offsC (p : Promo) (nets : List Int) : List Int := match reachedB p.tiers nets.length with
  | none => []
  | some t => nets.map fun x => offC x t.rate t.amount
def offsS (p : Promo) (nets : List Int) : List Int := match reachedB p.tiers (sumI nets) with
  | none => []
  | some t => largestB (offC (sumI nets) t.rate t.amount) nets
theorem count_S (p : Promo) (nets : List Int) (ht : TiersOk p.tiers) (hl : nets.length ≤ 100000) (st : St) : S P 217 [eCut p nets] st fun v st' => v = eInts (offsC p nets) ∧ st' = st := by
  refine S.post (post := fun v st' => (v = eInts (offsC p nets) ∨ (offsC p nets = [] ∧ v = .emp)) ∧ Sup st st') ?_ (fun v st' ⟨h, hs⟩ => ⟨_, st, ⟨rfl, rfl⟩, (hs.shift _).trans (by
    rcases h with rfl | ⟨h0, rfl⟩
    · exact Shift.keep _ _
    · rw [h0]; exact shift_emp 1 _)⟩)
  have htl := ht.1
  refine S_of_X [1] good mixed Tryz.func217 (by rfl) rfl rfl rfl ?_
  conv => whnf
  refine call1 (reached_S p.tiers nets.length (by omega) st) ?_
  conv => whnf
  intro b hb
  conv => whnf
  refine stV (upd_same ..) rfl (by omega) rfl (by rfl) ?_
  conv => whnf
  have hsup : ∀ x y : Blk, Sup st (upd (upd st b x) b y) := fun x y => ((Sup.refl st).upd hb).over hb
  have hok := reached_ok ht nets.length
  cases hr : reachedB p.tiers nets.length with
  | none =>
    have hB : offsC p nets = [] := by unfold offsC; rw [hr]
    conv => whnf
    exact ⟨.inr ⟨hB, rfl⟩, hsup _ _⟩
  | some t =>
    have hB : offsC p nets = nets.map fun x => offC x t.rate t.amount := by unfold offsC; rw [hr]
    rw [hr] at hok
    conv => whnf
    refine ldV (upd_same ..) rfl (by omega) (v := eTier t) (by rw [fset_same]; rfl) ?_
    conv => whnf
    refine ldV (upd_same ..) rfl (by omega) (v := eTier t) (by rw [fset_same]; rfl) ?_
    conv => whnf
    refine call1 (each_S p nets t.rate t.amount hok.1 hok.2 hl _) ?_
    conv => whnf
    exact ⟨.inl (by rw [hB]; rfl), hsup _ _⟩
theorem spend_S (p : Promo) (nets : List Int) (ht : TiersOk p.tiers) (hl : nets.length ≤ 100000) (h0 : ∀ x ∈ nets, 0 ≤ x) (hs : sumI nets ≤ 10000000000000) (st : St) : S P 216 [eCut p nets] st fun v st' => v = eInts (offsS p nets) ∧ st' = st := by
  refine S.post (post := fun v st' => (v = eInts (offsS p nets) ∨ (offsS p nets = [] ∧ v = .emp)) ∧ Sup st st') ?_ (fun v st' ⟨h, hs⟩ => ⟨_, st, ⟨rfl, rfl⟩, (hs.shift _).trans (by
    rcases h with rfl | ⟨h0, rfl⟩
    · exact Shift.keep _ _
    · rw [h0]; exact shift_emp 1 _)⟩)
  have htl := ht.1
  have hsn := sumI_nonneg h0
  refine S_of_X [1] good mixed Tryz.func216 (by rfl) rfl rfl rfl ?_
  conv => whnf
  refine ⟨[1, 3, 11, 12, 13], fun m vs st' => ∃ i : Nat, i ≤ nets.length ∧ m = nets.length - i ∧ vs = [.fptr (eCut p nets) 0, eI (sumI (nets.take i)), eInts nets, eI nets.length, eI i] ∧ st' = st, ?_, ?_⟩
  · conv => whnf
    exact ⟨_, 0, Nat.zero_le _, rfl, rfl, rfl⟩
  · rintro m vs st' ⟨i, hi, rfl, rfl, rfl⟩
    conv => whnf
    cases h : decide ((i : Int) < (nets.length : Int))
    · have := of_decide_eq_false h
      obtain rfl : i = nets.length := by omega
      rw [List.take_length]
      conv => whnf
      refine call1 (reached_S p.tiers (sumI nets) (by omega) _) ?_
      conv => whnf
      intro b hb
      conv => whnf
      refine stV (upd_same ..) rfl (by omega) rfl (by rfl) ?_
      conv => whnf
      have hsup : ∀ x y : Blk, Sup st' (upd (upd st' b x) b y) := fun x y => ((Sup.refl st').upd hb).over hb
      have hok := reached_ok ht (sumI nets)
      cases hr : reachedB p.tiers (sumI nets) with
      | none =>
        have hB : offsS p nets = [] := by unfold offsS; rw [hr]
        conv => whnf
        exact ⟨.inr ⟨hB, rfl⟩, hsup _ _⟩
      | some t =>
        have hB : offsS p nets = largestB (offC (sumI nets) t.rate t.amount) nets := by unfold offsS; rw [hr]
        rw [hr] at hok
        have hob : 0 ≤ offC (sumI nets) t.rate t.amount ∧ offC (sumI nets) t.rate t.amount ≤ sumI nets := offC_bound hsn hok.1
        have hW : Weights (offC (sumI nets) t.rate t.amount) nets := ⟨hob.1, by omega, hl, h0, by omega, fun e => by omega⟩
        conv => whnf
        refine ⟨[], [], [0, 1, 2, 3, 4, 5, 6, 7, 8, 9, 10, 11, 12, 13], by kernel_rfl, ?_⟩
        conv => whnf
        refine ldV (upd_same ..) rfl (by omega) (v := eTier t) (by rw [fset_same]; rfl) ?_
        conv => whnf
        refine ldV (upd_same ..) rfl (by omega) (v := eTier t) (by rw [fset_same]; rfl) ?_
        conv => whnf
        refine ⟨_, callQ (off_S (sumI nets) t.rate t.amount hok.1 hok.2 _), ?_⟩
        conv => whnf
        refine ⟨_, callQ (largest_S _ nets hW _), ?_⟩
        conv => whnf
        exact ⟨.inl (by rw [hB]; rfl), hsup _ _⟩
    · have hi' : i < nets.length := by have := of_decide_eq_true h; omega
      have e1 := sumI_take hi'
      have e2 := sumI_le_take h0 (i + 1)
      have e3 := sumI_nonneg (l := nets.take i) (fun x hx => h0 x (List.take_subset _ _ hx))
      have e4 : 0 ≤ gI nets i := h0 _ (getD_mem hi')
      have w : IntKind.i64.wrap (sumI (nets.take i) + gI nets i) = sumI (nets.take (i + 1)) := by rw [e1]; exact wrap64_of (by omega) (by omega)
      conv => whnf
      refine ⟨rfl, ⟨by omega, by omega⟩, ?_⟩
      conv => whnf
      refine ⟨rfl, ?_⟩
      conv => whnf
      exact ⟨nets.length - (i + 1), by omega, i + 1, by omega, rfl, by rw [wrapN (by omega), ← w]; rfl, rfl⟩
def HasU (st : St) (b : Nat) (us : List AUnit) : Prop := ∃ f, st b = some ⟨114, 3, us.length, f⟩ ∧ ∀ k, k < us.length → f k = eUnit (gU us k)
theorem gU_set {us : List AUnit} {j : Nat} (hj : j < us.length) (x : AUnit) (k : Nat) : gU (us.set j x) k = if k = j then x else gU us k := by
  unfold gU
  simp only [List.getD_eq_getElem?_getD, List.getElem?_set]
  by_cases h : k = j
  · subst h; simp [hj]
  · rw [if_neg (fun e => h e.symm), if_neg h]
def close1 (us : List AUnit) (i : Nat) : List AUnit := us.set i { gU us i with opn := false }
def closeB (us : List AUnit) (mine : List Int) : List AUnit := mine.foldl (fun us i => close1 us i.toNat) us
theorem closeB_len (us : List AUnit) (mine : List Int) : (closeB us mine).length = us.length := by
  unfold closeB
  induction mine generalizing us with
  | nil => rfl
  | cons x l ih => simp only [List.foldl_cons]; rw [ih]; simp [close1]
theorem HasU.set {st' : St} {b : Nat} {us : List AUnit} {f : Nat → AV} (hf : ∀ k, k < us.length → f k = eUnit (gU us k)) {j : Nat} (hj : j < us.length) (x : AUnit) (h : st' b = some ⟨114, 3, us.length, fset f j (eUnit x)⟩) : HasU st' b (us.set j x) := by
  refine ⟨_, by rw [h, List.length_set], fun k hk => ?_⟩
  rw [List.length_set] at hk
  rw [gU_set hj]
  by_cases e : k = j
  · rw [if_pos e, e, fset_same]
  · rw [if_neg e, fset_ne e]; exact hf k hk
theorem close_S (b : Nat) (us : List AUnit) (mine : List Int) (hm : ∀ x ∈ mine, 0 ≤ x ∧ x.toNat < us.length) (hl : mine.length ≤ 1000000) (st : St) (hb : HasU st b us) :
    S P 213 [.own 3 b 0 us.length, eInts mine] st fun v st' => v = .tuple [] ∧ HasU st' b (closeB us mine) ∧ ∀ c, c ≠ b → st' c = st c := by
  refine S_of_X [] good mixed Tryz.func213 (by rfl) rfl rfl rfl ?_
  conv => whnf
  refine ⟨[0, 6, 7, 8], fun m vs st' => ∃ i : Nat, i ≤ mine.length ∧ m = mine.length - i ∧ vs = [.own 3 b 0 us.length, eInts mine, eI mine.length, eI i] ∧ HasU st' b (closeB us (mine.take i)) ∧ ∀ c, c ≠ b → st' c = st c, ?_, ?_⟩
  · conv => whnf
    exact ⟨_, 0, Nat.zero_le _, rfl, rfl, hb, fun _ _ => rfl⟩
  · rintro m vs st' ⟨i, hi, rfl, rfl, ⟨f, hst, hf⟩, hfr⟩
    have hlen := closeB_len us (mine.take i)
    conv => whnf
    cases h : decide ((i : Int) < (mine.length : Int))
    · have := of_decide_eq_false h
      obtain rfl : i = mine.length := by omega
      rw [List.take_length] at hst hf
      conv => whnf
      exact ⟨rfl, ⟨f, hst, hf⟩, hfr⟩
    · have hi' : i < mine.length := by have := of_decide_eq_true h; omega
      have hx : 0 ≤ gI mine i ∧ (gI mine i).toNat < us.length := hm _ (getD_mem hi')
      conv => whnf
      refine ⟨rfl, ⟨by omega, by omega⟩, ?_⟩
      conv => whnf
      refine ⟨rfl, ⟨by show 0 ≤ gI mine i; exact hx.1, by show gI mine i < (us.length : Int); have := hx.2; have := hx.1; omega⟩, ?_⟩
      conv => whnf
      refine stV hst rfl (by show 0 + (gI mine i).toNat < _; have := hx.2; omega) (v := eUnit (gU (closeB us (mine.take i)) (gI mine i).toNat)) (by rw [Nat.zero_add]; exact hf _ (show (gI mine i).toNat < (closeB us (mine.take i)).length by have := hx.2; omega)) (by rfl) ?_
      conv => whnf
      refine ⟨rfl, ?_⟩
      conv => whnf
      refine ⟨mine.length - (i + 1), by omega, i + 1, by omega, rfl, by rw [wrapN (by omega)], ?_, fun c hc => by rw [upd_ne hc]; exact hfr c hc⟩
      have e : closeB us (mine.take (i + 1)) = close1 (closeB us (mine.take i)) (gI mine i).toNat := foldl_next hi' _ _
      rw [e]
      refine HasU.set hf (by have := hx.2; omega) _ ?_
      rw [upd_same, Nat.zero_add]; rfl
theorem cloneU_S (us : List AUnit) (hl : us.length ≤ 100000) (st : St) : S P 209 [eUnits us] st fun v st' => Col 114 3 (fun k => eUnit (gU us k)) st us.length v st' := by
  refine S_of_X [] good mixed Tryz.func209 (by rfl) rfl rfl rfl ?_
  cases us with
  | nil =>
    conv => whnf
    refine ⟨?_, ?_⟩
    · conv => whnf
      exact Col.start _ _ _ _
    · conv => whnf
      refine apE rfl rfl rfl rfl rfl (by show 0 * 24 ≤ _; omega) (fun _ => ?_) (fun h => absurd h (by show ¬ 0 < 0; omega))
      conv => whnf
      exact Col.start _ _ _ _
  | cons u us =>
    conv => whnf
    refine Col.apps (n := 0) (m := us.length + 1) (q := r114) (f := fun k => eUnit (gU (u :: us) k)) rfl rfl rfl rfl rfl (fun i hi => by rw [Nat.zero_add]) (by show (0 + (us.length + 1)) * 24 ≤ 140737488355328; simp only [List.length_cons] at hl; omega) (Col.start _ _ _ _) (fun sv' st'' hc' => ?_)
    conv => whnf
    rw [Nat.zero_add] at hc'
    exact hc'
end Go.Proofs.YtnekegdhpjplbaaGreat
