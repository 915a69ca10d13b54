/- Part 24 of the proof: contracts of the functions that the law reaches -/
import Derived.Test.YtnekegdhpjplbaaGreatPo23
import Derived.ChangeSlices
import Derived.ChangeArms
set_option maxRecDepth 100000
set_option linter.unusedVariables false
set_option linter.unusedSimpArgs false
namespace Go.Proofs.YtnekegdhpjplbaaGreat
open Go Go.Ab
abbrev noted (l : List Promo) (xs : List (Int × Int)) : List Deal := xs.map fun a => (⟨(prAt l a.1).id, a.2⟩ : Deal)
abbrev groupsOf (l : List Promo) (xs : List (Int × Int)) : List Str := (xs.map fun a => (prAt l a.1).group).filter fun g => !isNil g
structure Tr (l : List Promo) (p : PSt) (xs : List (Int × Int)) : Prop where
  deals : p.deals = noted l xs
  groups : p.groups = groupsOf l xs
  pos : ∀ a ∈ xs, 1 ≤ a.2
  apart : p.groups.Pairwise fun x y => (y.toList == x.toList) = false
theorem Tr.start (l : List Promo) (us : List AUnit) : Tr l ⟨us, [], []⟩ [] := ⟨rfl, rfl, fun a h => absurd h List.not_mem_nil, .nil⟩
def StepOk {σ : Type} (px : σ → PSt) (step : σ → Promo → σ) (sm : Promo → Bool) (l : List Promo) (Q : σ → Int → Prop) : Prop :=
  ∀ (a : σ) (s : Int) (pr : Promo), pr ∈ l → sm pr = true → Q a s →
    ((px (step a pr)).deals = (px a).deals ∧ (px (step a pr)).groups = (px a).groups ∧ Q (step a pr) s) ∨
    ∃ off, 1 ≤ off ∧ (px (step a pr)).deals = (px a).deals ++ [⟨pr.id, off⟩] ∧ (px (step a pr)).groups = (px a).groups ++ (if isNil pr.group = true then [] else [pr.group]) ∧ Q (step a pr) (s + off)
theorem tr_fold {σ : Type} {px : σ → PSt} {step : σ → Promo → σ} {sm : Promo → Bool} {l : List Promo} {Q : σ → Int → Prop} (hstep : StepOk px step sm l Q) :
    ∀ (f : List Int) (a : σ) (xs : List (Int × Int)) (s : Int), (∀ x ∈ f, x.toNat < l.length ∧ sm (prAt l x) = true) → Tr l (px a) xs → Q a s →
      ∃ ys, Tr l (px (f.foldl (fun a x => goB px step a (prAt l x)) a)) (xs ++ ys) ∧ (ys.map Prod.fst).Sublist f ∧ Q (f.foldl (fun a x => goB px step a (prAt l x)) a) (s + sumI (ys.map Prod.snd)) := by
  intro f
  induction f with
  | nil => intro a xs s _ ht hq; exact ⟨[], by rw [List.append_nil]; exact ht, List.Sublist.slnil, by rw [show s + sumI (([] : List (Int × Int)).map Prod.snd) = s from Int.add_zero s]; exact hq⟩
  | cons x f ih =>
    intro a xs s hm ht hq
    have hm' : ∀ y ∈ f, y.toNat < l.length ∧ sm (prAt l y) = true := fun y hy => hm y (List.mem_cons_of_mem _ hy)
    have hx := hm x (List.mem_cons_self ..)
    have hmem : prAt l x ∈ l := getD_mem hx.1
    rw [List.foldl_cons]
    unfold goB
    by_cases hg : (isNil (prAt l x).group || !inB (px a).groups (prAt l x).group) = true
    · rw [if_pos hg]
      rcases hstep a s (prAt l x) hmem hx.2 hq with ⟨h1, h2, h3⟩ | ⟨off, h0, h1, h2, h3⟩
      · obtain ⟨ys, k1, k2, k3⟩ := ih _ xs s hm' ⟨h1.trans ht.deals, h2.trans ht.groups, ht.pos, by rw [h2]; exact ht.apart⟩ h3
        exact ⟨ys, k1, k2.cons _, k3⟩
      · have ht' : Tr l (px (step a (prAt l x))) (xs ++ [(x, off)]) := by
          refine ⟨?_, ?_, fun b hb => ?_, ?_⟩
          · rw [h1, ht.deals]; unfold noted; rw [List.map_append]; rfl
          · rw [h2, ht.groups]; unfold groupsOf
            rw [List.map_append, List.filter_append]
            congr 1
            cases hn : isNil (prAt l x).group
            · rw [if_neg (by simp)]
              show [(prAt l x).group] = List.filter (fun g => !isNil g) [(prAt l x).group]
              rw [List.filter_cons_of_pos (p := fun g => !isNil g) (by rw [hn]; rfl)]; rfl
            · rw [if_pos rfl]
              show [] = List.filter (fun g => !isNil g) [(prAt l x).group]
              rw [List.filter_cons_of_neg (p := fun g => !isNil g) (by rw [hn]; simp)]; rfl
          · rcases List.mem_append.1 hb with hb | hb
            · exact ht.pos b hb
            · rw [List.mem_singleton.1 hb]; exact h0
          · rw [h2]
            refine List.pairwise_append.2 ⟨ht.apart, ?_, fun y hy z hz => ?_⟩
            · split
              · exact .nil
              · exact List.pairwise_singleton _ _
            · split at hz
              · exact absurd hz List.not_mem_nil
              · rename_i hn
                rw [List.mem_singleton.1 hz]
                rw [Bool.eq_false_iff.2 hn, Bool.false_or, Bool.not_eq_true'] at hg
                unfold inB at hg
                rw [List.any_eq_false] at hg
                exact Bool.eq_false_iff.2 (hg y hy)
        obtain ⟨ys, k1, k2, k3⟩ := ih _ (xs ++ [(x, off)]) (s + off) hm' ht' h3
        refine ⟨(x, off) :: ys, by rw [List.append_assoc] at k1; exact k1, k2.cons_cons x, ?_⟩
        rw [List.map_cons, sumI_cons, ← Int.add_assoc]; exact k3
    · rw [if_neg hg]
      obtain ⟨ys, k1, k2, k3⟩ := ih _ xs s hm' ht hq
      exact ⟨ys, k1, k2.cons _, k3⟩
theorem tr_each {σ : Type} {px : σ → PSt} {step : σ → Promo → σ} {sm : Promo → Bool} {l : List Promo} {Q : σ → Int → Prop} (hstep : StepOk px step sm l Q) {o : List Int} (ho : ∀ x ∈ o, x.toNat < l.length) {a : σ} {xs : List (Int × Int)} {s : Int} (ht : Tr l (px a) xs) (hq : Q a s) :
    ∃ ys, Tr l (px (eachF px step sm l a o)) (xs ++ ys) ∧ (ys.map Prod.fst).Sublist (o.filter fun x => sm (prAt l x)) ∧ Q (eachF px step sm l a o) (s + sumI (ys.map Prod.snd)) :=
  tr_fold hstep _ a xs s (fun x hx => ⟨ho x (List.mem_filter.1 hx).1, (List.mem_filter.1 hx).2⟩) ht hq
theorem ask_step {items : List Ab.Item} {us0 : List AUnit} {l : List Promo} (hf : ∀ p ∈ l, PromoFit p) (hr : ∀ p ∈ l, promoC p = true) : StepOk (fun p : PSt => p) (askB items) notShip l (fun p s => UsOk items p.us ∧ Off us0 p.us s) := by
  intro a s pr hm hs hq
  have hk : pr.kind ≠ 7 := by simpa [notShip] using hs
  unfold askB
  by_cases h : (wayB items a.us pr).2 > 0
  · rw [if_pos h]
    rcases way_off hq.1 (hf _ hm) (hr _ hm) hk with e | e
    · rw [e] at h; exact absurd h (by decide)
    · exact .inr ⟨_, by omega, rfl, rfl, hq.1.off e, hq.2.trans e⟩
  · rw [if_neg h]
    exact .inl ⟨rfl, rfl, hq⟩
theorem ship_step {net fee : Int} {l : List Promo} (hr : ∀ p ∈ l, promoC p = true) : StepOk (fun a : PSt × Int => a.1) (shipStep net) isShip l (fun a s => 0 ≤ a.2 ∧ a.2 ≤ fee) := by
  intro a s pr hm hs hq
  have hk : pr.kind = 7 := by simpa [isShip] using hs
  have h7 := (promoOk (hr _ hm)).ship hk
  have hb := half_bound a.2 pr.rate
  have hle := rate_le hq.1 (show 0 ≤ pr.rate by omega) h7.2
  unfold shipStep shipB
  by_cases h : net < pr.least
  · rw [if_pos h]; exact .inl ⟨rfl, rfl, hq⟩
  · rw [if_neg h]
    by_cases h2 : half a.2 pr.rate > 0
    · rw [if_pos h2]
      exact .inr ⟨half a.2 pr.rate, by omega, rfl, rfl, by show 0 ≤ a.2 - half a.2 pr.rate; omega, by show a.2 - half a.2 pr.rate ≤ _; omega⟩
    · rw [if_neg h2]
      exact .inl ⟨rfl, rfl, by show 0 ≤ a.2 - half a.2 pr.rate; omega, by show a.2 - half a.2 pr.rate ≤ _; omega⟩
theorem lineNet_append (a b : List AUnit) (j : Nat) : lineNet (a ++ b) j = lineNet a j + lineNet b j := by
  unfold lineNet; rw [List.filter_append, List.map_append, sumI_append]
theorem lineNet_rep (l : List Line) (i j n : Nat) : lineNet (List.replicate n (lnU l i)) j = if i = j then n * (l.getD i default).price else 0 := by
  induction n with
  | zero => show (0 : Int) = _; split <;> simp
  | succ n ih =>
    rw [show List.replicate (n + 1) (lnU l i) = [lnU l i] ++ List.replicate n (lnU l i) from rfl, lineNet_append, ih]
    by_cases h : i = j
    · rw [if_pos h, if_pos h]
      have : lineNet [lnU l i] j = (l.getD i default).price := by
        unfold lineNet
        rw [List.filter_cons_of_pos (by show (((i : Int)).toNat == j) = true; rw [Int.toNat_natCast, h]; simp)]
        show sumI [(l.getD i default).price] = _
        rw [sumI_cons]; exact Int.add_zero _
      rw [this, show ((n + 1 : Nat) : Int) * (l.getD i default).price = n * (l.getD i default).price + (l.getD i default).price by rw [Int.natCast_add, Int.add_mul]; simp]
      omega
    · rw [if_neg h, if_neg h]
      have : lineNet [lnU l i] j = 0 := by
        unfold lineNet
        rw [List.filter_cons_of_neg (by show ¬ (((i : Int)).toNat == j) = true; rw [Int.toNat_natCast]; simpa using h)]; rfl
      rw [this]; rfl
theorem lineNet_up (l : List Line) (hl : ∀ x ∈ l, 0 ≤ x.qty) (j k : Nat) (hk : k ≤ l.length) : lineNet (unitsUp l k) j = if j < k then (l.getD j default).qty * (l.getD j default).price else 0 := by
  induction k with
  | zero => rfl
  | succ k ih =>
    show lineNet (unitsUp l k ++ List.replicate (l.getD k default).qty.toNat (lnU l k)) j = _
    rw [lineNet_append, ih (by omega), lineNet_rep]
    have hq := hl _ (getD_mem (show k < l.length by omega))
    by_cases e : k = j
    · subst e
      rw [if_neg (by omega), if_pos rfl, if_pos (by omega), Int.toNat_of_nonneg hq, Int.zero_add]
    · rw [if_neg e]
      by_cases h : j < k
      · rw [if_pos h, if_pos (by omega), Int.add_zero]
      · rw [if_neg h, if_neg (by omega)]; rfl
theorem lineNet_le {us us' : List AUnit} {x : Int} (h : Off us us' x) (j : Nat) : ∀ k, k ≤ us.length → lineNet (us'.take k) j ≤ lineNet (us.take k) j
  | 0, _ => Int.le_refl _
  | k + 1, hk => by
    have ih := lineNet_le h j k (by omega)
    have hl := h.len
    rw [lineNet_next (by omega), lineNet_next (by omega), h.line k]
    have := (h.net k).2
    split <;> omega
theorem sum_pick (f : Nat → Int) (t : Nat) (x : Int) : ∀ n, sumI ((List.range n).map fun j => if t = j then f j + x else f j) = sumI ((List.range n).map f) + if t < n then x else 0
  | 0 => by rw [if_neg (by omega)]; rfl
  | n + 1 => by
    rw [sumI_map_range, sumI_map_range, sum_pick f t x n]
    by_cases e : t = n
    · rw [if_pos e, if_neg (by omega), if_pos (by omega)]; omega
    · rw [if_neg e]
      by_cases h : t < n
      · rw [if_pos h, if_pos (by omega)]; omega
      · rw [if_neg h, if_neg (by omega)]; omega
theorem sumI_zeros : ∀ n, sumI ((List.range n).map fun _ => (0 : Int)) = 0
  | 0 => rfl
  | n + 1 => by rw [sumI_map_range, sumI_zeros n]; rfl
theorem lineNets_sum {us : List AUnit} {n : Nat} (h : ∀ k, k < us.length → (gU us k).line.toNat < n) : ∀ k, k ≤ us.length → sumI ((List.range n).map (lineNet (us.take k))) = sumI (netsOf (us.take k))
  | 0, _ => sumI_zeros n
  | k + 1, hk => by
    have ih := lineNets_sum h k (by omega)
    have e1 : (lineNet (us.take (k + 1))) = fun j => if (gU us k).line.toNat = j then lineNet (us.take k) j + (gU us k).net else lineNet (us.take k) j := funext fun j => lineNet_next (by omega) j
    rw [e1, sum_pick, ih, if_pos (h k (by omega)), take_next (by omega)]
    unfold netsOf
    rw [List.map_append, sumI_append]
    show _ + (gU us k).net = _ + sumI [(gU us k).net]
    rw [sumI_cons]; show _ = _ + ((gU us k).net + 0); omega
structure PriceLaw (r : Rules) (codes : List Str) (l : List Line) (Pr : Priced) (xs ys : List (Int × Int)) : Prop where
  deals : Pr.deals = noted r.promos (xs ++ ys)
  mem : ∀ a ∈ xs ++ ys, (0 ≤ a.1 ∧ a.1.toNat < r.promos.length) ∧ asked codes (prAt r.promos a.1) = true ∧ 1 ≤ a.2
  sx : (xs.map Prod.fst).Sublist (ordB r.promos codes)
  sy : (ys.map Prod.fst).Sublist (ordB r.promos codes)
  kx : ∀ a ∈ xs, (prAt r.promos a.1).kind ≠ 7
  ky : ∀ a ∈ ys, (prAt r.promos a.1).kind = 7
  apart : (groupsOf r.promos (xs ++ ys)).Pairwise fun x y => (y.toList == x.toList) = false
  sum : Pr.net + sumI (xs.map Prod.snd) = grossN l
  len : Pr.nets.length = l.length
  nets : sumI Pr.nets = Pr.net
  each : ∀ i, i < l.length → 0 ≤ gI Pr.nets i ∧ gI Pr.nets i ≤ (l.getD i default).qty * (l.getD i default).price
  ship : 0 ≤ Pr.ship ∧ Pr.ship ≤ r.ship.fee
theorem places_asked {l : List Promo} {codes : List Str} {i : Nat} {x : Int} (h : x ∈ places l codes i) : asked codes (prAt l x) = true := by
  unfold places at h
  obtain ⟨k, hk, rfl⟩ := List.mem_map.1 h
  exact (List.mem_filter.1 hk).2
theorem price_law {r : Rules} {codes : List Str} {l : List Line} (hf : RulesFit r) (hck : priceCheck r codes l = 0) : ∃ xs ys, PriceLaw r codes l (priceB r l (ordB r.promos codes) (ordB r.promos codes)) xs ys := by
  have ck := checkOk hck
  have hok := ck.lines
  have hu := usOf_ok hok
  obtain ⟨u1, u2, u3⟩ := unitsUp_net l hok.line l.length (Nat.le_refl _)
  rw [List.take_length] at u1 u2
  have hitl : (itemsOf r.items l).length = l.length := List.length_map ..
  have hpl : ∀ x ∈ ordB r.promos codes, (0 ≤ x ∧ x.toNat < r.promos.length) ∧ asked codes (prAt r.promos x) = true := fun x hx => by
    have := (ordB_perm r.promos codes).mem_iff.1 hx
    exact ⟨places_lt this, places_asked this⟩
  have hlt : ∀ x ∈ ordB r.promos codes, x.toNat < r.promos.length := fun x hx => (hpl x hx).1.2
  obtain ⟨xs, a1, a2, a3, a4⟩ := tr_each (ask_step (items := itemsOf r.items l) (us0 := usOf l) hf.fit ck.promo) hlt (a := ⟨usOf l, [], []⟩) (Tr.start r.promos (usOf l)) ⟨hu, Off.refl hu.ok⟩
  rw [List.nil_append] at a1
  rw [Int.zero_add] at a4
  have hfee : 0 ≤ feeB r.ship (usOf l).length (netB (p1B r l (ordB r.promos codes))) ∧ feeB r.ship (usOf l).length (netB (p1B r l (ordB r.promos codes))) ≤ r.ship.fee := by
    unfold feeB; have := ck.fee; split <;> omega
  obtain ⟨ys, b1, b2, b3⟩ := tr_each (ship_step (net := netB (p1B r l (ordB r.promos codes))) (fee := r.ship.fee) ck.promo) hlt (a := (p1B r l (ordB r.promos codes), feeB r.ship (usOf l).length (netB (p1B r l (ordB r.promos codes))))) (s := 0) a1 hfee
  have a2' : ∀ a ∈ xs, a.1 ∈ ordB r.promos codes ∧ notShip (prAt r.promos a.1) = true := fun a ha => List.mem_filter.1 (a2.subset (List.mem_map.2 ⟨a, ha, rfl⟩))
  have b2' : ∀ a ∈ ys, a.1 ∈ ordB r.promos codes ∧ isShip (prAt r.promos a.1) = true := fun a ha => List.mem_filter.1 (b2.subset (List.mem_map.2 ⟨a, ha, rfl⟩))
  have hus : UsOk (itemsOf r.items l) (p1B r l (ordB r.promos codes)).us := a3
  have hlen := a4.len
  have hln : ∀ k, k < (p1B r l (ordB r.promos codes)).us.length → (gU (p1B r l (ordB r.promos codes)).us k).line.toNat < l.length := fun k hk => by
    have := (hus.line _ (getD_mem hk)).2
    rw [hitl] at this; exact this
  have hsm := lineNets_sum hln _ (Nat.le_refl _)
  rw [List.take_length] at hsm
  refine ⟨xs, ys, b1.deals, fun a ha => ?_, a2.trans List.filter_sublist, b2.trans List.filter_sublist, fun a ha => by simpa [notShip] using (a2' a ha).2, fun a ha => by simpa [isShip] using (b2' a ha).2, by rw [← b1.groups]; exact b1.apart, ?_, ?_, hsm, fun i hi => ?_, b3⟩
  · have hp := b1.pos a ha
    rcases List.mem_append.1 ha with h | h
    · exact ⟨(hpl _ (a2' a h).1).1, (hpl _ (a2' a h).1).2, hp⟩
    · exact ⟨(hpl _ (b2' a h).1).1, (hpl _ (b2' a h).1).2, hp⟩
  · have := a4.sum
    show sumI (netsOf (p1B r l (ordB r.promos codes)).us) + _ = _
    exact this.trans u2
  · show ((List.range l.length).map _).length = _
    rw [List.length_map, List.length_range]
  · have e : gI (priceB r l (ordB r.promos codes) (ordB r.promos codes)).nets i = lineNet (p1B r l (ordB r.promos codes)).us i := by
      show gI ((List.range l.length).map (lineNet (p1B r l (ordB r.promos codes)).us)) i = _
      unfold gI
      rw [List.getD_eq_getElem?_getD, List.getElem?_map, List.getElem?_range hi]; rfl
    rw [e]
    have h1 := (lineNet_bound hus.ok (p1B r l (ordB r.promos codes)).us.length i).1
    rw [List.take_length] at h1
    have h2 := lineNet_le a4 i _ (Nat.le_refl _)
    rw [List.take_length, List.take_of_length_le (Nat.le_of_eq hlen)] at h2
    have h3 := lineNet_up l (fun x hx => ((lineC_iff _).1 (hok.line x hx)).1.1) i l.length (Nat.le_refl _)
    rw [if_pos hi] at h3
    have h2' : lineNet (p1B r l (ordB r.promos codes)).us i ≤ lineNet (unitsUp l l.length) i := h2
    exact ⟨h1, by omega⟩
def offAt (l : List Promo) (a : Int × Int) : Int := if (prAt l a.1).kind = 7 then 0 else a.2
theorem PriceLaw.off {r : Rules} {codes : List Str} {l : List Line} {Pr : Priced} {xs ys : List (Int × Int)} (h : PriceLaw r codes l Pr xs ys) : Pr.net + sumI ((xs ++ ys).map (offAt r.promos)) = grossN l := by
  have e1 : xs.map (offAt r.promos) = xs.map Prod.snd := List.map_congr_left fun a ha => if_neg (h.kx a ha)
  have e2 : ∀ zs : List (Int × Int), (∀ a ∈ zs, (prAt r.promos a.1).kind = 7) → sumI (zs.map (offAt r.promos)) = 0 := fun zs => by
    induction zs with
    | nil => intro _; rfl
    | cons a zs ih =>
      intro hz
      rw [List.map_cons, sumI_cons, ih fun b hb => hz b (List.mem_cons_of_mem _ hb), show offAt r.promos a = 0 from if_pos (hz a (List.mem_cons_self ..))]; rfl
  rw [List.map_append, sumI_append, e1, e2 ys h.ky, Int.add_zero]; exact h.sum
theorem range_getD {α : Type} [Inhabited α] (l : List α) : (List.range l.length).map (fun k => l.getD k default) = l := by
  refine List.ext_getElem (by rw [List.length_map, List.length_range]) fun i h1 h2 => ?_
  rw [List.getElem_map, List.getElem_range, List.getD_eq_getElem?_getD, List.getElem?_eq_getElem h2]; rfl
theorem places_map (l : List Promo) (codes : List Str) : (places l codes l.length).map (prAt l) = l.filter (asked codes) := by
  have e : l.filter (asked codes) = ((List.range l.length).map (fun k => l.getD k default)).filter (asked codes) := by rw [range_getD]
  rw [e, List.filter_map]
  unfold places
  rw [List.map_map]; rfl
theorem eachF_map {σ : Type} (px : σ → PSt) (step : σ → Promo → σ) (sm : Promo → Bool) (l : List Promo) (a : σ) (o : List Int) : eachF px step sm l a o = ((o.map (prAt l)).filter sm).foldl (goB px step) a := by
  unfold eachF
  rw [List.filter_map, List.foldl_map]; rfl
theorem promos_anti {l : List Promo} (ok : PromosOk l) {p q : Promo} (hp : p ∈ l) (hq : q ∈ l) (h1 : aheadB q p = false) (h2 : aheadB p q = false) : p = q := by
  obtain ⟨i, hi, rfl⟩ := mem_getD hp
  obtain ⟨j, hj, rfl⟩ := mem_getD hq
  have := prOrd_anti ok (x := (i : Int)) (y := (j : Int)) ⟨by omega, by omega⟩ ⟨by omega, by omega⟩ h1 h2
  rw [Int.ofNat.inj this]
theorem ordB_turn {l l' : List Promo} (h : l'.Perm l) (hC : promosC l = true) (codes : List Str) : (ordB l' codes).map (prAt l') = (ordB l codes).map (prAt l) := by
  have hp : ((ordB l' codes).map (prAt l')).Perm ((ordB l codes).map (prAt l)) := by
    refine ((ordB_perm l' codes).map _).trans (List.Perm.trans ?_ ((ordB_perm l codes).map _).symm)
    rw [places_map, places_map]
    exact h.filter _
  have hm : ∀ p ∈ (ordB l codes).map (prAt l), p ∈ l := fun p hp => by
    obtain ⟨x, hx, rfl⟩ := List.mem_map.1 hp
    exact getD_mem (places_lt ((ordB_perm l codes).mem_iff.1 hx)).2
  refine hp.eq_of_pairwise (le := fun p q => aheadB q p = false) (fun a b ha hb h3 h4 => promos_anti (promosOk hC) (hm _ (hp.mem_iff.1 ha)) (hm _ hb) h3 h4) (List.pairwise_map.2 (ordB_ord l' codes)) (List.pairwise_map.2 (ordB_ord l codes))
theorem promosC_of {l : List Promo} (h1 : l.length ≤ 60) (h2 : ∀ p ∈ l, promoC p = true) (h3 : l.Pairwise fun p q => (p.id.toList == q.id.toList) = false) : promosC l = true := by
  unfold promosC
  rw [decide_eq_true (by omega), Bool.true_and]
  refine allAt_yes fun k hk => ?_
  unfold promoAt
  rw [h2 _ (getD_mem hk), Bool.true_and, Bool.not_eq_true', List.any_eq_false]
  intro x hx
  obtain ⟨j, hj, rfl⟩ := List.getElem_of_mem hx
  rw [List.length_take] at hj
  rw [List.getElem_take, List.getD_eq_getElem?_getD, List.getElem?_eq_getElem hk, Option.getD_some, Bool.not_eq_true]
  exact List.pairwise_iff_getElem.1 h3 j k (by omega) hk (by omega)
theorem promosC_turn {l l' : List Promo} (h : l'.Perm l) (hC : promosC l = true) : promosC l' = true := by
  have ok := promosOk hC
  refine promosC_of (by rw [h.length_eq]; exact ok.few) (fun p hp => ok.right p (h.mem_iff.1 hp)) ?_
  have hl : l.Pairwise fun p q => (p.id.toList == q.id.toList) = false := List.pairwise_iff_getElem.2 fun i j hi hj hij => by
    have := ok.ids i j hij hj
    rwa [List.getD_eq_getElem?_getD, List.getElem?_eq_getElem hi, List.getD_eq_getElem?_getD, List.getElem?_eq_getElem hj] at this
  exact (h.pairwise_iff (fun {a b} e => by rw [Bool.beq_comm]; exact e)).2 hl
theorem priceB_turn {r : Rules} {l' : List Promo} (h : l'.Perm r.promos) (hC : promosC r.promos = true) (codes : List Str) (l : List Line) :
    priceB { r with promos := l' } l (ordB l' codes) (ordB l' codes) = priceB r l (ordB r.promos codes) (ordB r.promos codes) := by
  have e := ordB_turn h hC codes
  have e1 : p1B { r with promos := l' } l (ordB l' codes) = p1B r l (ordB r.promos codes) := by
    unfold p1B
    rw [eachF_map, eachF_map]
    show ((List.map (prAt l') _).filter _).foldl _ _ = _
    rw [e]
  have e2 : ∀ q, p2B { r with promos := l' } l q (ordB l' codes) = p2B r l q (ordB r.promos codes) := fun q => by
    unfold p2B
    rw [eachF_map, eachF_map]
    show ((List.map (prAt l') _).filter _).foldl _ _ = _
    rw [e]
  unfold priceB
  rw [e1, e2]
theorem rules_turn {r : Rules} {l' : List Promo} (h : l'.Perm r.promos) (hC : rulesC r = true) (hf : RulesFit r) : rulesC { r with promos := l' } = true ∧ RulesFit { r with promos := l' } := by
  unfold rulesC at hC ⊢
  simp only [Bool.and_eq_true] at hC ⊢
  exact ⟨⟨⟨⟨⟨hC.1.1.1.1, promosC_turn h hC.1.1.1.2⟩, hC.1.1.2⟩, hC.1.2⟩, hC.2⟩, by show l'.length ≤ _; rw [h.length_eq]; exact hf.promos, fun p hp => hf.fit p (h.mem_iff.1 hp), hf.order, hf.credit⟩
end Go.Proofs.YtnekegdhpjplbaaGreat
namespace Go.Proofs.YtnekegdhpjplbaaGreat
open Go Go.Ab
attribute [local irreducible] upd del
theorem eqInt_S (x : Int) (st : St) : S P 122 [eI x, eI x] st fun v st' => v = .bool true ∧ st' = st := by
  refine S_of_X [] good mixed Tryz.func122 (by rfl) rfl rfl rfl ?_; conv => whnf
  refine ⟨?_, rfl⟩
  show AV.bool (x == x) = _
  rw [beq_self_eq_true]
theorem eqDeal_S (x : Deal) (st : St) : S P 124 [eDeal x, eDeal x] st fun v st' => v = .bool true ∧ st' = st := by
  refine S_of_X [2, 3] good mixed Tryz.func124 (by rfl) rfl rfl rfl ?_; conv => whnf
  refine ⟨?_, rfl⟩
  show AV.bool ((x.id.toList == x.id.toList) && ((x.off == x.off) && true)) = AV.bool true
  rw [beq_self_eq_true, beq_self_eq_true]; rfl
theorem sameInts_S (l : List Int) (hl : Sm l.length) (st : St) : S P 121 [eInts l, eInts l, .fn (.func 122) [] []] st fun v st' => v = .bool true ∧ st' = st := by
  refine S_of_X [] good mixed Tryz.func121 (by rfl) rfl rfl rfl ?_; conv => whnf
  rw [show ((l.length : Int) != (l.length : Int)) = false from bne_self_eq_false _]; conv => whnf
  refine lp l.length [0, 1, 2, 7] (fun i vs s => vs = [eInts l, eInts l, .fn (.func 122) [] [], eI i] ∧ s = st) ?_ ?_
  · conv => whnf
    exact ⟨rfl, rfl⟩
  · rintro i vs s hi ⟨rfl, rfl⟩
    conv => whnf
    cases h : decide ((i : Int) < (l.length : Int))
    · obtain rfl := stop_at h hi
      conv => whnf
      exact ⟨rfl, rfl⟩
    · have hi' := go_on h
      conv => whnf
      refine ⟨[], [], List.range 11, by kernel_rfl, ?_⟩; conv => whnf
      refine ⟨rfl, ⟨by omega, by omega⟩, ?_⟩; conv => whnf
      refine ⟨rfl, ⟨by omega, by omega⟩, ?_⟩; conv => whnf
      refine ⟨_, callQ (eqInt_S _ _), ?_⟩; conv => whnf
      refine ⟨rfl, ?_⟩; conv => whnf
      exact nx hi' ⟨by rw [wrapN (by omega)], rfl⟩
theorem sameDeals_S (l : List Deal) (hl : Sm l.length) (st : St) : S P 123 [arrOf 2 eDeal l, arrOf 2 eDeal l, .fn (.func 124) [] []] st fun v st' => v = .bool true ∧ st' = st := by
  refine S_of_X [] good mixed Tryz.func123 (by rfl) rfl rfl rfl ?_; conv => whnf
  rw [show ((l.length : Int) != (l.length : Int)) = false from bne_self_eq_false _]; conv => whnf
  refine lp l.length [0, 1, 2, 7] (fun i vs s => vs = [arrOf 2 eDeal l, arrOf 2 eDeal l, .fn (.func 124) [] [], eI i] ∧ s = st) ?_ ?_
  · conv => whnf
    exact ⟨rfl, rfl⟩
  · rintro i vs s hi ⟨rfl, rfl⟩
    conv => whnf
    cases h : decide ((i : Int) < (l.length : Int))
    · obtain rfl := stop_at h hi
      conv => whnf
      exact ⟨rfl, rfl⟩
    · have hi' := go_on h
      conv => whnf
      refine ⟨[], [], List.range 11, by kernel_rfl, ?_⟩; conv => whnf
      refine ⟨rfl, ⟨by omega, by omega⟩, ?_⟩; conv => whnf
      refine ⟨rfl, ⟨by omega, by omega⟩, ?_⟩; conv => whnf
      refine ⟨_, callQ (eqDeal_S _ _), ?_⟩; conv => whnf
      refine ⟨rfl, ?_⟩; conv => whnf
      exact nx hi' ⟨by rw [wrapN (by omega)], rfl⟩
theorem plainInts_S (l : List Int) (hl : Sm l.length) (st : St) : S P 72 [eInts l, eInts l] st fun v st' => v = .bool true ∧ st' = st := by
  refine S_of_X [] good mixed Tryz.func72 (by rfl) rfl rfl rfl ?_; conv => whnf
  refine call1 (sameInts_S l hl _) ?_; conv => whnf
  exact ⟨rfl, rfl⟩
theorem plainDeals_S (l : List Deal) (hl : Sm l.length) (st : St) : S P 73 [arrOf 2 eDeal l, arrOf 2 eDeal l] st fun v st' => v = .bool true ∧ st' = st := by
  refine S_of_X [] good mixed Tryz.func73 (by rfl) rfl rfl rfl ?_; conv => whnf
  refine call1 (sameDeals_S l hl _) ?_; conv => whnf
  exact ⟨rfl, rfl⟩
theorem samePriced_S (x : Priced) (h1 : Sm x.nets.length) (h2 : Sm x.deals.length) (st : St) : S P 21 [ePriced x, ePriced x] st fun v st' => v = .bool true ∧ st' = st := by
  refine S_of_X [2, 3] good mixed Tryz.func21 (by rfl) rfl rfl rfl ?_; conv => whnf
  refine call1 (plainInts_S x.nets h1 _) ?_; conv => whnf
  rw [show (x.net == x.net) = true from beq_self_eq_true _]; conv => whnf
  rw [show (x.ship == x.ship) = true from beq_self_eq_true _]; conv => whnf
  refine call1 (plainDeals_S x.deals h2 _) ?_; conv => whnf
  exact ⟨rfl, rfl⟩
theorem few0_S (r : Rules) (codes : List Str) (st : St) : S P 14 [eRules r, eStrs codes, .emp] st fun v st' => v = .bool (fewC r && decide ((codes.length : Int) < 30)) ∧ st' = st := by
  refine S_of_X [3] good mixed Tryz.func14 (by rfl) rfl rfl rfl ?_; conv => whnf
  refine once [1, 2, 3, 7, 8] ?_; conv => whnf
  intro I; conv => whnf
  refine call1 (few_S r _) ?_; conv => whnf
  generalize fewC r = a
  cases a
  · conv => whnf
    exact ⟨rfl, rfl⟩
  · conv => whnf
    refine fork (fun h => ?_) (fun h => ?_) <;> rw [h] <;> (conv => whnf) <;> exact ⟨rfl, rfl⟩
structure PlayOk (R : Rules) (C : List Str) (L : List Line) : Prop where
  right : rulesC R = true
  fit : RulesFit R
  sm : RulesSm R
  codes : codesC C = true
  ncodes : C.length ≤ 3
  scodes : ∀ s ∈ C, s.size ≤ 12
  lines : BasketOk L
  check : priceCheck R C L = 0
  few : R.promos.length ≤ 6
  items : R.items.length ≤ 8
  fee : 0 ≤ R.ship.fee ∧ R.ship.fee ≤ 1000000000
theorem playOk (r : Rules) (codes : List Str) (l : List Line) : PlayOk (playRules r) (playCodes codes) (playLines l) := by
  have hc := playCodes_ok codes
  have hl := playLines_ok l
  have hr := playRules_right r
  have hn := playPromos_len r.promos
  have hck : priceCheck (playRules r) (playCodes codes) (playLines l) = 0 := by
    unfold priceCheck
    rw [if_neg (by rw [hr]; simp), if_neg (by rw [hc.1]; simp)]
    exact hl.check (known_play r.items)
  exact ⟨hr, playRules_fit r, playRules_sm r, hc.1, hc.2.1, hc.2.2, hl, hck, by show (playPromos r.promos).length ≤ 6; omega, by show (playItems r.items).length ≤ 8; rw [playItems_len]; omega, (checkOk hck).fee⟩
theorem PlayOk.promosC {R : Rules} {C : List Str} {L : List Line} (h : PlayOk R C L) : promosC R.promos = true := by
  have := h.right
  unfold rulesC at this
  simp only [Bool.and_eq_true] at this
  exact this.1.1.1.2
def priceR (R : Rules) (C : List Str) (L : List Line) : Priced := priceB R L (ordB R.promos C) (ordB R.promos C)
theorem price1_S {R : Rules} {C : List Str} {L : List Line} (hck : priceCheck R C L = 0) (hf : RulesFit R) (hC : Go.Proofs.YtnekegdhpjplbaaGreat.promosC R.promos = true) (hn : R.promos.length ≤ 6) (hi : R.items.length ≤ 8) (hc : C.length ≤ 3) (st : St) :
    S P 19 [eRules R, eStrs C, arrOf 3 eLine L] st fun v s => v = .tuple [ePriced (priceR R C L), eI 0] ∧ s = st :=
  (price_S R C L hf (by show C.length ≤ 9223372036854775807; omega) (by omega) (by have := places_len R.promos C R.promos.length; omega) st).mono fun v s ⟨hv, hs⟩ => by
    refine ⟨?_, hs⟩
    rcases hv with ⟨h1, _⟩ | ⟨_, o1, o2, h1, h2, h3⟩
    · exact absurd hck h1
    · rw [resO_one hC h1, resO_one hC h2] at h3; exact h3
theorem PlayOk.price_S {R : Rules} {C : List Str} {L : List Line} (h : PlayOk R C L) (st : St) :
    S P 19 [eRules R, eStrs C, arrOf 3 eLine L] st fun v s => v = .tuple [ePriced (priceR R C L), eI 0] ∧ s = st :=
  price1_S h.check h.fit h.promosC h.few h.items h.ncodes st
theorem PlayOk.law {R : Rules} {C : List Str} {L : List Line} (h : PlayOk R C L) : ∃ xs ys, PriceLaw R C L (priceR R C L) xs ys := price_law h.fit h.check
theorem law_len {R : Rules} {C : List Str} {L : List Line} {Pr : Priced} {xs ys : List (Int × Int)} (h : PriceLaw R C L Pr xs ys) (hn : R.promos.length ≤ 6) : Pr.deals.length ≤ 12 := by
  rw [h.deals, List.length_map, List.length_append]
  have h1 := h.sx.length_le
  have h2 := h.sy.length_le
  rw [List.length_map, (ordB_perm R.promos C).length_eq] at h1 h2
  have := places_len R.promos C R.promos.length
  omega
theorem PlayOk.same_S {R : Rules} {C : List Str} {L : List Line} (h : PlayOk R C L) (st : St) : S P 21 [ePriced (priceR R C L), ePriced (priceR R C L)] st fun v s => v = .bool true ∧ s = st := by
  obtain ⟨xs, ys, hl⟩ := h.law
  have h1 := law_len hl h.few
  have h2 := hl.len
  have h3 := h.lines.len
  exact samePriced_S _ (by show (priceR R C L).nets.length ≤ 4611686018427387904; omega) (by show (priceR R C L).deals.length ≤ 4611686018427387904; omega) st
end Go.Proofs.YtnekegdhpjplbaaGreat
namespace Go.Ab
open Go
theorem rdOf_same {w : World} {st st' : St} (h : ∀ b, st b = none ↔ st' b = none) : rdOf w st = rdOf w st' := by
  funext a
  unfold rdOf
  cases h1 : st a.block with
  | none => rw [(h _).1 h1]
  | some x =>
    cases h2 : st' a.block with
    | none => rw [(h _).2 h2] at h1; cases h1
    | some y => rfl
theorem Shift.cell {vs : List AV} {st st2 : St} {a i : Nat} {y : Blk} {sv v' : AV} {pre post : List AV} (h : Shift [sv] st [v'] st2) (hy : st a = some y) (hy2 : st2 a = some y) (hi : i < y.n)
    (hf : y.f i = .agg (pre ++ sv :: post)) (h1 : v'.one = true) : Shift vs st vs (upd st2 a { y with f := fset y.f i (.agg (pre ++ v' :: post)) }) := fun w cs hS hR => by
  obtain ⟨ds, hok⟩ := hS a y hy
  obtain ⟨c, hc1, hc2⟩ := hok.cell i pre.length sv hi (by rw [hf]; show (pre ++ sv :: post)[pre.length]? = some sv; simp)
  obtain ⟨hS2, hR2, hE⟩ := h w #[c] hS ⟨rfl, fun k z c' hz hc' => by
    cases k with
    | zero => simp at hz hc'; subst hz; subst hc'; exact hc2
    | succ k => simp at hz⟩
  have hv : RepW w st2 v' c := hR2.2 0 v' c rfl rfl
  have e : rdOf w (upd st2 a { y with f := fset y.f i (.agg (pre ++ v' :: post)) }) = rdOf w st2 := rdOf_same fun b => by
    by_cases eb : b = a
    · subst eb; rw [upd_same, hy2]; constructor <;> (intro h0; cases h0)
    · rw [upd_ne eb]
  have hrep : ∀ v c, RepW w st2 v c → RepW w (upd st2 a { y with f := fset y.f i (.agg (pre ++ v' :: post)) }) v c := fun v c hv => by
    show Rep (rdOf w _) _ _ _
    rw [e]; exact hv
  refine ⟨fun b x hb => ?_, ⟨hR.1, fun k y c hy hc => hrep _ _ (hE.rep (hR.2 k y c hy hc))⟩, ⟨hE.os, hE.tape, hE.output, hE.size, fun b hb hn => ⟨(hE.blk b hb hn).1, ?_⟩, hE.szm⟩⟩
  · by_cases eb : b = a
    · subst eb
      rw [upd_same] at hb; cases hb
      obtain ⟨ds2, hok2⟩ := hS2 b y hy2
      have hds : ds2 = ds := by
        have h3 := hok2.heap
        rw [hok.heap] at h3
        cases h3; rfl
      subst hds
      have hlen := hok2.len i hi
      have hone := hok2.one i hi
      rw [hf] at hlen hone
      refine ⟨ds2, hok2.heap, hok2.size, fun k hk => ?_, fun k hk => ?_, fun k m z hk hz => ?_⟩
      · by_cases ek : k = i
        · subst ek
          show (cellsOf (fset y.f k _ k)).length = y.e
          unfold fset; rw [if_pos rfl, ← hlen]
          show (pre ++ v' :: post).length = (pre ++ sv :: post).length
          simp
        · show (cellsOf (fset y.f i _ k)).length = y.e
          unfold fset; rw [if_neg ek]; exact hok2.len k hk
      · by_cases ek : k = i
        · subst ek
          show (cellsOf (fset y.f k _ k)).all AV.one = true
          unfold fset; rw [if_pos rfl]
          have hone' : (pre ++ sv :: post).all AV.one = true := hone
          show (pre ++ v' :: post).all AV.one = true
          simp only [List.all_append, List.all_cons, Bool.and_eq_true] at hone' ⊢
          exact ⟨hone'.1, h1, hone'.2.2⟩
        · show (cellsOf (fset y.f i _ k)).all AV.one = true
          unfold fset; rw [if_neg ek]; exact hok2.one k hk
      · have hz : (cellsOf (fset y.f i (.agg (pre ++ v' :: post)) k))[m]? = some z := hz
        unfold fset at hz
        by_cases ek : k = i
        · subst ek
          rw [if_pos rfl] at hz
          have hz : (pre ++ v' :: post)[m]? = some z := hz
          by_cases em : m = pre.length
          · subst em
            simp at hz
            subst hz
            exact ⟨c, hc1, hrep _ _ hv⟩
          · have e3 : (pre ++ sv :: post)[m]? = some z := by
              rw [← hz]
              by_cases hm : m < pre.length
              · rw [List.getElem?_append_left hm, List.getElem?_append_left hm]
              · rw [List.getElem?_append_right (by omega), List.getElem?_append_right (by omega)]
                obtain ⟨q, hq⟩ : ∃ q, m - pre.length = q + 1 := ⟨m - pre.length - 1, by omega⟩
                rw [hq]; rfl
            obtain ⟨c', k1, k2⟩ := hok2.cell k m z hk (by rw [hf]; exact e3)
            exact ⟨c', k1, hrep _ _ k2⟩
        · rw [if_neg ek] at hz
          obtain ⟨c', k1, k2⟩ := hok2.cell k m z hk hz
          exact ⟨c', k1, hrep _ _ k2⟩
    · rw [upd_ne eb] at hb
      obtain ⟨ds2, hok2⟩ := hS2 b x hb
      exact ⟨ds2, hok2.heap, hok2.size, hok2.len, hok2.one, fun k m z hk hz => by
        obtain ⟨c', k1, k2⟩ := hok2.cell k m z hk hz
        exact ⟨c', k1, hrep _ _ k2⟩⟩
  · have := (hE.blk b hb hn).2
    have eb : b ≠ a := fun h => by rw [h, hy] at hn; cases hn
    rw [upd_ne eb]; exact this
end Go.Ab
namespace Go.Proofs.YtnekegdhpjplbaaGreat
open Go Go.Ab
attribute [local irreducible] upd del
theorem Shift.pre {a b : List AV} {s t : St} (h : Shift a s b t) : ∀ l : List AV, Shift (l ++ a) s (l ++ b) t
  | [] => h
  | x :: l => Shift.cons (Shift.keep [x] s) (Shift.pre h l)
abbrev fParts (l : List Part) : Nat → AV := fun k => ePart (l.getD k default)
theorem ROut.put {ty e n b : Nat} {fo : Nat → AV} {s t : St} {sv : AV} {y : Blk} (h : ROut Sup ty e fo n (upd s b y) sv t) (y' : Blk) : ROut Sup ty e fo n (upd s b y') sv (upd t b y') := by
  have := ROut.write (y' := y') besideSup h (upd_same ..)
  rwa [upd_twice] at this
theorem playParts_none {l : List Part} (h : l.length = 0) : playParts l = [⟨⟨[], []⟩, 2⟩] := if_pos h
theorem playParts_some {l : List Part} (h : l.length ≠ 0) : playParts l = (l.take 3).map playPart := if_neg h
theorem part_at {l : List Part} {i : Nat} (hi : i < min l.length 3) : ((l.take 3).map playPart).getD i default = playPart (l.getD i default) := by
  rw [List.getD_eq_getElem?_getD, List.getElem?_map, List.getElem?_take_of_lt (by omega), List.getElem?_eq_getElem (by omega), List.getD_eq_getElem?_getD, List.getElem?_eq_getElem (by omega)]; rfl
set_option maxHeartbeats 80000000 in
theorem playPromo_S (p : Promo) (id : Int) (st : St) : S P 93 [ePromo p, eI id] st fun v st' => v = ePromo (playPromo p id) ∧ st' = st := by
  refine S.post (post := fun v s => (∃ W, v = .agg W ∧ Sup st s ∧ LeL W (cellsOf (ePromo (playPromo p id)))) ∨ ∃ (pre : List AV) (sv fin : AV) (base : St), v = .agg (pre ++ [sv, fin]) ∧ Shift [sv] s [arrOf 3 ePart (playParts p.parts)] base ∧ Sup st base ∧ LeL (pre ++ [arrOf 3 ePart (playParts p.parts), fin]) (cellsOf (ePromo (playPromo p id)))) ?_ (fun v s h => ⟨_, st, ⟨rfl, rfl⟩, by
      rcases h with ⟨W, h1, h3, h4⟩ | ⟨pre, sv, fin, base, h1, h2, h3, h4⟩
      · rw [h1]; exact (Le.shift (Le.agg h4) _).trans (h3.shift _)
      · rw [h1]
        refine (Shift.agg (Shift.pre (Shift.cons h2 (Shift.keep [fin] _)) pre)).trans ?_
        exact (Le.shift (Le.agg h4) _).trans (h3.shift _)⟩)
  have hScope := fun s => pscope_S p.scope s
  obtain ⟨SC, hSC⟩ : ∃ SC, SC = playScope p.scope := ⟨_, rfl⟩
  rw [← hSC] at hScope
  have hId := fun s => id_S id s
  obtain ⟨I, hI⟩ : ∃ I, I = idN id := ⟨_, rfl⟩
  rw [← hI] at hId
  have hPr := fun s => mod_S p.prio 5 (by decide) (by decide) s
  obtain ⟨PR, hPR⟩ : ∃ PR, PR = modB p.prio 5 := ⟨_, rfl⟩
  rw [← hPR] at hPr
  have hKd := fun s => mod_S (IntKind.i64.wrap (p.kind - 1)) 7 (by decide) (by decide) s
  have hkm := modB_lt (IntKind.i64.wrap (p.kind - 1)) (n := 7) (by decide)
  have hkw : IntKind.i64.wrap (1 + modB (IntKind.i64.wrap (p.kind - 1)) 7) = playKind p := wrap64_of (by omega) (by omega)
  have hK := playKind_ok p
  have hP : playPromo p id = playPromoK p id (playKind p) := rfl
  rw [hP]
  generalize playKind p = K at hK hkw ⊢
  clear hP
  generalize modB (IntKind.i64.wrap (p.kind - 1)) 7 = KD at hKd hkw
  obtain ⟨G, hG⟩ : ∃ G, G = playGroup p := ⟨_, rfl⟩
  obtain ⟨C, hC⟩ : ∃ C, C = playCode p := ⟨_, rfl⟩
  obtain ⟨L, hL⟩ : ∃ L, L = playLeast p := ⟨_, rfl⟩
  have wr : IntKind.i64.wrap (1 + modB p.rate 10000) = 1 + modB p.rate 10000 := by have := modB_lt p.rate (n := 10000) (by decide); exact wrap64_of (by omega) (by omega)
  have wa : IntKind.i64.wrap (1 + modB p.amount 900) = 1 + modB p.amount 900 := by have := modB_lt p.amount (n := 900) (by decide); exact wrap64_of (by omega) (by omega)
  have wb : IntKind.i64.wrap (1 + modB p.buy 3) = 1 + modB p.buy 3 := by have := modB_lt p.buy (n := 3) (by decide); exact wrap64_of (by omega) (by omega)
  have wg : IntKind.i64.wrap (1 + modB p.get 2) = 1 + modB p.get 2 := by have := modB_lt p.get (n := 2) (by decide); exact wrap64_of (by omega) (by omega)
  have hT5 := fun s => playTiers_S p.tiers 5000 (by decide) (by decide) s
  obtain ⟨TS, hTS⟩ : ∃ TS, TS = playTiers p.tiers 5000 := ⟨_, rfl⟩
  rw [← hTS] at hT5
  have hT6 := fun s => playTiers_S p.tiers 5 (by decide) (by decide) s
  obtain ⟨TU, hTU⟩ : ∃ TU, TU = playTiers p.tiers 5 := ⟨_, rfl⟩
  rw [← hTU] at hT6
  have hA3 := fun s => mod64_S' p.amount 3000 (by decide) (by decide) s
  obtain ⟨A3, hA⟩ : ∃ A3, A3 = modB p.amount 3000 := ⟨_, rfl⟩
  rw [← hA] at hA3
  refine S_of_X [2] good mixed Tryz.func93 (by rfl) rfl rfl rfl ?_; conv => whnf
  intro b4 hb4; conv => whnf
  refine ⟨[16, 17], [1, 3, 5, 8, 9, 11, 13, 14], List.range 18, by kernel_rfl, ?_⟩; conv => whnf
  refine ⟨_, fun s _ => callQ (hId s), ?_⟩; conv => whnf
  refine ⟨_, fun s _ => ⟨rfl, rfl⟩, ?_⟩; conv => whnf
  refine ⟨_, fun s _ => callQ (hKd s), ?_⟩; conv => whnf
  refine ⟨_, fun s _ => ⟨rfl, rfl⟩, ?_⟩; conv => whnf
  refine ⟨_, fun s _ => callQ (hPr s), ?_⟩; conv => whnf
  refine ⟨_, fun s _ => ⟨rfl, rfl⟩, ?_⟩; conv => whnf
  refine ⟨_, fun s _ => ⟨rfl, rfl⟩, ?_⟩; conv => whnf
  refine ⟨_, fun s _ => callQ (hScope s), ?_⟩; conv => whnf
  intro b5 hb5
  have hne : b4 ≠ b5 := fun e => by subst e; rw [upd_same] at hb5; cases hb5
  conv => whnf
  refine stV (upd_same ..) rfl (by omega) rfl (by rfl) ?_
  rw [upd_twice, hkw]
  have hst : ∀ Y : Blk, Sup st (upd (upd st b4 ⟨57, 15, 1, fun _ => avOf r57.zero⟩) b5 Y) := fun Y => ((Sup.refl st).upd hb4).upd hb5
  conv => whnf
  refine call1 (pick_S _ _) ?_; conv => whnf
  refine call1 (mod_S _ 3 (by decide) (by decide) _) ?_; conv => whnf
  cases hg : (modB (pickN p.group) 3 == 1)
  case' true =>
    have hgv : (⟨#[103]⟩ : Str) ++ strA ([] ++ [IntKind.u8.wrap (48 + IntKind.u8.wrap (modB p.group.size 2))]) = G := by rw [hG, wrap8]; exact (if_pos (by simpa using hg)).symm
    conv => whnf
    refine call1 (mod_S _ 2 (by decide) (by decide) _) ?_; conv => whnf
    rw [hgv]
    refine stV (upd_same ..) rfl (by omega) (fset_same ..) (by rfl) ?_
    rw [upd_twice]
  case' false =>
    have hG0 : (⟨#[]⟩ : Str) = G := by rw [hG]; exact (if_neg (by simpa using hg)).symm
  all_goals
    conv => whnf
    refine call1 (pick_S _ _) ?_; conv => whnf
    refine call1 (mod_S _ 3 (by decide) (by decide) _) ?_; conv => whnf
    cases hcd : (modB (pickN p.code) 3 == 1)
    case' true =>
      have hcv : codeN p.code.size = C := by rw [hC]; exact (if_pos (by simpa using hcd)).symm
      conv => whnf
      refine call1 (code_S _ _) ?_; conv => whnf
      rw [hcv]
      refine stV (upd_same ..) rfl (by omega) (fset_same ..) (by rfl) ?_
      rw [upd_twice]
    case' false =>
      have hC0 : (⟨#[]⟩ : Str) = C := by rw [hC]; exact (if_neg (by simpa using hcd)).symm
    all_goals
      conv => whnf
      refine call1 (mod64_S' _ 3 (by decide) (by decide) _) ?_; conv => whnf
      cases hl : (modB p.least 3 == 1)
      case' true =>
        have hlv : modB p.least 9000 = L := by rw [hL]; exact (if_pos (by simpa using hl)).symm
        conv => whnf
        refine call1 (mod64_S' _ 9000 (by decide) (by decide) _) ?_; conv => whnf
        rw [hlv]
        refine stV (upd_same ..) rfl (by omega) (fset_same ..) (by rfl) ?_
        rw [upd_twice]
      case' false =>
        have hL0 : (0 : Int) = L := by rw [hL]; exact (if_neg (by simpa using hl)).symm
      all_goals
        conv => whnf
        refine ldV (upd_same ..) rfl (by omega) (fset_same ..) ?_
        rcases (show K = 1 ∨ K = 2 ∨ K = 3 ∨ K = 4 ∨ K = 5 ∨ K = 6 ∨ K = 7 by omega) with rfl | rfl | rfl | rfl | rfl | rfl | rfl
        · rw [show cellsOf (ePromo (playPromoK p id 1)) = [eS (I), eI 1, eI (PR), eS (G), eS (C), eB p.closes, eStrs (SC).skus, eStrs (SC).cats, eI (L), eI (1 + modB p.rate 10000), eI 0, eI 0, eI 0, arrOf 3 ePart [], arrOf 3 eTier []] from by rw [hI, hPR, hG, hC, hL, hSC]; rfl]
          (try subst hG0); (try subst hC0); (try subst hL0)
          conv => whnf
          refine call1 (mod64_S' _ 10000 (by decide) (by decide) _) ?_; conv => whnf
          rw [wr]
          refine stV (upd_same ..) rfl (by omega) (fset_same ..) (by rfl) ?_
          rw [upd_twice]; conv => whnf
          refine ldV (upd_same ..) rfl (by omega) (fset_same ..) ?_; conv => whnf
          refine stV (by rw [upd_ne hne]; exact upd_same ..) rfl (by omega) rfl (by rfl) ?_; conv => whnf
          refine ldV (upd_same ..) rfl (by omega) (fset_same ..) ?_; conv => whnf
          exact .inl ⟨_, rfl, (hst _).over hb4, LeL.cons (Le.refl _) (LeL.cons (Le.refl _) (LeL.cons (Le.refl _) (LeL.cons (Le.refl _) (LeL.cons (Le.refl _) (LeL.cons (Le.refl _) (LeL.cons (Le.refl _) (LeL.cons (Le.refl _) (LeL.cons (Le.refl _) (LeL.cons (Le.refl _) (LeL.cons (Le.refl _) (LeL.cons (Le.refl _) (LeL.cons (Le.refl _) (LeL.cons (Le.emp _ _) (LeL.cons (Le.emp _ _) (LeL.nil)))))))))))))))⟩
        · rw [show cellsOf (ePromo (playPromoK p id 2)) = [eS (I), eI 2, eI (PR), eS (G), eS (C), eB p.closes, eStrs (SC).skus, eStrs (SC).cats, eI (L), eI 0, eI (1 + modB p.amount 900), eI 0, eI 0, arrOf 3 ePart [], arrOf 3 eTier []] from by rw [hI, hPR, hG, hC, hL, hSC]; rfl]
          (try subst hG0); (try subst hC0); (try subst hL0)
          conv => whnf
          refine call1 (mod64_S' _ 900 (by decide) (by decide) _) ?_; conv => whnf
          rw [wa]
          refine stV (upd_same ..) rfl (by omega) (fset_same ..) (by rfl) ?_
          rw [upd_twice]; conv => whnf
          refine ldV (upd_same ..) rfl (by omega) (fset_same ..) ?_; conv => whnf
          refine stV (by rw [upd_ne hne]; exact upd_same ..) rfl (by omega) rfl (by rfl) ?_; conv => whnf
          refine ldV (upd_same ..) rfl (by omega) (fset_same ..) ?_; conv => whnf
          exact .inl ⟨_, rfl, (hst _).over hb4, LeL.cons (Le.refl _) (LeL.cons (Le.refl _) (LeL.cons (Le.refl _) (LeL.cons (Le.refl _) (LeL.cons (Le.refl _) (LeL.cons (Le.refl _) (LeL.cons (Le.refl _) (LeL.cons (Le.refl _) (LeL.cons (Le.refl _) (LeL.cons (Le.refl _) (LeL.cons (Le.refl _) (LeL.cons (Le.refl _) (LeL.cons (Le.refl _) (LeL.cons (Le.emp _ _) (LeL.cons (Le.emp _ _) (LeL.nil)))))))))))))))⟩
        · rw [show cellsOf (ePromo (playPromoK p id 3)) = [eS (I), eI 3, eI (PR), eS (G), eS (C), eB p.closes, eStrs (SC).skus, eStrs (SC).cats, eI (L), eI (1 + modB p.rate 10000), eI 0, eI (1 + modB p.buy 3), eI (1 + modB p.get 2), arrOf 3 ePart [], arrOf 3 eTier []] from by rw [hI, hPR, hG, hC, hL, hSC]; rfl]
          (try subst hG0); (try subst hC0); (try subst hL0)
          conv => whnf
          refine ⟨[13, 15, 17], [], List.range 18, by kernel_rfl, ?_⟩; conv => whnf
          refine ⟨_, callQ (mod64_S' _ 10000 (by decide) (by decide) _), ?_⟩; conv => whnf
          rw [wr]
          refine ⟨_, callQ (mod_S _ 3 (by decide) (by decide) _), ?_⟩; conv => whnf
          rw [wb]
          refine ⟨_, callQ (mod_S _ 2 (by decide) (by decide) _), ?_⟩; conv => whnf
          rw [wg]
          refine stV (upd_same ..) rfl (by omega) (fset_same ..) (by rfl) ?_
          rw [upd_twice]; conv => whnf
          refine stV (upd_same ..) rfl (by omega) (fset_same ..) (by rfl) ?_
          rw [upd_twice]; conv => whnf
          refine stV (upd_same ..) rfl (by omega) (fset_same ..) (by rfl) ?_
          rw [upd_twice]; conv => whnf
          refine ldV (upd_same ..) rfl (by omega) (fset_same ..) ?_; conv => whnf
          refine stV (by rw [upd_ne hne]; exact upd_same ..) rfl (by omega) rfl (by rfl) ?_; conv => whnf
          refine ldV (upd_same ..) rfl (by omega) (fset_same ..) ?_; conv => whnf
          exact .inl ⟨_, rfl, (hst _).over hb4, LeL.cons (Le.refl _) (LeL.cons (Le.refl _) (LeL.cons (Le.refl _) (LeL.cons (Le.refl _) (LeL.cons (Le.refl _) (LeL.cons (Le.refl _) (LeL.cons (Le.refl _) (LeL.cons (Le.refl _) (LeL.cons (Le.refl _) (LeL.cons (Le.refl _) (LeL.cons (Le.refl _) (LeL.cons (Le.refl _) (LeL.cons (Le.refl _) (LeL.cons (Le.emp _ _) (LeL.cons (Le.emp _ _) (LeL.nil)))))))))))))))⟩
        · rw [show cellsOf (ePromo (playPromoK p id 4)) = [eS (I), eI 4, eI (PR), eS (G), eS (C), eB p.closes, eStrs [], eStrs [], eI (L), eI 0, eI (A3), eI 0, eI 0, arrOf 3 ePart (playParts p.parts), arrOf 3 eTier []] from by rw [hI, hPR, hG, hC, hL, hA]; rfl]; conv => whnf
          refine call1 (hA3 _) ?_; conv => whnf
          refine stV (upd_same ..) rfl (by omega) (fset_same ..) (by rfl) ?_
          rw [upd_twice]; conv => whnf
          refine stV (upd_same ..) rfl (by omega) (fset_same ..) (by rfl) ?_
          rw [upd_twice]; conv => whnf
          refine lp (min p.parts.length 3) [2, 4, 5, 6] (fun i vs s => ∃ sv f, vs = [.fptr (ePromo p) 0, .optr 15 b4 0 0, .optr 15 b5 0 0, eI i] ∧ f 0 = .agg ([eS I, eI 4, eI PR, eS G, eS C, eB p.closes, .emp, .emp, eI L, eI 0, eI A3, eI 0, eI 0] ++ [sv, .emp]) ∧ ROut Sup 172 3 (fParts ((p.parts.take 3).map playPart)) i (upd (upd st b4 ⟨57, 15, 1, fun _ => avOf r57.zero⟩) b5 ⟨57, 15, 1, f⟩) sv s) ?_ ?_
          · conv => whnf
            exact ⟨.emp, _, rfl, by (try rw [← hG0]); (try rw [← hC0]); (try rw [← hL0]); first | rfl | (rw [fset_same]; rfl), ROut.start (Sup.refl _) _ _ _⟩
          · rintro i vs s hi ⟨sv, f, rfl, hf, hR⟩
            have hsup := ROut.sup besideSup hR
            have at5 : s b5 = some ⟨57, 15, 1, f⟩ := hsup b5 _ (upd_same ..)
            have at4 : s b4 = some ⟨57, 15, 1, fun _ => avOf r57.zero⟩ := hsup b4 _ (by rw [upd_ne hne]; exact upd_same ..)
            have n5 : st b5 = none := by rw [upd_ne (Ne.symm hne)] at hb5; exact hb5
            conv => whnf
            refine fork (fun h1 => ?_) (fun h1 => ?_) <;> rw [h1] <;> simp only [decide_eq_true_eq, decide_eq_false_iff_not] at h1
            case' refine_1 =>
              conv => whnf
              refine fork (fun h2 => ?_) (fun h2 => ?_) <;> rw [h2] <;> simp only [decide_eq_true_eq, decide_eq_false_iff_not] at h2
            case refine_1.refine_1 =>
              have hi' : i < min p.parts.length 3 := by omega
              have hsc2 := fun s => pscope_S (p.parts.getD (i : Int).toNat default).scope s
              have hpa := part_at hi'
              have hm2 := modB_lt (p.parts.getD (i : Int).toNat default).count (n := 2) (by decide)
              have wc : IntKind.i64.wrap (1 + modB (p.parts.getD (i : Int).toNat default).count 2) = 1 + modB (p.parts.getD (i : Int).toNat default).count 2 := wrap64_of (by omega) (by omega)
              have hpp : ePart (playPart (p.parts.getD i default)) = .agg [eStrs (playScope (p.parts.getD (i : Int).toNat default).scope).skus, eStrs (playScope (p.parts.getD (i : Int).toNat default).scope).cats, eI (1 + modB (p.parts.getD (i : Int).toNat default).count 2)] := rfl
              generalize playScope (p.parts.getD (i : Int).toNat default).scope = S2 at hsc2 hpp
              rcases ROut.head hR with rfl | ⟨bp, rfl⟩
              all_goals
                conv => whnf
                refine ⟨[19, 21], [15], List.range 22, by kernel_rfl, ?_⟩; conv => whnf
                refine ldV at5 rfl (by omega) hf ?_; conv => whnf
                refine ⟨rfl, ⟨by omega, by omega⟩, ?_⟩; conv => whnf
                refine ⟨_, callQ (hsc2 _), ?_⟩; conv => whnf
                refine ⟨rfl, ⟨by omega, by omega⟩, ?_⟩; conv => whnf
                refine ⟨_, fun s _ => callQ (mod_S _ 2 (by decide) (by decide) s), ?_⟩; conv => whnf
                rw [wc]
                refine ⟨_, ⟨rfl, rfl⟩, ?_⟩; conv => whnf
                refine ROut.app (q := r172) besideSup rfl rfl rfl rfl rfl (f := fParts ((p.parts.take 3).map playPart)) (by show _ = ePart _; rw [hpa, hpp]; rfl) (by show (i + 1) * 56 ≤ 140737488355328; omega) hR (fun sv' t2 hR2 => ?_)
                have at5' : t2 b5 = some ⟨57, 15, 1, f⟩ := ROut.sup besideSup hR2 b5 _ (upd_same ..)
                rcases ROut.head hR2 with rfl | ⟨bp', rfl⟩
                all_goals
                  conv => whnf
                  refine stV at5' rfl (by omega) hf (by rfl) ?_; conv => whnf
                  refine ⟨rfl, ?_⟩; conv => whnf
                  exact nx hi' ⟨_, _, by rw [wrapN (by omega)], (by rw [fset_same]; rfl), ROut.put hR2 _⟩
            all_goals
              have hie : i = min p.parts.length 3 := by omega
              obtain ⟨s0, hcol, hss⟩ := hR
              rcases hcol with ⟨h0, rfl, rfl⟩ | ⟨h0, bp, g, hbp, rfl, rfl, hgg⟩
              · have hPP := playParts_none (l := p.parts) (by omega)
                subst h0
                rw [hPP]; conv => whnf
                refine ldV at5 rfl (by omega) hf ?_; conv => whnf
                refine stV at5 rfl (by omega) hf (by rfl) ?_; conv => whnf
                refine ldV (upd_same ..) rfl (by omega) (fset_same ..) ?_; conv => whnf
                refine stV (by rw [upd_ne hne]; exact at4) rfl (by omega) rfl (by rfl) ?_; conv => whnf
                refine ldV (upd_same ..) rfl (by omega) (fset_same ..) ?_; conv => whnf
                exact .inl ⟨_, rfl, ((((Sup.refl st).upd hb4).upd hb5).trans hss |>.over n5).over hb4, LeL.cons (Le.refl _) (LeL.cons (Le.refl _) (LeL.cons (Le.refl _) (LeL.cons (Le.refl _) (LeL.cons (Le.refl _) (LeL.cons (Le.refl _) (LeL.cons (Le.emp _ _) (LeL.cons (Le.emp _ _) (LeL.cons (Le.refl _) (LeL.cons (Le.refl _) (LeL.cons (Le.refl _) (LeL.cons (Le.refl _) (LeL.cons (Le.refl _) (LeL.cons (Le.arr1 (LeL.cons (Le.emp _ _) (LeL.cons (Le.emp _ _) (LeL.cons (Le.refl _) LeL.nil))) rfl) (LeL.cons (Le.emp _ _) (LeL.nil)))))))))))))))⟩
              · have hPP := playParts_some (l := p.parts) (by omega)
                have hAP : arrOf 3 ePart (playParts p.parts) = .arr 3 i (fParts ((p.parts.take 3).map playPart)) := by unfold arrOf; rw [hPP, show ((p.parts.take 3).map playPart).length = i by rw [List.length_map, List.length_take]; omega]
                have hR3 : ROut Sup 172 3 (fParts ((p.parts.take 3).map playPart)) i (upd (upd st b4 ⟨57, 15, 1, fun _ => avOf r57.zero⟩) b5 ⟨57, 15, 1, f⟩) (.own 3 bp 0 i) s := ⟨_, .inr ⟨h0, bp, g, hbp, rfl, rfl, hgg⟩, hss⟩
                conv => whnf
                refine ldV at5 rfl (by omega) hf ?_; conv => whnf
                rw [show ((i : Int) == 0) = false by rw [beq_eq_false_iff_ne]; omega]; conv => whnf
                refine ldV at5 rfl (by omega) hf ?_; conv => whnf
                refine stV at4 rfl (by omega) rfl (by rfl) ?_; conv => whnf
                refine ldV (upd_same ..) rfl (by omega) (fset_same ..) ?_; conv => whnf
                obtain ⟨base, hsh, hsb⟩ := ROut.shift besideSup (ROut.write besideSup hR3 (b := b4) (by rw [upd_ne hne]; exact upd_same ..))
                refine .inr ⟨[eS I, eI 4, eI PR, eS G, eS C, eB p.closes, .emp, .emp, eI L, eI 0, eI A3, eI 0, eI 0], .own 3 bp 0 i, .emp, base, rfl, by rw [hAP]; exact hsh, ((((Sup.refl st).upd hb4).upd hb5).over hb4).trans hsb, LeL.cons (Le.refl _) (LeL.cons (Le.refl _) (LeL.cons (Le.refl _) (LeL.cons (Le.refl _) (LeL.cons (Le.refl _) (LeL.cons (Le.refl _) (LeL.cons (Le.emp _ _) (LeL.cons (Le.emp _ _) (LeL.cons (Le.refl _) (LeL.cons (Le.refl _) (LeL.cons (Le.refl _) (LeL.cons (Le.refl _) (LeL.cons (Le.refl _) (LeL.cons (Le.refl _) (LeL.cons (Le.emp _ _) (LeL.nil)))))))))))))))⟩
        · rw [show cellsOf (ePromo (playPromoK p id 5)) = [eS (I), eI 5, eI (PR), eS (G), eS (C), eB p.closes, eStrs (SC).skus, eStrs (SC).cats, eI (L), eI 0, eI 0, eI 0, eI 0, arrOf 3 ePart [], arrOf 3 eTier (TS)] from by rw [hI, hPR, hG, hC, hL, hSC, hTS]; rfl]
          (try subst hG0); (try subst hC0); (try subst hL0)
          conv => whnf
          refine call1 (hT5 _) ?_; conv => whnf
          refine stV (upd_same ..) rfl (by omega) (fset_same ..) (by rfl) ?_
          rw [upd_twice]; conv => whnf
          refine ldV (upd_same ..) rfl (by omega) (fset_same ..) ?_; conv => whnf
          refine stV (by rw [upd_ne hne]; exact upd_same ..) rfl (by omega) rfl (by rfl) ?_; conv => whnf
          refine ldV (upd_same ..) rfl (by omega) (fset_same ..) ?_; conv => whnf
          exact .inl ⟨_, rfl, (hst _).over hb4, LeL.cons (Le.refl _) (LeL.cons (Le.refl _) (LeL.cons (Le.refl _) (LeL.cons (Le.refl _) (LeL.cons (Le.refl _) (LeL.cons (Le.refl _) (LeL.cons (Le.refl _) (LeL.cons (Le.refl _) (LeL.cons (Le.refl _) (LeL.cons (Le.refl _) (LeL.cons (Le.refl _) (LeL.cons (Le.refl _) (LeL.cons (Le.refl _) (LeL.cons (Le.emp _ _) (LeL.cons (Le.refl _) (LeL.nil)))))))))))))))⟩
        · rw [show cellsOf (ePromo (playPromoK p id 6)) = [eS (I), eI 6, eI (PR), eS (G), eS (C), eB p.closes, eStrs (SC).skus, eStrs (SC).cats, eI (L), eI 0, eI 0, eI 0, eI 0, arrOf 3 ePart [], arrOf 3 eTier (TU)] from by rw [hI, hPR, hG, hC, hL, hSC, hTU]; rfl]
          (try subst hG0); (try subst hC0); (try subst hL0)
          conv => whnf
          refine call1 (hT6 _) ?_; conv => whnf
          refine stV (upd_same ..) rfl (by omega) (fset_same ..) (by rfl) ?_
          rw [upd_twice]; conv => whnf
          refine ldV (upd_same ..) rfl (by omega) (fset_same ..) ?_; conv => whnf
          refine stV (by rw [upd_ne hne]; exact upd_same ..) rfl (by omega) rfl (by rfl) ?_; conv => whnf
          refine ldV (upd_same ..) rfl (by omega) (fset_same ..) ?_; conv => whnf
          exact .inl ⟨_, rfl, (hst _).over hb4, LeL.cons (Le.refl _) (LeL.cons (Le.refl _) (LeL.cons (Le.refl _) (LeL.cons (Le.refl _) (LeL.cons (Le.refl _) (LeL.cons (Le.refl _) (LeL.cons (Le.refl _) (LeL.cons (Le.refl _) (LeL.cons (Le.refl _) (LeL.cons (Le.refl _) (LeL.cons (Le.refl _) (LeL.cons (Le.refl _) (LeL.cons (Le.refl _) (LeL.cons (Le.emp _ _) (LeL.cons (Le.refl _) (LeL.nil)))))))))))))))⟩
        · rw [show cellsOf (ePromo (playPromoK p id 7)) = [eS (I), eI 7, eI (PR), eS (G), eS (C), eB false, eStrs [], eStrs [], eI (L), eI (1 + modB p.rate 10000), eI 0, eI 0, eI 0, arrOf 3 ePart [], arrOf 3 eTier []] from by rw [hI, hPR, hG, hC, hL]; rfl]
          (try subst hG0); (try subst hC0); (try subst hL0)
          conv => whnf
          refine call1 (mod64_S' _ 10000 (by decide) (by decide) _) ?_; conv => whnf
          rw [wr]
          refine stV (upd_same ..) rfl (by omega) (fset_same ..) (by rfl) ?_
          rw [upd_twice]; conv => whnf
          refine stV (upd_same ..) rfl (by omega) (fset_same ..) (by rfl) ?_
          rw [upd_twice]; conv => whnf
          refine stV (upd_same ..) rfl (by omega) (fset_same ..) (by rfl) ?_
          rw [upd_twice]; conv => whnf
          refine ldV (upd_same ..) rfl (by omega) (fset_same ..) ?_; conv => whnf
          refine stV (by rw [upd_ne hne]; exact upd_same ..) rfl (by omega) rfl (by rfl) ?_; conv => whnf
          refine ldV (upd_same ..) rfl (by omega) (fset_same ..) ?_; conv => whnf
          exact .inl ⟨_, rfl, (hst _).over hb4, LeL.cons (Le.refl _) (LeL.cons (Le.refl _) (LeL.cons (Le.refl _) (LeL.cons (Le.refl _) (LeL.cons (Le.refl _) (LeL.cons (Le.refl _) (LeL.cons (Le.emp _ _) (LeL.cons (Le.emp _ _) (LeL.cons (Le.refl _) (LeL.cons (Le.refl _) (LeL.cons (Le.refl _) (LeL.cons (Le.refl _) (LeL.cons (Le.refl _) (LeL.cons (Le.emp _ _) (LeL.cons (Le.emp _ _) (LeL.nil)))))))))))))))⟩
theorem idAt_eq (i : Nat) (h : i < 6) : Int.tmod (IntKind.i64.wrap (IntKind.i64.wrap ((i : Int) * 7) + 3)) 10 = idAt i := by
  rw [wrap64_of (x := (i : Int) * 7) (by omega) (by omega), wrap64_of (by omega) (by omega), Int.tmod_eq_emod_of_nonneg (by omega)]; rfl
theorem playPromos_S (l : List Promo) (st : St) : S P 47 [arrOf 15 ePromo l] st fun v st' => v = arrOf 15 ePromo (playPromos l) ∧ st' = st := by
  refine S_colL (ty := 57) ?_
  have hat : ∀ i, i < 6 → playPromoAt l i = playPromo (l.getD (i : Int).toNat default) (Int.tmod (IntKind.i64.wrap (IntKind.i64.wrap ((i : Int) * 7) + 3)) 10) := fun i hi => by rw [idAt_eq i hi]; rfl
  have hPl : playPromos l = (List.range (min l.length 6)).map (playPromoAt l) := rfl
  rw [hPl]
  have hnext := map_range_succ (playPromoAt l)
  have hS := fun i => playPromo_S (l.getD (i : Nat) default)
  generalize playPromoAt l = F at hat hnext ⊢
  refine S_of_X [] good mixed Tryz.func47 (by rfl) rfl rfl rfl ?_; conv => whnf
  refine lp (min l.length 6) [0, 3, 4] (fun i vs s => ∃ sv, vs = [arrOf 15 ePromo l, sv, eI i] ∧ ColL 57 15 ePromo ((List.range i).map F) st sv s) ?_ ?_
  · conv => whnf
    exact ⟨.emp, rfl, ColL.start _ _ _ _⟩
  · rintro i vs s hi ⟨sv, rfl, hc⟩
    have hfin : i = min l.length 6 → ColL 57 15 ePromo ((List.range (min l.length 6)).map F) st sv s := fun e => by rw [← e]; exact hc
    have hlen : ((List.range i).map F).length = i := by rw [List.length_map, List.length_range]
    conv => whnf
    refine fork (fun h1 => ?_) (fun h1 => ?_) <;> rw [h1] <;> simp only [decide_eq_true_eq, decide_eq_false_iff_not] at h1
    · conv => whnf
      refine fork (fun h2 => ?_) (fun h2 => ?_) <;> rw [h2] <;> simp only [decide_eq_true_eq, decide_eq_false_iff_not] at h2
      · have hi' : i < min l.length 6 := by omega
        have hF := hat i (by omega)
        conv => whnf
        refine ⟨rfl, ⟨by omega, by omega⟩, ?_⟩; conv => whnf
        refine call1 (hS (i : Int).toNat _ _) ?_
        generalize hid : Int.tmod (IntKind.i64.wrap (IntKind.i64.wrap ((i : Int) * 7) + 3)) 10 = ID at hF
        generalize playPromo (l.getD (i : Int).toNat default) ID = Y at hF
        conv => whnf
        refine ColL.app (y := Y) (q := r57) rfl rfl rfl rfl rfl (by rfl) (by rw [hlen]; show (i + 1) * 208 ≤ 140737488355328; omega) hc (fun sv' t' hc' => ?_); conv => whnf
        refine ⟨rfl, ?_⟩; conv => whnf
        refine nx hi' ⟨sv', by rw [wrapN (by omega)], ?_⟩
        rw [hnext, hF]; exact hc'
      · conv => whnf
        exact hfin (by omega)
    · conv => whnf
      exact hfin (by omega)
abbrev fRates (l : List CatRate) : Nat → AV := fun i => eCatRate (l.getD i default)
def chainR (zs : Nat → List CatRate) (sv : Nat → AV) : Nat → St → St → Prop
  | 0 => Sup
  | k + 1 => fun s t => ROut (chainR zs sv k) 145 2 (fRates (zs k)) (zs k).length s (sv k) t
theorem besideChain (zs : Nat → List CatRate) (sv : Nat → AV) : ∀ k, Beside (chainR zs sv k)
  | 0 => besideSup
  | k + 1 => besideOut (besideChain zs sv k) _ _ _ _ _
theorem chain_congr {zs zs' : Nat → List CatRate} {sv sv' : Nat → AV} : ∀ (k : Nat) {s t : St}, (∀ j, j < k → zs j = zs' j ∧ sv j = sv' j) → chainR zs sv k s t → chainR zs' sv' k s t
  | 0, s, t, _, h => h
  | k + 1, s, t, he, h => by
    obtain ⟨s0, h1, h2⟩ := h
    obtain ⟨e1, e2⟩ := he k (Nat.lt_succ_self k)
    rw [e1, e2] at h1
    exact ⟨s0, h1, chain_congr k (fun j hj => he j (Nat.lt_succ_of_lt hj)) h2⟩
theorem freeze_chain {bz n ty : Nat} {zs : Nat → List CatRate} {sv : Nat → AV} {nm : Nat → Str} {r1 r2 : Nat → Int} : ∀ (k : Nat) (s t : St) (g : Nat → AV), k ≤ n → chainR zs sv k s t → s bz = some ⟨ty, 4, n, g⟩ → (∀ j, j < k → g j = .agg [eS (nm j), sv j, eI (r1 j), eI (r2 j)]) →
    ∃ t' g', (∀ vs, Shift vs t vs t') ∧ Sup (upd s bz ⟨ty, 4, n, g'⟩) t' ∧ (∀ j, j < k → g' j = .agg [eS (nm j), arrOf 2 eCatRate (zs j), eI (r1 j), eI (r2 j)]) ∧ ∀ j, k ≤ j → g' j = g j
  | 0, s, t, g, hk, h, hs, hg => by
    refine ⟨t, g, fun vs => Shift.refl _ _, fun b x hb => ?_, fun j hj => absurd hj (by omega), fun j _ => rfl⟩
    by_cases e : b = bz
    · subst e; rw [upd_same] at hb; cases hb; exact h _ _ hs
    · rw [upd_ne e] at hb; exact h _ _ hb
  | k + 1, s, t, g, hk, h, hs, hg => by
    have hB := besideChain zs sv k
    have ht : t bz = some ⟨ty, 4, n, g⟩ := (besideChain zs sv (k + 1)).sup h _ _ hs
    obtain ⟨t1, hsh, hc⟩ := ROut.shift hB h
    have ht1 : t1 bz = some ⟨ty, 4, n, g⟩ := hB.sup hc _ _ hs
    have hcell := fun vs => Shift.cell (vs := vs) (pre := [eS (nm k)]) (post := [eI (r1 k), eI (r2 k)]) hsh ht ht1 (show k < n by omega) (hg k (by omega)) rfl
    have hc' := hB.write (y' := ⟨ty, 4, n, fset g k (.agg ([eS (nm k)] ++ AV.arr 2 (zs k).length (fRates (zs k)) :: [eI (r1 k), eI (r2 k)]))⟩) hc hs
    obtain ⟨t', g', k1, k2, k3, k4⟩ := freeze_chain (nm := nm) (r1 := r1) (r2 := r2) k _ _ _ (by omega) hc' (upd_same ..) (fun j hj => by rw [fset_ne (by omega)]; exact hg j (by omega))
    rw [upd_twice] at k2
    refine ⟨t', g', fun vs => (hcell vs).trans (k1 vs), k2, fun j hj => ?_, fun j hj => ?_⟩
    · by_cases e : j = k
      · subst e; rw [k4 j (Nat.le_refl _), fset_same]; rfl
      · exact k3 j (by omega)
    · rw [k4 j (by omega), fset_ne (by omega)]
theorem zoneN_eq (k : Nat) (h : k < 3) : (⟨#[122]⟩ : Str) ++ strA ([] ++ [IntKind.u8.wrap (48 + IntKind.u8.wrap (k : Int))]) = zoneN k := by rw [wrap8]; rfl
theorem playZone_in {l : List Zone} {k : Nat} (h : k < l.length) : playZone l k = ⟨zoneN k, playRates (l.getD k default).rates, modB (l.getD k default).rest 3000, modB (l.getD k default).ship 3000⟩ := if_pos h
theorem playZone_out {l : List Zone} {k : Nat} (h : ¬ k < l.length) : playZone l k = ⟨zoneN k, [], 1000 * k, 500 * k⟩ := if_neg h
theorem rate_at {l : List CatRate} {c : Nat} (hc : c < min 3 l.length) : (playRates l).getD c default = playRate l c := by
  unfold playRates
  rw [List.getD_eq_getElem?_getD, List.getElem?_map, List.getElem?_range hc]; rfl
abbrev zoneV (z : Zone) (rv : AV) : AV := .agg [eS z.name, rv, eI z.rest, eI z.ship]
def ZO (t : Tax) (k : Nat) (base : St) (zv : AV) (s : St) : Prop :=
  ∃ (sv g : Nat → AV), ROut (chainR (fun j => (playZone t.zones j).rates) sv k) 143 4 g k base zv s ∧ ∀ j, j < k → g j = zoneV (playZone t.zones j) (sv j)
theorem ZO.end {t : Tax} {base s : St} {zv : AV} (h : ZO t 3 base zv s) : ∃ t', Shift [zv] s [arrOf 4 eZone (playTax t).zones] t' ∧ Sup base t' := by
  obtain ⟨sv, g, ⟨s1, hcol, hch⟩, hg⟩ := h
  rcases hcol with ⟨h0, _, _⟩ | ⟨h0, bz, g0, hbz, rfl, rfl, hgg⟩
  · cases h0
  obtain ⟨t', g', hsh, hsup, hg', _⟩ := freeze_chain (nm := fun j => (playZone t.zones j).name) (r1 := fun j => (playZone t.zones j).rest) (r2 := fun j => (playZone t.zones j).ship) 3 _ s g0 (Nat.le_refl _) hch (upd_same ..) (fun j hj => by rw [hgg j hj, hg j hj])
  rw [upd_twice] at hsup
  refine ⟨del t' bz, (hsh _).trans (shift_own (hsup bz _ (upd_same ..)) rfl (Nat.le_refl _) fun i hi => ?_), ?_⟩
  · show g' i = eZone ((playTax t).zones.getD i default)
    rw [hg' i hi]
    have : (playTax t).zones.getD i default = playZone t.zones i := by
      show ((List.range 3).map (playZone t.zones)).getD i default = _
      rw [List.getD_eq_getElem?_getD, List.getElem?_map, List.getElem?_range hi]; rfl
    rw [this]; rfl
  · exact Sup.del (((Sup.refl base).upd hbz).trans hsup) hbz
theorem ZO.next {t : Tax} {k : Nat} {base s1 s : St} {zv rv : AV} {sv g : Nat → AV} (hcol : Col 143 4 g base k zv s1) (hR : ROut (chainR (fun j => (playZone t.zones j).rates) sv k) 145 2 (fRates (playZone t.zones k).rates) (playZone t.zones k).rates.length s1 rv s) (hg : ∀ j, j < k → g j = zoneV (playZone t.zones j) (sv j)) :
    ∃ sv' g', ROut (chainR (fun j => (playZone t.zones j).rates) sv' (k + 1)) 143 4 g' k base zv s ∧ sv' k = rv ∧ (∀ j, j < k + 1 → g' j = zoneV (playZone t.zones j) (sv' j)) := by
  have hsv : ∀ j, j < k → sv j = (fun j => if j = k then rv else sv j) j := fun j hj => by simp only; rw [if_neg (by omega)]
  refine ⟨fun j => if j = k then rv else sv j, fun j => zoneV (playZone t.zones j) (if j = k then rv else sv j), ⟨s1, Col.congr hcol fun j hj => by rw [hg j hj]; show zoneV _ _ = zoneV _ (if j = k then rv else sv j); rw [if_neg (by omega)], ?_⟩, by simp, fun j _ => rfl⟩
  obtain ⟨s2, h1, h2⟩ := hR
  refine ⟨s2, ?_, chain_congr k (fun j hj => ⟨rfl, hsv j hj⟩) h2⟩
  simp only [if_true]; exact h1
theorem start_in {R : St → St → Prop} {ty e n b : Nat} {fo : Nat → AV} {base s : St} {zv : AV} {y : Blk} (h : ROut R ty e fo n (upd base b y) zv (upd s b y)) (ty' e' : Nat) (fo' : Nat → AV) : ∃ s1, Col ty e fo (upd base b y) n zv s1 ∧ ROut R ty' e' fo' 0 s1 .emp (upd s b y) := by
  obtain ⟨s1, h1, h2⟩ := h
  exact ⟨s1, h1, ROut.start h2 _ _ _⟩
theorem step_in {R : St → St → Prop} (hR : Beside R) {ty e n b ty' e' m : Nat} {fo fo' : Nat → AV} {base s1 t : St} {zv rv : AV} {y : Blk} (h1 : Col ty e fo (upd base b y) n zv s1) (h2 : ROut R ty' e' fo' m s1 rv t) (y' : Blk) :
    ∃ s1', Col ty e fo (upd base b y') n zv s1' ∧ ROut R ty' e' fo' m s1' rv (upd t b y') := by
  have h3 := Col.write (y' := y') h1 (upd_same ..)
  rw [upd_twice] at h3
  exact ⟨_, h3, ROut.write hR h2 (h1.sup b _ (upd_same ..))⟩
set_option maxHeartbeats 8000000 in
theorem playTax_S (x : Tax) (st : St) : S P 48 [eTax x] st fun v st' => v = eTax (playTax x) ∧ st' = st := by
  have hE : eTax (playTax x) = .agg [eB x.incl, eB x.byOrder, eI (modB x.round 3), arrOf 4 eZone (playTax x).zones] := rfl
  refine S.post (post := fun v s => ∃ zv base, v = .agg [eB x.incl, eB x.byOrder, eI (modB x.round 3), zv] ∧ Shift [zv] s [arrOf 4 eZone (playTax x).zones] base ∧ Sup st base) ?_ (fun v s ⟨zv, base, h1, h2, h3⟩ => ⟨_, st, ⟨hE.symm, rfl⟩, by
    rw [h1]
    exact (Shift.agg (Shift.cons (Shift.keep [eB x.incl] _) (Shift.cons (Shift.keep [eB x.byOrder] _) (Shift.cons (Shift.keep [eI (modB x.round 3)] _) h2)))).trans (h3.shift _)⟩)
  clear hE
  have hRd := fun s => mod_S x.round 3 (by decide) (by decide) s
  obtain ⟨RD', hRD'⟩ : ∃ RD', RD' = modB x.round 3 := ⟨_, rfl⟩
  rw [← hRD'] at hRd ⊢
  have hend := fun base s zv => ZO.end (t := x) (base := base) (s := s) (zv := zv)
  have hnext := fun k base s1 s zv rv sv g => ZO.next (t := x) (k := k) (base := base) (s1 := s1) (s := s) (zv := zv) (rv := rv) (sv := sv) (g := g)
  generalize arrOf 4 eZone (playTax x).zones = ZS at hend ⊢
  refine S_of_X [1] good mixed Tryz.func48 (by rfl) rfl rfl rfl ?_; conv => whnf
  intro b2 hb2; conv => whnf
  refine ⟨[8, 9], [1, 3, 5, 6], List.range 10, by kernel_rfl, ?_⟩; conv => whnf
  refine ⟨_, fun s _ => ⟨rfl, rfl⟩, ?_⟩; conv => whnf
  refine ⟨_, fun s _ => ⟨rfl, rfl⟩, ?_⟩; conv => whnf
  refine ⟨_, fun s _ => ⟨rfl, rfl⟩, ?_⟩; conv => whnf
  refine ⟨_, fun s _ => callQ (hRd s), ?_⟩; conv => whnf
  intro b3 hb3
  have h23 : b2 ≠ b3 := fun e => by subst e; rw [upd_same] at hb3; cases hb3
  conv => whnf
  refine stV (upd_same ..) rfl (by omega) rfl (by rfl) ?_
  rw [upd_twice]; conv => whnf
  refine lp 3 [1, 2, 3, 4] (fun k vs s => ∃ zv f, vs = [.fptr (eTax x) 0, .optr 4 b2 0 0, .optr 4 b3 0 0, eI k] ∧ f 0 = .agg [eB x.incl, eB x.byOrder, eI RD', zv] ∧ ZO x k (upd (upd st b2 ⟨26, 4, 1, fun _ => avOf r26.zero⟩) b3 ⟨26, 4, 1, f⟩) zv s) ?_ ?_
  · conv => whnf
    exact ⟨.emp, _, rfl, by first | rfl | (rw [fset_same]; rfl), fun _ => .junk, fun _ => .junk, ROut.start (show chainR _ _ 0 _ _ from Sup.refl _) _ _ _, fun j hj => absurd hj (by omega)⟩
  rintro k vs s hk ⟨zv, f, rfl, hf, sv, g, hR, hg⟩
  have hB := besideChain (fun j => (playZone x.zones j).rates) sv k
  have hsup := ROut.sup hB hR
  have at3 : s b3 = some ⟨26, 4, 1, f⟩ := hsup b3 _ (upd_same ..)
  have at2 : s b2 = some ⟨26, 4, 1, fun _ => avOf r26.zero⟩ := hsup b2 _ (by rw [upd_ne h23]; exact upd_same ..)
  conv => whnf
  refine fork (fun h1 => ?_) (fun h1 => ?_) <;> rw [h1] <;> simp only [decide_eq_true_eq, decide_eq_false_iff_not] at h1
  case refine_2 =>
    obtain rfl : k = 3 := by omega
    have hz := ROut.head hR
    obtain ⟨y2, hy2⟩ : ∃ y2 : Blk, y2 = ⟨26, 4, 1, fset (fun _ => avOf r26.zero) 0 (.agg [eB x.incl, eB x.byOrder, eI RD', zv])⟩ := ⟨_, rfl⟩
    obtain ⟨base, k1, k2⟩ := hend _ _ _ ⟨sv, g, ROut.write hB hR (b := b2) (y' := y2) (by rw [upd_ne h23]; exact upd_same ..), hg⟩
    subst hy2
    rcases hz with rfl | ⟨bz, rfl⟩
    all_goals
      conv => whnf
      refine ldV at3 rfl (by omega) hf ?_; conv => whnf
      refine stV at2 rfl (by omega) rfl (by rfl) ?_; conv => whnf
      refine ldV (upd_same ..) rfl (by omega) (fset_same ..) ?_; conv => whnf
      exact ⟨_, base, rfl, k1, ((((Sup.refl st).upd hb2).upd hb3).over hb2).trans k2⟩
  have hk3 : k < 3 := by omega
  have hzn := zoneN_eq k hk3
  have w1 : IntKind.i64.wrap (1000 * (k : Int)) = 1000 * k := wrap64_of (by omega) (by omega)
  have w2 : IntKind.i64.wrap (500 * (k : Int)) = 500 * k := wrap64_of (by omega) (by omega)
  have hname : ∀ j, (playZone x.zones j).name = zoneN j := fun j => by unfold playZone; split <;> rfl
  conv => whnf
  intro b5 hb5
  have h35 : b3 ≠ b5 := fun e => by subst e; rw [at3] at hb5; cases hb5
  have h25 : b2 ≠ b5 := fun e => by subst e; rw [at2] at hb5; cases hb5
  have hbase5 : (upd (upd st b2 ⟨26, 4, 1, fun _ => avOf r26.zero⟩) b3 ⟨26, 4, 1, f⟩) b5 = none := hsup.none hb5
  conv => whnf
  rw [hzn, w1, w2]
  refine stV (upd_same ..) rfl (by omega) rfl (by rfl) ?_
  rw [upd_twice]
  /- the tail: the zone as it then stands is appended -/
  have tail : ∀ (s2 s1 : St) (rv : AV) (f5 : Nat → AV), Col 143 4 g (upd (upd (upd st b2 ⟨26, 4, 1, fun _ => avOf r26.zero⟩) b3 ⟨26, 4, 1, f⟩) b5 ⟨143, 4, 1, f5⟩) k zv s1 →
      ROut (chainR (fun j => (playZone x.zones j).rates) sv k) 145 2 (fRates (playZone x.zones k).rates) (playZone x.zones k).rates.length s1 rv s2 →
      ∀ (X : AV) (gg : Nat → AV), srcOf 4 s2 X = some (1, gg) → gg 0 = zoneV (playZone x.zones k) rv →
      ∀ (K : KK), (∀ zv' t2, t2 b3 = some ⟨26, 4, 1, f⟩ → (zv' = .emp ∨ ∃ b, zv' = .own 4 b 0 (k + 1)) → (∀ f', ZO x (k + 1) (upd (upd st b2 ⟨26, 4, 1, fun _ => avOf r26.zero⟩) b3 ⟨26, 4, 1, f'⟩) zv' (upd t2 b3 ⟨26, 4, 1, f'⟩)) → K zv' t2) →
      xApp T 24 zv X s2 K := by
    intro s2 s1 rv f5 hcol hrt X gg hs hgg K hK
    obtain ⟨sv', g', q1, q2, q3⟩ := hnext _ _ _ _ _ _ _ _ hcol hrt hg
    have hB' := besideChain (fun j => (playZone x.zones j).rates) sv' (k + 1)
    refine ROut.app (q := r143) (f := g') hB' rfl rfl rfl rfl hs (by rw [q3 k (Nat.lt_succ_self k), q2, hgg]) (by show (k + 1) * 56 ≤ 140737488355328; omega) q1 (fun zv' t2 hR2 => ?_)
    have hsup2 := ROut.sup hB' hR2
    have hd : ∀ f', ROut (chainR (fun j => (playZone x.zones j).rates) sv' (k + 1)) 143 4 g' (k + 1) (upd (upd st b2 ⟨26, 4, 1, fun _ => avOf r26.zero⟩) b3 ⟨26, 4, 1, f'⟩) zv' (upd t2 b3 ⟨26, 4, 1, f'⟩) := fun f' => by
      have h1 := ROut.write hB' hR2 (b := b3) (y' := ⟨26, 4, 1, f'⟩) (by rw [upd_ne h35]; exact upd_same ..)
      rw [upd_comm h35.symm, upd_twice] at h1
      refine (besideOut hB' _ _ _ _ _).drop h1 ?_
      rw [upd_ne h35.symm] at hbase5 ⊢; exact hbase5
    exact hK zv' t2 (hsup2 b3 _ (by rw [upd_ne h35]; exact upd_same ..)) (ROut.head hR2) fun f' => ⟨sv', g', hd f', q3⟩
  have hbeg := fun y => (besideOut hB 143 4 g k zv).begin (y := y) hR hb5
  conv => whnf
  refine fork (fun h2 => ?_) (fun h2 => ?_) <;> rw [h2] <;> simp only [decide_eq_true_eq, decide_eq_false_iff_not] at h2
  case refine_2 =>
    have hz := playZone_out (l := x.zones) (k := k) (by omega)
    rw [hz] at tail
    rcases ROut.head hR with rfl | ⟨bz, rfl⟩
    all_goals
      conv => whnf
      refine ldV (by rw [upd_ne h35]; exact at3) rfl (by omega) hf ?_; conv => whnf
      refine ldV (upd_same ..) rfl (by omega) (fset_same ..) ?_; conv => whnf
      obtain ⟨s1, hcol, hrt⟩ := start_in (hbeg ⟨143, 4, 1, fset (fun _ => avOf r143.zero) 0 (.agg [eS (zoneN k), .emp, eI (1000 * k), eI (500 * k)])⟩) 145 2 (fRates [])
      refine tail _ s1 .emp _ hcol hrt _ _ rfl rfl _ (fun zv' t2 q1 q2 q3 => ?_)
      rcases q2 with rfl | ⟨bq, rfl⟩
      all_goals
        conv => whnf
        refine stV q1 rfl (by omega) hf (by rfl) ?_; conv => whnf
        refine ⟨rfl, ?_⟩; conv => whnf
        exact nx hk3 ⟨_, _, by rw [wrapN (by omega)], (by rw [fset_same]; rfl), q3 _⟩
  have hz := playZone_in (l := x.zones) (k := k) (by omega)
  have hrl := fun c => rate_at (l := (x.zones.getD (k : Int).toNat default).rates) (c := c)
  have hrn : (playRates (x.zones.getD (k : Int).toNat default).rates).length = min 3 (x.zones.getD (k : Int).toNat default).rates.length := by unfold playRates; rw [List.length_map, List.length_range]
  rw [hz] at tail
  have hM1 := fun s => mod64_S' (x.zones.getD (k : Int).toNat default).rest 3000 (by decide) (by decide) s
  have hM2 := fun s => mod64_S' (x.zones.getD (k : Int).toNat default).ship 3000 (by decide) (by decide) s
  have tail' : _ := tail
  rw [show x.zones.getD k default = x.zones.getD (k : Int).toNat default from rfl] at tail'
  clear tail
  generalize playRates (x.zones.getD (k : Int).toNat default).rates = RL at tail' hrl hrn
  generalize modB (x.zones.getD (k : Int).toNat default).rest 3000 = M1 at tail' hM1
  generalize modB (x.zones.getD (k : Int).toNat default).ship 3000 = M2 at tail' hM2
  conv => whnf
  refine ⟨[15, 17], [], List.range 18, by kernel_rfl, ?_⟩; conv => whnf
  refine ⟨rfl, ⟨by omega, by omega⟩, ?_⟩; conv => whnf
  refine ⟨_, callQ (hM1 _), ?_⟩; conv => whnf
  refine ⟨rfl, ⟨by omega, by omega⟩, ?_⟩; conv => whnf
  refine ⟨_, callQ (hM2 _), ?_⟩; conv => whnf
  refine stV (upd_same ..) rfl (by omega) (fset_same ..) (by rfl) ?_
  rw [upd_twice]; conv => whnf
  refine stV (upd_same ..) rfl (by omega) (fset_same ..) (by rfl) ?_
  rw [upd_twice]; conv => whnf
  refine lp (min 3 (x.zones.getD (k : Int).toNat default).rates.length) [1, 2, 3, 4, 5, 6] (fun c vs s' => ∃ rv f5, vs = [.fptr (eTax x) 0, .optr 4 b2 0 0, .optr 4 b3 0 0, eI k, .optr 4 b5 0 0, eI c] ∧ f5 0 = .agg [eS (zoneN k), rv, eI M1, eI M2] ∧
      ∃ s1, Col 143 4 g (upd (upd (upd st b2 ⟨26, 4, 1, fun _ => avOf r26.zero⟩) b3 ⟨26, 4, 1, f⟩) b5 ⟨143, 4, 1, f5⟩) k zv s1 ∧ ROut (chainR (fun j => (playZone x.zones j).rates) sv k) 145 2 (fRates RL) c s1 rv s') ?_ ?_
  · conv => whnf
    exact ⟨.emp, _, rfl, by first | rfl | (rw [fset_same]; rfl), start_in (hbeg _) _ _ _⟩
  rintro c vs s' hc ⟨rv, f5, rfl, hf5, s1, hcol, hrt⟩
  have hsup' := ROut.sup hB hrt
  have at5 : s' b5 = some ⟨143, 4, 1, f5⟩ := hsup' b5 _ (hcol.sup b5 _ (upd_same ..))
  have at3' : s' b3 = some ⟨26, 4, 1, f⟩ := hsup' b3 _ (hcol.sup b3 _ (by rw [upd_ne h35]; exact upd_same ..))
  conv => whnf
  refine fork (fun h3 => ?_) (fun h3 => ?_) <;> rw [h3] <;> simp only [decide_eq_true_eq, decide_eq_false_iff_not] at h3
  case' refine_1 =>
    conv => whnf
    refine ⟨rfl, ⟨by omega, by omega⟩, ?_⟩; conv => whnf
    refine fork (fun h4 => ?_) (fun h4 => ?_) <;> rw [h4] <;> simp only [decide_eq_true_eq, decide_eq_false_iff_not] at h4
  case refine_1.refine_1 =>
    have hc' : c < min 3 (x.zones.getD (k : Int).toNat default).rates.length := by omega
    have hra := hrl c hc'
    rcases ROut.head hrt with rfl | ⟨br, rfl⟩
    all_goals
      conv => whnf
      refine ⟨[17, 19], [14], List.range 20, by kernel_rfl, ?_⟩; conv => whnf
      refine ldV at5 rfl (by omega) hf5 ?_; conv => whnf
      refine ⟨_, callQ (category_S _ _), ?_⟩; conv => whnf
      refine ⟨rfl, ⟨by omega, by omega⟩, ?_⟩; conv => whnf
      refine ⟨rfl, ⟨by omega, by omega⟩, ?_⟩; conv => whnf
      refine ⟨_, fun s _ => callQ (mod64_S' _ 3000 (by decide) (by decide) s), ?_⟩; conv => whnf
      refine ⟨_, ⟨rfl, rfl⟩, ?_⟩; conv => whnf
      refine ROut.app (q := r145) hB rfl rfl rfl rfl rfl (f := fRates RL) (by show _ = eCatRate _; rw [hra]; rfl) (by show (c + 1) * 24 ≤ 140737488355328; omega) hrt (fun rv' t2 hrt2 => ?_)
      have at5' : t2 b5 = some ⟨143, 4, 1, f5⟩ := ROut.sup hB hrt2 b5 _ (hcol.sup b5 _ (upd_same ..))
      rcases ROut.head hrt2 with rfl | ⟨br', rfl⟩
      all_goals
        conv => whnf
        refine stV at5' rfl (by omega) hf5 (by rfl) ?_; conv => whnf
        refine ⟨rfl, ?_⟩; conv => whnf
        exact nx hc' ⟨_, _, by rw [wrapN (by omega)], (by rw [fset_same]; rfl), step_in hB hcol hrt2 _⟩
  all_goals
    have hce : RL.length = c := by omega
    rw [← hce] at hrt
    rcases ROut.head hR with rfl | ⟨bz, rfl⟩
    all_goals
      rcases ROut.head hrt with rfl | ⟨br, rfl⟩
      all_goals
        conv => whnf
        refine ldV at3' rfl (by omega) hf ?_; conv => whnf
        refine ldV at5 rfl (by omega) hf5 ?_; conv => whnf
        refine tail' _ s1 _ _ hcol hrt _ _ rfl rfl _ (fun zv' t2 q1 q2 q3 => ?_)
        rcases q2 with rfl | ⟨bq, rfl⟩
        all_goals
          conv => whnf
          refine stV q1 rfl (by omega) hf (by rfl) ?_; conv => whnf
          refine ⟨rfl, ?_⟩; conv => whnf
          exact nx hk3 ⟨_, _, by rw [wrapN (by omega)], (by rw [fset_same]; rfl), q3 _⟩
set_option maxHeartbeats 8000000 in
theorem playRules_S (r : Rules) (st : St) : S P 16 [eRules r] st fun v st' => v = eRules (playRules r) ∧ st' = st := by
  have hE : eRules (playRules r) = .agg [arrOf 4 eItem (playItems r.items), arrOf 15 ePromo (playPromos r.promos), eB (playTax r.tax).incl, eB (playTax r.tax).byOrder, eI (playTax r.tax).round, arrOf 4 eZone (playTax r.tax).zones, eI (modB r.ship.fee 900), eI (modB r.ship.free 3 * 4000),
    eI (20 + modB r.policy.window 60), eI (modB r.policy.grace 40), eI (1 + modB r.policy.mode 3), eI (modB r.policy.restock 3 * modB r.policy.restock 2500), eInts (playKinds r.policy.order), eInts (playKinds r.policy.credit)] := rfl
  rw [hE]
  clear hE
  have h1 := modB_lt r.ship.fee (n := 900) (by decide)
  have h2 := modB_lt r.ship.free (n := 3) (by decide)
  have h3 := modB_lt r.policy.window (n := 60) (by decide)
  have h5 := modB_lt r.policy.mode (n := 3) (by decide)
  have h6 := modB_lt r.policy.restock (n := 3) (by decide)
  have h7 := modB_lt r.policy.restock (n := 2500) (by decide)
  have h8 : modB r.policy.restock 3 * modB r.policy.restock 2500 ≤ 2 * 2499 := Int.mul_le_mul (by omega) (by omega) (by omega) (by omega)
  have h9 : 0 ≤ modB r.policy.restock 3 * modB r.policy.restock 2500 := Int.mul_nonneg h6.1 h7.1
  have w1 : IntKind.i64.wrap (modB r.ship.free 3 * 4000) = modB r.ship.free 3 * 4000 := wrap64_of (by omega) (by omega)
  have w2 : IntKind.i64.wrap (20 + modB r.policy.window 60) = 20 + modB r.policy.window 60 := wrap64_of (by omega) (by omega)
  have w3 : IntKind.i64.wrap (1 + modB r.policy.mode 3) = 1 + modB r.policy.mode 3 := wrap64_of (by omega) (by omega)
  have w4 : IntKind.i64.wrap (modB r.policy.restock 3 * modB r.policy.restock 2500) = modB r.policy.restock 3 * modB r.policy.restock 2500 := wrap64_of (by omega) (by omega)
  have m1 := fun s => mod64_S' r.ship.fee 900 (by decide) (by decide) s
  have m2 := fun s => mod64_S' r.ship.free 3 (by decide) (by decide) s
  have m3 := fun s => mod_S r.policy.window 60 (by decide) (by decide) s
  have m4 := fun s => mod_S r.policy.grace 40 (by decide) (by decide) s
  have m5 := fun s => mod_S r.policy.mode 3 (by decide) (by decide) s
  have m6 := fun s => mod64_S' r.policy.restock 3 (by decide) (by decide) s
  have m7 := fun s => mod64_S' r.policy.restock 2500 (by decide) (by decide) s
  have c1 := fun s => playItems_S r.items s
  have c2 := fun s => playPromos_S r.promos s
  have c3 : ∀ s, S P 48 [eTax r.tax] s fun v st' => v = .agg [eB (playTax r.tax).incl, eB (playTax r.tax).byOrder, eI (playTax r.tax).round, arrOf 4 eZone (playTax r.tax).zones] ∧ st' = s := fun s => playTax_S r.tax s
  have c4 := fun s => playKinds_S r.policy.order s
  have c5 := fun s => playKinds_S r.policy.credit s
  clear h1 h2 h3 h5 h6 h7 h8 h9
  generalize modB r.ship.fee 900 = M1 at *
  generalize modB r.ship.free 3 = M2 at *
  generalize modB r.policy.window 60 = M3 at *
  generalize modB r.policy.grace 40 = M4 at *
  generalize modB r.policy.mode 3 = M5 at *
  generalize modB r.policy.restock 3 = M6 at *
  generalize modB r.policy.restock 2500 = M7 at *
  generalize playItems r.items = V1 at *
  generalize playPromos r.promos = V2 at *
  generalize playTax r.tax = V3 at *
  generalize playKinds r.policy.order = V4 at *
  generalize playKinds r.policy.credit = V5 at *
  refine S_sup ?_
  refine S_of_X [1, 3] good mixed Tryz.func16 (by rfl) rfl rfl rfl ?_; conv => whnf
  intro b2 hb; conv => whnf
  refine ⟨[45], [], List.range 46, by kernel_rfl, ?_⟩; conv => whnf
  refine ⟨_, callQ (c1 _), ?_⟩; conv => whnf
  refine ⟨_, callQ (c2 _), ?_⟩; conv => whnf
  refine ⟨_, callQ (c3 _), ?_⟩; conv => whnf
  refine ⟨_, callQ (m1 _), ?_⟩; conv => whnf
  refine ⟨_, callQ (m2 _), ?_⟩; conv => whnf
  rw [w1]
  refine ⟨_, callQ (m3 _), ?_⟩; conv => whnf
  rw [w2]
  refine ⟨_, callQ (m4 _), ?_⟩; conv => whnf
  refine ⟨_, callQ (m5 _), ?_⟩; conv => whnf
  rw [w3]
  refine ⟨_, callQ (m6 _), ?_⟩; conv => whnf
  refine ⟨_, callQ (m7 _), ?_⟩; conv => whnf
  rw [w4]
  refine ⟨_, callQ (c4 _), ?_⟩; conv => whnf
  refine ⟨_, callQ (c5 _), ?_⟩; conv => whnf
  refine stV (upd_same ..) rfl (by omega) rfl (by rfl) ?_; conv => whnf
  refine ldV (upd_same ..) rfl (by omega) (fset_same ..) ?_; conv => whnf
  exact ⟨rfl, ((Sup.refl st).upd hb).over hb⟩
theorem turn_list {α : Type} [Inhabited α] (l : List α) {t : Nat} (ht : t < l.length) : (List.range l.length).map (fun i => l.getD ((i + t) % l.length) default) = l.drop t ++ l.take t := by
  refine List.ext_getElem (by rw [List.length_map, List.length_range, List.length_append, List.length_drop, List.length_take]; omega) fun i h1 h2 => ?_
  rw [List.length_map, List.length_range] at h1
  rw [List.getElem_map, List.getElem_range]
  by_cases h : i < (l.drop t).length
  · rw [List.getElem_append_left h, List.getElem_drop]
    rw [List.length_drop] at h
    rw [Nat.mod_eq_of_lt (by omega), List.getD_eq_getElem?_getD, List.getElem?_eq_getElem (by omega), Option.getD_some]
    congr 1; omega
  · rw [List.getElem_append_right (by omega), List.getElem_take]
    rw [List.length_drop] at h
    simp only [List.length_drop]
    rw [Nat.mod_eq_sub_mod (by omega), Nat.mod_eq_of_lt (by omega), List.getD_eq_getElem?_getD, List.getElem?_eq_getElem (by omega), Option.getD_some]
    congr 1; omega
theorem rev_list {α : Type} (g : Nat → α) (n : Nat) : (List.range n).map (fun j => g (n - 1 - j)) = ((List.range n).map g).reverse := by
  refine List.ext_getElem (by simp) fun i h1 h2 => ?_
  simp
def turned (l : List Promo) (t j : Nat) : List Promo := (List.range j).map fun a => l.getD ((l.length - 1 - a + t) % l.length) default
theorem turned_perm (l : List Promo) {t : Nat} (ht : t < l.length) : (turned l t l.length).Perm l := by
  unfold turned
  rw [rev_list (fun i => l.getD ((i + t) % l.length) default), turn_list l ht]
  refine (List.reverse_perm _).trans (List.perm_append_comm.trans ?_)
  rw [List.take_append_drop]
theorem turned_nil (l : List Promo) (t : Nat) (h : l.length = 0) : turned l t l.length = l := by
  rw [List.eq_nil_of_length_eq_zero h]; rfl
theorem turned_len (l : List Promo) (t j : Nat) : (turned l t j).length = j := by unfold turned; rw [List.length_map, List.length_range]
theorem turned_succ (l : List Promo) (t j : Nat) : turned l t (j + 1) = turned l t j ++ [l.getD ((l.length - 1 - j + t) % l.length) default] := by
  unfold turned; rw [List.range_succ, List.map_append]; rfl
theorem turn_idx {n j : Nat} (hj : j < n) (hn : n ≤ 60) (m : Int) (h0 : 0 ≤ m) (h1 : m < n) : Int.tmod (IntKind.i64.wrap (((n : Int) - 1 - j) + m)) n = (((n - 1 - j + m.toNat) % n : Nat) : Int) := by
  rw [wrap64_of (by omega) (by omega), Int.tmod_eq_emod_of_nonneg (by omega), show ((n : Int) - 1 - j + m) = ((n - 1 - j + m.toNat : Nat) : Int) by omega]
  first | exact (Int.natCast_emod _ _).symm | exact (Int.ofNat_emod _ _).symm | rfl
theorem turn_check {R : Rules} {C : List Str} {L : List Line} (h : PlayOk R C L) {M : List Promo} (hM : M.Perm R.promos) : priceCheck { R with promos := M } C L = 0 := by
  have hr := (rules_turn hM h.right h.fit).1
  have hc := h.check
  unfold priceCheck at hc ⊢
  rw [if_neg (by rw [h.right]; simp), if_neg (by rw [h.codes]; simp)] at hc
  rw [if_neg (by rw [hr]; simp), if_neg (by rw [h.codes]; simp)]; exact hc
theorem turn_S {R : Rules} {C : List Str} {L : List Line} (h : PlayOk R C L) {M : List Promo} (hM : M.Perm R.promos) (st : St) :
    S P 19 [eRules { R with promos := M }, eStrs C, arrOf 3 eLine L] st fun v s => v = .tuple [ePriced (priceR R C L), eI 0] ∧ s = st := by
  have h2 := price1_S (turn_check h hM) (rules_turn hM h.right h.fit).2 (promosC_turn hM h.promosC) (by show M.length ≤ 6; rw [hM.length_eq]; exact h.few) h.items h.ncodes st
  have e : priceR { R with promos := M } C L = priceR R C L := priceB_turn hM h.promosC C L
  rw [e] at h2; exact h2
set_option maxHeartbeats 8000000 in
theorem priceOrder_S (r : Rules) (codes : List Str) (l : List Line) (turn : Int) (st : St) : S P 7 [eRules r, eStrs codes, arrOf 3 eLine l, eI turn] st fun v st' => v = .bool true := by
  have hOk := playOk r codes l
  have cR := fun s => playRules_S r s
  have cC := fun s => playCodes_S codes s
  have cL := fun s => playLines_S l s
  generalize playRules r = R at hOk cR
  generalize playCodes codes = C at hOk cC
  generalize playLines l = L at hOk cL
  have hfew := hOk.few
  have p1 := fun s => hOk.price_S s
  have p2 := fun (M : List Promo) (hM : M.Perm R.promos) s => turn_S hOk hM s
  have p3 := fun s => hOk.same_S s
  generalize priceR R C L = Pr at p1 p2 p3
  have fw := fun s => few0_S r codes s
  generalize (fewC r && decide ((codes.length : Int) < 30)) = FW at fw
  refine S_of_X [] good mixed Tryz.func7 (by rfl) rfl rfl rfl ?_; conv => whnf
  intro b4 hb4; conv => whnf
  refine ldV (upd_same ..) rfl (by omega) rfl ?_; conv => whnf
  refine call1 (fw _) ?_; conv => whnf
  cases FW
  case' true =>
    conv => whnf
    refine fork (fun h => ?_) (fun h => ?_) <;> rw [h]
  case true.refine_2 =>
    conv => whnf
    refine ldV (upd_same ..) rfl (by omega) rfl ?_; conv => whnf
    refine call1 (cR _) ?_; conv => whnf
    refine call1 (cC _) ?_; conv => whnf
    refine call1 (cL _) ?_; conv => whnf
    refine stV (upd_same ..) rfl (by omega) rfl (by rfl) ?_
    rw [upd_twice]; conv => whnf
    refine ldV (upd_same ..) rfl (by omega) (fset_same ..) ?_; conv => whnf
    refine call1 (p1 _) ?_; conv => whnf
    intro b9 hb9
    have h49 : b4 ≠ b9 := fun e => by subst e; rw [upd_same] at hb9; cases hb9
    conv => whnf
    refine stV (upd_same ..) rfl (by omega) rfl (by rfl) ?_
    rw [upd_twice]; conv => whnf
    refine ldV (by rw [upd_ne h49]; exact upd_same ..) rfl (by omega) (fset_same ..) ?_
    generalize hst : (upd (upd st b4 _) b9 _ : St) = S0
    obtain ⟨f9, at9, hf9⟩ : ∃ f9 : Nat → AV, S0 b9 = some ⟨44, 4, 1, f9⟩ ∧ f9 0 = ePriced Pr := by
      rw [← hst]; exact ⟨_, upd_same .., by rw [fset_same]; rfl⟩
    obtain ⟨f4, at4, hf4⟩ : ∃ f4 : Nat → AV, S0 b4 = some ⟨33, 14, 1, f4⟩ ∧ f4 0 = eRules R := by
      rw [← hst, upd_ne h49]; exact ⟨_, upd_same .., by rw [fset_same]; rfl⟩
    clear hst
    conv => whnf
    obtain ⟨n, hn⟩ : ∃ n, n = R.promos.length := ⟨_, rfl⟩
    have w0 : IntKind.i64.wrap ((R.promos.length : Int) - 1) = (n : Int) - 1 - (0 : Nat) := by rw [hn, wrap64_of (by omega) (by omega)]; omega
    refine lp n [1, 2, 3, 4, 9, 10, 11, 12, 13] (fun j vs s => ∃ sv, vs = [eStrs C, arrOf 3 eLine L, eI turn, .optr 14 b4 0 0, .optr 4 b9 0 0, eI 0, eI n, sv, eI ((n : Int) - 1 - j)] ∧ ColL 57 15 ePromo (turned R.promos (modB turn n).toNat j) S0 sv s) ?_ ?_
    · conv => whnf
      exact ⟨.emp, by rw [← w0, hn], ColL.start _ _ _ _⟩
    rintro j vs s hj ⟨sv, rfl, hc⟩
    have hsup := hc.sup
    have at4' := hsup b4 _ at4
    have at9' := hsup b9 _ at9
    conv => whnf
    refine fork (fun h1 => ?_) (fun h1 => ?_) <;> rw [h1] <;> simp only [decide_eq_true_eq, decide_eq_false_iff_not] at h1
    · have hj' : j < n := by omega
      have hm := modB_lt turn (n := (n : Int)) (by omega)
      have hix := turn_idx hj' (by omega) (modB turn n) hm.1 hm.2
      have hts := turned_succ R.promos (modB turn n).toNat j
      rw [← hn] at hts
      have hil : (n - 1 - j + (modB turn n).toNat) % n < R.promos.length := by rw [← hn]; exact Nat.mod_lt _ (by omega)
      have htl := turned_len R.promos (modB turn n).toNat j
      have hw1 : IntKind.i64.wrap ((n : Int) - 1 - j - 1) = (n : Int) - 1 - (j + 1 : Nat) := by rw [wrap64_of (by omega) (by omega)]; omega
      generalize (n - 1 - j + (modB turn n).toNat) % n = ix at hix hts hil
      conv => whnf
      refine ⟨[12, 13], [], List.range 15, by kernel_rfl, ?_⟩; conv => whnf
      refine ldV at4' rfl (by omega) hf4 ?_; conv => whnf
      refine ⟨_, callQ (mod_S turn n (by omega) (by omega) _), ?_⟩; conv => whnf
      rw [decide_eq_false (show ¬ (n : Int) = 0 by omega)]; conv => whnf
      rw [hix]; conv => whnf
      refine ⟨rfl, ⟨by omega, by omega⟩, ?_⟩; conv => whnf
      refine ColL.app (y := R.promos.getD ix default) (q := r57) rfl rfl rfl rfl rfl (by rfl) (by rw [htl]; show (j + 1) * 208 ≤ 140737488355328; omega) hc (fun sv' t' hc' => ?_); conv => whnf
      rw [hw1]
      refine ⟨rfl, ?_⟩; conv => whnf
      exact nx hj' ⟨sv', rfl, by rw [hts]; exact hc'⟩
    · have hjn : j = n := by omega
      subst hjn
      have hperm : (turned R.promos (modB turn j).toNat j).Perm R.promos := by
        by_cases h0 : j = 0
        · rw [hn] at h0 ⊢; rw [turned_nil _ _ h0]
        · rw [hn]; refine turned_perm _ ?_; have := modB_lt turn (n := (R.promos.length : Int)) (by omega); omega
      have p2' := p2 _ hperm
      generalize turned R.promos (modB turn j).toNat j = M at hc p2'
      have hsv : sv = .emp ∨ ∃ b, sv = .own 15 b 0 M.length := by
        rcases hc with ⟨_, h3, _⟩ | ⟨_, b, g, _, h3, _⟩
        · exact .inl h3
        · exact .inr ⟨b, h3⟩
      have hwr := fun y' => Col.write (y' := y') hc at4
      rcases hsv with rfl | ⟨bm, rfl⟩
      all_goals
        conv => whnf
        refine stV at4' rfl (by omega) hf4 (by rfl) ?_; conv => whnf
        refine ldV (upd_same ..) rfl (by omega) (fset_same ..) ?_; conv => whnf
        refine call_shift (Shift.cons (Shift.agg (Shift.cons (Shift.keep [arrOf 4 eItem R.items] _) (Shift.cons (Col.shift (hwr _)) (Shift.keep _ _)))) (Shift.keep _ _)) (call1 (p2' _) ?_); conv => whnf
        intro b14 hb14; conv => whnf
        have n94 : b9 ≠ b4 := fun e => by subst e; rw [at4] at at9; cases at9
        have at9u : ∀ Y, upd S0 b4 Y b9 = some ⟨44, 4, 1, f9⟩ := fun Y => by rw [upd_ne n94]; exact at9
        have n914 : b9 ≠ b14 := fun e => by subst e; rw [at9u] at hb14; cases hb14
        refine stV (upd_same ..) rfl (by omega) rfl (by rfl) ?_
        rw [upd_twice]; conv => whnf
        refine call1 (awake_S _) ?_; conv => whnf
        refine ldV (by rw [upd_ne n914]; exact at9u _) rfl (by omega) hf9 ?_; conv => whnf
        refine ldV (upd_same ..) rfl (by omega) (fset_same ..) ?_; conv => whnf
        refine call1 (p3 _) ?_; conv => whnf
        exact rfl
  all_goals
    conv => whnf
    refine call1 (awake_S _) ?_; conv => whnf
    exact rfl
end Go.Proofs.YtnekegdhpjplbaaGreat
namespace Go.Ab
open Go Go.ChangeShapes
inductive LK where
  | bool
  | int (k : IntKind)
  | str
  | sl (ks : List LK)
def aggOf (l : List AV) : AV := match l with | [v] => v | l => .agg l
inductive Fit : LK → AV → Prop
  | bool (b : Bool) : Fit .bool (.bool b)
  | int (k : IntKind) (n : Int) (h : (Lit.int k n).wf = true) : Fit (.int k) (.int k n)
  | str (s : ByteArray) (h : s.size ≤ maxLen) : Fit .str (.str s)
  | sl (ks : List LK) (n : Nat) (L : Nat → List AV) (hn : n ≤ maxLen) (hl : ∀ i, i < n → (L i).length = ks.length) (hf : ∀ (i j : Nat) (y : AV) (k : LK), i < n → (L i)[j]? = some y → ks[j]? = some k → Fit k y) : Fit (.sl ks) (.arr ks.length n fun i => aggOf (L i))
theorem Fit.one {k : LK} {v : AV} (h : Fit k v) : v.one = true := by cases h <;> rfl
theorem cells_one {v : AV} (h : v.one = true) : cellsOf v = [v] := by cases v <;> first | rfl | cases h
theorem cells_agg {l : List AV} (h : ∀ v ∈ l, v.one = true) : cellsOf (aggOf l) = l := by
  unfold aggOf
  split
  · exact cells_one (h _ (List.mem_singleton.2 rfl))
  · rfl
theorem addr_add (a : Addr) (n m : Nat) : a.add (n + m) = (a.add n).add m := by
  unfold Addr.add
  by_cases h : n = 0
  · subst h; simp
  · by_cases k : m = 0
    · subst k; simp [h]
    · simp [h, k, Nat.add_assoc]
def fieldsK (P : Program) (r : TypeId → Option (List LK)) : List Field → Nat → Option (List LK)
  | [], _ => some []
  | f :: fs, o => match Nat.beq f.offset o, r f.type with
    | true, some ks => (match Nat.beq (P.cellsOf f.type) ks.length, fieldsK P r fs (o + ks.length) with
      | true, some l => some (ks ++ l)
      | _, _ => none)
    | _, _ => none
def kindsOf (P : Program) : Nat → TypeId → Option (List LK)
  | 0, _ => none
  | n + 1, t => match P.underlying t with
    | some .bool => some [.bool]
    | some (.int k) => some [.int k]
    | some .string => some [.str]
    | some (.slice e) => (match kindsOf P n e with
      | some ks => (match Nat.beq (P.cellsOf e) ks.length with | true => some [.sl ks] | false => none)
      | none => none)
    | some (.struct fs) => (match fieldsK P (kindsOf P n) fs.toList 0 with
      | some ks => (match Nat.beq (P.cellsOf t) ks.length with | true => some ks | false => none)
      | none => none)
    | _ => none
structure FitL (w : World) (ks : List LK) (l : List AV) (cs : List Value) : Prop where
  len : l.length = ks.length
  clen : cs.length = ks.length
  fit : ∀ (j : Nat) (y : AV) (k : LK), l[j]? = some y → ks[j]? = some k → Fit k y
  rep : ∀ (j : Nat) (y : AV) (c : Value), l[j]? = some y → cs[j]? = some c → RepW w st0 y c
theorem FitL.one {w : World} {ks : List LK} {l : List AV} {cs : List Value} (h : FitL w ks l cs) : ∀ v ∈ l, v.one = true := fun v hv => by
  obtain ⟨j, hj, rfl⟩ := List.getElem_of_mem hv
  exact (h.fit j _ (ks[j]'(by rw [← h.len]; exact hj)) (List.getElem?_eq_getElem hj) (List.getElem?_eq_getElem (by rw [← h.len]; exact hj))).one
theorem FitL.nil (w : World) : FitL w [] [] [] := ⟨rfl, rfl, fun j y k h => by simp at h, fun j y c h => by simp at h⟩
theorem FitL.app {w : World} {ks ks' : List LK} {l l' : List AV} {cs cs' : List Value} (h : FitL w ks l cs) (h' : FitL w ks' l' cs') : FitL w (ks ++ ks') (l ++ l') (cs ++ cs') := by
  have h1 := h.len; have h2 := h.clen; have h3 := h'.len; have h4 := h'.clen
  refine ⟨by simp [h1, h3], by simp [h2, h4], fun j y k hy hk => ?_, fun j y c hy hc => ?_⟩
  · by_cases hj : j < l.length
    · rw [List.getElem?_append_left hj] at hy; rw [List.getElem?_append_left (by omega)] at hk; exact h.fit j y k hy hk
    · rw [List.getElem?_append_right (by omega)] at hy; rw [List.getElem?_append_right (by omega)] at hk
      rw [show j - l.length = j - ks.length by omega] at hy; exact h'.fit _ y k hy hk
  · by_cases hj : j < l.length
    · rw [List.getElem?_append_left hj] at hy; rw [List.getElem?_append_left (by omega)] at hc; exact h.rep j y c hy hc
    · rw [List.getElem?_append_right (by omega)] at hy; rw [List.getElem?_append_right (by omega)] at hc
      rw [show j - l.length = j - cs.length by omega] at hy; exact h'.rep _ y c hy hc
theorem FitL.single {w : World} {k : LK} {v : AV} {c : Value} (h : Fit k v) (hr : RepW w st0 v c) : FitL w [k] [v] [c] :=
  ⟨rfl, rfl, fun j y k' hy hk => by cases j <;> simp at hy hk; subst hy; subst hk; exact h, fun j y c' hy hc => by cases j <;> simp at hy hc; subst hy; subst hc; exact hr⟩
section
variable {H : Type} {enc : TypeId × Value → H} {P : Program} {w : World} {base : Nat} {spare : Nat → Bool} {held : Bool}
theorem open_fields {n m : Nat} (ih : ∀ (t : TypeId) (ks : List LK) (cs : List Value) (x : DataW H × List MemPlace), kindsOf P n t = some ks → DataW.trod enc P w base spare held m t cs = some x → ∃ l, FitL w ks l cs) {cs : List Value} :
    ∀ (fs : List Field) (o : Nat) (ks : List LK), fieldsK P (kindsOf P n) fs o = some ks → (∀ f ∈ fs, ∃ x, DataW.trod enc P w base spare held m f.type ((cs.drop f.offset).take (P.cellsOf f.type)) = some x) → ∃ l, FitL w ks l ((cs.drop o).take ks.length)
  | [], o, ks, h, _ => by cases h; exact ⟨[], by simpa using FitL.nil w⟩
  | f :: fs, o, ks, h, hx => by
    unfold fieldsK at h
    split at h
    · rename_i k1 ho hk1
      split at h
      · rename_i k2 hc hk2
        cases h
        have ho := Nat.eq_of_beq_eq_true ho
        have hc := Nat.eq_of_beq_eq_true hc
        obtain ⟨x, h1⟩ := hx f (List.mem_cons_self ..)
        rw [ho, hc] at h1
        obtain ⟨l1, g1⟩ := ih f.type k1 _ x hk1 h1
        obtain ⟨l2, g2⟩ := open_fields ih fs (o + k1.length) k2 hk2 fun f' hf => hx f' (List.mem_cons_of_mem _ hf)
        refine ⟨l1 ++ l2, ?_⟩
        have e : (cs.drop o).take (k1 ++ k2).length = (cs.drop o).take k1.length ++ (cs.drop (o + k1.length)).take k2.length := by
          rw [List.length_append, List.take_add, List.drop_drop]
        rw [e]; exact g1.app g2
      · cases h
    · cases h
theorem open_kinds : ∀ (n m : Nat) (t : TypeId) (ks : List LK) (cs : List Value) (x : DataW H × List MemPlace), kindsOf P n t = some ks → DataW.trod enc P w base spare held m t cs = some x → ∃ l, FitL w ks l cs
  | 0, m, t, ks, cs, x, h, _ => by cases h
  | n + 1, m, t, ks, cs, x, h, hx => by
    unfold kindsOf at h
    split at h
    · rename_i ht; cases h; obtain ⟨b, rfl, _⟩ := DataW.trod_bool ht hx; exact ⟨[.bool b], .single (.bool b) (.bool b)⟩
    · rename_i k ht; cases h; obtain ⟨i, rfl, _, hw⟩ := DataW.trod_int ht hx; exact ⟨[.int k i], .single (.int k i hw) (.int k i)⟩
    · rename_i ht; cases h; obtain ⟨s, rfl, _, hs⟩ := DataW.trod_string ht hx; exact ⟨[.str s], .single (.str s hs) (.str s)⟩
    · rename_i e ht
      split at h
      case h_2 => cases h
      rename_i ks' hk
      split at h
      case h_2 => cases h
      rename_i hb
      cases h
      have hb := Nat.eq_of_beq_eq_true hb
      rcases DataW.trod_slice ht hx with ⟨rfl, _⟩ | ⟨a, len, cap, elems, rest, m', rfl, rfl, _, hba, hl, hm, hlen, hel, _, _⟩
      · exact ⟨[.arr ks'.length 0 (fun _ => aggOf [])], .single (.sl ks' 0 (fun _ => []) (Nat.zero_le _) (fun i hi => absurd hi (by omega)) (fun i j y k hi => absurd hi (by omega))) (.arr _ 0 _ none 0 (fun _ _ => undef) (Nat.le_refl _) (fun h => absurd h (by omega)) (fun i hi => absurd hi (by omega)) (fun i hi => absurd hi (by omega)) (fun a ha => by cases ha) (fun i j y hi => absurd hi (by omega)))⟩
      · have hall : ∀ i, ∃ p : List AV × List Value, i < len → w.cells? base (a.add (i * P.cellsOf e)) (P.cellsOf e) = some p.2 ∧ FitL w ks' p.1 p.2 := fun i => by
          by_cases hi : i < len
          · have h1 := hel i hi
            rw [List.getElem?_eq_getElem (by omega), Option.bind_eq_some_iff] at h1
            obtain ⟨c1, h2, h3⟩ := h1
            obtain ⟨l, h4⟩ := open_kinds n m' e ks' c1 _ hk h3
            exact ⟨(l, c1), fun _ => ⟨h2, h4⟩⟩
          · exact ⟨([], []), fun h => absurd h hi⟩
        obtain ⟨p, hp⟩ := Classical.axiomOfChoice hall
        refine ⟨[.arr ks'.length len (fun i => aggOf (p i).1)], .single (.sl ks' len (fun i => (p i).1) (by omega) (fun i hi => (hp i hi).2.len) (fun i j y k hi => (hp i hi).2.fit j y k)) ?_⟩
        have hc : ∀ i, i < len → cellsOf (aggOf (p i).1) = (p i).1 := fun i hi => cells_agg (hp i hi).2.one
        refine .arr _ len _ (some a) cap (fun i j => (p i).2.getD j undef) hl (fun _ => ⟨a, rfl⟩) (fun i hi => by rw [hc i hi]; exact (hp i hi).2.len) (fun i hi => by rw [hc i hi]; exact List.all_eq_true.2 (hp i hi).2.one) (fun b hb' i j hi hj => ?_) (fun i j y hi hy => ?_)
        · cases hb'
          have h5 := (World.cells?_some (hp i hi).1)
          have h6 := h5.2.2 j (by omega)
          have hj2 : j < (p i).2.length := by rw [(hp i hi).2.clen]; exact hj
          show w.cell? _ = _
          rw [List.getD_eq_getElem?_getD, List.getElem?_eq_getElem hj2, Option.getD_some]
          rw [List.getElem?_eq_getElem hj2] at h6
          rw [← h6, hb]; show w.cell? _ = w.cell? _; rw [addr_add]
        · rw [hc i hi] at hy
          have hj : j < (p i).1.length := (List.getElem?_eq_some_iff.1 hy).1
          have hj2 : j < (p i).2.length := by rw [(hp i hi).2.clen, ← (hp i hi).2.len]; exact hj
          rw [List.getD_eq_getElem?_getD, List.getElem?_eq_getElem hj2, Option.getD_some]
          exact (hp i hi).2.rep j y _ hy (List.getElem?_eq_getElem hj2)
    · rename_i fs ht
      split at h
      case h_2 => cases h
      rename_i ks' hk
      split at h
      case h_2 => cases h
      rename_i hb
      cases h
      have hb := Nat.eq_of_beq_eq_true hb
      obtain ⟨xs, m', rfl, _, hlen, hxl, hf⟩ := DataW.trod_struct ht hx
      obtain ⟨l, hl⟩ := open_fields (fun t ks cs x => open_kinds n m' t ks cs x) (cs := cs) fs.toList 0 ks hk fun f hfm => by
        obtain ⟨i, hi, rfl⟩ := List.getElem_of_mem hfm
        have := hf i fs[i] (by simp at hi; simp [hi])
        rw [List.getElem?_eq_getElem (by simp at hi; omega)] at this
        exact ⟨_, by simpa using this⟩
      refine ⟨l, ?_⟩
      rw [List.drop_zero, List.take_of_length_le (by omega)] at hl
      exact hl
    · cases h
end
end Go.Ab
namespace Go.Ab
open Go
abbrev FitAll (ks : List LK) (L : List AV) : Prop := L.length = ks.length ∧ ∀ (j : Nat) (y : AV) (k : LK), L[j]? = some y → ks[j]? = some k → Fit k y
abbrev DecQ {α : Type} (ks : List LK) (enc : α → AV) (Q : α → Prop) : Prop := ∀ L : List AV, FitAll ks L → ∃ x, LeL L (cellsOf (enc x)) ∧ (cellsOf (enc x)).all AV.one = true ∧ Q x
theorem Fit.inv_str {y : AV} (h : Fit .str y) : ∃ s : Str, y = eS s ∧ s.size ≤ maxLen := by cases h with | str s hs => exact ⟨s, rfl, hs⟩
theorem Fit.inv_int {y : AV} (h : Fit (.int .i64) y) : ∃ n : Int, y = eI n ∧ (Lit.int .i64 n).wf = true := by cases h with | int k n hn => exact ⟨n, rfl, hn⟩
theorem Fit.inv_bool {y : AV} (h : Fit .bool y) : ∃ b : Bool, y = eB b := by cases h with | bool b => exact ⟨b, rfl⟩
theorem Fit.inv_sl {α : Type} [Inhabited α] {ks : List LK} {y : AV} {enc : α → AV} {Q : α → Prop} (hd : DecQ ks enc Q) (h : Fit (.sl ks) y) :
    ∃ l : List α, Le y (arrOf ks.length enc l) ∧ l.length ≤ maxLen ∧ ∀ x ∈ l, Q x := by
  cases h with
  | sl ks n L hn hl hf =>
    have h1 : ∀ i, ∃ x, i < n → LeL (L i) (cellsOf (enc x)) ∧ (cellsOf (enc x)).all AV.one = true ∧ Q x := fun i => by
      by_cases hi : i < n
      · obtain ⟨x, hx⟩ := hd (L i) ⟨hl i hi, fun j y k => hf i j y k hi⟩
        exact ⟨x, fun _ => hx⟩
      · exact ⟨default, fun h => absurd h hi⟩
    obtain ⟨g, hg⟩ := Classical.axiomOfChoice h1
    have hlen : ((List.range n).map g).length = n := by rw [List.length_map, List.length_range]
    refine ⟨(List.range n).map g, ?_, by rw [hlen]; exact hn, fun x hx => ?_⟩
    · unfold arrOf
      rw [hlen]
      refine Le.arr fun i hi => ?_
      have e : ((List.range n).map g).getD i default = g i := by
        rw [List.getD_eq_getElem?_getD, List.getElem?_map, List.getElem?_range hi]; rfl
      have one : ∀ v ∈ L i, v.one = true := fun v hv => by
        obtain ⟨j, hj, rfl⟩ := List.getElem_of_mem hv
        exact (hf i j _ (ks[j]'(by rw [← hl i hi]; exact hj)) hi (List.getElem?_eq_getElem hj) (List.getElem?_eq_getElem (by rw [← hl i hi]; exact hj))).one
      rw [e, cells_agg one]
      exact ⟨(hg i hi).1, (hg i hi).2.1⟩
    · obtain ⟨i, hi, rfl⟩ := List.mem_map.1 hx
      exact (hg i (List.mem_range.1 hi)).2.2
theorem FitL.slice {α : Type} [Inhabited α] {w : World} {ks : List LK} {l : List AV} {c : Value} {enc : α → AV} {Q : α → Prop} (hd : DecQ ks enc Q) (h : FitL w [.sl ks] l [c]) :
    ∃ x : List α, RepW w st0 (arrOf ks.length enc x) c ∧ x.length ≤ maxLen ∧ ∀ y ∈ x, Q y := by
  obtain ⟨y, rfl⟩ := List.length_eq_one_iff.1 h.len
  obtain ⟨x, h1, h2, h3⟩ := (h.fit 0 y (.sl ks) rfl rfl).inv_sl hd
  exact ⟨x, h1 _ _ _ (h.rep 0 y c rfl rfl), h2, h3⟩
theorem fit3 {k0 k1 k2 : LK} {L : List AV} (h : FitAll [k0, k1, k2] L) : ∃ a b c, L = [a, b, c] ∧ Fit k0 a ∧ Fit k1 b ∧ Fit k2 c := by
  obtain ⟨h1, h2⟩ := h
  match L, h1 with
  | [a, b, c], _ => exact ⟨a, b, c, rfl, h2 0 _ _ rfl rfl, h2 1 _ _ rfl rfl, h2 2 _ _ rfl rfl⟩
abbrev kLine : List LK := [.str, .int .i64, .int .i64]
theorem decLine : DecQ kLine eLine fun _ => True := fun L h => by
  obtain ⟨a, b, c, rfl, ha, hb, hc⟩ := fit3 h
  obtain ⟨a, rfl, _⟩ := ha.inv_str
  obtain ⟨b, rfl, _⟩ := hb.inv_int
  obtain ⟨c, rfl, _⟩ := hc.inv_int
  exact ⟨⟨a, b, c⟩, LeL.refl _, rfl, trivial⟩
end Go.Ab
