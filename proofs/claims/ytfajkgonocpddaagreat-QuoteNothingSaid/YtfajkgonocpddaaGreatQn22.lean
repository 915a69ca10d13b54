/- Part 22 of the proof: contracts of the functions that the law reaches -/
import Derived.Test.YtfajkgonocpddaaGreatQn21
set_option maxRecDepth 100000
set_option linter.unusedVariables false
set_option linter.unusedSimpArgs false
namespace Go.Proofs.YtfajkgonocpddaaGreat
open Go Go.Ab
def denB (t : Tax) (rate : Int) : Int := 10000 + (if t.incl = true then rate else 0)
def muchB (t : Tax) (x rate : Int) : Int := (times x rate (denB t rate) t.round).1
theorem roundQ_le {q r den round x : Int} (h : q * den + r ≤ x * den) (h0 : 0 ≤ r) (h1 : r < den) : q ≤ x ∧ roundQ q r den round ≤ x := by
  have hq : q ≤ x := by
    rcases Int.lt_or_le x q with e | e
    · have : (x + 1) * den ≤ q * den := Int.mul_le_mul_of_nonneg_right (by omega) (by omega)
      rw [Int.add_mul, Int.one_mul] at this; omega
    · exact e
  refine ⟨hq, ?_⟩
  by_cases e : q = x
  · subst e
    have hr : r = 0 := by omega
    subst hr
    unfold roundQ
    split
    · omega
    · split
      · split <;> omega
      · split
        · rename_i h2; omega
        · omega
  · unfold roundQ
    split
    · omega
    · split <;> split <;> omega
theorem roundQ_ge {q r den round : Int} (h : 0 ≤ q) : 0 ≤ roundQ q r den round := by
  unfold roundQ
  split
  · omega
  · split <;> split <;> omega
theorem times_le {x num den round : Int} (hx : 0 ≤ x) (hn : 0 ≤ num) (hd : num ≤ den) (h0 : 0 < den) : 0 ≤ (times x num den round).1 ∧ (times x num den round).1 ≤ x := by
  have h1 : 0 ≤ x * num := Int.mul_nonneg hx hn
  have h2 : x * num ≤ x * den := Int.mul_le_mul_of_nonneg_left hd hx
  have e1 := Int.mul_ediv_add_emod (x * num) den
  have e2 := Int.emod_nonneg (x * num) (show den ≠ 0 by omega)
  have e3 := Int.emod_lt_of_pos (x * num) h0
  have e4 : 0 ≤ x * num / den := Int.ediv_nonneg h1 (by omega)
  have h3 := roundQ_le (q := x * num / den) (r := x * num % den) (den := den) (round := round) (x := x) (by rw [Int.mul_comm (x * num / den) den]; omega) e2 e3
  have h4 := roundQ_ge (q := x * num / den) (r := x * num % den) (den := den) (round := round) e4
  unfold times
  split
  · exact ⟨Int.le_refl _, hx⟩
  · split
    · exact ⟨Int.le_refl _, hx⟩
    · split
      · exact ⟨Int.le_refl _, hx⟩
      · exact ⟨h4, h3.2⟩
theorem much_le {t : Tax} {x rate : Int} (hx : 0 ≤ x) (hr : 0 ≤ rate ∧ rate ≤ 10000) : 0 ≤ muchB t x rate ∧ muchB t x rate ≤ x := by
  refine times_le hx hr.1 ?_ ?_
  · unfold denB; split <;> omega
  · unfold denB; split <;> omega
theorem much_zero (t : Tax) (rate : Int) (hr : 0 ≤ rate ∧ rate ≤ 10000) : muchB t 0 rate = 0 := by
  have := much_le (t := t) (x := 0) (rate := rate) (Int.le_refl _) hr
  omega
def zoneF (l : List Zone) (s : Str) : Option Zone := l.find? fun z => z.name.toList == s.toList
def rateF (z : Zone) (c : Str) : Int := match z.rates.find? (fun x => x.cat.toList == c.toList) with
  | some x => x.rate
  | none => z.rest
theorem zoneC_ok {z : Zone} (h : zoneC z = true) : (0 ≤ z.rest ∧ z.rest ≤ 10000) ∧ (0 ≤ z.ship ∧ z.ship ≤ 10000) ∧ z.rates.length ≤ 40 ∧ ∀ x ∈ z.rates, 0 ≤ x.rate ∧ x.rate ≤ 10000 := by
  unfold zoneC at h
  simp only [Bool.and_eq_true, Bool.not_eq_true', Bool.or_eq_false_iff, decide_eq_false_iff_not, Bool.not_eq_false'] at h
  obtain ⟨⟨⟨⟨h1, h2⟩, h3⟩, h4⟩, h5, h6⟩ := h
  refine ⟨upB_iff.1 h2, upB_iff.1 h3, by omega, fun x hx => ?_⟩
  obtain ⟨k, hk, rfl⟩ := mem_getD hx
  have := allAt_iff.1 h5 k hk
  unfold rateC at this
  simp only [Bool.not_eq_true', Bool.or_eq_false_iff, Bool.not_eq_false'] at this
  exact upB_iff.1 this.2
theorem rateF_ok {z : Zone} (h : zoneC z = true) (c : Str) : 0 ≤ rateF z c ∧ rateF z c ≤ 10000 := by
  obtain ⟨h1, h2, h3, h4⟩ := zoneC_ok h
  unfold rateF
  split
  · rename_i x hx; exact h4 x (List.mem_of_find?_eq_some hx)
  · exact h1
def lineTaxes (t : Tax) (rates nets : List Int) : List Int := (List.range nets.length).map fun i => muchB t (gI nets i) (gI rates i)
def mates (rates : List Int) (i : Nat) : List Nat := (List.range rates.length).filter fun k => gI rates k == gI rates i
def mateNets (rates nets : List Int) (i : Nat) : List Int := (mates rates i).map (gI nets)
def matePos (rates : List Int) (i : Nat) : Nat := ((List.range i).filter fun k => gI rates k == gI rates i).length
def orderTax (t : Tax) (rates nets : List Int) (i : Nat) : Int := gI (largestB (muchB t (sumI (mateNets rates nets i)) (gI rates i)) (mateNets rates nets i)) (matePos rates i)
def orderTaxes (t : Tax) (rates nets : List Int) : List Int := (List.range nets.length).map (orderTax t rates nets)
def taxesB (t : Tax) (rates nets : List Int) : List Int := if t.byOrder = true then orderTaxes t rates nets else lineTaxes t rates nets
structure NetsIn (nets : List Int) : Prop where
  len : nets.length ≤ 1000
  pos : ∀ x ∈ nets, 0 ≤ x
  sum : sumI nets ≤ 10000000000000
theorem sumI_sub {a b : List Int} (hs : a.Sublist b) (hb : ∀ x ∈ b, 0 ≤ x) : sumI a ≤ sumI b := by
  induction hs with
  | slnil => exact Int.le_refl _
  | cons x _ ih =>
    have h1 := ih fun u hu => hb u (List.mem_cons_of_mem _ hu)
    have h2 := hb x (List.mem_cons_self ..)
    rw [sumI_cons]; omega
  | cons_cons x _ ih =>
    have h1 := ih fun u hu => hb u (List.mem_cons_of_mem _ hu)
    rw [sumI_cons, sumI_cons]; omega
theorem range_gI (l : List Int) : (List.range l.length).map (gI l) = l := by
  refine List.ext_getElem (by rw [List.length_map, List.length_range]) fun i h1 h2 => ?_
  rw [List.getElem_map, List.getElem_range]; unfold gI; rw [List.getD_eq_getElem?_getD, List.getElem?_eq_getElem h2]; rfl
theorem mateNets_ok {rates nets : List Int} (hn : NetsIn nets) (hr : rates.length = nets.length) (i : Nat) : (mateNets rates nets i).length ≤ 1000 ∧ (∀ x ∈ mateNets rates nets i, 0 ≤ x) ∧ 0 ≤ sumI (mateNets rates nets i) ∧ sumI (mateNets rates nets i) ≤ 10000000000000 := by
  have hsub : (mateNets rates nets i).Sublist nets := by
    have h1 : (mateNets rates nets i).Sublist ((List.range nets.length).map (gI nets)) := by
      unfold mateNets mates
      rw [hr]
      exact List.filter_sublist.map _
    rw [range_gI] at h1; exact h1
  have hp : ∀ x ∈ mateNets rates nets i, 0 ≤ x := fun x hx => hn.pos x (hsub.subset hx)
  have h2 := hsub.length_le
  have h3 := hn.len
  have h4 := sumI_sub hsub hn.pos
  have h5 := hn.sum
  exact ⟨by omega, hp, sumI_nonneg hp, by omega⟩
theorem mate_weights {t : Tax} {rates nets : List Int} (hn : NetsIn nets) (hr : rates.length = nets.length) {i : Nat} (hq : 0 ≤ gI rates i ∧ gI rates i ≤ 10000) : Weights (muchB t (sumI (mateNets rates nets i)) (gI rates i)) (mateNets rates nets i) := by
  obtain ⟨h1, h2, h3, h4⟩ := mateNets_ok hn hr i
  have hm := much_le (t := t) h3 hq
  exact ⟨hm.1, by omega, by omega, h2, by omega, fun e => by rw [e] at hm; rw [e]; omega⟩
theorem range_cut {n i : Nat} (hi : i < n) : List.range n = List.range i ++ (i :: (List.range (n - i - 1)).map (fun k => i + 1 + k)) := by
  have h1 : n = i + (1 + (n - i - 1)) := by omega
  conv => lhs; rw [h1]
  rw [List.range_add, show 1 + (n - i - 1) = (n - i - 1) + 1 by omega, List.range_succ_eq_map]
  simp only [List.map_cons, List.map_map, Nat.add_zero]
  congr 2
  refine List.map_congr_left fun k _ => ?_
  show i + (k + 1) = i + 1 + k
  omega
theorem mates_at {rates : List Int} {i : Nat} (hi : i < rates.length) : (mates rates i)[matePos rates i]? = some i := by
  unfold matePos mates
  rw [range_cut hi, List.filter_append, List.getElem?_append_right (Nat.le_refl _), Nat.sub_self, List.filter_cons_of_pos (by simp)]; rfl
theorem matePos_lt {rates : List Int} {i : Nat} (hi : i < rates.length) : matePos rates i < (mates rates i).length := by
  exact (List.getElem?_eq_some_iff.1 (mates_at hi)).1
theorem orderTax_ok {t : Tax} {rates nets : List Int} (hn : NetsIn nets) (hr : rates.length = nets.length) (hq : ∀ x ∈ rates, 0 ≤ x ∧ x ≤ 10000) {i : Nat} (hi : i < nets.length) : 0 ≤ orderTax t rates nets i ∧ orderTax t rates nets i ≤ 10000000000000 := by
  have hqi := hq (gI rates i) (getD_mem (by omega))
  have hw := mate_weights (t := t) hn hr hqi
  obtain ⟨h1, h2, h3, h4⟩ := mateNets_ok hn hr i
  have hm := much_le (t := t) h3 hqi
  have hp := matePos_lt (rates := rates) (i := i) (by omega)
  have hml : (mateNets rates nets i).length = (mates rates i).length := List.length_map ..
  obtain ⟨l1, l2, l3⟩ := largest_sum hw
  have hle := largest_le hw hm.2 (k := matePos rates i) (by omega)
  have hg : gI (largestB (muchB t (sumI (mateNets rates nets i)) (gI rates i)) (mateNets rates nets i)) (matePos rates i) ∈ largestB (muchB t (sumI (mateNets rates nets i)) (gI rates i)) (mateNets rates nets i) := getD_mem (by omega)
  have h0 := l3 _ hg
  have hmem : gI (mateNets rates nets i) (matePos rates i) ∈ mateNets rates nets i := getD_mem (by omega)
  have h6 := sumI_mem_le h2 hmem
  unfold orderTax
  omega
theorem taxes_ok {t : Tax} {rates nets : List Int} (hn : NetsIn nets) (hr : rates.length = nets.length) (hq : ∀ x ∈ rates, 0 ≤ x ∧ x ≤ 10000) : (taxesB t rates nets).length = nets.length ∧ ∀ x ∈ taxesB t rates nets, 0 ≤ x ∧ x ≤ 10000000000000 := by
  unfold taxesB
  split
  · refine ⟨by unfold orderTaxes; rw [List.length_map, List.length_range], fun x hx => ?_⟩
    obtain ⟨i, hi, rfl⟩ := List.mem_map.1 hx
    exact orderTax_ok hn hr hq (List.mem_range.1 hi)
  · refine ⟨by unfold lineTaxes; rw [List.length_map, List.length_range], fun x hx => ?_⟩
    obtain ⟨i, hi, rfl⟩ := List.mem_map.1 hx
    have hi := List.mem_range.1 hi
    have h1 := hn.pos _ (show gI nets i ∈ nets from getD_mem hi)
    have h2 := much_le (t := t) h1 (hq (gI rates i) (getD_mem (by omega)))
    have h3 := sumI_mem_le hn.pos (show gI nets i ∈ nets from getD_mem hi)
    have h4 := hn.sum
    omega
theorem orderTax_le {t : Tax} {rates nets : List Int} (hn : NetsIn nets) (hr : rates.length = nets.length) (hq : ∀ x ∈ rates, 0 ≤ x ∧ x ≤ 10000) {i : Nat} (hi : i < nets.length) : orderTax t rates nets i ≤ gI nets i := by
  have hqi := hq (gI rates i) (getD_mem (by omega))
  have hw := mate_weights (t := t) hn hr hqi
  obtain ⟨h1, h2, h3, h4⟩ := mateNets_ok hn hr i
  have hm := much_le (t := t) h3 hqi
  have hp := matePos_lt (rates := rates) (i := i) (by omega)
  have hml : (mateNets rates nets i).length = (mates rates i).length := List.length_map ..
  have hle := largest_le hw hm.2 (k := matePos rates i) (by omega)
  have e : gI (mateNets rates nets i) (matePos rates i) = gI nets i := by
    unfold mateNets gI
    rw [List.getD_eq_getElem?_getD, List.getElem?_map, mates_at (by omega)]; rfl
  rw [e] at hle
  exact hle
theorem taxes_le {t : Tax} {rates nets : List Int} (hn : NetsIn nets) (hr : rates.length = nets.length) (hq : ∀ x ∈ rates, 0 ≤ x ∧ x ≤ 10000) {i : Nat} (hi : i < nets.length) : gI (taxesB t rates nets) i ≤ gI nets i := by
  unfold taxesB
  split
  · have e : gI (orderTaxes t rates nets) i = orderTax t rates nets i := by unfold orderTaxes gI; rw [List.getD_eq_getElem?_getD, List.getElem?_map, List.getElem?_range hi]; rfl
    rw [e]; exact orderTax_le hn hr hq hi
  · have e : gI (lineTaxes t rates nets) i = muchB t (gI nets i) (gI rates i) := by unfold lineTaxes gI; rw [List.getD_eq_getElem?_getD, List.getElem?_map, List.getElem?_range hi]; rfl
    rw [e]
    exact (much_le (hn.pos _ (show gI nets i ∈ nets from getD_mem hi)) (hq (gI rates i) (getD_mem (by omega)))).2
theorem sumI_map_le (f g : Nat → Int) : ∀ n, (∀ i, i < n → f i ≤ g i) → sumI ((List.range n).map f) ≤ sumI ((List.range n).map g)
  | 0, _ => Int.le_refl _
  | n + 1, h => by
    rw [sumI_map_range, sumI_map_range]
    have h1 := sumI_map_le f g n fun i hi => h i (by omega)
    have h2 := h n (by omega)
    omega
structure Levied where
  goods : List Int
  taxes : List Int
  ship : Int
  shipTax : Int
def goodsB (t : Tax) (taxes nets : List Int) : List Int := (List.range nets.length).map fun i => if t.incl = true then gI nets i - gI taxes i else gI nets i
def levyB (t : Tax) (z : Zone) (exempt : Bool) (cats : List Str) (nets : List Int) (ship : Int) : Levied :=
  ⟨goodsB t (taxesB t (cats.map (rateF z)) nets) nets, if exempt = true then List.replicate nets.length 0 else taxesB t (cats.map (rateF z)) nets,
   if t.incl = true then ship - muchB t ship z.ship else ship, if exempt = true then 0 else muchB t ship z.ship⟩
structure Quote where
  goods : List Int
  taxes : List Int
  ship : Int
  shipTax : Int
  total : Int
  deals : List Deal
end Go.Proofs.YtfajkgonocpddaaGreat
namespace Go.Ab
open Go
theorem lp {A : List AV} {st : St} (n : Nat) (keep : List Nat) (J : Nat → List AV → St → Prop) {B : List Nat → (Nat → KA) → Nat → List AV → St → Prop}
    (h0 : getsK A keep fun us => J 0 us st) (h : ∀ i vs s, i ≤ n → J i vs s → B keep (fun m vs s => ∃ i, i ≤ n ∧ m = n - i ∧ J i vs s) (n - i) vs s) :
    ∃ (keep : List Nat) (I : Nat → KA), (getsK A keep fun us => ∃ m, I m us st) ∧ ∀ m vs s, I m vs s → B keep I m vs s := by
  rw [getsK_eq] at h0
  refine ⟨keep, fun m vs s => ∃ i, i ≤ n ∧ m = n - i ∧ J i vs s, ?_, ?_⟩
  · rw [getsK_eq]; exact ⟨n, 0, Nat.zero_le _, rfl, h0⟩
  · rintro m vs s ⟨i, hi, rfl, hj⟩; exact h i vs s hi hj
theorem nx {n i : Nat} {J : Nat → Prop} (hi : i < n) (h : J (i + 1)) : ∃ m', m' < n - i ∧ ∃ i', i' ≤ n ∧ m' = n - i' ∧ J i' := ⟨n - (i + 1), by omega, i + 1, hi, rfl, h⟩
theorem stop_at {i n : Nat} (h : decide ((i : Int) < (n : Int)) = false) (hi : i ≤ n) : i = n := by have := of_decide_eq_false h; omega
theorem go_on {i n : Nat} (h : decide ((i : Int) < (n : Int)) = true) : i < n := by have := of_decide_eq_true h; omega
def ColL {α : Type} [Inhabited α] (ty e : Nat) (enc : α → AV) (L : List α) (st : St) (sv : AV) (st' : St) : Prop := Col ty e (fun k => enc (L.getD k default)) st L.length sv st'
theorem ColL.start {α : Type} [Inhabited α] (ty e : Nat) (enc : α → AV) (st : St) : ColL ty e enc [] st .emp st := Col.start _ _ _ _
theorem getD_snoc {α : Type} [Inhabited α] (L : List α) (x : α) : (L ++ [x]).getD L.length default = x := by simp [List.getD_eq_getElem?_getD]
theorem getD_app {α : Type} [Inhabited α] {a b : List α} {k : Nat} (h : k < a.length) : (a ++ b).getD k default = a.getD k default := by
  rw [List.getD_eq_getElem?_getD, List.getD_eq_getElem?_getD, List.getElem?_append_left h]
theorem ColL.app {α : Type} [Inhabited α] {T : Tab} {t : TypeId} {x sv : AV} {st st' : St} {k : KK} {r q : TRow} {el : Nat} {enc : α → AV} {L : List α} {y : α} {g : Nat → AV} (hr : T t = some r) (hd : r.desc = .slice el) (hq : T el = some q)
    (hz : (Nat.blt 0 q.size && Nat.blt 0 q.bytes && Nat.beq q.zero.cells.size q.size) = true) (hs : srcOf q.size st' x = some (1, g)) (hg : g 0 = enc y) (hb : (L.length + 1) * q.bytes ≤ 140737488355328)
    (hc : ColL el q.size enc L st sv st') (hk : ∀ sv' st'', ColL el q.size enc (L ++ [y]) st sv' st'' → k sv' st'') : xApp T t sv x st' k := by
  refine Col.app (f := fun k => enc ((L ++ [y]).getD k default)) hr hd hq hz hs (by show g 0 = enc _; rw [getD_snoc]; exact hg) hb (Col.congr hc fun k hk => by show enc _ = enc _; rw [getD_app hk]) (fun sv' st'' h => hk sv' st'' ?_)
  unfold ColL
  rw [List.length_append]; exact h
theorem S_colL {α : Type} [Inhabited α] {P : Program} {F : FuncId} {args : List AV} {st : St} {ty e : Nat} {enc : α → AV} {L : List α} (h : S P F args st fun v st' => ColL ty e enc L st v st') : S P F args st fun v st' => v = arrOf e enc L ∧ st' = st := S_col h
theorem ColL.shift {α : Type} [Inhabited α] {ty e : Nat} {enc : α → AV} {L : List α} {st : St} {sv : AV} {st' : St} (h : ColL ty e enc L st sv st') : Shift [sv] st' [arrOf e enc L] st := Col.shift h
theorem ColL.sup {α : Type} [Inhabited α] {ty e : Nat} {enc : α → AV} {L : List α} {st : St} {sv : AV} {st' : St} (h : ColL ty e enc L st sv st') : Sup st st' := Col.sup h
end Go.Ab
namespace Go.Proofs.YtfajkgonocpddaaGreat
open Go Go.Ab
attribute [local irreducible] upd del
abbrev Sm (n : Nat) : Prop := n ≤ 4611686018427387904
structure ScopeSm (s : Scope) : Prop where
  n1 : Sm s.skus.length
  n2 : Sm s.cats.length
  s1 : ∀ x ∈ s.skus, Sm x.size
  s2 : ∀ x ∈ s.cats, Sm x.size
end Go.Proofs.YtfajkgonocpddaaGreat
namespace Go.Proofs.YtfajkgonocpddaaGreat
open Go Go.Ab
theorem resO_perm (l : List Promo) (o : List Int) : (resO l o).Perm o := by
  have h := (ranked_perm l o).map fun e : QE => gI o e.2.toNat
  rw [List.map_map] at h
  have e : (List.range o.length).map ((fun e : QE => gI o e.2.toNat) ∘ rankE l o) = o := by
    refine List.ext_getElem (by simp) fun k h1 h2 => ?_
    rw [List.getElem_map, List.getElem_range]
    show o.getD k default = _
    rw [List.getD_eq_getElem?_getD, List.getElem?_eq_getElem h2]; rfl
  rw [e] at h; exact h
end Go.Proofs.YtfajkgonocpddaaGreat
namespace Go.Proofs.YtfajkgonocpddaaGreat
open Go Go.Ab
attribute [local irreducible] upd del
def modB (v n : Int) : Int := v % 18446744073709551616 % n
theorem modB_lt (v : Int) {n : Int} (h : 0 < n) : 0 ≤ modB v n ∧ modB v n < n := ⟨Int.emod_nonneg _ (by omega), Int.emod_lt_of_pos _ h⟩
theorem wrapU (x : Int) : IntKind.u64.wrap x = x % 18446744073709551616 := rfl
theorem mod_eq (v : Int) {n : Int} (h0 : 0 < n) (h1 : n ≤ 9223372036854775807) : IntKind.i64.wrap (Int.tmod (IntKind.u64.wrap v) (IntKind.u64.wrap n)) = modB v n := by
  have h2 := modB_lt v h0
  have e1 : IntKind.u64.wrap n = n := by rw [wrapU]; omega
  have e2 : Int.tmod (IntKind.u64.wrap v) n = modB v n := by rw [Int.tmod_eq_emod_of_nonneg (by rw [wrapU]; omega)]; rfl
  rw [e1, e2, wrap64_of (by omega) (by omega)]
theorem mod_S (v n : Int) (h0 : 0 < n) (h1 : n ≤ 9223372036854775807) (st : St) : S P 32 [eI v, eI n] st fun r st' => r = eI (modB v n) ∧ st' = st := by
  refine S_of_X [] good mixed Tryz.func32 (by rfl) rfl rfl rfl ?_; conv => whnf
  rw [decide_eq_false (show ¬ IntKind.u64.wrap n = 0 by rw [wrapU]; omega)]; conv => whnf
  refine ⟨?_, rfl⟩
  rw [← mod_eq v h0 h1]; rfl
theorem mod64_S' (v n : Int) (h0 : 0 < n) (h1 : n ≤ 9223372036854775807) (st : St) : S P 28 [eI v, eI n] st fun r st' => r = eI (modB v n) ∧ st' = st := by
  refine S_of_X [] good mixed Tryz.func28 (by rfl) rfl rfl rfl ?_; conv => whnf
  rw [decide_eq_false (show ¬ IntKind.u64.wrap n = 0 by rw [wrapU]; omega)]; conv => whnf
  refine ⟨?_, rfl⟩
  rw [← mod_eq v h0 h1]; rfl
def byteS (c : Int) : Str := strA [IntKind.u8.wrap c]
def skuN (n : Int) : Str := byteS (97 + modB n 8)
def catN (n : Int) : Str := byteS (120 + modB n 3)
def idN (n : Int) : Str := (⟨#[112]⟩ : Str) ++ byteS (48 + modB n 10)
def codeN (n : Int) : Str := (⟨#[99]⟩ : Str) ++ byteS (48 + modB n 3)
theorem wrap8 (c x : Int) : IntKind.u8.wrap (c + IntKind.u8.wrap x) = IntKind.u8.wrap (c + x) := by
  show (c + x % 256) % 256 = (c + x) % 256
  omega
theorem sku_S (n : Int) (st : St) : S P 29 [eI n] st fun r st' => r = eS (skuN n) ∧ st' = st := by
  refine S_of_X [] good mixed Tryz.func29 (by rfl) rfl rfl rfl ?_; conv => whnf
  refine call1 (mod_S n 8 (by decide) (by decide) _) ?_; conv => whnf
  refine ⟨?_, rfl⟩
  show AV.str (strA [IntKind.u8.wrap (97 + IntKind.u8.wrap (modB n 8))]) = _
  rw [wrap8]; rfl
theorem category_S (n : Int) (st : St) : S P 30 [eI n] st fun r st' => r = eS (catN n) ∧ st' = st := by
  refine S_of_X [] good mixed Tryz.func30 (by rfl) rfl rfl rfl ?_; conv => whnf
  refine call1 (mod_S n 3 (by decide) (by decide) _) ?_; conv => whnf
  refine ⟨?_, rfl⟩
  show AV.str (strA [IntKind.u8.wrap (120 + IntKind.u8.wrap (modB n 3))]) = _
  rw [wrap8]; rfl
theorem id_S (n : Int) (st : St) : S P 94 [eI n] st fun r st' => r = eS (idN n) ∧ st' = st := by
  refine S_of_X [] good mixed Tryz.func94 (by rfl) rfl rfl rfl ?_; conv => whnf
  refine call1 (mod_S n 10 (by decide) (by decide) _) ?_; conv => whnf
  refine ⟨?_, rfl⟩
  show AV.str ((⟨#[112]⟩ : Str) ++ strA [IntKind.u8.wrap (48 + IntKind.u8.wrap (modB n 10))]) = _
  rw [wrap8]; rfl
theorem code_S (n : Int) (st : St) : S P 43 [eI n] st fun r st' => r = eS (codeN n) ∧ st' = st := by
  refine S_of_X [] good mixed Tryz.func43 (by rfl) rfl rfl rfl ?_; conv => whnf
  refine call1 (mod_S n 3 (by decide) (by decide) _) ?_; conv => whnf
  refine ⟨?_, rfl⟩
  show AV.str ((⟨#[99]⟩ : Str) ++ strA [IntKind.u8.wrap (48 + IntKind.u8.wrap (modB n 3))]) = _
  rw [wrap8]; rfl
def pickUp (s : Str) : Nat → Int
  | 0 => s.size
  | i + 1 => IntKind.i64.wrap (IntKind.i64.wrap (7 * pickUp s i) + chr s i)
def pickN (s : Str) : Int := pickUp s (min s.size 8)
theorem chr_lt (s : Str) (i : Nat) : 0 ≤ chr s i ∧ chr s i < 256 := by
  unfold chr; split
  · rename_i h; have := (s[i]'h).toNat_lt; omega
  · omega
theorem pick_S (s : Str) (st : St) : S P 31 [eS s] st fun r st' => r = eI (pickN s) ∧ st' = st := by
  refine S_of_X [] good mixed Tryz.func31 (by rfl) rfl rfl rfl ?_; conv => whnf
  refine lp (min s.size 8) [0, 3, 4] (fun i vs t => vs = [eS s, eI (pickUp s i), eI i] ∧ t = st) ?_ ?_
  · conv => whnf
    exact ⟨rfl, rfl⟩
  · rintro i vs t hi ⟨rfl, rfl⟩
    conv => whnf
    refine fork (fun h1 => ?_) (fun h1 => ?_) <;> rw [h1] <;> simp only [decide_eq_true_eq, decide_eq_false_iff_not] at h1
    · conv => whnf
      refine fork (fun h2 => ?_) (fun h2 => ?_) <;> rw [h2] <;> simp only [decide_eq_true_eq, decide_eq_false_iff_not] at h2
      · have hi' : i < min s.size 8 := by omega
        conv => whnf
        refine idxS (i := i) rfl (by omega) ?_; conv => whnf
        refine ⟨rfl, ?_⟩; conv => whnf
        refine nx hi' ⟨?_, rfl⟩
        rw [wrapN (by omega)]
        have hc : IntKind.i64.wrap (chr s i) = chr s i := wrap64_of (by have := chr_lt s i; omega) (by have := chr_lt s i; omega)
        show [eS s, eI (IntKind.i64.wrap (IntKind.i64.wrap (7 * pickUp s i) + IntKind.i64.wrap (chr s i))), eI ((i + 1 : Nat) : Int)] = _
        rw [hc]; rfl
      · obtain rfl : i = min s.size 8 := by omega
        conv => whnf
        exact ⟨rfl, rfl⟩
    · obtain rfl : i = min s.size 8 := by omega
      conv => whnf
      exact ⟨rfl, rfl⟩
def fewC (r : Rules) : Bool := decide ((r.items.length : Int) < 60) && decide ((r.promos.length : Int) < 30) && decide ((r.tax.zones.length : Int) < 30) && decide ((r.policy.order.length : Int) < 30) && decide ((r.policy.credit.length : Int) < 30)
theorem few_S (r : Rules) (st : St) : S P 38 [eRules r] st fun v st' => v = .bool (fewC r) ∧ st' = st := by
  refine S_of_X [1] good mixed Tryz.func38 (by rfl) rfl rfl rfl ?_
  unfold fewC
  repeat' ((conv => whnf); first | (refine fork (fun h => ?_) (fun h => ?_) <;> rw [h]))
  all_goals (conv => whnf)
  all_goals exact ⟨by simp only [Bool.true_and, Bool.false_and]; rfl, rfl⟩
def someStep (l : List Str) (most : Nat) (kinds : Int) (name : Int → Str) (out : List Str) (k : Nat) : List Str :=
  if (decide (out.length < most) && (l.take 4).any fun s => modB (pickN s) kinds == k) = true then out ++ [name k] else out
def someUp (l : List Str) (most : Nat) (kinds : Int) (name : Int → Str) (k : Nat) : List Str := (List.range k).foldl (someStep l most kinds name) []
theorem someUp_succ (l : List Str) (most : Nat) (kinds : Int) (name : Int → Str) (k : Nat) : someUp l most kinds name (k + 1) = someStep l most kinds name (someUp l most kinds name k) k := by
  unfold someUp; rw [List.range_succ, List.foldl_append]; rfl
theorem someUp_len (l : List Str) (most : Nat) (kinds : Int) (name : Int → Str) (k : Nat) : (someUp l most kinds name k).length ≤ k := by
  induction k with
  | zero => exact Nat.le_refl _
  | succ k ih =>
    rw [someUp_succ]; unfold someStep
    split
    · rw [List.length_append]; show _ + 1 ≤ _; omega
    · omega
theorem some_S (l : List Str) (most kinds : Nat) (name : Int → Str) (g : FuncId) (hk : 0 < kinds) (hk2 : kinds ≤ 100) (hg : ∀ (n : Int) (st : St), S P g [eI n] st fun v st' => v = eS (name n) ∧ st' = st) (st : St) :
    S P 42 [eStrs l, eI most, eI kinds, .fn (.func g) [] []] st fun v st' => v = eStrs (someUp l most kinds name kinds) ∧ st' = st := by
  refine S_colL (ty := 9) ?_
  refine S_of_X [] good mixed Tryz.func42 (by rfl) rfl rfl rfl ?_; conv => whnf
  refine lp kinds [0, 1, 2, 3, 9, 10] (fun k vs s => ∃ sv, vs = [eStrs l, eI most, eI kinds, .fn (.func g) [] [], sv, eI k] ∧ ColL 9 1 eS (someUp l most kinds name k) st sv s) ?_ ?_
  · conv => whnf
    exact ⟨.emp, rfl, ColL.start _ _ _ _⟩
  · rintro k vs s hk1 ⟨sv, rfl, hc⟩
    conv => whnf
    cases hd : decide ((k : Int) < (kinds : Int))
    · obtain rfl := stop_at hd hk1
      conv => whnf
      exact hc
    · have hk' := go_on hd
      have hlen := someUp_len l most kinds name k
      have hS := someUp_succ l most kinds name k
      unfold someStep at hS; conv => whnf
      refine lp (min l.length 4) [0, 1, 2, 3, 9, 10, 11] (fun i vs t => (∀ j, j < i → (modB (pickN (l.getD j default)) kinds == k) = false) ∧ vs = [eStrs l, eI most, eI kinds, .fn (.func g) [] [], sv, eI k, eI i] ∧ t = s) ?_ ?_
      · conv => whnf
        exact ⟨fun j hj => absurd hj (by omega), rfl, rfl⟩
      · rintro i vs t hi ⟨hok, rfl, rfl⟩
        have hstop : i = min l.length 4 → ((l.take 4).any fun s => modB (pickN s) kinds == k) = false := fun e => by
          refine List.any_eq_false.2 fun x hx => ?_
          obtain ⟨j, hj, rfl⟩ := mem_getD hx
          rw [List.length_take] at hj
          rw [show (l.take 4).getD j default = l.getD j default by rw [List.getD_eq_getElem?_getD, List.getD_eq_getElem?_getD, List.getElem?_take_of_lt (by omega)], hok j (by omega)]
          simp
        have hsv : (sv = .emp ∧ (someUp l most kinds name k).length = 0) ∨ ∃ b, sv = .own 1 b 0 (someUp l most kinds name k).length := by
          rcases hc with ⟨h0, h1, _⟩ | ⟨_, b, _, _, h1, _⟩
          · exact .inl ⟨h1, h0⟩
          · exact .inr ⟨b, h1⟩
        have hrun : ∀ {t' : St} {sv' : AV}, ColL 9 1 eS (someUp l most kinds name (k + 1)) st sv' t' → ∃ sv, [eStrs l, eI most, eI kinds, .fn (.func g) [] [], sv', eI (IntKind.i64.wrap ((k : Int) + 1))] = [eStrs l, eI most, eI kinds, .fn (.func g) [] [], sv, eI ((k + 1 : Nat) : Int)] ∧ ColL 9 1 eS (someUp l most kinds name (k + 1)) st sv t' := fun {t' sv'} h => ⟨sv', by rw [wrapN (by omega)], h⟩
        conv => whnf
        refine fork (fun h1 => ?_) (fun h1 => ?_) <;> rw [h1] <;> simp only [decide_eq_true_eq, decide_eq_false_iff_not] at h1
        · conv => whnf
          refine fork (fun h2 => ?_) (fun h2 => ?_) <;> rw [h2] <;> simp only [decide_eq_true_eq, decide_eq_false_iff_not] at h2
          · have hi' : i < min l.length 4 := by omega
            rcases hsv with ⟨rfl, hl0⟩ | ⟨b, rfl⟩
            all_goals
              conv => whnf
              refine fork (fun h3 => ?_) (fun h3 => ?_) <;> rw [h3] <;> simp only [decide_eq_true_eq, decide_eq_false_iff_not] at h3
              · conv => whnf
                refine ⟨rfl, ⟨by omega, by omega⟩, ?_⟩; conv => whnf
                refine call1 (pick_S _ _) ?_; conv => whnf
                refine call1 (mod_S _ (kinds : Int) (by omega) (by omega) _) ?_; conv => whnf
                cases h4 : (modB (pickN (l.getD (i : Int).toNat default)) (kinds : Int) == (k : Int))
                · conv => whnf
                  refine ⟨rfl, ?_⟩; conv => whnf
                  exact nx hi' ⟨lt_next hok h4, by rw [wrapN (by omega)], rfl⟩
                · have hm : (decide ((someUp l most kinds name k).length < most) && (l.take 4).any fun s => modB (pickN s) kinds == k) = true := by
                    rw [Bool.and_eq_true, decide_eq_true_eq, List.any_eq_true]
                    refine ⟨by omega, l.getD (i : Int).toNat default, ?_, h4⟩
                    rw [show l.getD (i : Int).toNat default = (l.take 4).getD i default by rw [List.getD_eq_getElem?_getD, List.getD_eq_getElem?_getD, List.getElem?_take_of_lt (by omega)]; rfl]
                    exact getD_mem (by rw [List.length_take]; omega)
                  rw [if_pos hm] at hS; conv => whnf
                  refine call1 (hg _ _) ?_; conv => whnf
                  refine ColL.app (q := r9) rfl rfl rfl rfl rfl (by rfl) (by show ((someUp l most kinds name k).length + 1) * 16 ≤ 140737488355328; omega) hc (fun sv' t' hc' => ?_); conv => whnf
                  refine ⟨rfl, ?_⟩; conv => whnf
                  exact nx hk' (hrun (by rw [hS]; exact hc'))
              · rw [if_neg (by rw [decide_eq_false (by omega)]; simp)] at hS; conv => whnf
                refine ⟨rfl, ?_⟩; conv => whnf
                exact nx hk' (hrun (by rw [hS]; exact hc))
          · rw [if_neg (by rw [hstop (by omega)]; simp)] at hS; conv => whnf
            refine ⟨rfl, ?_⟩; conv => whnf
            exact nx hk' (hrun (by rw [hS]; exact hc))
        · rw [if_neg (by rw [hstop (by omega)]; simp)] at hS; conv => whnf
          refine ⟨rfl, ?_⟩; conv => whnf
          exact nx hk' (hrun (by rw [hS]; exact hc))
def playScope (s : Scope) : Scope := ⟨someUp s.skus 3 8 skuN 8, someUp s.cats 2 3 catN 3⟩
theorem pscope_S (s : Scope) (st : St) : S P 95 [eScope s] st fun v st' => v = eScope (playScope s) ∧ st' = st := by
  have h1 := fun st => some_S s.skus 3 8 skuN 29 (by decide) (by decide) sku_S st
  have h2 := fun st => some_S s.cats 2 3 catN 30 (by decide) (by decide) category_S st
  unfold playScope
  generalize someUp s.skus 3 8 skuN 8 = a at h1 ⊢
  generalize someUp s.cats 2 3 catN 3 = b at h2 ⊢
  refine S_sup ?_
  refine S_of_X [1] good mixed Tryz.func95 (by rfl) rfl rfl rfl ?_; conv => whnf
  intro b2 hb; conv => whnf
  refine ⟨[7], [], List.range 8, by kernel_rfl, ?_⟩; conv => whnf
  refine ⟨_, callQ (h1 _), ?_⟩; conv => whnf
  refine ⟨_, callQ (h2 _), ?_⟩; conv => whnf
  refine stV (upd_same ..) rfl (by omega) rfl (by rfl) ?_; conv => whnf
  refine ldV (upd_same ..) rfl (by omega) (fset_same ..) ?_; conv => whnf
  exact ⟨rfl, ((Sup.refl st).upd hb).over hb⟩
def playCodes (l : List Str) : List Str := someUp l 3 3 codeN 3
theorem playCodes_S (l : List Str) (st : St) : S P 19 [eStrs l] st fun v st' => v = eStrs (playCodes l) ∧ st' = st := by
  refine S_of_X [] good mixed Tryz.func19 (by rfl) rfl rfl rfl ?_; conv => whnf
  refine call1 (some_S l 3 3 codeN 43 (by decide) (by decide) code_S _) ?_; conv => whnf
  exact ⟨rfl, rfl⟩
def playLine (x : Line) : Line := ⟨skuN (pickN x.sku), modB x.qty 10, modB x.price 4000⟩
def playLines (l : List Line) : List Line := (l.take 8).map playLine
theorem playLinesO_S (l : List Line) (st : St) : S P 20 [arrOf 3 eLine l] st fun v st' => ColL 36 3 eLine (playLines l) st v st' := by
  refine S_of_X [] good mixed Tryz.func20 (by rfl) rfl rfl rfl ?_; conv => whnf
  refine lp (min l.length 8) [0, 3, 4] (fun i vs s => ∃ sv, vs = [arrOf 3 eLine l, sv, eI i] ∧ ColL 36 3 eLine ((l.take i).map playLine) st sv s) ?_ ?_
  · conv => whnf
    exact ⟨.emp, rfl, ColL.start _ _ _ _⟩
  · rintro i vs s hi ⟨sv, rfl, hc⟩
    have hfin : i = min l.length 8 → ColL 36 3 eLine (playLines l) st sv s := fun e => by
      have : playLines l = (l.take i).map playLine := by
        unfold playLines
        rcases Nat.le_total l.length 8 with h | h
        · rw [show i = l.length by omega, List.take_length, List.take_of_length_le h]
        · rw [show i = 8 by omega]
      rw [this]; exact hc
    conv => whnf
    refine fork (fun h1 => ?_) (fun h1 => ?_) <;> rw [h1] <;> simp only [decide_eq_true_eq, decide_eq_false_iff_not] at h1
    · conv => whnf
      refine fork (fun h2 => ?_) (fun h2 => ?_) <;> rw [h2] <;> simp only [decide_eq_true_eq, decide_eq_false_iff_not] at h2
      · have hi' : i < min l.length 8 := by omega
        conv => whnf
        refine ⟨[21, 22], [], List.range 24, by kernel_rfl, ?_⟩; conv => whnf
        refine ⟨rfl, ⟨by omega, by omega⟩, ?_⟩; conv => whnf
        refine ⟨_, callQ (pick_S _ _), ?_⟩; conv => whnf
        refine ⟨_, callQ (sku_S _ _), ?_⟩; conv => whnf
        refine ⟨rfl, ⟨by omega, by omega⟩, ?_⟩; conv => whnf
        refine ⟨_, callQ (mod_S _ 10 (by decide) (by decide) _), ?_⟩; conv => whnf
        refine ⟨rfl, ⟨by omega, by omega⟩, ?_⟩; conv => whnf
        refine ⟨_, callQ (mod64_S' _ 4000 (by decide) (by decide) _), ?_⟩; conv => whnf
        refine ColL.app (y := playLine (l.getD (i : Int).toNat default)) (q := r36) rfl rfl rfl rfl rfl (by rfl) (by show (((l.take i).map playLine).length + 1) * 32 ≤ 140737488355328; rw [List.length_map, List.length_take]; omega) hc (fun sv' t' hc' => ?_); conv => whnf
        refine ⟨rfl, ?_⟩; conv => whnf
        refine nx hi' ⟨sv', by rw [wrapN (by omega)], ?_⟩
        rw [take_next (by omega), List.map_append]; exact hc'
      · conv => whnf
        exact hfin (by omega)
    · conv => whnf
      exact hfin (by omega)
def playItem (l : List Ab.Item) (k : Nat) : Ab.Item :=
  if k < l.length then ⟨skuN k, catN (pickN (l.getD k default).cat), modB (l.getD k default).price 4000, (l.getD k default).final && k == 7⟩ else ⟨skuN k, catN k, 100 + 37 * k, false⟩
def playItems (l : List Ab.Item) : List Ab.Item := (List.range 8).map (playItem l)
theorem map_range_succ {α : Type} (f : Nat → α) (k : Nat) : (List.range (k + 1)).map f = (List.range k).map f ++ [f k] := by rw [List.range_succ, List.map_append]; rfl
theorem playItems_S (l : List Ab.Item) (st : St) : S P 10 [arrOf 4 eItem l] st fun v st' => v = arrOf 4 eItem (playItems l) ∧ st' = st := by
  refine S.post (post := fun v st' => ∃ base, Sup st base ∧ ColL 75 4 eItem (playItems l) base v st') ?_ (fun v st' ⟨base, hs, hc⟩ => ⟨_, st, ⟨rfl, rfl⟩, hc.shift.trans (hs.shift _)⟩)
  refine S_of_X [] good mixed Tryz.func10 (by rfl) rfl rfl rfl ?_; conv => whnf
  refine lp 8 [0, 3, 4] (fun k vs s => ∃ sv base, vs = [arrOf 4 eItem l, sv, eI k] ∧ Sup st base ∧ ColL 75 4 eItem ((List.range k).map (playItem l)) base sv s) ?_ ?_
  · conv => whnf
    exact ⟨.emp, st, rfl, Sup.refl _, ColL.start _ _ _ _⟩
  · rintro k vs s hk ⟨sv, base, rfl, hsup, hc⟩
    conv => whnf
    refine fork (fun h1 => ?_) (fun h1 => ?_) <;> rw [h1] <;> simp only [decide_eq_true_eq, decide_eq_false_iff_not] at h1
    · have hk' : k < 8 := by omega
      have hnext := map_range_succ (playItem l) k
      have hlen : ((List.range k).map (playItem l)).length = k := by rw [List.length_map, List.length_range]
      have w1 : IntKind.i64.wrap (100 + IntKind.i64.wrap (37 * (k : Int))) = 100 + 37 * (k : Int) := by
        rw [wrap64_of (x := 37 * (k : Int)) (by omega) (by omega), wrap64_of (by omega) (by omega)]
      conv => whnf
      refine call1 (sku_S _ _) ?_; conv => whnf
      refine call1 (category_S _ _) ?_; conv => whnf
      intro b hb; conv => whnf
      refine stV (upd_same ..) rfl (by omega) rfl (by rfl) ?_
      rw [upd_twice]
      have hbb : base b = none := Col.off hc hb
      have hc1 := fun y => Col.under (y := y) hc hb
      have hend : ∀ {t : St} {Y : Blk} {x : AV} {g : Nat → AV} {K : KK}, t = upd s b Y → srcOf 4 t x = some (1, g) → g 0 = eItem (playItem l k) → (∀ sv' t', ColL 75 4 eItem ((List.range (k + 1)).map (playItem l)) (upd base b Y) sv' t' → K sv' t') → xApp T 22 sv x t K := fun {t Y x g K} e hs hg hk => by
        subst e
        refine ColL.app (q := r75) rfl rfl rfl rfl hs hg (by rw [hlen]; show (k + 1) * 48 ≤ 140737488355328; omega) (hc1 Y) (fun sv' t' hc' => hk sv' t' ?_)
        rw [hnext]; exact hc'
      conv => whnf
      refine fork (fun h2 => ?_) (fun h2 => ?_) <;> rw [h2] <;> simp only [decide_eq_true_eq, decide_eq_false_iff_not] at h2
      · have hi : k < l.length := by omega
        have hp : playItem l k = ⟨skuN k, catN (pickN (l.getD (k : Int).toNat default).cat), modB (l.getD (k : Int).toNat default).price 4000, (l.getD (k : Int).toNat default).final && k == 7⟩ := by unfold playItem; rw [if_pos hi]; rfl
        conv => whnf
        refine ⟨[23, 25, 27], [], List.range 28, by kernel_rfl, ?_⟩; conv => whnf
        refine ⟨rfl, ⟨by omega, by omega⟩, ?_⟩; conv => whnf
        refine ⟨_, callQ (pick_S _ _), ?_⟩; conv => whnf
        refine ⟨_, callQ (category_S _ _), ?_⟩; conv => whnf
        refine ⟨rfl, ⟨by omega, by omega⟩, ?_⟩; conv => whnf
        refine ⟨_, callQ (mod64_S' _ 4000 (by decide) (by decide) _), ?_⟩; conv => whnf
        refine ⟨rfl, ⟨by omega, by omega⟩, ?_⟩; conv => whnf
        refine fork (fun h3 => ?_) (fun h3 => ?_) <;> rw [h3] at hp ⊢
        all_goals
          conv => whnf
          refine stV (upd_same ..) rfl (by omega) (fset_same ..) (by rfl) ?_
          rw [upd_twice]; conv => whnf
          refine stV (upd_same ..) rfl (by omega) (fset_same ..) (by rfl) ?_
          rw [upd_twice]; conv => whnf
          refine stV (upd_same ..) rfl (by omega) (fset_same ..) (by rfl) ?_
          rw [upd_twice]; conv => whnf
          refine ldV (upd_same ..) rfl (by omega) (fset_same ..) ?_; conv => whnf
          refine hend rfl rfl (by rw [hp]; first | rfl | (have e7 : ((k : Int) == 7) = (k == 7) := by rw [Bool.eq_iff_iff, beq_iff_eq, beq_iff_eq]; omega
                                                          rw [Bool.true_and, ← e7]; rfl)) (fun sv' t' hc' => ?_)
          conv => whnf
          refine ⟨rfl, ?_⟩; conv => whnf
          exact nx hk' ⟨sv', _, by rw [wrapN (by omega)], hsup.upd hbb, hc'⟩
      · have hi : ¬ k < l.length := by omega
        have hp : playItem l k = ⟨skuN k, catN k, 100 + 37 * k, false⟩ := by unfold playItem; rw [if_neg hi]
        conv => whnf
        refine ldV (upd_same ..) rfl (by omega) (fset_same ..) ?_; conv => whnf
        refine hend rfl rfl (by rw [hp]; show AV.agg _ = _; rw [w1]; rfl) (fun sv' t' hc' => ?_); conv => whnf
        refine ⟨rfl, ?_⟩; conv => whnf
        exact nx hk' ⟨sv', _, by rw [wrapN (by omega)], hsup.upd hbb, hc'⟩
    · obtain rfl : k = 8 := by omega
      conv => whnf
      exact ⟨base, hsup, hc⟩
def kindStep (l : List Int) (out : List Int) (i : Nat) : List Int := if (out.any fun y => y == 1 + modB (gI l i) 5) = true then out else out ++ [1 + modB (gI l i) 5]
def kindUp (l : List Int) (n : Nat) : List Int := (List.range n).foldl (kindStep l) []
theorem kindUp_succ (l : List Int) (n : Nat) : kindUp l (n + 1) = kindStep l (kindUp l n) n := by unfold kindUp; rw [List.range_succ, List.foldl_append]; rfl
theorem kindUp_len (l : List Int) (n : Nat) : (kindUp l n).length ≤ n := by
  induction n with
  | zero => exact Nat.le_refl _
  | succ n ih =>
    rw [kindUp_succ]; unfold kindStep
    split
    · omega
    · rw [List.length_append]; show _ + 1 ≤ _; omega
def playKinds (l : List Int) : List Int := kindUp l (min l.length 6)
theorem any_take_succ (l : List Int) (k : Int) (j : Nat) (hj : j < l.length) : ((l.take (j + 1)).any fun y => y == k) = ((l.take j).any (fun y => y == k) || (gI l j == k)) := by
  rw [take_next hj, List.any_append]; simp
theorem playKinds_S (l : List Int) (st : St) : S P 41 [eInts l] st fun v st' => v = eInts (playKinds l) ∧ st' = st := by
  refine S_colL (ty := 3) ?_
  refine S_of_X [] good mixed Tryz.func41 (by rfl) rfl rfl rfl ?_; conv => whnf
  refine lp (min l.length 6) [0, 3, 4] (fun i vs s => ∃ sv, vs = [eInts l, sv, eI i] ∧ ColL 3 1 eI (kindUp l i) st sv s) ?_ ?_
  · conv => whnf
    exact ⟨.emp, rfl, ColL.start _ _ _ _⟩
  · rintro i vs s hi ⟨sv, rfl, hc⟩
    have hlen := kindUp_len l i
    have hfin : i = min l.length 6 → ColL 3 1 eI (playKinds l) st sv s := fun e => by unfold playKinds; rw [← e]; exact hc
    conv => whnf
    refine fork (fun h1 => ?_) (fun h1 => ?_) <;> rw [h1] <;> simp only [decide_eq_true_eq, decide_eq_false_iff_not] at h1
    · conv => whnf
      refine fork (fun h2 => ?_) (fun h2 => ?_) <;> rw [h2] <;> simp only [decide_eq_true_eq, decide_eq_false_iff_not] at h2
      · have hi' : i < min l.length 6 := by omega
        have hK := kindUp_succ l i
        unfold kindStep at hK
        have hm := modB_lt (gI l (i : Int).toNat) (n := 5) (by decide)
        have hw : IntKind.i64.wrap (1 + modB (gI l (i : Int).toNat) 5) = 1 + modB (gI l i) 5 := wrap64_of (by omega) (by omega)
        conv => whnf
        refine ⟨rfl, ⟨by omega, by omega⟩, ?_⟩; conv => whnf
        refine call1 (mod_S _ 5 (by decide) (by decide) _) ?_; conv => whnf
        rw [hw]
        generalize hkk : 1 + modB (gI l i) 5 = k at hK
        have hcases : (sv = .emp ∧ kindUp l i = []) ∨ ∃ b g, sv = .own 1 b 0 (kindUp l i).length ∧ s b = some ⟨3, 1, (kindUp l i).length, g⟩ ∧ ∀ j, j < (kindUp l i).length → g j = eI (gI (kindUp l i) j) := by
          rcases hc with ⟨h0, h3, _⟩ | ⟨_, b, g, _, h3, h4, h5⟩
          · exact .inl ⟨h3, List.eq_nil_of_length_eq_zero h0⟩
          · exact .inr ⟨b, g, h3, by rw [h4]; exact upd_same .., h5⟩
        refine lp (kindUp l i).length [0, 3, 4, 5, 6, 7] (fun j vs t => vs = [eInts l, sv, eI i, eI k, eB (((kindUp l i).take j).any fun y => y == k), eI j] ∧ t = s) ?_ ?_
        · conv => whnf
          exact ⟨rfl, rfl⟩
        · rintro j vs t hj ⟨rfl, rfl⟩
          rcases hcases with ⟨rfl, hnil⟩ | ⟨b, g, rfl, hb, hg⟩
          · have hj0 : j = 0 := by rw [hnil] at hj; exact Nat.le_zero.1 hj
            subst hj0
            have hK2 : kindUp l (i + 1) = kindUp l i ++ [k] := by rw [hK, if_neg (by rw [hnil]; simp)]
            conv => whnf
            refine ColL.app (q := r3) rfl rfl rfl rfl rfl (by rfl) (by show ((kindUp l i).length + 1) * 8 ≤ 140737488355328; omega) hc (fun sv' t' hc' => ?_); conv => whnf
            refine ⟨rfl, ?_⟩; conv => whnf
            exact nx hi' ⟨sv', by rw [wrapN (by omega)], by rw [hK2]; exact hc'⟩
          · conv => whnf
            cases h3 : decide ((j : Int) < ((kindUp l i).length : Int))
            · obtain rfl := stop_at h3 hj
              conv => whnf
              rw [List.take_length]
              cases h4 : (kindUp l i).any fun y => y == k
              · rw [if_neg (by rw [h4]; simp)] at hK; conv => whnf
                refine ColL.app (q := r3) rfl rfl rfl rfl rfl (by rfl) (by show ((kindUp l i).length + 1) * 8 ≤ 140737488355328; omega) hc (fun sv' t' hc' => ?_); conv => whnf
                refine ⟨rfl, ?_⟩; conv => whnf
                exact nx hi' ⟨sv', by rw [wrapN (by omega)], by rw [hK]; exact hc'⟩
              · rw [if_pos h4] at hK; conv => whnf
                refine ⟨rfl, ?_⟩; conv => whnf
                exact nx hi' ⟨_, by rw [wrapN (by omega)], by rw [hK]; exact hc⟩
            · have hj' := go_on h3
              have hsucc := any_take_succ (kindUp l i) k j hj'
              conv => whnf
              cases h4 : ((kindUp l i).take j).any fun y => y == k
              · rw [h4, Bool.false_or] at hsucc; conv => whnf
                refine ⟨rfl, ⟨by omega, by omega⟩, ?_⟩; conv => whnf
                refine ldV hb rfl (by omega) (v := eI (gI (kindUp l i) (j : Int).toNat)) (by rw [Nat.zero_add]; exact hg _ (by omega)) ?_; conv => whnf
                refine ⟨rfl, ?_⟩; conv => whnf
                refine nx hj' ⟨?_, rfl⟩
                rw [wrapN (by omega), hsucc]; rfl
              · rw [h4, Bool.true_or] at hsucc; conv => whnf
                refine ⟨rfl, ?_⟩; conv => whnf
                refine nx hj' ⟨?_, rfl⟩
                rw [wrapN (by omega), hsucc]
      · conv => whnf
        exact hfin (by omega)
    · conv => whnf
      exact hfin (by omega)
def playTier (x : Tier) (least : Int) : Tier := ⟨least, modB x.rate 4000, 1 + modB x.amount 300⟩
def tierUp (l : List Tier) (step : Int) : Nat → List Tier × Int
  | 0 => ([], 0)
  | i + 1 => ((tierUp l step i).1 ++ [playTier (l.getD i default) ((tierUp l step i).2 + modB (l.getD i default).least step)], (tierUp l step i).2 + modB (l.getD i default).least step + 1)
theorem tierUp_len (l : List Tier) (step : Int) (i : Nat) : (tierUp l step i).1.length = i := by
  induction i with
  | zero => rfl
  | succ i ih => show (_ ++ [_]).length = _; rw [List.length_append, ih]; rfl
theorem tierUp_least (l : List Tier) {step : Int} (h : 0 < step) (i : Nat) : 0 ≤ (tierUp l step i).2 ∧ (tierUp l step i).2 ≤ i * step := by
  induction i with
  | zero => exact ⟨Int.le_refl _, by show (0 : Int) ≤ ((0 : Nat) : Int) * step; rw [Int.natCast_zero, Int.zero_mul]; omega⟩
  | succ i ih =>
    have hm := modB_lt (l.getD i default).least h
    show 0 ≤ (tierUp l step i).2 + modB (l.getD i default).least step + 1 ∧ (tierUp l step i).2 + modB (l.getD i default).least step + 1 ≤ _
    rw [show ((i + 1 : Nat) : Int) * step = i * step + step by rw [Int.natCast_add, Int.add_mul]; simp]
    omega
def playTiers (l : List Tier) (step : Int) : List Tier := if l.length = 0 then [⟨Int.tdiv step 2, 1000, 0⟩] else (tierUp l step (min l.length 3)).1
theorem playTiers_S (l : List Tier) (step : Int) (h0 : 0 < step) (h1 : step ≤ 5000) (st : St) : S P 96 [arrOf 3 eTier l, eI step] st fun v st' => v = arrOf 3 eTier (playTiers l step) ∧ st' = st := by
  refine S_colL (ty := 192) ?_
  refine S_of_X [] good mixed Tryz.func96 (by rfl) rfl rfl rfl ?_; conv => whnf
  refine lp (min l.length 3) [0, 1, 5, 6, 7] (fun i vs s => ∃ sv, vs = [arrOf 3 eTier l, eI step, sv, eI (tierUp l step i).2, eI i] ∧ ColL 192 3 eTier (tierUp l step i).1 st sv s) ?_ ?_
  · conv => whnf
    exact ⟨.emp, rfl, ColL.start _ _ _ _⟩
  · rintro i vs s hi ⟨sv, rfl, hc⟩
    have hlen := tierUp_len l step i
    have hle := tierUp_least l h0 i
    have hip : (i : Int) * step ≤ 3 * 5000 := Int.mul_le_mul (by omega) h1 (by omega) (by omega)
    have hsv : (i = 0 ∧ sv = .emp) ∨ (0 < i ∧ ∃ b, sv = .own 3 b 0 i) := by
      rcases hc with ⟨h2, h3, _⟩ | ⟨h2, b, _, _, h3, _⟩
      · exact .inl ⟨by omega, h3⟩
      · exact .inr ⟨by omega, b, by rw [h3, hlen]⟩
    have hw2 : IntKind.i64.wrap (Int.tdiv step 2) = Int.tdiv step 2 := by
      rw [Int.tdiv_eq_ediv_of_nonneg (by omega)]
      exact wrap64_of (by omega) (by omega)
    conv => whnf
    refine fork (fun h2 => ?_) (fun h2 => ?_) <;> rw [h2] <;> simp only [decide_eq_true_eq, decide_eq_false_iff_not] at h2
    case' refine_1 =>
      conv => whnf
      refine fork (fun h3 => ?_) (fun h3 => ?_) <;> rw [h3] <;> simp only [decide_eq_true_eq, decide_eq_false_iff_not] at h3
    case refine_1.refine_1 =>
      have hi' : i < min l.length 3 := by omega
      have hm := modB_lt (l.getD (i : Int).toNat default).least h0
      have hm2 := modB_lt (l.getD (i : Int).toNat default).amount (n := 300) (by decide)
      have e1 : IntKind.i64.wrap ((tierUp l step i).2 + modB (l.getD (i : Int).toNat default).least step) = (tierUp l step i).2 + modB (l.getD (i : Int).toNat default).least step := wrap64_of (by omega) (by omega)
      have e2 : IntKind.i64.wrap (1 + modB (l.getD (i : Int).toNat default).amount 300) = 1 + modB (l.getD (i : Int).toNat default).amount 300 := wrap64_of (by omega) (by omega)
      have e3 : IntKind.i64.wrap ((tierUp l step i).2 + modB (l.getD (i : Int).toNat default).least step + 1) = (tierUp l step i).2 + modB (l.getD (i : Int).toNat default).least step + 1 := wrap64_of (by omega) (by omega)
      conv => whnf
      refine ⟨rfl, ⟨by omega, by omega⟩, ?_⟩; conv => whnf
      refine call1 (mod64_S' _ step h0 (by omega) _) ?_; conv => whnf
      rw [e1]
      refine ⟨[16, 17], [], List.range 19, by kernel_rfl, ?_⟩; conv => whnf
      refine ⟨rfl, ⟨by omega, by omega⟩, ?_⟩; conv => whnf
      refine ⟨_, callQ (mod64_S' _ 4000 (by decide) (by decide) _), ?_⟩; conv => whnf
      refine ⟨rfl, ⟨by omega, by omega⟩, ?_⟩; conv => whnf
      refine ⟨_, callQ (mod64_S' _ 300 (by decide) (by decide) _), ?_⟩; conv => whnf
      rw [e2]
      refine ColL.app (y := playTier (l.getD (i : Int).toNat default) ((tierUp l step i).2 + modB (l.getD (i : Int).toNat default).least step)) (q := r192) rfl rfl rfl rfl rfl (by rfl) (by show ((tierUp l step i).1.length + 1) * 24 ≤ 140737488355328; omega) hc (fun sv' t' hc' => ?_); conv => whnf
      rw [e3]
      refine ⟨rfl, ?_⟩; conv => whnf
      exact nx hi' ⟨sv', by rw [wrapN (by omega)]; rfl, hc'⟩
    all_goals
      have hie : i = min l.length 3 := by omega
      conv => whnf
      rcases hsv with ⟨rfl, rfl⟩ | ⟨hp, b, rfl⟩
      · have hl0 : l.length = 0 := by omega
        have hT : playTiers l step = [⟨Int.tdiv step 2, 1000, 0⟩] := by unfold playTiers; rw [if_pos hl0]
        rw [hT]; conv => whnf
        refine ColL.app (y := ⟨Int.tdiv step 2, 1000, 0⟩) (q := r192) rfl rfl rfl rfl rfl (by show AV.agg [eI (IntKind.i64.wrap (Int.tdiv step 2)), eI 1000, eI 0] = _; rw [hw2]; rfl) (by show (0 + 1) * 24 ≤ 140737488355328; omega) hc (fun sv' t' hc' => ?_); conv => whnf
        exact hc'
      · have hT : playTiers l step = (tierUp l step i).1 := by unfold playTiers; rw [if_neg (by omega), hie]
        rw [hT]; conv => whnf
        rw [show ((i : Int) == 0) = false by rw [beq_eq_false_iff_ne]; omega]; conv => whnf
        exact hc
theorem someUp_form (l : List Str) (most : Nat) (kinds : Int) (name : Int → Str) (k : Nat) : ∃ ks : List Nat, someUp l most kinds name k = ks.map (fun x : Nat => name x) ∧ ks.Pairwise (· < ·) ∧ (∀ x ∈ ks, x < k) ∧ ks.length ≤ most := by
  induction k with
  | zero => exact ⟨[], rfl, .nil, ⟨fun x hx => absurd hx List.not_mem_nil, Nat.zero_le _⟩⟩
  | succ k ih =>
    obtain ⟨ks, h1, h2, h3, h4⟩ := ih
    rw [someUp_succ]; unfold someStep
    split
    · rename_i hc
      rw [Bool.and_eq_true, decide_eq_true_eq, h1, List.length_map] at hc
      refine ⟨ks ++ [k], by rw [h1, List.map_append]; rfl, List.pairwise_append.2 ⟨h2, List.pairwise_singleton _ _, fun a ha b hb => by rw [List.mem_singleton] at hb; subst hb; exact h3 a ha⟩, fun x hx => ?_, by rw [List.length_append]; show ks.length + 1 ≤ most; omega⟩
      rcases List.mem_append.1 hx with h | h
      · have := h3 x h; omega
      · rw [List.mem_singleton] at h; omega
    · exact ⟨ks, h1, h2, fun x hx => by have := h3 x hx; omega, h4⟩
theorem names_some {l : List Str} {most : Nat} {kinds : Int} {name : Int → Str} {k : Nat} (hn : ∀ x : Nat, x < k → nameB (name x) = true) (hr : ∀ x y : Nat, x < y → y < k → slt (name x) (name y) = true) : namesB (someUp l most kinds name k) = true ∧ (someUp l most kinds name k).length ≤ most ∧ ∀ s ∈ someUp l most kinds name k, s.size ≤ 12 := by
  obtain ⟨ks, h1, h2, h3, h4⟩ := someUp_form l most kinds name k
  rw [h1]
  have hall : ∀ s ∈ ks.map (fun x : Nat => name x), nameB s = true := fun s hs => by
    obtain ⟨x, hx, rfl⟩ := List.mem_map.1 hs; exact hn x (h3 x hx)
  refine ⟨?_, by rw [List.length_map]; exact h4, fun s hs => ?_⟩
  · unfold namesB
    rw [Bool.and_eq_true, Bool.not_eq_true', List.any_eq_false]
    refine ⟨?_, fun s hs => by rw [hall s hs]; simp⟩
    unfold riseB
    rw [List.all_eq_true]
    intro j hj
    have hj := List.mem_range.1 hj
    rw [List.length_map] at hj
    unfold riseAt
    rw [Bool.or_eq_true, beq_iff_eq]
    by_cases e : j = 0
    · exact .inl e
    · refine .inr ?_
      have g : ∀ i, i < ks.length → (ks.map (fun x : Nat => name x)).getD i default = name (ks.getD i 0 : Nat) := fun i hi => by
        rw [List.getD_eq_getElem?_getD, List.getElem?_map, List.getElem?_eq_getElem hi, List.getD_eq_getElem?_getD, List.getElem?_eq_getElem hi]; rfl
      rw [g _ (by omega), g _ hj]
      have gm : ∀ i, i < ks.length → ks.getD i 0 = ks[i]! := fun i hi => by rw [List.getD_eq_getElem?_getD, List.getElem?_eq_getElem hi, getElem!_pos ks i hi]; rfl
      refine hr _ _ ?_ (h3 _ ?_)
      · rw [gm _ (by omega), gm _ hj, getElem!_pos ks _ (by omega), getElem!_pos ks _ hj]
        exact List.pairwise_iff_getElem.1 h2 _ _ (by omega) hj (by omega)
      · rw [gm _ hj, getElem!_pos ks _ hj]; exact List.getElem_mem _
  · have := hall s hs
    unfold nameB at this
    simp only [Bool.and_eq_true, decide_eq_true_eq] at this
    exact this.1.2
theorem sku_names : ((List.range 8).all fun x => nameB (skuN (x : Nat))) = true := by kernel_rfl
theorem sku_rise : ((List.range 8).all fun y => (List.range y).all fun x => slt (skuN (x : Nat)) (skuN (y : Nat))) = true := by kernel_rfl
theorem cat_names : ((List.range 3).all fun x => nameB (catN (x : Nat))) = true := by kernel_rfl
theorem cat_rise : ((List.range 3).all fun y => (List.range y).all fun x => slt (catN (x : Nat)) (catN (y : Nat))) = true := by kernel_rfl
theorem code_names : ((List.range 3).all fun x => nameB (codeN (x : Nat))) = true := by kernel_rfl
theorem code_rise : ((List.range 3).all fun y => (List.range y).all fun x => slt (codeN (x : Nat)) (codeN (y : Nat))) = true := by kernel_rfl
theorem rise_of {name : Int → Str} {k : Nat} (h : ((List.range k).all fun y => (List.range y).all fun x => slt (name (x : Nat)) (name (y : Nat))) = true) (x y : Nat) (hxy : x < y) (hy : y < k) : slt (name x) (name y) = true :=
  List.all_eq_true.1 (List.all_eq_true.1 h y (List.mem_range.2 hy)) x (List.mem_range.2 hxy)
theorem name_of {name : Int → Str} {k : Nat} (h : ((List.range k).all fun x => nameB (name (x : Nat))) = true) (x : Nat) (hx : x < k) : nameB (name x) = true := List.all_eq_true.1 h x (List.mem_range.2 hx)
theorem playScope_ok (s : Scope) : scopeB (playScope s) = true ∧ ScopeSm (playScope s) := by
  obtain ⟨a1, a2, a3⟩ := names_some (l := s.skus) (most := 3) (kinds := 8) (name := skuN) (k := 8) (name_of sku_names) (rise_of sku_rise)
  obtain ⟨b1, b2, b3⟩ := names_some (l := s.cats) (most := 2) (kinds := 3) (name := catN) (k := 3) (name_of cat_names) (rise_of cat_rise)
  unfold playScope
  generalize someUp s.skus 3 8 skuN 8 = A at a1 a2 a3 ⊢
  generalize someUp s.cats 2 3 catN 3 = B at b1 b2 b3 ⊢
  refine ⟨?_, ?_⟩
  · unfold scopeB
    rw [a1, b1, decide_eq_true (show A.length ≤ 20 by omega), decide_eq_true (show B.length ≤ 20 by omega)]; rfl
  · exact ⟨by show A.length ≤ _; omega, by show B.length ≤ _; omega, fun x hx => by have := a3 x hx; show x.size ≤ _; omega, fun x hx => by have := b3 x hx; show x.size ≤ _; omega⟩
theorem playCodes_ok (l : List Str) : codesC (playCodes l) = true ∧ (playCodes l).length ≤ 3 ∧ ∀ s ∈ playCodes l, s.size ≤ 12 := by
  obtain ⟨a1, a2, a3⟩ := names_some (l := l) (most := 3) (kinds := 3) (name := codeN) (k := 3) (name_of code_names) (rise_of code_rise)
  unfold playCodes
  generalize someUp l 3 3 codeN 3 = A at a1 a2 a3 ⊢
  refine ⟨?_, a2, a3⟩
  unfold namesB at a1
  rw [Bool.and_eq_true] at a1
  unfold codesC
  rw [a1.1, a1.2, decide_eq_true (by omega)]; rfl
theorem mod8 (n : Int) : modB n 8 = 0 ∨ modB n 8 = 1 ∨ modB n 8 = 2 ∨ modB n 8 = 3 ∨ modB n 8 = 4 ∨ modB n 8 = 5 ∨ modB n 8 = 6 ∨ modB n 8 = 7 := by
  have := modB_lt n (n := 8) (by decide); omega
theorem skuN_nat (k : Nat) (h : k < 8) : skuN k = byteS (97 + k) := by
  unfold skuN modB; congr 2; omega
theorem skus_play (l : List Ab.Item) : (playItems l).map Ab.Item.sku = [byteS 97, byteS 98, byteS 99, byteS 100, byteS 101, byteS 102, byteS 103, byteS 104] := by
  unfold playItems
  rw [List.map_map]
  have e : ∀ k, k < 8 → (Ab.Item.sku ∘ playItem l) k = byteS (97 + (k : Int)) := fun k hk => by
    rw [← skuN_nat k hk]
    show (playItem l k).sku = _
    unfold playItem; split <;> rfl
  have : (List.range 8).map (Ab.Item.sku ∘ playItem l) = (List.range 8).map fun k : Nat => byteS (97 + (k : Int)) := List.map_congr_left fun k hk => e k (List.mem_range.1 hk)
  rw [this]; rfl
theorem playItems_len (l : List Ab.Item) : (playItems l).length = 8 := by unfold playItems; rw [List.length_map, List.length_range]
theorem known_iff (items : List Ab.Item) (s : Str) : known items s = (items.map Ab.Item.sku).any fun y => y.toList == s.toList := by
  unfold known findB
  rw [idx_any, List.any_map]; rfl
theorem known_play (l : List Ab.Item) (n : Int) : known (playItems l) (skuN n) = true := by
  rw [known_iff, skus_play]
  unfold skuN
  rcases mod8 n with h | h | h | h | h | h | h | h <;> rw [h] <;> kernel_rfl
theorem playLine_ok (x : Line) : (0 ≤ (playLine x).qty ∧ (playLine x).qty ≤ 9) ∧ 0 ≤ (playLine x).price ∧ (playLine x).price < 4000 := by
  have h1 := modB_lt x.qty (n := 10) (by decide)
  have h2 := modB_lt x.price (n := 4000) (by decide)
  exact ⟨⟨h1.1, by show modB x.qty 10 ≤ 9; omega⟩, h2.1, h2.2⟩
structure BasketOk (l : List Line) : Prop where
  len : l.length ≤ 8
  line : ∀ x ∈ l, (0 ≤ x.qty ∧ x.qty ≤ 9) ∧ 0 ≤ x.price ∧ x.price < 4000
  sku : ∀ x ∈ l, ∃ n, x.sku = skuN n
theorem playLines_ok (l : List Line) : BasketOk (playLines l) := by
  unfold playLines
  refine ⟨by rw [List.length_map, List.length_take]; omega, fun x hx => ?_, fun x hx => ?_⟩
  · obtain ⟨y, _, rfl⟩ := List.mem_map.1 hx; exact playLine_ok y
  · obtain ⟨y, _, rfl⟩ := List.mem_map.1 hx; exact ⟨pickN y.sku, rfl⟩
theorem BasketOk.lineC {l : List Line} (h : BasketOk l) {x : Line} (hx : x ∈ l) : lineC x = true := by
  have := h.line x hx
  rw [lineC_iff]; omega
theorem sums_le {l : List Line} (h1 : ∀ x ∈ l, (0 ≤ x.qty ∧ x.qty ≤ 9) ∧ 0 ≤ x.price ∧ x.price < 4000) : (0 ≤ unitsN l ∧ unitsN l ≤ 9 * l.length) ∧ 0 ≤ grossN l ∧ grossN l ≤ 36000 * l.length := by
  have : ∀ (l : List Line) (a b : Int), (∀ x ∈ l, (0 ≤ x.qty ∧ x.qty ≤ 9) ∧ 0 ≤ x.price ∧ x.price < 4000) → (a ≤ l.foldl (fun s x => s + x.qty) a ∧ l.foldl (fun s x => s + x.qty) a ≤ a + 9 * l.length) ∧ b ≤ l.foldl (fun s x => s + x.qty * x.price) b ∧ l.foldl (fun s x => s + x.qty * x.price) b ≤ b + 36000 * l.length := by
    intro l
    induction l with
    | nil => intro a b _; simp
    | cons y l ih =>
      intro a b h
      have hy := h y (List.mem_cons_self ..)
      have h0 : 0 ≤ y.qty * y.price := Int.mul_nonneg hy.1.1 hy.2.1
      have h9 : y.qty * y.price ≤ 9 * 4000 := Int.mul_le_mul hy.1.2 (by omega) hy.2.1 (by omega)
      have := ih (a + y.qty) (b + y.qty * y.price) fun x hx => h x (List.mem_cons_of_mem _ hx)
      rw [List.foldl_cons, List.foldl_cons, List.length_cons]
      omega
  have := this l 0 0 h1
  unfold unitsN grossN; omega
theorem find_none' {kn : Str → Bool} {l : List Line} (h : ∀ x ∈ l, kn x.sku = true ∧ lineC x = true) : l.find? (badLine kn) = none := by
  rw [List.find?_eq_none]
  intro x hx
  unfold badLine
  rw [(h x hx).1, (h x hx).2]; simp
theorem BasketOk.check {l : List Line} (h : BasketOk l) {kn : Str → Bool} (hk : ∀ n, kn (skuN n) = true) : checkE kn l = 0 := by
  unfold checkE
  have hl := h.len
  have hs := sums_le h.line
  rw [if_neg (by omega), find_none' fun x hx => ⟨by obtain ⟨n, hn⟩ := h.sku x hx; rw [hn]; exact hk n, h.lineC hx⟩]
  show (if _ then (5 : Int) else 0) = 0
  rw [if_neg]
  rw [decide_eq_false (by omega), decide_eq_false (by omega)]; decide
def groupN (n : Int) : Str := (⟨#[103]⟩ : Str) ++ byteS (48 + modB n 2)
def zoneN (k : Int) : Str := (⟨#[122]⟩ : Str) ++ byteS (48 + k)
def playPart (x : Part) : Part := ⟨playScope x.scope, 1 + modB x.count 2⟩
def playParts (l : List Part) : List Part := if l.length = 0 then [⟨⟨[], []⟩, 2⟩] else (l.take 3).map playPart
def playKind (p : Promo) : Int := 1 + modB (IntKind.i64.wrap (p.kind - 1)) 7
def playGroup (p : Promo) : Str := if modB (pickN p.group) 3 = 1 then groupN p.group.size else ⟨#[]⟩
def playCode (p : Promo) : Str := if modB (pickN p.code) 3 = 1 then codeN p.code.size else ⟨#[]⟩
def playLeast (p : Promo) : Int := if modB p.least 3 = 1 then modB p.least 9000 else 0
def playPromoK (p : Promo) (id K : Int) : Promo :=
  ⟨idN id, K, modB p.prio 5, playGroup p, playCode p, if K = 7 then false else p.closes, if K = 4 ∨ K = 7 then ⟨[], []⟩ else playScope p.scope, playLeast p,
   if K = 1 ∨ K = 3 ∨ K = 7 then 1 + modB p.rate 10000 else 0, if K = 2 then 1 + modB p.amount 900 else if K = 4 then modB p.amount 3000 else 0,
   if K = 3 then 1 + modB p.buy 3 else 0, if K = 3 then 1 + modB p.get 2 else 0, if K = 4 then playParts p.parts else [], if K = 5 then playTiers p.tiers 5000 else if K = 6 then playTiers p.tiers 5 else []⟩
def playPromo (p : Promo) (id : Int) : Promo := playPromoK p id (playKind p)
def idAt (i : Nat) : Int := ((i : Int) * 7 + 3) % 10
def playPromoAt (l : List Promo) (i : Nat) : Promo := playPromo (l.getD i default) (idAt i)
def playPromos (l : List Promo) : List Promo := (List.range (min l.length 6)).map (playPromoAt l)
def playRate (l : List CatRate) (c : Nat) : CatRate := ⟨catN c, modB (l.getD c default).rate 3000⟩
def playRates (l : List CatRate) : List CatRate := (List.range (min 3 l.length)).map (playRate l)
def playZone (l : List Zone) (k : Nat) : Zone :=
  if k < l.length then ⟨zoneN k, playRates (l.getD k default).rates, modB (l.getD k default).rest 3000, modB (l.getD k default).ship 3000⟩ else ⟨zoneN k, [], 1000 * k, 500 * k⟩
def playTax (t : Tax) : Tax := ⟨t.incl, t.byOrder, modB t.round 3, (List.range 3).map (playZone t.zones)⟩
def playShip (s : Ab.Ship) : Ab.Ship := ⟨modB s.fee 900, modB s.free 3 * 4000⟩
def playPolicy (p : Policy) : Policy := ⟨20 + modB p.window 60, modB p.grace 40, 1 + modB p.mode 3, modB p.restock 3 * modB p.restock 2500, playKinds p.order, playKinds p.credit⟩
def playRules (r : Rules) : Rules := ⟨playItems r.items, playPromos r.promos, playTax r.tax, playShip r.ship, playPolicy r.policy⟩
theorem modC2 (n : Int) : modB n 2 = 0 ∨ modB n 2 = 1 := by
  have := modB_lt n (n := 2) (by decide); omega
theorem modC3 (n : Int) : modB n 3 = 0 ∨ modB n 3 = 1 ∨ modB n 3 = 2 := by
  have := modB_lt n (n := 3) (by decide); omega
theorem modC10 (n : Int) : modB n 10 = 0 ∨ modB n 10 = 1 ∨ modB n 10 = 2 ∨ modB n 10 = 3 ∨ modB n 10 = 4 ∨ modB n 10 = 5 ∨ modB n 10 = 6 ∨ modB n 10 = 7 ∨ modB n 10 = 8 ∨ modB n 10 = 9 := by
  have := modB_lt n (n := 10) (by decide); omega
theorem le3 {n : Nat} (h : n ≤ 3) : n = 0 ∨ n = 1 ∨ n = 2 ∨ n = 3 := by omega
theorem lt3 {n : Nat} (h : n < 3) : n = 0 ∨ n = 1 ∨ n = 2 := by omega
theorem nameB_size {s : Str} (h : nameB s = true) : s.size ≤ 12 := by
  unfold nameB at h
  simp only [Bool.and_eq_true, decide_eq_true_eq] at h
  exact h.1.2
theorem sku_nameB (n : Int) : nameB (skuN n) = true := by
  unfold skuN
  rcases mod8 n with h | h | h | h | h | h | h | h <;> rw [h] <;> kernel_rfl
theorem cat_nameB (n : Int) : nameB (catN n) = true := by
  unfold catN
  rcases modC3 n with h | h | h <;> rw [h] <;> kernel_rfl
theorem code_nameB (n : Int) : nameB (codeN n) = true := by
  unfold codeN
  rcases modC3 n with h | h | h <;> rw [h] <;> kernel_rfl
theorem group_nameB (n : Int) : nameB (groupN n) = true := by
  unfold groupN
  rcases modC2 n with h | h <;> rw [h] <;> kernel_rfl
theorem id_nameB (n : Int) : nameB (idN n) = true := by
  unfold idN
  rcases modC10 n with h | h | h | h | h | h | h | h | h | h <;> rw [h] <;> kernel_rfl
theorem named_nil : namedC ⟨#[]⟩ = true := by kernel_rfl
theorem named_of {s : Str} (h : nameB s = true) : namedC s = true := by unfold namedC; rw [h, Bool.or_true]
theorem group_named (p : Promo) : namedC (playGroup p) = true ∧ (playGroup p).size ≤ 12 := by
  unfold playGroup; split
  · exact ⟨named_of (group_nameB _), nameB_size (group_nameB _)⟩
  · exact ⟨named_nil, by decide⟩
theorem code_named (p : Promo) : namedC (playCode p) = true ∧ (playCode p).size ≤ 12 := by
  unfold playCode; split
  · exact ⟨named_of (code_nameB _), nameB_size (code_nameB _)⟩
  · exact ⟨named_nil, by decide⟩
theorem least_ok (p : Promo) : 0 ≤ playLeast p ∧ playLeast p < 9000 := by
  have := modB_lt p.least (n := 9000) (by decide)
  unfold playLeast; split <;> omega
theorem empty_ok : scopeB ⟨[], []⟩ = true ∧ ScopeSm ⟨[], []⟩ := ⟨by kernel_rfl, ⟨by decide, by decide, fun x hx => (by cases hx), fun x hx => (by cases hx)⟩⟩
theorem playParts_ok (l : List Part) : (1 ≤ (playParts l).length ∧ (playParts l).length ≤ 3) ∧ ∀ x ∈ playParts l, partC x = true ∧ ScopeSm x.scope := by
  unfold playParts
  split
  · refine ⟨⟨Nat.le_refl _, by show 1 ≤ 3; decide⟩, fun x hx => ?_⟩
    rw [List.mem_singleton.1 hx]
    exact ⟨by kernel_rfl, empty_ok.2⟩
  · rename_i h
    refine ⟨by rw [List.length_map, List.length_take]; omega, fun x hx => ?_⟩
    obtain ⟨y, _, rfl⟩ := List.mem_map.1 hx
    obtain ⟨h1, h2⟩ := playScope_ok y.scope
    have := modB_lt y.count (n := 2) (by decide)
    refine ⟨?_, h2⟩
    unfold partC
    rw [show (playPart y).scope = playScope y.scope from rfl, h1, show (playPart y).count = 1 + modB y.count 2 from rfl, decide_eq_false (by omega), decide_eq_false (by omega)]; rfl
theorem tierUp_get (l : List Tier) (step : Int) (i k : Nat) (hk : k < i) : (tierUp l step i).1.getD k default = playTier (l.getD k default) ((tierUp l step k).2 + modB (l.getD k default).least step) := by
  induction i with
  | zero => omega
  | succ i ih =>
    have hl := tierUp_len l step i
    show ((tierUp l step i).1 ++ [_]).getD k default = _
    by_cases e : k = i
    · subst e
      rw [List.getD_eq_getElem?_getD, List.getElem?_append_right (by omega), hl, Nat.sub_self]; rfl
    · rw [List.getD_eq_getElem?_getD, List.getElem?_append_left (by omega), ← List.getD_eq_getElem?_getD]
      exact ih (by omega)
theorem playTiers_ok (l : List Tier) (step : Int) (h : step = 5000 ∨ step = 5) : tiersC (playTiers l step) = true ∧ (playTiers l step).length ≤ 3 := by
  unfold playTiers
  split
  · rcases h with rfl | rfl
    · exact ⟨by kernel_rfl, by show 1 ≤ 3; decide⟩
    · exact ⟨by kernel_rfl, by show 1 ≤ 3; decide⟩
  · rename_i h0
    have hs : 0 < step ∧ step ≤ 5000 := by omega
    have hl := tierUp_len l step (min l.length 3)
    refine ⟨?_, by omega⟩
    unfold tiersC
    rw [hl, decide_eq_false (by omega), decide_eq_false (by omega)]
    show allAt _ _ = true
    refine allAt_yes fun k hk => ?_
    rw [hl] at hk
    have hg := tierUp_get l step (min l.length 3) k hk
    have hm := modB_lt (l.getD k default).least hs.1
    have hr := modB_lt (l.getD k default).rate (n := 4000) (by decide)
    have ha := modB_lt (l.getD k default).amount (n := 300) (by decide)
    have hlo := tierUp_least l hs.1 k
    have hip : (k : Int) * step ≤ 3 * 5000 := Int.mul_le_mul (by omega) hs.2 (by omega) (by omega)
    unfold tierAt
    rw [hg]
    have hprev : (if k = 0 then -1 else ((tierUp l step (min l.length 3)).1.getD (k - 1) default).least) < (tierUp l step k).2 + modB (l.getD k default).least step := by
      by_cases e : k = 0
      · rw [if_pos e]; omega
      · rw [if_neg e, tierUp_get l step (min l.length 3) (k - 1) (by omega)]
        obtain ⟨j, rfl⟩ : ∃ j, k = j + 1 := ⟨k - 1, by omega⟩
        rw [Nat.add_sub_cancel]
        show (tierUp l step j).2 + modB (l.getD j default).least step < (tierUp l step j).2 + modB (l.getD j default).least step + 1 + modB (l.getD (j + 1) default).least step
        omega
    show (!(decide ((tierUp l step k).2 + modB (l.getD k default).least step ≤ _) || decide ((tierUp l step k).2 + modB (l.getD k default).least step > 10000000000000) || decide (modB (l.getD k default).rate 4000 < 0) || decide (modB (l.getD k default).rate 4000 > 10000) || decide (1 + modB (l.getD k default).amount 300 < 0) || decide (1 + modB (l.getD k default).amount 300 > 10000000000000) || (modB (l.getD k default).rate 4000 == 0 && 1 + modB (l.getD k default).amount 300 == 0))) = true
    rw [decide_eq_false (by omega), decide_eq_false (by omega), decide_eq_false (by omega), decide_eq_false (by omega), decide_eq_false (by omega), decide_eq_false (by omega), show (1 + modB (l.getD k default).amount 300 == 0) = false from by rw [beq_eq_false_iff_ne]; omega, Bool.and_false]; rfl
theorem kindUp_ok (l : List Int) (n : Nat) : (∀ x ∈ kindUp l n, 1 ≤ x ∧ x ≤ 5) ∧ (kindUp l n).Nodup := by
  induction n with
  | zero => exact ⟨fun x hx => absurd hx List.not_mem_nil, List.nodup_nil⟩
  | succ n ih =>
    rw [kindUp_succ]; unfold kindStep
    split
    · exact ih
    · rename_i h
      have hm := modB_lt (gI l n) (n := 5) (by decide)
      have hno : 1 + modB (gI l n) 5 ∉ kindUp l n := fun hx => h (List.any_eq_true.2 ⟨_, hx, beq_self_eq_true _⟩)
      refine ⟨fun x hx => ?_, List.nodup_append.2 ⟨ih.2, List.nodup_cons.2 ⟨List.not_mem_nil, List.nodup_nil⟩, fun a ha b hb => ?_⟩⟩
      · rcases List.mem_append.1 hx with h' | h'
        · exact ih.1 x h'
        · rw [List.mem_singleton.1 h']; omega
      · rw [List.mem_singleton.1 hb]; intro e; exact hno (e ▸ ha)
theorem kinds_right {l : List Int} (h1 : ∀ x ∈ l, 1 ≤ x ∧ x ≤ 5) (h2 : l.Nodup) : kindsC l = true := by
  refine allAt_yes fun k hk => ?_
  have hx := h1 _ (getD_mem hk)
  unfold kindAt
  rw [show upB 1 9 (l.getD k default) = true from upB_iff.2 (by omega)]
  have : ((l.take k).any fun y => l.getD k default == y) = false := by
    rw [List.any_eq_false]
    intro y hy
    obtain ⟨j, hj, rfl⟩ := List.getElem_of_mem hy
    rw [List.length_take] at hj
    rw [beq_iff_eq, List.getD_eq_getElem?_getD, List.getElem?_eq_getElem hk, Option.getD_some, List.getElem_take]
    intro e
    have := (List.nodup_iff_pairwise_ne.1 h2)
    exact absurd e.symm (List.pairwise_iff_getElem.1 this j k (by omega) hk (by omega))
  rw [this]; rfl
theorem playKinds_ok (l : List Int) : kindsC (playKinds l) = true ∧ (playKinds l).length ≤ 6 := by
  have h := kindUp_ok l (min l.length 6)
  have := kindUp_len l (min l.length 6)
  exact ⟨kinds_right h.1 h.2, by show (kindUp l _).length ≤ 6; omega⟩
theorem promoC_of (q : Promo) (h1 : 1 ≤ q.kind ∧ q.kind < 8) (hh : pHead q = true) (hp : pPlain q = true) (hk : pKind q = true) : promoC q = true := by
  unfold promoC; rw [decide_eq_true (show q.kind ≥ 1 from h1.1), decide_eq_true h1.2, hh, hp, hk]; rfl
theorem pHead_of (q : Promo) (h1 : nameB q.id = true) (h2 : 0 ≤ q.prio ∧ q.prio ≤ 1000) (h3 : namedC q.group = true) (h4 : namedC q.code = true) (h5 : scopeB q.scope = true) (h6 : 0 ≤ q.least ∧ q.least ≤ 10000000000000) : pHead q = true := by
  unfold pHead; rw [h1, upB_iff.2 h2, h3, h4, h5, upB_iff.2 h6]; rfl
theorem playKind_ok (p : Promo) : 1 ≤ playKind p ∧ playKind p ≤ 7 := by
  have := modB_lt (IntKind.i64.wrap (p.kind - 1)) (n := 7) (by decide)
  unfold playKind; omega
theorem playPromoK_right (p : Promo) (id K : Int) (hK : 1 ≤ K ∧ K ≤ 7) : promoC (playPromoK p id K) = true := by
  have h1 := id_nameB id
  have h2 := modB_lt p.prio (n := 5) (by decide)
  have h3 := (group_named p).1
  have h4 := (code_named p).1
  have h5 := (playScope_ok p.scope).1
  have h6 := least_ok p
  have r := modB_lt p.rate (n := 10000) (by decide)
  have a9 := modB_lt p.amount (n := 900) (by decide)
  have a3 := modB_lt p.amount (n := 3000) (by decide)
  have b3 := modB_lt p.buy (n := 3) (by decide)
  have g2 := modB_lt p.get (n := 2) (by decide)
  have hpt := playParts_ok p.parts
  have ht5 := (playTiers_ok p.tiers 5000 (.inl rfl)).1
  have ht6 := (playTiers_ok p.tiers 5 (.inr rfl)).1
  unfold playPromoK
  generalize idN id = I at h1 ⊢
  generalize modB p.prio 5 = pr at h2 ⊢
  generalize playGroup p = G at h3 ⊢
  generalize playCode p = C at h4 ⊢
  generalize playScope p.scope = S at h5 ⊢
  generalize playLeast p = L at h6 ⊢
  generalize modB p.rate 10000 = R at r ⊢
  generalize modB p.amount 900 = A at a9 ⊢
  generalize modB p.amount 3000 = A3 at a3 ⊢
  generalize modB p.buy 3 = B at b3 ⊢
  generalize modB p.get 2 = Gt at g2 ⊢
  generalize playParts p.parts = PT at hpt ⊢
  generalize playTiers p.tiers 5000 = T5 at ht5 ⊢
  generalize playTiers p.tiers 5 = T6 at ht6 ⊢
  generalize p.closes = cl
  rcases (by omega : K = 1 ∨ K = 2 ∨ K = 3 ∨ K = 4 ∨ K = 5 ∨ K = 6 ∨ K = 7) with rfl | rfl | rfl | rfl | rfl | rfl | rfl
  · exact promoC_of ⟨I, 1, pr, G, C, cl, S, L, 1 + R, 0, 0, 0, [], []⟩ ⟨(by decide : (1 : Int) ≤ 1), (by decide : (1 : Int) < 8)⟩ (pHead_of _ h1 ⟨h2.1, by show pr ≤ 1000; omega⟩ h3 h4 h5 ⟨h6.1, by show L ≤ _; omega⟩) rfl (show upB 1 10000 (1 + R) = true from upB_iff.2 (by omega))
  · exact promoC_of ⟨I, 2, pr, G, C, cl, S, L, 0, 1 + A, 0, 0, [], []⟩ ⟨(by decide : (1 : Int) ≤ 2), (by decide : (2 : Int) < 8)⟩ (pHead_of _ h1 ⟨h2.1, by show pr ≤ 1000; omega⟩ h3 h4 h5 ⟨h6.1, by show L ≤ _; omega⟩) rfl (show upB 1 1000000000 (1 + A) = true from upB_iff.2 (by omega))
  · refine promoC_of ⟨I, 3, pr, G, C, cl, S, L, 1 + R, 0, 1 + B, 1 + Gt, [], []⟩ ⟨(by decide : (1 : Int) ≤ 3), (by decide : (3 : Int) < 8)⟩ (pHead_of _ h1 ⟨h2.1, by show pr ≤ 1000; omega⟩ h3 h4 h5 ⟨h6.1, by show L ≤ _; omega⟩) rfl ?_
    show (upB 1 10000 (1 + R) && (upB 1 100 (1 + B) && upB 1 100 (1 + Gt))) = true
    rw [upB_iff.2 (show 1 ≤ 1 + R ∧ 1 + R ≤ 10000 by omega), upB_iff.2 (show 1 ≤ 1 + B ∧ 1 + B ≤ 100 by omega), upB_iff.2 (show 1 ≤ 1 + Gt ∧ 1 + Gt ≤ 100 by omega)]; rfl
  · refine promoC_of ⟨I, 4, pr, G, C, cl, ⟨[], []⟩, L, 0, A3, 0, 0, PT, []⟩ ⟨(by decide : (1 : Int) ≤ 4), (by decide : (4 : Int) < 8)⟩ (pHead_of _ h1 ⟨h2.1, by show pr ≤ 1000; omega⟩ h3 h4 empty_ok.1 ⟨h6.1, by show L ≤ _; omega⟩) rfl ?_
    show (!(decide ((PT.length : Int) < 1) || decide ((PT.length : Int) > 3) || decide (A3 < 0) || decide (A3 > 10000000000000)) && !(PT.any fun x => !partC x)) = true
    rw [decide_eq_false (by omega), decide_eq_false (by omega), decide_eq_false (by omega), decide_eq_false (by omega), show (PT.any fun x => !partC x) = false from by
      rw [List.any_eq_false]; intro x hx; rw [(hpt.2 x hx).1]; simp]; rfl
  · exact promoC_of ⟨I, 5, pr, G, C, cl, S, L, 0, 0, 0, 0, [], T5⟩ ⟨(by decide : (1 : Int) ≤ 5), (by decide : (5 : Int) < 8)⟩ (pHead_of _ h1 ⟨h2.1, by show pr ≤ 1000; omega⟩ h3 h4 h5 ⟨h6.1, by show L ≤ _; omega⟩) rfl ht5
  · exact promoC_of ⟨I, 6, pr, G, C, cl, S, L, 0, 0, 0, 0, [], T6⟩ ⟨(by decide : (1 : Int) ≤ 6), (by decide : (6 : Int) < 8)⟩ (pHead_of _ h1 ⟨h2.1, by show pr ≤ 1000; omega⟩ h3 h4 h5 ⟨h6.1, by show L ≤ _; omega⟩) rfl ht6
  · exact promoC_of ⟨I, 7, pr, G, C, false, ⟨[], []⟩, L, 1 + R, 0, 0, 0, [], []⟩ ⟨(by decide : (1 : Int) ≤ 7), (by decide : (7 : Int) < 8)⟩ (pHead_of _ h1 ⟨h2.1, by show pr ≤ 1000; omega⟩ h3 h4 empty_ok.1 ⟨h6.1, by show L ≤ _; omega⟩) rfl (show upB 1 10000 (1 + R) = true from upB_iff.2 (by omega))
theorem ScopeSm.fit {s : Scope} (h : ScopeSm s) : ScopeFit s := ⟨by have := h.n1; show _ ≤ 9223372036854775807; omega, by have := h.n2; show _ ≤ 9223372036854775807; omega⟩
theorem playPromoK_fit (p : Promo) (id K : Int) : PromoFit (playPromoK p id K) := by
  have hs := (playScope_ok p.scope).2
  have hp := playParts_ok p.parts
  refine ⟨?_, ?_, ?_⟩
  · show ScopeFit (if K = 4 ∨ K = 7 then ⟨[], []⟩ else playScope p.scope)
    split
    · exact empty_ok.2.fit
    · exact hs.fit
  · show (if K = 4 then playParts p.parts else []).length ≤ 9223372036854775807
    split
    · omega
    · exact Nat.zero_le _
  · show ∀ x ∈ (if K = 4 then playParts p.parts else []), _
    split
    · exact fun x hx => ⟨(hp.2 x hx).2.fit.skus, (hp.2 x hx).2.fit.cats⟩
    · exact fun x hx => absurd hx List.not_mem_nil
theorem playPromos_len (l : List Promo) : (playPromos l).length = min l.length 6 := by unfold playPromos; rw [List.length_map, List.length_range]
theorem playPromos_get {l : List Promo} {k : Nat} (hk : k < (playPromos l).length) : (playPromos l).getD k default = playPromoAt l k := by
  rw [playPromos_len] at hk
  unfold playPromos
  rw [List.getD_eq_getElem?_getD, List.getElem?_map, List.getElem?_range hk]; rfl
theorem playPromos_mem {l : List Promo} {p : Promo} (h : p ∈ playPromos l) : ∃ (q : Promo) (id K : Int), (1 ≤ K ∧ K ≤ 7) ∧ p = playPromoK q id K := by
  obtain ⟨k, hk, rfl⟩ := List.mem_map.1 h
  exact ⟨_, _, _, playKind_ok _, rfl⟩
theorem ids_unlike : ((List.range 6).all fun j => (List.range j).all fun i => !((idN (idAt i)).toList == (idN (idAt j)).toList)) = true := by kernel_rfl
theorem playPromos_right (l : List Promo) : promosC (playPromos l) = true := by
  have hl := playPromos_len l
  unfold promosC
  rw [decide_eq_true (by omega), Bool.true_and]
  refine allAt_yes fun k hk => ?_
  unfold promoAt
  rw [playPromos_get hk, show promoC (playPromoAt l k) = true from playPromoK_right _ _ _ (playKind_ok _), Bool.true_and, Bool.not_eq_true', List.any_eq_false]
  intro x hx
  obtain ⟨j, hj, rfl⟩ := mem_getD hx
  rw [List.length_take] at hj
  rw [show ((playPromos l).take k).getD j default = playPromoAt l j by rw [List.getD_eq_getElem?_getD, List.getElem?_take_of_lt (by omega), ← List.getD_eq_getElem?_getD, playPromos_get (by omega)]]
  have := List.all_eq_true.1 (List.all_eq_true.1 ids_unlike k (List.mem_range.2 (by omega))) j (List.mem_range.2 (by omega))
  rw [Bool.not_eq_true'] at this
  show ¬ ((idN (idAt j)).toList == (idN (idAt k)).toList) = true
  rw [this]; simp
theorem cats_rise (n : Nat) (h : n ≤ 3) : riseB ((List.range n).map fun c : Nat => catN c) = true := by
  rcases le3 h with rfl | rfl | rfl | rfl <;> kernel_rfl
theorem playRates_ok (l : List CatRate) : (playRates l).length ≤ 3 ∧ (∀ x ∈ playRates l, rateC x = true ∧ x.cat.size ≤ 12) ∧ riseB ((playRates l).map CatRate.cat) = true := by
  unfold playRates
  refine ⟨by rw [List.length_map, List.length_range]; omega, fun x hx => ?_, ?_⟩
  · obtain ⟨c, _, rfl⟩ := List.mem_map.1 hx
    have := modB_lt (l.getD c default).rate (n := 3000) (by decide)
    refine ⟨?_, nameB_size (cat_nameB _)⟩
    unfold rateC
    rw [show (playRate l c).cat = catN c from rfl, cat_nameB, show upB 0 10000 (playRate l c).rate = true from upB_iff.2 ⟨this.1, by show modB _ 3000 ≤ _; omega⟩]; rfl
  · rw [List.map_map]
    exact cats_rise _ (by omega)
theorem zone_names : ((List.range 3).all fun k : Nat => nameB (zoneN k)) = true := by kernel_rfl
theorem playZone_ok (l : List Zone) (k : Nat) (hk : k < 3) : zoneC (playZone l k) = true := by
  have hn := List.all_eq_true.1 zone_names k (List.mem_range.2 hk)
  have hz := nameB_size hn
  unfold playZone
  split
  · obtain ⟨h1, h2, h3⟩ := playRates_ok (l.getD k default).rates
    have m1 := modB_lt (l.getD k default).rest (n := 3000) (by decide)
    have m2 := modB_lt (l.getD k default).ship (n := 3000) (by decide)
    generalize playRates (l.getD k default).rates = R at h1 h2 h3 ⊢
    unfold zoneC
    show (!(!nameB (zoneN k) || !upB 0 10000 (modB _ 3000) || !upB 0 10000 (modB _ 3000) || decide ((R.length : Int) > 40)) && (allAt R (fun _ x => rateC x) && riseB (R.map CatRate.cat))) = true
    rw [hn, upB_iff.2 (show 0 ≤ modB (l.getD k default).rest 3000 ∧ _ ≤ 10000 by omega), upB_iff.2 (show 0 ≤ modB (l.getD k default).ship 3000 ∧ _ ≤ 10000 by omega), decide_eq_false (by omega), h3, show allAt R (fun _ x => rateC x) = true from allAt_yes fun j hj => (h2 _ (getD_mem hj)).1]; rfl
  · rcases lt3 hk with rfl | rfl | rfl
    · exact (by kernel_rfl : zoneC ⟨zoneN (0 : Nat), [], 1000 * ((0 : Nat) : Int), 500 * ((0 : Nat) : Int)⟩ = true)
    · exact (by kernel_rfl : zoneC ⟨zoneN (1 : Nat), [], 1000 * ((1 : Nat) : Int), 500 * ((1 : Nat) : Int)⟩ = true)
    · exact (by kernel_rfl : zoneC ⟨zoneN (2 : Nat), [], 1000 * ((2 : Nat) : Int), 500 * ((2 : Nat) : Int)⟩ = true)
theorem zone_rise (l : List Zone) : (((List.range 3).map (playZone l)).map Zone.name) = [zoneN 0, zoneN 1, zoneN 2] := by
  have e : ∀ k, (playZone l k).name = zoneN k := fun k => by unfold playZone; split <;> rfl
  show [(playZone l 0).name, (playZone l 1).name, (playZone l 2).name] = _
  rw [e, e, e]; rfl
theorem playTax_ok (t : Tax) : taxC (playTax t) = true := by
  have hr := modB_lt t.round (n := 3) (by decide)
  have hz : ∀ z ∈ (playTax t).zones, zoneC z = true := fun z hz => by
    obtain ⟨k, hk, rfl⟩ := List.mem_map.1 hz
    exact playZone_ok _ k (List.mem_range.1 hk)
  have hn : (playTax t).zones.length = 3 := by show ((List.range 3).map _).length = 3; rw [List.length_map, List.length_range]
  unfold taxC
  rw [show (playTax t).round = modB t.round 3 from rfl, hn, decide_eq_false (show ¬ modB t.round 3 < 0 by omega), decide_eq_false (show ¬ modB t.round 3 > 2 by omega), show (playTax t).zones.map Zone.name = [zoneN 0, zoneN 1, zoneN 2] from zone_rise _,
    show riseB [zoneN 0, zoneN 1, zoneN 2] = true by kernel_rfl, show allAt (playTax t).zones (fun _ z => zoneC z) = true from allAt_yes fun j hj => hz _ (getD_mem hj)]; rfl
theorem playItem_ok (l : List Ab.Item) (k : Nat) : itemC (playItem l k) = true ∧ (playItem l k).sku.size ≤ 12 ∧ (playItem l k).cat.size ≤ 12 ∨ 8 ≤ k := by
  by_cases h8 : 8 ≤ k
  · exact .inr h8
  refine .inl ?_
  have e : ∀ (c : Str) (pr : Int) (f : Bool), nameB c = true → 0 ≤ pr ∧ pr ≤ 1000000000 → itemC ⟨skuN k, c, pr, f⟩ = true ∧ (skuN k).size ≤ 12 ∧ c.size ≤ 12 := fun c pr f hc hp => by
    refine ⟨?_, nameB_size (sku_nameB _), nameB_size hc⟩
    unfold itemC
    rw [show nameB (Ab.Item.mk (skuN k) c pr f).sku = true from sku_nameB _, show nameB (Ab.Item.mk (skuN k) c pr f).cat = true from hc, decide_eq_false (show ¬ (Ab.Item.mk (skuN k) c pr f).price < 0 from by show ¬ pr < 0; omega), decide_eq_false (show ¬ (Ab.Item.mk (skuN k) c pr f).price > 1000000000 from by show ¬ pr > _; omega)]; rfl
  have hm := modB_lt (l.getD k default).price (n := 4000) (by decide)
  unfold playItem
  split
  · exact e _ _ _ (cat_nameB _) (by omega)
  · exact e _ _ _ (cat_nameB _) (by omega)
theorem playItems_mem {l : List Ab.Item} {x : Ab.Item} (h : x ∈ playItems l) : itemC x = true ∧ x.sku.size ≤ 12 ∧ x.cat.size ≤ 12 := by
  obtain ⟨k, hk, rfl⟩ := List.mem_map.1 h
  have := List.mem_range.1 hk
  rcases playItem_ok l k with h | h
  · exact h
  · omega
theorem playItems_right (l : List Ab.Item) : itemsC (playItems l) = true := by
  unfold itemsC
  rw [playItems_len, skus_play, show riseB [byteS 97, byteS 98, byteS 99, byteS 100, byteS 101, byteS 102, byteS 103, byteS 104] = true by kernel_rfl, show allAt (playItems l) (fun _ x => itemC x) = true from allAt_yes fun j hj => (playItems_mem (getD_mem hj)).1]; rfl
theorem playRules_right (r : Rules) : rulesC (playRules r) = true := by
  have h1 := modB_lt r.ship.fee (n := 900) (by decide)
  have h2 := modB_lt r.ship.free (n := 3) (by decide)
  have h3 := modB_lt r.policy.window (n := 60) (by decide)
  have h4 := modB_lt r.policy.grace (n := 40) (by decide)
  have h5 := modB_lt r.policy.mode (n := 3) (by decide)
  have h6 := modB_lt r.policy.restock (n := 3) (by decide)
  have h7 := modB_lt r.policy.restock (n := 2500) (by decide)
  have h8 : modB r.policy.restock 3 * modB r.policy.restock 2500 ≤ 2 * 2499 := Int.mul_le_mul (by omega) (by omega) (by omega) (by omega)
  have h9 : 0 ≤ modB r.policy.restock 3 * modB r.policy.restock 2500 := Int.mul_nonneg h6.1 h7.1
  show (itemsC (playItems r.items) && promosC (playPromos r.promos) && taxC (playTax r.tax) && shipC (playShip r.ship) && policyC (playPolicy r.policy)) = true
  rw [playItems_right, playPromos_right, playTax_ok r.tax]
  have e1 : shipC (playShip r.ship) = true := by
    show (upB 0 1000000000 (modB r.ship.fee 900) && upB 0 10000000000000 (modB r.ship.free 3 * 4000)) = true
    rw [upB_iff.2 (by omega), upB_iff.2 (by omega)]; rfl
  have e2 : policyC (playPolicy r.policy) = true := by
    show (upB 0 100000 (20 + modB r.policy.window 60) && upB 0 100000 (modB r.policy.grace 40) && decide (1 + modB r.policy.mode 3 ≥ 1) && decide (1 + modB r.policy.mode 3 ≤ 3) && upB 0 10000 (modB r.policy.restock 3 * modB r.policy.restock 2500) && kindsC (playKinds r.policy.order) && kindsC (playKinds r.policy.credit)) = true
    rw [upB_iff.2 (by omega), upB_iff.2 (by omega), decide_eq_true (by omega), decide_eq_true (by omega), upB_iff.2 (by omega), (playKinds_ok _).1, (playKinds_ok _).1]; rfl
  rw [e1, e2]; rfl
theorem playRules_fit (r : Rules) : RulesFit (playRules r) := by
  have h1 := playPromos_len r.promos
  have h2 := (playKinds_ok r.policy.order).2
  have h3 := (playKinds_ok r.policy.credit).2
  refine ⟨by show (playPromos r.promos).length ≤ 9223372036854775807; omega, fun p hp => ?_, by show (playKinds r.policy.order).length < _; omega, by show (playKinds r.policy.credit).length < _; omega⟩
  obtain ⟨q, id, K, _, rfl⟩ := playPromos_mem hp
  exact playPromoK_fit q id K
end Go.Proofs.YtfajkgonocpddaaGreat
namespace Go.Proofs.YtfajkgonocpddaaGreat
open Go Go.Ab
structure Book where
  goods : Int
  tax : Int
  ship : Int
  shipTax : Int
  fee : Int
def eBook (b : Book) : AV := .agg [eI b.goods, eI b.tax, eI b.ship, eI b.shipTax, eI b.fee]
def eQuote (q : Quote) : AV := .agg [eInts q.goods, eInts q.taxes, eI q.ship, eI q.shipTax, eI q.total, arrOf 2 eDeal q.deals]
def catsB (r : Rules) (l : List Line) : List Str := (itemsOf r.items l).map Ab.Item.cat
def quoteOf (v : Levied) (deals : List Deal) : Quote := ⟨v.goods, v.taxes, v.ship, v.shipTax, sumI v.goods + sumI v.taxes + v.ship + v.shipTax, deals⟩
def quoteB (r : Rules) (z : Zone) (exempt : Bool) (l : List Line) (Pr : Priced) : Quote := quoteOf (levyB r.tax z exempt (catsB r l) Pr.nets Pr.ship) Pr.deals
def bookB (q : Quote) : Book := ⟨sumI q.goods, sumI q.taxes, q.ship, q.shipTax, 0⟩
theorem sumI_bound {l : List Int} {B : Int} (hB : 0 ≤ B) (h : ∀ x ∈ l, -B ≤ x ∧ x ≤ B) : -(l.length * B) ≤ sumI l ∧ sumI l ≤ l.length * B := by
  induction l with
  | nil => exact ⟨by show -(((0 : Nat) : Int) * B) ≤ 0; rw [Int.natCast_zero, Int.zero_mul]; omega, by show (0 : Int) ≤ ((0 : Nat) : Int) * B; rw [Int.natCast_zero, Int.zero_mul]; omega⟩
  | cons x l ih =>
    have h1 := ih fun y hy => h y (List.mem_cons_of_mem _ hy)
    have h2 := h x (List.mem_cons_self ..)
    rw [sumI_cons, List.length_cons, show ((l.length + 1 : Nat) : Int) * B = l.length * B + B by rw [Int.natCast_add, Int.add_mul]; simp]
    omega
structure AmountsIn (l : List Int) : Prop where
  len : l.length ≤ 1000
  all : ∀ x ∈ l, -10000000000000 ≤ x ∧ x ≤ 10000000000000
theorem AmountsIn.take {l : List Int} (h : AmountsIn l) (i : Nat) : -10000000000000000 ≤ sumI (l.take i) ∧ sumI (l.take i) ≤ 10000000000000000 := by
  have h1 := sumI_bound (l := l.take i) (B := 10000000000000) (by decide) fun x hx => h.all x (List.mem_of_mem_take hx)
  have h2 : (l.take i).length ≤ 1000 := by rw [List.length_take]; have := h.len; omega
  omega
theorem AmountsIn.sum {l : List Int} (h : AmountsIn l) : -10000000000000000 ≤ sumI l ∧ sumI l ≤ 10000000000000000 := by
  have := h.take l.length
  rwa [List.take_length] at this
theorem AmountsIn.step {l : List Int} (h : AmountsIn l) {i : Nat} (hi : i < l.length) : IntKind.i64.wrap (sumI (l.take i) + gI l i) = sumI (l.take (i + 1)) := by
  have h1 := h.take (i + 1)
  rw [sumI_take hi] at h1 ⊢
  exact wrap64_of (by omega) (by omega)
structure LevyIn (t : Tax) (z : Zone) (cats : List Str) (nets : List Int) (ship : Int) : Prop where
  tax : taxC t = true
  zone : zoneC z = true
  cats : cats.length = nets.length
  nets : NetsIn nets
  ship : 0 ≤ ship ∧ ship ≤ 10000000000000
structure QuoteIn (q : Quote) (n : Nat) : Prop where
  goods : AmountsIn q.goods
  taxes : AmountsIn q.taxes
  ngoods : q.goods.length = n
  ntaxes : q.taxes.length = n
  pos : ∀ x ∈ q.taxes, 0 ≤ x
  ship : 0 ≤ q.ship ∧ q.ship ≤ 10000000000000
  shipTax : 0 ≤ q.shipTax ∧ q.shipTax ≤ 10000000000000
  total : q.total = sumI q.goods + sumI q.taxes + q.ship + q.shipTax
theorem rates_ok {t : Tax} {z : Zone} {cats : List Str} {nets : List Int} {ship : Int} (h : LevyIn t z cats nets ship) : (cats.map (rateF z)).length = nets.length ∧ ∀ x ∈ cats.map (rateF z), 0 ≤ x ∧ x ≤ 10000 := by
  refine ⟨by rw [List.length_map]; exact h.cats, fun x hx => ?_⟩
  obtain ⟨c, _, rfl⟩ := List.mem_map.1 hx
  exact rateF_ok h.zone c
theorem levy_ok {t : Tax} {z : Zone} {cats : List Str} {nets : List Int} {ship : Int} (h : LevyIn t z cats nets ship) (exempt : Bool) (deals : List Deal) : QuoteIn (quoteOf (levyB t z exempt cats nets ship) deals) nets.length := by
  obtain ⟨r1, r2⟩ := rates_ok h
  obtain ⟨t1, t2⟩ := taxes_ok (t := t) h.nets r1 r2
  have hz := (zoneC_ok h.zone).2.1
  have hm := much_le (t := t) h.ship.1 hz
  have hs := h.ship
  have hn := h.nets
  have hnx : ∀ i, i < nets.length → 0 ≤ gI nets i ∧ gI nets i ≤ 10000000000000 := fun i hi => by
    have h1 := hn.pos _ (show gI nets i ∈ nets from getD_mem hi)
    have h2 := sumI_mem_le hn.pos (show gI nets i ∈ nets from getD_mem hi)
    have h3 := hn.sum
    exact ⟨h1, by omega⟩
  have htx : ∀ i, i < nets.length → 0 ≤ gI (taxesB t (cats.map (rateF z)) nets) i ∧ gI (taxesB t (cats.map (rateF z)) nets) i ≤ 10000000000000 := fun i hi => t2 _ (getD_mem (by omega))
  have hnl := hn.len
  have gl : (goodsB t (taxesB t (cats.map (rateF z)) nets) nets).length = nets.length := by unfold goodsB; rw [List.length_map, List.length_range]
  refine ⟨⟨by show (goodsB _ _ _).length ≤ _; omega, fun x hx => ?_⟩, ⟨?_, fun x hx => ?_⟩, gl, ?_, fun x hx => ?_, ?_, ?_, rfl⟩
  · obtain ⟨i, hi, rfl⟩ := List.mem_map.1 (show x ∈ goodsB _ _ _ from hx)
    have hi := List.mem_range.1 hi
    have h1 := hnx i hi
    have h2 := htx i hi
    split <;> omega
  · show (if exempt = true then List.replicate nets.length 0 else taxesB t (cats.map (rateF z)) nets).length ≤ 1000
    split
    · rw [List.length_replicate]; omega
    · omega
  · have hx : x ∈ (if exempt = true then List.replicate nets.length 0 else taxesB t (cats.map (rateF z)) nets) := hx
    split at hx
    · rw [(List.mem_replicate.1 hx).2]; omega
    · have := t2 x hx; omega
  · show (if exempt = true then List.replicate nets.length 0 else taxesB t (cats.map (rateF z)) nets).length = nets.length
    split
    · exact List.length_replicate
    · exact t1
  · have hx : x ∈ (if exempt = true then List.replicate nets.length 0 else taxesB t (cats.map (rateF z)) nets) := hx
    split at hx
    · rw [(List.mem_replicate.1 hx).2]; exact Int.le_refl _
    · exact (t2 x hx).1
  · show 0 ≤ (if t.incl = true then ship - muchB t ship z.ship else ship) ∧ (if t.incl = true then ship - muchB t ship z.ship else ship) ≤ 10000000000000
    split <;> omega
  · show 0 ≤ (if exempt = true then 0 else muchB t ship z.ship) ∧ (if exempt = true then 0 else muchB t ship z.ship) ≤ 10000000000000
    split <;> omega
theorem levy_sums {t : Tax} {z : Zone} {cats : List Str} {nets : List Int} {ship : Int} (h : LevyIn t z cats nets ship) (exempt : Bool) :
    sumI (levyB t z exempt cats nets ship).goods ≤ 10000000000000 ∧ -10000000000000 ≤ sumI (levyB t z exempt cats nets ship).goods ∧ sumI (levyB t z exempt cats nets ship).taxes ≤ 10000000000000 := by
  obtain ⟨r1, r2⟩ := rates_ok h
  obtain ⟨t1, t2⟩ := taxes_ok (t := t) h.nets r1 r2
  have hs := h.nets.sum
  have hle : ∀ i, i < nets.length → gI (taxesB t (cats.map (rateF z)) nets) i ≤ gI nets i := fun i hi => taxes_le h.nets r1 r2 hi
  have h0 : ∀ i, i < nets.length → 0 ≤ gI (taxesB t (cats.map (rateF z)) nets) i := fun i hi => (t2 _ (getD_mem (by omega))).1
  have hn0 : ∀ i, i < nets.length → 0 ≤ gI nets i := fun i hi => h.nets.pos _ (getD_mem hi)
  have hrn := range_gI nets
  have hg : sumI (goodsB t (taxesB t (cats.map (rateF z)) nets) nets) ≤ sumI ((List.range nets.length).map (gI nets)) := by
    refine sumI_map_le _ _ _ fun i hi => ?_
    have := h0 i hi
    split <;> omega
  have hg0 : 0 ≤ sumI (goodsB t (taxesB t (cats.map (rateF z)) nets) nets) := sumI_nonneg fun x hx => by
    obtain ⟨i, hi, rfl⟩ := List.mem_map.1 hx
    have hi := List.mem_range.1 hi
    have h1 := hle i hi
    have h2 := hn0 i hi
    split <;> omega
  have ht : sumI (taxesB t (cats.map (rateF z)) nets) ≤ sumI ((List.range nets.length).map (gI nets)) := by
    have e := range_gI (taxesB t (cats.map (rateF z)) nets)
    rw [t1] at e
    rw [← e]
    exact sumI_map_le _ _ _ fun i hi => hle i hi
  rw [hrn] at hg ht
  refine ⟨by show sumI (goodsB _ _ _) ≤ _; omega, by show _ ≤ sumI (goodsB _ _ _); omega, ?_⟩
  show sumI (if exempt = true then List.replicate nets.length 0 else taxesB t (cats.map (rateF z)) nets) ≤ _
  split
  · have e : ∀ n, sumI (List.replicate n (0 : Int)) = 0 := fun n => by
      induction n with
      | zero => rfl
      | succ n ih => rw [List.replicate_succ, sumI_cons, ih]; rfl
    rw [e]; omega
  · omega
theorem sumI_zero_all {l : List Int} (h : ∀ x ∈ l, x = 0) : sumI l = 0 := by
  induction l with
  | nil => rfl
  | cons x l ih => rw [sumI_cons, h x (List.mem_cons_self ..), ih fun y hy => h y (List.mem_cons_of_mem _ hy)]; rfl
theorem zeros_of_sum {l : List Int} (h : ∀ x ∈ l, 0 ≤ x) (hs : sumI l = 0) : ∀ x ∈ l, x = 0 := fun x hx => by
  have h1 := sumI_mem_le h hx
  have h2 := h x hx
  omega
theorem taxes_zero {t : Tax} {z : Zone} {cats : List Str} {nets : List Int} {ship : Int} (h : LevyIn t z cats nets ship) (h0 : ∀ x ∈ nets, x = 0) : ∀ x ∈ taxesB t (cats.map (rateF z)) nets, x = 0 := by
  obtain ⟨r1, r2⟩ := rates_ok h
  have hn0 : ∀ i, i < nets.length → gI nets i = 0 := fun i hi => h0 _ (getD_mem hi)
  intro x hx
  unfold taxesB at hx
  split at hx
  · obtain ⟨i, hi, rfl⟩ := List.mem_map.1 hx
    have hi := List.mem_range.1 hi
    have hq := r2 (gI (cats.map (rateF z)) i) (getD_mem (by omega))
    have hw := mate_weights (t := t) h.nets r1 hq
    have hz : sumI (mateNets (cats.map (rateF z)) nets i) = 0 := sumI_zero_all fun y hy => by
      obtain ⟨k, hk, rfl⟩ := List.mem_map.1 hy
      have := List.mem_range.1 (List.mem_filter.1 hk).1
      exact hn0 k (by omega)
    obtain ⟨l1, l2, l3⟩ := largest_sum hw
    have hm : muchB t (sumI (mateNets (cats.map (rateF z)) nets i)) (gI (cats.map (rateF z)) i) = 0 := by rw [hz]; exact much_zero t _ hq
    have hp := matePos_lt (rates := cats.map (rateF z)) (i := i) (by omega)
    have hml : (mateNets (cats.map (rateF z)) nets i).length = (mates (cats.map (rateF z)) i).length := List.length_map ..
    exact zeros_of_sum l3 (by rw [l1]; exact hm) _ (getD_mem (by omega))
  · obtain ⟨i, hi, rfl⟩ := List.mem_map.1 hx
    have hi := List.mem_range.1 hi
    rw [hn0 i hi]
    exact much_zero t _ (r2 (gI (cats.map (rateF z)) i) (getD_mem (by omega)))
theorem levy_zero {t : Tax} {z : Zone} {cats : List Str} {nets : List Int} (h : LevyIn t z cats nets 0) (h0 : ∀ x ∈ nets, x = 0) (deals : List Deal) : (quoteOf (levyB t z false cats nets 0) deals).total = 0 ∧ (quoteOf (levyB t z false cats nets 0) deals).ship = 0 := by
  have ht := taxes_zero h h0
  obtain ⟨r1, r2⟩ := rates_ok h
  obtain ⟨t1, _⟩ := taxes_ok (t := t) h.nets r1 r2
  have hm : muchB t 0 z.ship = 0 := much_zero t _ (zoneC_ok h.zone).2.1
  have hg : sumI (goodsB t (taxesB t (cats.map (rateF z)) nets) nets) = 0 := sumI_zero_all fun x hx => by
    obtain ⟨i, hi, rfl⟩ := List.mem_map.1 hx
    have hi := List.mem_range.1 hi
    have h1 : gI nets i = 0 := h0 _ (getD_mem hi)
    have h2 : gI (taxesB t (cats.map (rateF z)) nets) i = 0 := ht _ (getD_mem (by omega))
    split <;> omega
  have hs : (if t.incl = true then (0 : Int) - muchB t 0 z.ship else 0) = 0 := by split <;> omega
  refine ⟨?_, hs⟩
  show sumI (goodsB t (taxesB t (cats.map (rateF z)) nets) nets) + sumI (taxesB t (cats.map (rateF z)) nets) + (if t.incl = true then (0 : Int) - muchB t 0 z.ship else 0) + muchB t 0 z.ship = 0
  rw [hg, hs, hm, sumI_zero_all ht]; rfl
theorem zone_find (t : Tax) {k : Nat} (hk : k < 3) : zoneF (playTax t).zones (zoneN k) = some (playZone t.zones k) := by
  have e : ∀ j, (playZone t.zones j).name = zoneN j := fun j => by unfold playZone; split <;> rfl
  have h : (playTax t).zones = [playZone t.zones 0, playZone t.zones 1, playZone t.zones 2] := rfl
  have d01 : ((zoneN (0 : Nat)).toList == (zoneN (1 : Nat)).toList) = false := by kernel_rfl
  have d02 : ((zoneN (0 : Nat)).toList == (zoneN (2 : Nat)).toList) = false := by kernel_rfl
  have d12 : ((zoneN (1 : Nat)).toList == (zoneN (2 : Nat)).toList) = false := by kernel_rfl
  unfold zoneF
  rw [h]
  rcases lt3 hk with rfl | rfl | rfl
  · rw [List.find?_cons_of_pos (by rw [e]; exact beq_self_eq_true _)]
  · rw [List.find?_cons_of_neg (by rw [e, d01]; simp), List.find?_cons_of_pos (by rw [e]; exact beq_self_eq_true _)]
  · rw [List.find?_cons_of_neg (by rw [e, d02]; simp), List.find?_cons_of_neg (by rw [e, d12]; simp), List.find?_cons_of_pos (by rw [e]; exact beq_self_eq_true _)]
theorem find_zoneC {t : Tax} (h : taxC t = true) {s : Str} {z : Zone} (hz : zoneF t.zones s = some z) : zoneC z = true := by
  unfold taxC at h
  simp only [Bool.and_eq_true] at h
  obtain ⟨k, hk, rfl⟩ := mem_getD (List.mem_of_find?_eq_some hz)
  exact allAt_iff.1 h.2.1 k hk
def entR (rates : List Int) (i : Nat) : QE := (-(gI rates i), (i : Int))
def entsR (rates : List Int) : List QE := (List.range rates.length).map (entR rates)
def sortR (rates : List Int) : List QE := (entsR rates).mergeSort fun a b => !prior b a
theorem sortR_sorted (rates : List Int) : (sortR rates).Pairwise fun a b => prior b a = false := by
  have := List.pairwise_mergeSort (le := fun a b : QE => !prior b a) (fun a b c h1 h2 => by simp only [Bool.not_eq_true'] at *; exact nah_trans h2 h1) (fun a b => by
    cases h : prior b a with
    | false => rfl
    | true => rw [prior_asymm h]; rfl) (entsR rates)
  exact this.imp (fun h => by simpa using h)
theorem sortR_perm (rates : List Int) : (sortR rates).Perm (entsR rates) := List.mergeSort_perm ..
def grpR (rates : List Int) (k : Int) : List Nat := (List.range rates.length).filter fun i => -(gI rates i) == k
theorem sortR_key (rates : List Int) (k : Int) : (sortR rates).filter (fun e => e.1 == k) = (grpR rates k).map fun i : Nat => (k, (i : Int)) := by
  have h1 : ((sortR rates).filter (fun e => e.1 == k)).Perm ((grpR rates k).map fun i : Nat => (k, (i : Int))) := by
    refine ((sortR_perm rates).filter _).trans ?_
    unfold entsR grpR
    rw [List.filter_map]
    refine List.Perm.of_eq ?_
    refine List.map_congr_left fun i hi => ?_
    have := (List.mem_filter.1 hi).2
    show (-(gI rates i), (i : Int)) = (k, (i : Int))
    have h : -(gI rates i) = k := by simpa [entR] using this
    rw [h]
  refine h1.eq_of_pairwise (le := fun a b => prior b a = false) (fun a b _ _ h3 h4 => (prior_tri h4 h3)) (List.Pairwise.sublist List.filter_sublist (sortR_sorted rates)) ?_
  refine List.pairwise_map.2 ?_
  unfold grpR
  refine (List.Pairwise.sublist List.filter_sublist List.pairwise_lt_range).imp fun {a b} hab => ?_
  rw [prior_no]
  show ¬ (k > k ∨ k = k ∧ (b : Int) < (a : Int))
  omega
theorem split_key {E : List QE} (hs : E.Pairwise fun a b => prior b a = false) {k : Int} (hk : ∀ e ∈ E, e.1 ≤ k) : E = E.filter (fun e => e.1 == k) ++ E.filter (fun e => !(e.1 == k)) := by
  induction E with
  | nil => rfl
  | cons e E ih =>
    have hs' := List.pairwise_cons.1 hs
    by_cases h : e.1 = k
    · rw [List.filter_cons_of_pos (by simpa using h), List.filter_cons_of_neg (by simpa using h), List.cons_append, ← ih hs'.2 fun x hx => hk x (List.mem_cons_of_mem _ hx)]
    · have hlt : ∀ x ∈ E, x.1 < k := fun x hx => by
        have h1 := (prior_no _ _).1 (hs'.1 x hx)
        have h2 := hk e (List.mem_cons_self ..)
        omega
      have hn : E.filter (fun e => e.1 == k) = [] := List.filter_eq_nil_iff.2 fun x hx => by have := hlt x hx; simp; omega
      have ha : E.filter (fun e => !(e.1 == k)) = E := List.filter_eq_self.2 fun x hx => by have := hlt x hx; simp; omega
      rw [List.filter_cons_of_neg (by simpa using h), List.filter_cons_of_pos (by simpa using h), hn, ha]; rfl
def leftR (rates : List Int) (D : Int → Bool) : List QE := (sortR rates).filter fun e => !D e.1
theorem leftR_sorted (rates : List Int) (D : Int → Bool) : (leftR rates D).Pairwise fun a b => prior b a = false := List.Pairwise.sublist List.filter_sublist (sortR_sorted rates)
theorem leftR_head {rates : List Int} {D : Int → Bool} {x : QE} {E : List QE} (h : leftR rates D = x :: E) :
    D x.1 = false ∧ x :: E = ((grpR rates x.1).map fun i : Nat => (x.1, (i : Int))) ++ leftR rates (fun y => D y || y == x.1) := by
  have hs := leftR_sorted rates D
  have hx : x ∈ leftR rates D := by rw [h]; exact List.mem_cons_self ..
  have hD : D x.1 = false := by
    have := (List.mem_filter.1 hx).2
    simpa using this
  refine ⟨hD, ?_⟩
  have hk : ∀ e ∈ leftR rates D, e.1 ≤ x.1 := fun e he => by
    rw [h] at he hs
    rcases List.mem_cons.1 he with rfl | he
    · exact Int.le_refl _
    · have := (prior_no _ _).1 ((List.pairwise_cons.1 hs).1 e he); omega
  have h2 := split_key hs hk
  rw [← h, h2]
  congr 1
  · rw [← sortR_key]
    unfold leftR
    rw [List.filter_filter]
    refine List.filter_congr fun e he => ?_
    by_cases e1 : e.1 = x.1
    · rw [e1, hD]; simp
    · simp [e1]
  · unfold leftR
    rw [List.filter_filter]
    refine List.filter_congr fun e he => ?_
    show (!(e.1 == x.1) && !D e.1) = !(D e.1 || e.1 == x.1)
    rw [Bool.not_or, Bool.and_comm]
theorem leftR_notkey {rates : List Int} {D : Int → Bool} {k : Int} : ∀ y ∈ leftR rates (fun z => D z || z == k), (y.1 == k) = false := fun y hy => by
  have := (List.mem_filter.1 hy).2
  simp only [Bool.not_eq_true', Bool.or_eq_false_iff] at this
  exact this.2
theorem leftR_start (rates : List Int) : leftR rates (fun _ => false) = sortR rates := List.filter_eq_self.2 fun x _ => rfl
theorem grp_mates {rates : List Int} {k : Int} {i : Nat} (hi : i ∈ grpR rates k) : -(gI rates i) = k ∧ i < rates.length ∧ mates rates i = grpR rates k := by
  have h1 := List.mem_filter.1 hi
  have h2 : -(gI rates i) = k := by simpa using h1.2
  refine ⟨h2, List.mem_range.1 h1.1, ?_⟩
  unfold mates grpR
  refine List.filter_congr fun j _ => ?_
  rw [Bool.eq_iff_iff, beq_iff_eq, beq_iff_eq]; omega
theorem grp_nodup (rates : List Int) (k : Int) : (grpR rates k).Nodup := List.Pairwise.sublist List.filter_sublist List.nodup_range
theorem grp_pos {rates : List Int} {k : Int} {j : Nat} (hj : j < (grpR rates k).length) : matePos rates ((grpR rates k)[j]) = j := by
  have hm := grp_mates (List.getElem_mem hj)
  have h1 := mates_at hm.2.1
  rw [hm.2.2] at h1
  have h2 := List.getElem?_eq_some_iff.1 h1
  obtain ⟨h3, h4⟩ := h2
  have := (List.nodup_iff_pairwise_ne.1 (grp_nodup rates k))
  rcases Nat.lt_trichotomy (matePos rates ((grpR rates k)[j])) j with e | e | e
  · exact absurd h4 (List.pairwise_iff_getElem.1 this _ _ h3 hj e)
  · exact e
  · exact absurd h4.symm (List.pairwise_iff_getElem.1 this _ _ hj h3 e)
def partsL (t : Tax) (rates nets : List Int) (k : Int) : List Int := largestB (muchB t (sumI ((grpR rates k).map (gI nets))) (-k)) ((grpR rates k).map (gI nets))
theorem parts_at {t : Tax} {rates nets : List Int} {k : Int} {j : Nat} (hj : j < (grpR rates k).length) : gI (partsL t rates nets k) j = orderTax t rates nets ((grpR rates k)[j]) := by
  have hm := grp_mates (List.getElem_mem hj)
  unfold partsL orderTax mateNets
  rw [grp_pos hj, hm.2.2, show gI rates ((grpR rates k)[j]) = -k by omega]
end Go.Proofs.YtfajkgonocpddaaGreat
