/- Part 6 of the proof: the law, for every input, and its row -/
import Derived.Test.YtnekegdhpjplbaaGreatPl5
import Derived.ChangeSlices
import Derived.ChangeArms
import Derived.Test.YtnekegdhpjplbaaGreatRows
import Derived.ProofKit
import Derived.JoinedOf
import Derived.KernelRfl
import Derived.WalkKit
import Derived.OpenShut
import Derived.ShutString
import Derived.ChangeOld
import Derived.Below
import Derived.SizedLaws
/- What a basket of play's comes to; one promo that takes all. -/
set_option maxRecDepth 100000
set_option linter.unusedVariables false
set_option linter.unusedSimpArgs false
namespace Go.Proofs.YtnekegdhpjplbaaGreat
open Go Go.Ab
attribute [local irreducible] upd del
theorem mod8 (n : Int) : modB n 8 = 0 ∨ modB n 8 = 1 ∨ modB n 8 = 2 ∨ modB n 8 = 3 ∨ modB n 8 = 4 ∨ modB n 8 = 5 ∨ modB n 8 = 6 ∨ modB n 8 = 7 := by
  have := modB_lt n (n := 8) (by decide); omega
theorem skuN_nat (k : Nat) (h : k < 8) : skuN k = byteS (97 + k) := by
  unfold skuN modB; congr 2; omega
/-- A catalogue of play's, whatever its prices, knows play's names. -/
theorem skus_play (l : List Ab.Item) : (playItems l).map Ab.Item.sku = [byteS 97, byteS 98, byteS 99, byteS 100, byteS 101, byteS 102, byteS 103, byteS 104] := by
  unfold playItems
  rw [List.map_map]
  have e : ∀ k, k < 8 → (Ab.Item.sku ∘ playItem l) k = byteS (97 + (k : Int)) := fun k hk => by
    rw [← skuN_nat k hk]
    show (playItem l k).sku = _
    unfold playItem; split <;> rfl
  have : (List.range 8).map (Ab.Item.sku ∘ playItem l) = (List.range 8).map fun k : Nat => byteS (97 + (k : Int)) := List.map_congr_left fun k hk => e k (List.mem_range.1 hk)
  rw [this]; rfl
theorem playItems_len (l : List Ab.Item) : (playItems l).length = 8 := by unfold playItems; rw [List.length_map, List.length_range]
theorem known_iff (items : List Ab.Item) (s : Str) : known items s = (items.map Ab.Item.sku).any fun y => y.toList == s.toList := by
  unfold known findB
  rw [idx_any, List.any_map]; rfl
theorem known_play (l : List Ab.Item) (n : Int) : known (playItems l) (skuN n) = true := by
  rw [known_iff, skus_play]
  unfold skuN
  rcases mod8 n with h | h | h | h | h | h | h | h <;> rw [h] <;> kernel_rfl
theorem playLine_ok (x : Line) : (0 ≤ (playLine x).qty ∧ (playLine x).qty ≤ 9) ∧ 0 ≤ (playLine x).price ∧ (playLine x).price < 4000 := by
  have h1 := modB_lt x.qty (n := 10) (by decide)
  have h2 := modB_lt x.price (n := 4000) (by decide)
  exact ⟨⟨h1.1, by show modB x.qty 10 ≤ 9; omega⟩, h2.1, h2.2⟩
structure BasketOk (l : List Line) : Prop where
  len : l.length ≤ 8
  line : ∀ x ∈ l, (0 ≤ x.qty ∧ x.qty ≤ 9) ∧ 0 ≤ x.price ∧ x.price < 4000
  sku : ∀ x ∈ l, ∃ n, x.sku = skuN n
theorem playLines_ok (l : List Line) : BasketOk (playLines l) := by
  unfold playLines
  refine ⟨by rw [List.length_map, List.length_take]; omega, fun x hx => ?_, fun x hx => ?_⟩
  · obtain ⟨y, _, rfl⟩ := List.mem_map.1 hx; exact playLine_ok y
  · obtain ⟨y, _, rfl⟩ := List.mem_map.1 hx; exact ⟨pickN y.sku, rfl⟩
theorem BasketOk.lineC {l : List Line} (h : BasketOk l) {x : Line} (hx : x ∈ l) : lineC x = true := by
  have := h.line x hx
  rw [lineC_iff]; omega
theorem sums_le {l : List Line} (h1 : ∀ x ∈ l, (0 ≤ x.qty ∧ x.qty ≤ 9) ∧ 0 ≤ x.price ∧ x.price < 4000) : (0 ≤ unitsN l ∧ unitsN l ≤ 9 * l.length) ∧ 0 ≤ grossN l ∧ grossN l ≤ 36000 * l.length := by
  have : ∀ (l : List Line) (a b : Int), (∀ x ∈ l, (0 ≤ x.qty ∧ x.qty ≤ 9) ∧ 0 ≤ x.price ∧ x.price < 4000) → (a ≤ l.foldl (fun s x => s + x.qty) a ∧ l.foldl (fun s x => s + x.qty) a ≤ a + 9 * l.length) ∧ b ≤ l.foldl (fun s x => s + x.qty * x.price) b ∧ l.foldl (fun s x => s + x.qty * x.price) b ≤ b + 36000 * l.length := by
    intro l
    induction l with
    | nil => intro a b _; simp
    | cons y l ih =>
      intro a b h
      have hy := h y (List.mem_cons_self ..)
      have h0 : 0 ≤ y.qty * y.price := Int.mul_nonneg hy.1.1 hy.2.1
      have h9 : y.qty * y.price ≤ 9 * 4000 := Int.mul_le_mul hy.1.2 (by omega) hy.2.1 (by omega)
      have := ih (a + y.qty) (b + y.qty * y.price) fun x hx => h x (List.mem_cons_of_mem _ hx)
      rw [List.foldl_cons, List.foldl_cons, List.length_cons]
      omega
  have := this l 0 0 h1
  unfold unitsN grossN; omega
theorem find_none' {kn : Str → Bool} {l : List Line} (h : ∀ x ∈ l, kn x.sku = true ∧ lineC x = true) : l.find? (badLine kn) = none := by
  rw [List.find?_eq_none]
  intro x hx
  unfold badLine
  rw [(h x hx).1, (h x hx).2]; simp
theorem BasketOk.check {l : List Line} (h : BasketOk l) {kn : Str → Bool} (hk : ∀ n, kn (skuN n) = true) : checkE kn l = 0 := by
  unfold checkE
  have hl := h.len
  have hs := sums_le h.line
  rw [if_neg (by omega), find_none' fun x hx => ⟨by obtain ⟨n, hn⟩ := h.sku x hx; rw [hn]; exact hk n, h.lineC hx⟩]
  show (if _ then (5 : Int) else 0) = 0
  rw [if_neg]
  rw [decide_eq_false (by omega), decide_eq_false (by omega)]; decide
theorem half_all {x : Int} (h0 : 0 ≤ x) (h1 : x ≤ 10000000000000) : half x 10000 = x := by
  unfold half
  rw [if_pos ⟨by omega, by omega⟩]
  unfold times
  have e1 : x * 10000 / 10000 = x := by omega
  have e2 : x * 10000 % 10000 = 0 := by omega
  rw [if_neg (by rw [(rightB_iff x).2 ⟨h0, by omega⟩]; decide), e1, e2, if_neg (by omega)]
  have e3 : roundQ x 0 10000 1 = x := by unfold roundQ; rw [if_neg (by decide), if_pos rfl, if_neg (by decide)]
  rw [e3, if_neg (by omega)]
theorem offC_all {x : Int} (h0 : 0 ≤ x) (h1 : x ≤ 10000000000000) : offC x 10000 0 = x := by
  unfold offC; rw [half_all h0 h1]; split <;> omega
/-! ### One promo that takes all -/
def leastP (least : Int) (code : Str) : Promo := ⟨⟨#[112]⟩, 1, 0, ⟨#[]⟩, code, false, ⟨[], []⟩, least, 10000, 0, 0, 0, [], []⟩
def leastR (least : Int) (code : Str) : Rules := ⟨playItems [], [leastP least code], tax0, ⟨50, 1⟩, ⟨0, 0, 1, 0, [], []⟩⟩
theorem leastP_right {least : Int} {code : Str} (h0 : 0 ≤ least) (h1 : least ≤ 10000000000000) (hc : namedC code = true) : promoC (leastP least code) = true := by
  have e : upB 0 10000000000000 (leastP least code).least = true := upB_iff.2 ⟨h0, h1⟩
  have e1 : nameB (leastP least code).id = true := (by kernel_rfl : nameB ⟨#[112]⟩ = true)
  have e2 : namedC (leastP least code).group = true := (by kernel_rfl : namedC ⟨#[]⟩ = true)
  have e3 : namedC (leastP least code).code = true := hc
  have e4 : scopeB (leastP least code).scope = true := (by kernel_rfl : scopeB ⟨[], []⟩ = true)
  unfold promoC pHead
  rw [e, e1, e2, e3, e4]
  rfl
theorem leastR_right {least : Int} {code : Str} (h0 : 0 ≤ least) (h1 : least ≤ 10000000000000) (hc : namedC code = true) : rulesC (leastR least code) = true := by
  have e1 : itemsC (playItems []) = true := by kernel_rfl
  have e2 : promosC [leastP least code] = true := by
    unfold promosC allAt promoAt
    rw [show ([leastP least code].length) = 1 from rfl, show List.range 1 = [0] from rfl, List.all_cons, show [leastP least code].getD 0 default = leastP least code from rfl, leastP_right h0 h1 hc]
    rfl
  show (itemsC (playItems []) && promosC [leastP least code] && taxC tax0 && shipC ⟨50, 1⟩ && policyC ⟨0, 0, 1, 0, [], []⟩) = true
  rw [e1, e2]; kernel_rfl
theorem leastR_fit (least : Int) (code : Str) : RulesFit (leastR least code) := by
  refine ⟨by show 1 ≤ Big; decide, fun p hp => ?_, by show 0 < _; decide, by show 0 < _; decide⟩
  rw [List.mem_singleton.1 (show p ∈ [_] from hp)]
  exact ⟨⟨Nat.zero_le _, Nat.zero_le _⟩, Nat.zero_le _, fun x hx => by cases hx⟩
theorem least_check {least : Int} {code : Str} (h0 : 0 ≤ least) (h1 : least ≤ 10000000000000) (hc : namedC code = true) {codes : List Str} (hcc : codesC codes = true) {l : List Line} (hl : BasketOk l) : priceCheck (leastR least code) codes l = 0 := by
  unfold priceCheck
  rw [if_neg (by rw [leastR_right h0 h1 hc]; simp), if_neg (by rw [hcc]; simp)]
  exact hl.check (known_play [])
/-- The promo takes all from its least on. -/
theorem least_p1 {least : Int} {code : Str} (h0 : 0 ≤ least) (h1 : least ≤ 10000000000000) (hc : namedC code = true) {l : List Line} (hl : BasketOk l) {o : List Int} (ho : o = [0] ∨ o = []) :
    netB (p1B (leastR least code) l o) = if o = [0] ∧ least ≤ grossN l then 0 else grossN l := by
  have hln : LinesOk (playItems []) l := linesOk (hl.check (known_play []))
  have hus := usOf_ok hln
  have hu := hus.ok
  obtain ⟨u1, u2, u3⟩ := unitsUp_net l (fun x hx => hl.lineC hx) l.length (Nat.le_refl _)
  rw [List.take_length] at u2
  have hg := sums_le hl.line
  rcases ho with rfl | rfl
  · have hall : mineB (leastP least code).scope (itemsOf (playItems []) l) (usOf l) (usOf l).length = (List.range (usOf l).length).map Int.ofNat := by
      unfold mineB
      rw [List.filter_eq_self.2 fun k hk => ?_]
      have hk := List.mem_range.1 hk
      have := (u3 _ (getD_mem hk)).2.2.2
      unfold openIn
      rw [show (gU (usOf l) k).opn = true from this]; rfl
    have hnets : netsAt (usOf l) ((List.range (usOf l).length).map Int.ofNat) = netsOf (usOf l) := by
      unfold netsAt
      rw [List.map_map]
      refine List.ext_getElem (by simp) fun k k1 k2 => ?_
      rw [List.getElem_map, List.getElem_range, List.getElem_map]
      show ((usOf l).getD k default).net = _
      rw [List.getD_eq_getElem?_getD, List.getElem?_eq_getElem (by simpa using k2)]; rfl
    have hnet : netF (usOf l) ((List.range (usOf l).length).map Int.ofNat) = grossN l := by
      rw [← u2]; show sumI (netsAt _ _) = _; rw [hnets]
    have hp1 : p1B (leastR least code) l [0] = askB (itemsOf (playItems []) l) ⟨usOf l, [], []⟩ (leastP least code) := by
      have e : p1B (leastR least code) l [0] = goB (fun p => p) (askB (itemsOf (playItems []) l)) ⟨usOf l, [], []⟩ (leastP least code) := rfl
      rw [e]; unfold goB
      rw [show isNil (leastP least code).group = true from (by kernel_rfl : isNil ⟨#[]⟩ = true)]; rfl
    have hw : wayB (itemsOf (playItems []) l) (usOf l) (leastP least code) = if grossN l < least then ([], 0) else applyB (leastP least code) (usOf l) ((List.range (usOf l).length).map Int.ofNat) := by
      rw [← hnet, ← hall]; rfl
    have hao : (applyB (leastP least code) (usOf l) ((List.range (usOf l).length).map Int.ofNat)).2 = grossN l := by
      show sumI (offsP (leastP least code) (netsAt (usOf l) ((List.range (usOf l).length).map Int.ofNat))) = _
      rw [hnets, ← u2]
      unfold offsP
      congr 1
      refine (List.map_congr_left fun x hx => ?_).trans (List.map_id _)
      exact offC_all (hu.nets0 x hx) (by
        have := sumI_mem_le hu.nets0 hx
        rw [show sumI (netsOf (usOf l)) = grossN l from u2] at this
        have := hl.len; omega)
    rw [hp1]
    unfold askB netB
    rw [show (⟨usOf l, [], []⟩ : PSt).us = usOf l from rfl, hw]
    by_cases hle : least ≤ grossN l
    · rw [if_neg (show ¬ grossN l < least by omega), if_pos (show ([0] : List Int) = [0] ∧ least ≤ grossN l from ⟨rfl, hle⟩), hao]
      have hoff := way_off hus (pr := leastP least code) ((leastR_fit least code).fit _ (List.mem_singleton.2 rfl)) (leastP_right h0 h1 hc) (show (1 : Int) ≠ 7 by decide)
      rw [hw, if_neg (show ¬ grossN l < least by omega)] at hoff
      split
      · rename_i hpos
        rcases hoff with e | e
        · rw [e] at hao; simp at hao; omega
        · have h5 := e.sum
          rw [hao] at h5
          show sumI (netsOf (applyB _ _ _).1) = 0
          rw [show sumI (netsOf (usOf l)) = grossN l from u2] at h5
          omega
      · show sumI (netsOf (usOf l)) = 0
        rw [show sumI (netsOf (usOf l)) = grossN l from u2]; omega
    · rw [if_pos (show grossN l < least by omega), if_neg (show ¬ (([0] : List Int) = [0] ∧ least ≤ grossN l) from fun e => hle e.2)]
      exact u2
  · rw [if_neg (by simp)]
    exact u2
theorem least_price {least : Int} {code : Str} (h0 : 0 ≤ least) (h1 : least ≤ 10000000000000) (hc : namedC code = true) {l : List Line} (hl : BasketOk l) {o : List Int} (ho : o = [0] ∨ o = []) :
    (priceB (leastR least code) l o o).net = (if o = [0] ∧ least ≤ grossN l then 0 else grossN l) ∧ (priceB (leastR least code) l o o).ship = feeB ⟨50, 1⟩ (usOf l).length (if o = [0] ∧ least ≤ grossN l then 0 else grossN l) := by
  rw [← least_p1 h0 h1 hc hl ho]
  refine ⟨rfl, ?_⟩
  rcases ho with rfl | rfl <;> rfl
end Go.Proofs.YtnekegdhpjplbaaGreat
/- The law PriceLeast. -/
set_option maxRecDepth 100000
set_option linter.unusedVariables false
set_option linter.unusedSimpArgs false
namespace Go.Proofs.YtnekegdhpjplbaaGreat
open Go Go.Ab
attribute [local irreducible] upd del
theorem places_one {p : Promo} {codes : List Str} (h : asked codes p = true) : places [p] codes 1 = [0] := by
  unfold places
  rw [show List.range 1 = [0] from rfl, List.filter_cons_of_pos (p := fun k => asked codes ([p].getD k default)) (show asked codes ([p].getD 0 default) = true from h)]; rfl
theorem places_no {p : Promo} {codes : List Str} (h : asked codes p = false) : places [p] codes 1 = [] := by
  unfold places
  rw [show List.range 1 = [0] from rfl, List.filter_cons_of_neg (p := fun k => asked codes ([p].getD k default)) (by rw [show [p].getD 0 default = p from rfl, h]; simp)]; rfl
theorem leastPrice_S {least : Int} {code : Str} (h0 : 0 ≤ least) (h1 : least ≤ 10000000000000) (hc : namedC code = true) {codes : List Str} (hcl : codes.length ≤ Big) (hcc : codesC codes = true) {l : List Line} (hl : BasketOk l) {o : List Int} (ho : o = [0] ∨ o = [])
    (hpl : places [leastP least code] codes 1 = o) {net ship : Int} (hn : net = if o = [0] ∧ least ≤ grossN l then 0 else grossN l) (hsh : ship = feeB ⟨50, 1⟩ (usOf l).length net) {args : List AV} {st : St}
    (hs : Shift args st [eRules (leastR least code), eStrs codes, arrOf 3 eLine l] st0) :
    S P 19 args st fun v s => (∃ a b, v = .tuple [.agg [noA a, eI net, eI ship, noA b], eI 0]) ∧ s = st := by
  refine S.lends (price_S (leastR least code) codes l (leastR_fit _ _) hcl (by show (playItems []).length ≤ _; rw [playItems_len]; decide) (by show (places [leastP least code] codes 1).length ≤ 20; rw [hpl]; rcases ho with rfl | rfl <;> decide) st0) hs fun v hv => ?_
  rcases hv with ⟨h, _⟩ | ⟨_, o1, o2, k1, k2, rfl⟩
  · exact absurd (least_check h0 h1 hc hcc hl) h
  · have hres : ∀ {x : List Int}, OrdP (leastR least code).promos codes x → resO (leastR least code).promos x = o := fun {x} hx => by
      have h3 : (resO (leastR least code).promos x).Perm (places [leastP least code] codes 1) := (resO_perm _ x).trans hx.1
      rw [hpl] at h3
      rcases ho with rfl | rfl
      · exact List.perm_singleton.1 h3
      · exact List.perm_nil.1 h3
    rw [hres k1, hres k2]
    obtain ⟨e1, e2⟩ := least_price h0 h1 hc hl ho
    rw [← hn] at e1 e2
    rw [← hsh] at e2
    refine ⟨_, ⟨(priceB (leastR least code) l o o).nets.length, (priceB (leastR least code) l o o).deals.length, rfl⟩, ?_⟩
    unfold ePriced
    rw [e1, e2]
    exact So.tuple (.cons (So.agg (.cons (So.arr _ _ _) (.cons (So.int _ _) (.cons (So.int _ _) (.cons (So.arr _ _ _) .nil))))) (.cons (So.int _ _) .nil))
set_option maxHeartbeats 4000000 in
theorem priceLeast_S (l : List Line) (least : Int) (codes : Bool) (st : St) : S P 9 [arrOf 3 eLine l, eI least, eB codes] st fun v st' => v = .bool true := by
  have hL := playLines_ok l
  have hLs := fun st => playLines_S l st
  have hIs := fun st => playItems_S [] st
  generalize playLines l = L at hL hLs
  have hln := hL.len
  have hg := sums_le hL.line
  have hchk : checkE (fun _ => true) L = 0 := hL.check fun _ => rfl
  have hok := linesOk (hL.check (known_play []))
  have hun := (usOf_ok hok).ok.len
  obtain ⟨g, hgg⟩ : ∃ g, g = grossN L := ⟨_, rfl⟩
  rw [← hgg] at hg
  have hmb := modB_lt least (n := g + 3) (by omega)
  obtain ⟨m, hm⟩ : ∃ m, m = modB least (g + 3) := ⟨_, rfl⟩
  rw [← hm] at hmb
  obtain ⟨its, hits⟩ : ∃ its, its = playItems [] := ⟨_, rfl⟩
  rw [← hits] at hIs
  have hR : ∀ code, eRules (leastR m code) = .agg [arrOf 4 eItem its, arrOf 15 ePromo [leastP m code], eB false, eB false, eI 0, arrOf 4 eZone [], eI 50, eI 1, eI 0, eI 0, eI 1, eI 0, eInts [], eInts []] := fun code => by rw [hits]; rfl
  cases codes
  · refine S_of_X [8] good mixed Tryz.func9 (by rfl) rfl rfl rfl ?_
    conv => whnf
    refine fork (fun h => ?_) (fun h => ?_) <;> rw [h]
    · conv => whnf
      refine call1 (awake_S _) ?_
      conv => whnf
      exact rfl
    · conv => whnf
      refine call1 (hLs _) ?_
      conv => whnf
      refine call1 (rGross_S L (by omega) (fun x hx => hL.lineC hx) hchk (by omega) _) ?_
      rw [← hgg]
      conv => whnf
      rw [show IntKind.i64.wrap (g + 3) = g + 3 from wrap64_of (by omega) (by omega)]
      refine call1 (mod64_S' least (g + 3) (by omega) (by omega) _) ?_
      rw [← hm]
      conv => whnf
      refine call_shift (Le.shift (Le.emp _ _) _) (call1 (hIs _) ?_)
      conv => whnf
      have hpl : places [leastP m ⟨#[]⟩] [] 1 = [0] := places_one (by unfold asked; rw [show isNil (leastP m ⟨#[]⟩).code = true from (by kernel_rfl : isNil ⟨#[]⟩ = true)]; rfl)
      obtain ⟨N, hN⟩ : ∃ N : Int, N = if ([0] : List Int) = [0] ∧ m ≤ grossN L then 0 else grossN L := ⟨_, rfl⟩
      obtain ⟨F, hF⟩ : ∃ F : Int, F = feeB ⟨50, 1⟩ (usOf L).length N := ⟨_, rfl⟩
      refine call (leastPrice_S hmb.1 (by omega) (by kernel_rfl : namedC ⟨#[]⟩ = true) (codes := []) (by decide) (by kernel_rfl) hL (.inl rfl) hpl hN hF ?_) (fun v s hv => ?_)
      · rw [hR]
        refine Shift.trans (t := _) (Shift.cons (Le.shift (Le.agg ?_) _) (Shift.cons (Le.shift (Le.emp _ _) _) (Shift.keep _ _))) ((sup_st0 _).shift _)
        repeat' first | exact LeL.nil | refine LeL.cons ?_ ?_ | exact Le.refl _ | exact Le.emp _ _ | refine Le.arr1 ?_ rfl
      obtain ⟨⟨a1, d1, rfl⟩, rfl⟩ := hv
      conv => whnf
      intro b10 hb10
      conv => whnf
      refine stV (upd_same ..) rfl (by omega) rfl (by rfl) ?_
      rw [upd_twice]
      conv => whnf
      refine call (leastPrice_S hmb.1 (by omega) (by kernel_rfl : namedC ⟨#[]⟩ = true) (codes := []) (by decide) (by kernel_rfl) hL (.inl rfl) hpl hN hF ?_) (fun v s hv => ?_)
      · rw [hR]
        refine Shift.trans (t := _) (Shift.cons (Le.shift (Le.agg ?_) _) (Shift.cons (Le.shift (Le.emp _ _) _) (Shift.keep _ _))) ((sup_st0 _).shift _)
        repeat' first | exact LeL.nil | refine LeL.cons ?_ ?_ | exact Le.refl _ | exact Le.emp _ _ | refine Le.arr1 ?_ rfl
      obtain ⟨⟨a2, d2, rfl⟩, rfl⟩ := hv
      conv => whnf
      intro b12 hb12
      have hne : b10 ≠ b12 := fun e => by subst e; rw [upd_same] at hb12; cases hb12
      conv => whnf
      refine stV (upd_same ..) rfl (by omega) rfl (by rfl) ?_
      rw [upd_twice]
      have hF2 : F = if (((usOf L).length : Int) = 0 ∨ ((1 : Int) > 0 ∧ N ≥ 1)) then 0 else 50 := hF
      conv => whnf
      cases hd : decide (m ≤ g)
      · have hd' := of_decide_eq_false hd
        have hN0 : N = g := by rw [hN, ← hgg, if_neg (fun e => hd' e.2)]
        subst hN0
        conv => whnf
        refine ⟨[], [], List.range 36, by kernel_rfl, ?_⟩
        conv => whnf
        refine ⟨_, callQ (awake_S _), ?_⟩
        conv => whnf
        refine ldV (by rw [upd_ne hne]; exact upd_same ..) rfl (by omega) (fset_same ..) ?_
        conv => whnf
        rw [show (N == N) = true from beq_self_eq_true N]
        conv => whnf
        refine ldV (upd_same ..) rfl (by omega) (fset_same ..) ?_
        conv => whnf
        rw [show (N == N) = true from beq_self_eq_true N]
        conv => whnf
        refine ldV (by rw [upd_ne hne]; exact upd_same ..) rfl (by omega) (fset_same ..) ?_
        conv => whnf
        refine fork (fun h5 => ?_) (fun h5 => ?_) <;> rw [h5] <;> simp only [decide_eq_true_eq, decide_eq_false_iff_not] at h5
        · have hF0 : F = 0 := by rw [hF2, if_pos (by omega)]
          rw [hF0]
          conv => whnf
          exact rfl
        · have hF0 : F = if ((usOf L).length : Int) = 0 then 0 else 50 := by rw [hF2]; split <;> split <;> omega
          conv => whnf
          refine ⟨_, callQ (rUnits_S L (by omega) (fun x hx => hL.lineC hx) hchk hun _), ?_⟩
          conv => whnf
          show AV.bool ((F == 0) == ((((usOf L).length : Nat) : Int) == 0)) = AV.bool true
          rw [hF0]
          by_cases h6 : ((usOf L).length : Int) = 0
          · rw [if_pos h6, h6]; rfl
          · rw [if_neg h6, show (((usOf L).length : Int) == 0) = false from by simpa using h6]; rfl
      · have hd' := of_decide_eq_true hd
        have hN0 : N = 0 := by rw [hN, if_pos ⟨rfl, by omega⟩]
        subst hN0
        conv => whnf
        refine ⟨[], [], List.range 36, by kernel_rfl, ?_⟩
        conv => whnf
        refine ⟨_, callQ (awake_S _), ?_⟩
        conv => whnf
        refine ldV (by rw [upd_ne hne]; exact upd_same ..) rfl (by omega) (fset_same ..) ?_
        conv => whnf
        refine ldV (upd_same ..) rfl (by omega) (fset_same ..) ?_
        conv => whnf
        refine ldV (by rw [upd_ne hne]; exact upd_same ..) rfl (by omega) (fset_same ..) ?_
        conv => whnf
        have hF0 : F = if ((usOf L).length : Int) = 0 then 0 else 50 := by rw [hF2]; split <;> split <;> omega
        refine ⟨_, callQ (rUnits_S L (by omega) (fun x hx => hL.lineC hx) hchk hun _), ?_⟩
        conv => whnf
        show AV.bool ((F == 0) == ((((usOf L).length : Nat) : Int) == 0)) = AV.bool true
        rw [hF0]
        by_cases h6 : ((usOf L).length : Int) = 0
        · rw [if_pos h6, h6]; rfl
        · rw [if_neg h6, show (((usOf L).length : Int) == 0) = false from by simpa using h6]; rfl
  · refine S_of_X [8, 31] good mixed Tryz.func9 (by rfl) rfl rfl rfl ?_
    conv => whnf
    refine fork (fun h => ?_) (fun h => ?_) <;> rw [h]
    · conv => whnf
      refine call1 (awake_S _) ?_
      conv => whnf
      exact rfl
    · conv => whnf
      refine call1 (hLs _) ?_
      conv => whnf
      refine call1 (rGross_S L (by omega) (fun x hx => hL.lineC hx) hchk (by omega) _) ?_
      rw [← hgg]
      conv => whnf
      rw [show IntKind.i64.wrap (g + 3) = g + 3 from wrap64_of (by omega) (by omega)]
      refine call1 (mod64_S' least (g + 3) (by omega) (by omega) _) ?_
      rw [← hm]
      conv => whnf
      refine call_shift (Le.shift (Le.emp _ _) _) (call1 (hIs _) ?_)
      conv => whnf
      intro bp hbp
      conv => whnf
      refine ⟨rfl, ⟨by decide, by decide⟩, ?_⟩
      conv => whnf
      refine stV (upd_same ..) rfl (by omega) rfl (by rfl) ?_
      rw [upd_twice]
      conv => whnf
      have hpl : places [leastP m ⟨#[99]⟩] [⟨#[99]⟩] 1 = [0] := places_one (show asked [⟨#[99]⟩] (leastP 0 ⟨#[99]⟩) = true by kernel_rfl)
      have hpl2 : places [leastP m ⟨#[99]⟩] [] 1 = [] := places_no (show asked [] (leastP 0 ⟨#[99]⟩) = false by kernel_rfl)
      obtain ⟨N, hN⟩ : ∃ N : Int, N = if ([0] : List Int) = [0] ∧ m ≤ grossN L then 0 else grossN L := ⟨_, rfl⟩
      obtain ⟨F, hF⟩ : ∃ F : Int, F = feeB ⟨50, 1⟩ (usOf L).length N := ⟨_, rfl⟩
      have hN2 : g = if ([] : List Int) = [0] ∧ m ≤ grossN L then 0 else grossN L := by rw [if_neg (fun e => by cases e.1), hgg]
      refine call (leastPrice_S hmb.1 (by omega) (by kernel_rfl : namedC ⟨#[99]⟩ = true) (codes := [⟨#[99]⟩]) (by decide) (by kernel_rfl) hL (.inl rfl) hpl hN hF ?_) (fun v s' hv => ?_)
      · rw [hR]
        refine Shift.trans (Shift.cons (Shift.agg (Shift.cons (Shift.keep [arrOf 4 eItem its] _) (Shift.cons (shift_own (upd_same ..) rfl (Nat.le_refl _) (fun i hi => rfl)) (Shift.keep _ _)))) (Shift.keep _ _)) ?_
        refine Shift.trans (t := _) (Shift.cons (Le.shift (Le.agg ?_) _) (Shift.cons (Le.shift ?_ _) (Shift.keep _ _))) ((sup_st0 _).shift _)
        all_goals (repeat' first | exact LeL.nil | refine LeL.cons ?_ ?_ | exact Le.refl _ | exact Le.emp _ _ | refine Le.arr1 ?_ rfl)
      obtain ⟨⟨a1, d1, rfl⟩, rfl⟩ := hv
      conv => whnf
      intro b10 hb10
      have hp10 : bp ≠ b10 := fun e => by subst e; rw [upd_same] at hb10; cases hb10
      conv => whnf
      refine stV (upd_same ..) rfl (by omega) rfl (by rfl) ?_
      rw [upd_twice]
      conv => whnf
      refine call (leastPrice_S hmb.1 (by omega) (by kernel_rfl : namedC ⟨#[99]⟩ = true) (codes := []) (by decide) (by kernel_rfl) hL (.inr rfl) hpl2 hN2 rfl ?_) (fun v s' hv => ?_)
      · rw [hR]
        refine Shift.trans (Shift.cons (Shift.agg (Shift.cons (Shift.keep [arrOf 4 eItem its] _) (Shift.cons (shift_own (by rw [upd_ne hp10]; exact upd_same ..) rfl (Nat.le_refl _) (fun i hi => rfl)) (Shift.keep _ _)))) (Shift.keep _ _)) ?_
        refine Shift.trans (t := _) (Shift.cons (Le.shift (Le.agg ?_) _) (Shift.cons (Le.shift (Le.emp _ _) _) (Shift.keep _ _))) ((sup_st0 _).shift _)
        repeat' first | exact LeL.nil | refine LeL.cons ?_ ?_ | exact Le.refl _ | exact Le.emp _ _ | refine Le.arr1 ?_ rfl
      obtain ⟨⟨a2, d2, rfl⟩, rfl⟩ := hv
      generalize feeB ⟨50, 1⟩ (usOf L).length g = F2
      conv => whnf
      intro b12 hb12
      have hne : b10 ≠ b12 := fun e => by subst e; rw [upd_same] at hb12; cases hb12
      conv => whnf
      refine stV (upd_same ..) rfl (by omega) rfl (by rfl) ?_
      rw [upd_twice]
      conv => whnf
      have hF2 : F = if (((usOf L).length : Int) = 0 ∨ ((1 : Int) > 0 ∧ N ≥ 1)) then 0 else 50 := hF
      conv => whnf
      cases hd : decide (m ≤ g)
      · have hd' := of_decide_eq_false hd
        have hN0 : N = g := by rw [hN, ← hgg, if_neg (fun e => hd' e.2)]
        subst hN0
        conv => whnf
        refine ⟨[], [], List.range 36, by kernel_rfl, ?_⟩
        conv => whnf
        refine ⟨_, callQ (awake_S _), ?_⟩
        conv => whnf
        refine ldV (by rw [upd_ne hne]; exact upd_same ..) rfl (by omega) (fset_same ..) ?_
        conv => whnf
        rw [show (N == N) = true from beq_self_eq_true N]
        conv => whnf
        refine ldV (upd_same ..) rfl (by omega) (fset_same ..) ?_
        conv => whnf
        rw [show (N == N) = true from beq_self_eq_true N]
        conv => whnf
        refine ldV (by rw [upd_ne hne]; exact upd_same ..) rfl (by omega) (fset_same ..) ?_
        conv => whnf
        refine fork (fun h5 => ?_) (fun h5 => ?_) <;> rw [h5] <;> simp only [decide_eq_true_eq, decide_eq_false_iff_not] at h5
        · have hF0 : F = 0 := by rw [hF2, if_pos (by omega)]
          rw [hF0]
          conv => whnf
          exact rfl
        · have hF0 : F = if ((usOf L).length : Int) = 0 then 0 else 50 := by rw [hF2]; split <;> split <;> omega
          conv => whnf
          refine ⟨_, callQ (rUnits_S L (by omega) (fun x hx => hL.lineC hx) hchk hun _), ?_⟩
          conv => whnf
          show AV.bool ((F == 0) == ((((usOf L).length : Nat) : Int) == 0)) = AV.bool true
          rw [hF0]
          by_cases h6 : ((usOf L).length : Int) = 0
          · rw [if_pos h6, h6]; rfl
          · rw [if_neg h6, show (((usOf L).length : Int) == 0) = false from by simpa using h6]; rfl
      · have hd' := of_decide_eq_true hd
        have hN0 : N = 0 := by rw [hN, if_pos ⟨rfl, by omega⟩]
        subst hN0
        conv => whnf
        refine ⟨[], [], List.range 36, by kernel_rfl, ?_⟩
        conv => whnf
        refine ⟨_, callQ (awake_S _), ?_⟩
        conv => whnf
        refine ldV (by rw [upd_ne hne]; exact upd_same ..) rfl (by omega) (fset_same ..) ?_
        conv => whnf
        refine ldV (upd_same ..) rfl (by omega) (fset_same ..) ?_
        conv => whnf
        rw [show (g == g) = true from beq_self_eq_true g]
        conv => whnf
        refine ldV (by rw [upd_ne hne]; exact upd_same ..) rfl (by omega) (fset_same ..) ?_
        conv => whnf
        have hF0 : F = if ((usOf L).length : Int) = 0 then 0 else 50 := by rw [hF2]; split <;> split <;> omega
        refine ⟨_, callQ (rUnits_S L (by omega) (fun x hx => hL.lineC hx) hchk hun _), ?_⟩
        conv => whnf
        show AV.bool ((F == 0) == ((((usOf L).length : Nat) : Int) == 0)) = AV.bool true
        rw [hF0]
        by_cases h6 : ((usOf L).length : Int) = 0
        · rw [if_pos h6, h6]; rfl
        · rw [if_neg h6, show (((usOf L).length : Int) == 0) = false from by simpa using h6]; rfl
end Go.Proofs.YtnekegdhpjplbaaGreat
/- What is handed to a law, as abstract values. -/
set_option linter.unusedVariables false
set_option linter.unusedSimpArgs false
namespace Go.Ab
open Go Go.ChangeShapes
inductive LK where
  | bool
  | int (k : IntKind)
  | str
  | sl (ks : List LK)
def aggOf (l : List AV) : AV := match l with | [v] => v | l => .agg l
inductive Fit : LK → AV → Prop
  | bool (b : Bool) : Fit .bool (.bool b)
  | int (k : IntKind) (n : Int) (h : (Lit.int k n).wf = true) : Fit (.int k) (.int k n)
  | str (s : ByteArray) (h : s.size ≤ maxLen) : Fit .str (.str s)
  | sl (ks : List LK) (n : Nat) (L : Nat → List AV) (hn : n ≤ maxLen) (hl : ∀ i, i < n → (L i).length = ks.length) (hf : ∀ (i j : Nat) (y : AV) (k : LK), i < n → (L i)[j]? = some y → ks[j]? = some k → Fit k y) : Fit (.sl ks) (.arr ks.length n fun i => aggOf (L i))
theorem Fit.one {k : LK} {v : AV} (h : Fit k v) : v.one = true := by cases h <;> rfl
theorem cells_one {v : AV} (h : v.one = true) : cellsOf v = [v] := by cases v <;> first | rfl | cases h
theorem cells_agg {l : List AV} (h : ∀ v ∈ l, v.one = true) : cellsOf (aggOf l) = l := by
  unfold aggOf
  split
  · exact cells_one (h _ (List.mem_singleton.2 rfl))
  · rfl
theorem addr_add (a : Addr) (n m : Nat) : a.add (n + m) = (a.add n).add m := by
  unfold Addr.add
  by_cases h : n = 0
  · subst h; simp
  · by_cases k : m = 0
    · subst k; simp [h]
    · simp [h, k, Nat.add_assoc]
def fieldsK (P : Program) (r : TypeId → Option (List LK)) : List Field → Nat → Option (List LK)
  | [], _ => some []
  | f :: fs, o => match Nat.beq f.offset o, r f.type with
    | true, some ks => (match Nat.beq (P.cellsOf f.type) ks.length, fieldsK P r fs (o + ks.length) with
      | true, some l => some (ks ++ l)
      | _, _ => none)
    | _, _ => none
def kindsOf (P : Program) : Nat → TypeId → Option (List LK)
  | 0, _ => none
  | n + 1, t => match P.underlying t with
    | some .bool => some [.bool]
    | some (.int k) => some [.int k]
    | some .string => some [.str]
    | some (.slice e) => (match kindsOf P n e with
      | some ks => (match Nat.beq (P.cellsOf e) ks.length with | true => some [.sl ks] | false => none)
      | none => none)
    | some (.struct fs) => (match fieldsK P (kindsOf P n) fs.toList 0 with
      | some ks => (match Nat.beq (P.cellsOf t) ks.length with | true => some ks | false => none)
      | none => none)
    | _ => none
structure FitL (w : World) (ks : List LK) (l : List AV) (cs : List Value) : Prop where
  len : l.length = ks.length
  clen : cs.length = ks.length
  fit : ∀ (j : Nat) (y : AV) (k : LK), l[j]? = some y → ks[j]? = some k → Fit k y
  rep : ∀ (j : Nat) (y : AV) (c : Value), l[j]? = some y → cs[j]? = some c → RepW w st0 y c
theorem FitL.one {w : World} {ks : List LK} {l : List AV} {cs : List Value} (h : FitL w ks l cs) : ∀ v ∈ l, v.one = true := fun v hv => by
  obtain ⟨j, hj, rfl⟩ := List.getElem_of_mem hv
  exact (h.fit j _ (ks[j]'(by rw [← h.len]; exact hj)) (List.getElem?_eq_getElem hj) (List.getElem?_eq_getElem (by rw [← h.len]; exact hj))).one
theorem FitL.nil (w : World) : FitL w [] [] [] := ⟨rfl, rfl, fun j y k h => by simp at h, fun j y c h => by simp at h⟩
theorem FitL.app {w : World} {ks ks' : List LK} {l l' : List AV} {cs cs' : List Value} (h : FitL w ks l cs) (h' : FitL w ks' l' cs') : FitL w (ks ++ ks') (l ++ l') (cs ++ cs') := by
  have h1 := h.len; have h2 := h.clen; have h3 := h'.len; have h4 := h'.clen
  refine ⟨by simp [h1, h3], by simp [h2, h4], fun j y k hy hk => ?_, fun j y c hy hc => ?_⟩
  · by_cases hj : j < l.length
    · rw [List.getElem?_append_left hj] at hy; rw [List.getElem?_append_left (by omega)] at hk; exact h.fit j y k hy hk
    · rw [List.getElem?_append_right (by omega)] at hy; rw [List.getElem?_append_right (by omega)] at hk
      rw [show j - l.length = j - ks.length by omega] at hy; exact h'.fit _ y k hy hk
  · by_cases hj : j < l.length
    · rw [List.getElem?_append_left hj] at hy; rw [List.getElem?_append_left (by omega)] at hc; exact h.rep j y c hy hc
    · rw [List.getElem?_append_right (by omega)] at hy; rw [List.getElem?_append_right (by omega)] at hc
      rw [show j - l.length = j - cs.length by omega] at hy; exact h'.rep _ y c hy hc
theorem FitL.single {w : World} {k : LK} {v : AV} {c : Value} (h : Fit k v) (hr : RepW w st0 v c) : FitL w [k] [v] [c] :=
  ⟨rfl, rfl, fun j y k' hy hk => by cases j <;> simp at hy hk; subst hy; subst hk; exact h, fun j y c' hy hc => by cases j <;> simp at hy hc; subst hy; subst hc; exact hr⟩
section
variable {H : Type} {enc : TypeId × Value → H} {P : Program} {w : World} {base : Nat} {spare : Nat → Bool} {held : Bool}
theorem open_fields {n m : Nat} (ih : ∀ (t : TypeId) (ks : List LK) (cs : List Value) (x : DataW H × List MemPlace), kindsOf P n t = some ks → DataW.trod enc P w base spare held m t cs = some x → ∃ l, FitL w ks l cs) {cs : List Value} :
    ∀ (fs : List Field) (o : Nat) (ks : List LK), fieldsK P (kindsOf P n) fs o = some ks → (∀ f ∈ fs, ∃ x, DataW.trod enc P w base spare held m f.type ((cs.drop f.offset).take (P.cellsOf f.type)) = some x) → ∃ l, FitL w ks l ((cs.drop o).take ks.length)
  | [], o, ks, h, _ => by cases h; exact ⟨[], by simpa using FitL.nil w⟩
  | f :: fs, o, ks, h, hx => by
    unfold fieldsK at h
    split at h
    · rename_i k1 ho hk1
      split at h
      · rename_i k2 hc hk2
        cases h
        have ho := Nat.eq_of_beq_eq_true ho
        have hc := Nat.eq_of_beq_eq_true hc
        obtain ⟨x, h1⟩ := hx f (List.mem_cons_self ..)
        rw [ho, hc] at h1
        obtain ⟨l1, g1⟩ := ih f.type k1 _ x hk1 h1
        obtain ⟨l2, g2⟩ := open_fields ih fs (o + k1.length) k2 hk2 fun f' hf => hx f' (List.mem_cons_of_mem _ hf)
        refine ⟨l1 ++ l2, ?_⟩
        have e : (cs.drop o).take (k1 ++ k2).length = (cs.drop o).take k1.length ++ (cs.drop (o + k1.length)).take k2.length := by
          rw [List.length_append, List.take_add, List.drop_drop]
        rw [e]; exact g1.app g2
      · cases h
    · cases h
theorem open_kinds : ∀ (n m : Nat) (t : TypeId) (ks : List LK) (cs : List Value) (x : DataW H × List MemPlace), kindsOf P n t = some ks → DataW.trod enc P w base spare held m t cs = some x → ∃ l, FitL w ks l cs
  | 0, m, t, ks, cs, x, h, _ => by cases h
  | n + 1, m, t, ks, cs, x, h, hx => by
    unfold kindsOf at h
    split at h
    · rename_i ht; cases h; obtain ⟨b, rfl, _⟩ := DataW.trod_bool ht hx; exact ⟨[.bool b], .single (.bool b) (.bool b)⟩
    · rename_i k ht; cases h; obtain ⟨i, rfl, _, hw⟩ := DataW.trod_int ht hx; exact ⟨[.int k i], .single (.int k i hw) (.int k i)⟩
    · rename_i ht; cases h; obtain ⟨s, rfl, _, hs⟩ := DataW.trod_string ht hx; exact ⟨[.str s], .single (.str s hs) (.str s)⟩
    · rename_i e ht
      split at h
      case h_2 => cases h
      rename_i ks' hk
      split at h
      case h_2 => cases h
      rename_i hb
      cases h
      have hb := Nat.eq_of_beq_eq_true hb
      rcases DataW.trod_slice ht hx with ⟨rfl, _⟩ | ⟨a, len, cap, elems, rest, m', rfl, rfl, _, hba, hl, hm, hlen, hel, _, _⟩
      · exact ⟨[.arr ks'.length 0 (fun _ => aggOf [])], .single (.sl ks' 0 (fun _ => []) (Nat.zero_le _) (fun i hi => absurd hi (by omega)) (fun i j y k hi => absurd hi (by omega))) (.arr _ 0 _ none 0 (fun _ _ => undef) (Nat.le_refl _) (fun h => absurd h (by omega)) (fun i hi => absurd hi (by omega)) (fun i hi => absurd hi (by omega)) (fun a ha => by cases ha) (fun i j y hi => absurd hi (by omega)))⟩
      · have hall : ∀ i, ∃ p : List AV × List Value, i < len → w.cells? base (a.add (i * P.cellsOf e)) (P.cellsOf e) = some p.2 ∧ FitL w ks' p.1 p.2 := fun i => by
          by_cases hi : i < len
          · have h1 := hel i hi
            rw [List.getElem?_eq_getElem (by omega), Option.bind_eq_some_iff] at h1
            obtain ⟨c1, h2, h3⟩ := h1
            obtain ⟨l, h4⟩ := open_kinds n m' e ks' c1 _ hk h3
            exact ⟨(l, c1), fun _ => ⟨h2, h4⟩⟩
          · exact ⟨([], []), fun h => absurd h hi⟩
        obtain ⟨p, hp⟩ := Classical.axiomOfChoice hall
        refine ⟨[.arr ks'.length len (fun i => aggOf (p i).1)], .single (.sl ks' len (fun i => (p i).1) (by omega) (fun i hi => (hp i hi).2.len) (fun i j y k hi => (hp i hi).2.fit j y k)) ?_⟩
        have hc : ∀ i, i < len → cellsOf (aggOf (p i).1) = (p i).1 := fun i hi => cells_agg (hp i hi).2.one
        refine .arr _ len _ (some a) cap (fun i j => (p i).2.getD j undef) hl (fun _ => ⟨a, rfl⟩) (fun i hi => by rw [hc i hi]; exact (hp i hi).2.len) (fun i hi => by rw [hc i hi]; exact List.all_eq_true.2 (hp i hi).2.one) (fun b hb' i j hi hj => ?_) (fun i j y hi hy => ?_)
        · cases hb'
          have h5 := (World.cells?_some (hp i hi).1)
          have h6 := h5.2.2 j (by omega)
          have hj2 : j < (p i).2.length := by rw [(hp i hi).2.clen]; exact hj
          show w.cell? _ = _
          rw [List.getD_eq_getElem?_getD, List.getElem?_eq_getElem hj2, Option.getD_some]
          rw [List.getElem?_eq_getElem hj2] at h6
          rw [← h6, hb]; show w.cell? _ = w.cell? _; rw [addr_add]
        · rw [hc i hi] at hy
          have hj : j < (p i).1.length := (List.getElem?_eq_some_iff.1 hy).1
          have hj2 : j < (p i).2.length := by rw [(hp i hi).2.clen, ← (hp i hi).2.len]; exact hj
          rw [List.getD_eq_getElem?_getD, List.getElem?_eq_getElem hj2, Option.getD_some]
          exact (hp i hi).2.rep j y _ hy (List.getElem?_eq_getElem hj2)
    · rename_i fs ht
      split at h
      case h_2 => cases h
      rename_i ks' hk
      split at h
      case h_2 => cases h
      rename_i hb
      cases h
      have hb := Nat.eq_of_beq_eq_true hb
      obtain ⟨xs, m', rfl, _, hlen, hxl, hf⟩ := DataW.trod_struct ht hx
      obtain ⟨l, hl⟩ := open_fields (fun t ks cs x => open_kinds n m' t ks cs x) (cs := cs) fs.toList 0 ks hk fun f hfm => by
        obtain ⟨i, hi, rfl⟩ := List.getElem_of_mem hfm
        have := hf i fs[i] (by simp at hi; simp [hi])
        rw [List.getElem?_eq_getElem (by simp at hi; omega)] at this
        exact ⟨_, by simpa using this⟩
      refine ⟨l, ?_⟩
      rw [List.drop_zero, List.take_of_length_le (by omega)] at hl
      exact hl
    · cases h
end
end Go.Ab
/- What is handed to a law, as this program's data. -/
set_option linter.unusedVariables false
set_option linter.unusedSimpArgs false
namespace Go.Ab
open Go
abbrev FitAll (ks : List LK) (L : List AV) : Prop := L.length = ks.length ∧ ∀ (j : Nat) (y : AV) (k : LK), L[j]? = some y → ks[j]? = some k → Fit k y
abbrev DecQ {α : Type} (ks : List LK) (enc : α → AV) (Q : α → Prop) : Prop := ∀ L : List AV, FitAll ks L → ∃ x, LeL L (cellsOf (enc x)) ∧ (cellsOf (enc x)).all AV.one = true ∧ Q x
theorem Fit.inv_str {y : AV} (h : Fit .str y) : ∃ s : Str, y = eS s ∧ s.size ≤ maxLen := by cases h with | str s hs => exact ⟨s, rfl, hs⟩
theorem Fit.inv_int {y : AV} (h : Fit (.int .i64) y) : ∃ n : Int, y = eI n ∧ (Lit.int .i64 n).wf = true := by cases h with | int k n hn => exact ⟨n, rfl, hn⟩
theorem Fit.inv_bool {y : AV} (h : Fit .bool y) : ∃ b : Bool, y = eB b := by cases h with | bool b => exact ⟨b, rfl⟩
theorem Fit.inv_sl {α : Type} [Inhabited α] {ks : List LK} {y : AV} {enc : α → AV} {Q : α → Prop} (hd : DecQ ks enc Q) (h : Fit (.sl ks) y) :
    ∃ l : List α, Le y (arrOf ks.length enc l) ∧ l.length ≤ maxLen ∧ ∀ x ∈ l, Q x := by
  cases h with
  | sl ks n L hn hl hf =>
    have h1 : ∀ i, ∃ x, i < n → LeL (L i) (cellsOf (enc x)) ∧ (cellsOf (enc x)).all AV.one = true ∧ Q x := fun i => by
      by_cases hi : i < n
      · obtain ⟨x, hx⟩ := hd (L i) ⟨hl i hi, fun j y k => hf i j y k hi⟩
        exact ⟨x, fun _ => hx⟩
      · exact ⟨default, fun h => absurd h hi⟩
    obtain ⟨g, hg⟩ := Classical.axiomOfChoice h1
    have hlen : ((List.range n).map g).length = n := by rw [List.length_map, List.length_range]
    refine ⟨(List.range n).map g, ?_, by rw [hlen]; exact hn, fun x hx => ?_⟩
    · unfold arrOf
      rw [hlen]
      refine Le.arr fun i hi => ?_
      have e : ((List.range n).map g).getD i default = g i := by
        rw [List.getD_eq_getElem?_getD, List.getElem?_map, List.getElem?_range hi]; rfl
      have one : ∀ v ∈ L i, v.one = true := fun v hv => by
        obtain ⟨j, hj, rfl⟩ := List.getElem_of_mem hv
        exact (hf i j _ (ks[j]'(by rw [← hl i hi]; exact hj)) hi (List.getElem?_eq_getElem hj) (List.getElem?_eq_getElem (by rw [← hl i hi]; exact hj))).one
      rw [e, cells_agg one]
      exact ⟨(hg i hi).1, (hg i hi).2.1⟩
    · obtain ⟨i, hi, rfl⟩ := List.mem_map.1 hx
      exact (hg i (List.mem_range.1 hi)).2.2
/-- One slice that was handed in. -/
theorem FitL.slice {α : Type} [Inhabited α] {w : World} {ks : List LK} {l : List AV} {c : Value} {enc : α → AV} {Q : α → Prop} (hd : DecQ ks enc Q) (h : FitL w [.sl ks] l [c]) :
    ∃ x : List α, RepW w st0 (arrOf ks.length enc x) c ∧ x.length ≤ maxLen ∧ ∀ y ∈ x, Q y := by
  obtain ⟨y, rfl⟩ := List.length_eq_one_iff.1 h.len
  obtain ⟨x, h1, h2, h3⟩ := (h.fit 0 y (.sl ks) rfl rfl).inv_sl hd
  exact ⟨x, h1 _ _ _ (h.rep 0 y c rfl rfl), h2, h3⟩
theorem fit3 {k0 k1 k2 : LK} {L : List AV} (h : FitAll [k0, k1, k2] L) : ∃ a b c, L = [a, b, c] ∧ Fit k0 a ∧ Fit k1 b ∧ Fit k2 c := by
  obtain ⟨h1, h2⟩ := h
  match L, h1 with
  | [a, b, c], _ => exact ⟨a, b, c, rfl, h2 0 _ _ rfl rfl, h2 1 _ _ rfl rfl, h2 2 _ _ rfl rfl⟩
abbrev kLine : List LK := [.str, .int .i64, .int .i64]
theorem decLine : DecQ kLine eLine fun _ => True := fun L h => by
  obtain ⟨a, b, c, rfl, ha, hb, hc⟩ := fit3 h
  obtain ⟨a, rfl, _⟩ := ha.inv_str
  obtain ⟨b, rfl, _⟩ := hb.inv_int
  obtain ⟨c, rfl, _⟩ := hc.inv_int
  exact ⟨⟨a, b, c⟩, LeL.refl _, rfl, trivial⟩
end Go.Ab
/- The closed facts of a row, one by one (together they are too much for one declaration). -/
set_option linter.unusedVariables false
namespace Go.Ab
open Go
theorem an {a b : Bool} (h : a = true) (k : b = true) : (a && b) = true := by rw [h, k]; rfl
def kindsFit (P : Program) (fn : Func) (c : OpenClaim) : Bool := (c.kinds == (if c.domain.isEmpty then [] else fn.params.toList.map fun t => match P.underlying t with | some (.int k) => some k | _ => none))
theorem joined_of {P : Program} {f : FuncId} {fn : Func} {s : ChangeSpec} {c : OpenClaim} (h1 : (c.wf (OpenSpec.ofChange s)) = true) (h2 : (laidOutB P) = true) (h3 : (mapsRowed P) = true) (h4 : (fn.params.all (P.readableRec ·)) = true) (h5 : (namedTie P c.named s.vars) = true) (h6 : (c.stops == []) = true) (h7 : (P.stops == []) = true) (h8 : (c.knobs == []) = true) (h9 : (P.stopKnobs == []) = true) (h10 : (c.inPlace == P.inPlace f) = true) (h11 : (c.unfollowed == P.unfollowed f) = true) (h12 : (c.recurses == P.recurses f) = true) (h13 : (c.named == P.varsNamed f) = true) (h14 : (c.maps == (fn.params.toList ++ s.plain.varTypes P).any (P.mapsRec ·)) = true) (h15 : (c.ifaces == (fn.params.toList ++ s.plain.varTypes P).any (P.ifacesRec ·)) = true) (h16 : (c.mapsOut == P.mapsAmong fn.resultTypes.toList) = true) (h17 : (c.loops == (fn.params.toList ++ s.plain.varTypes P).any (P.loopsFrom ·)) = true) (h18 : (c.wideKeys == (fn.params.toList ++ s.plain.varTypes P ++ fn.resultTypes.toList).any (P.wideKeysFrom ·)) = true) (h19 : (s.vars.all (P.varReadable ·)) = true) (h20 : (fn.resultTypes.all (fun t => P.readableRec t && decide (t < P.types.size))) = true) (h21 : (c.ifacesOut == fn.resultTypes.toList.any (P.ifacesRec ·)) = true) (h22 : (c.loopsOut == fn.resultTypes.toList.any (P.loopsFrom ·)) = true) (h23 : (c.plainKeys == P.plainKeys) = true) (h24 : c.shortTexts.isNone = true) (h25 : P.stopsHeard = true) (h26 : P.mayEnter = true) (h27 : (c.lifted == P.liftsFinal) = true) (h28 : (P.make == some c.make) = true) (h29 : kindsFit P fn c = true) (h30 : (c.pinned == c.pinnedBy) = true) (h31 : (c.veiled == (fn.params.toList ++ s.plain.varTypes P ++ fn.resultTypes.toList).any (P.veiledRec ·)) = true) (h32 : (c.veiledFits P fn.params.toList (fn.params.toList ++ s.plain.varTypes P ++ fn.resultTypes.toList)) = true) : joinedFacts P f fn s c = true := an (an (an (an (an (an (an (an (an (an (an (an (an (an (an (an (an (an (an (an (an (an (an (an (an (an (an (an (an (an (an (h1) h2) h3) h4) h5) h6) h7) h8) h9) h10) h11) h12) h13) h14) h15) h16) h17) h18) h19) h20) h21) h22) h23) h24) h25) h26) h27) h28) h29) h30) h31) h32
end Go.Ab
namespace Go.Proofs.YtnekegdhpjplbaaGreat.closed
open Go
theorem p2 : (laidOutB Tryz.prog) = true := by kernel_rfl
theorem p3 : (mapsRowed Tryz.prog) = true := by kernel_rfl
theorem p7 : (Tryz.prog.stops == []) = true := by kernel_rfl
theorem p9 : (Tryz.prog.stopKnobs == []) = true := by kernel_rfl
theorem p25 : (Tryz.prog.stopsHeard) = true := by kernel_rfl
theorem p26 : (Tryz.prog.mayEnter) = true := by kernel_rfl
end Go.Proofs.YtnekegdhpjplbaaGreat.closed
/- The row of PriceLeast. -/
namespace Go.Proofs.YtnekegdhpjplbaaGreat.priceLeast
open Go.ChangeShapes Go.WideShapes Go.ChangeAt Go.RowKit
open Go.ChangeMaps (open_string shut_string)
set_option linter.unusedVariables false
theorem c1 : (Rows.priceLeastRow.wf (OpenSpec.ofChange Rows.priceLeastSpec)) = true := by kernel_rfl
theorem c4 : (Tryz.f9.params.all (Tryz.prog.readableRec ·)) = true := by kernel_rfl
theorem c5 : (namedTie Tryz.prog Rows.priceLeastRow.named Rows.priceLeastSpec.vars) = true := by kernel_rfl
theorem c6 : ((Rows.priceLeastRow.stops == [])) = true := by kernel_rfl
theorem c8 : ((Rows.priceLeastRow.knobs == [])) = true := by kernel_rfl
theorem c10 : ((Rows.priceLeastRow.inPlace == Tryz.prog.inPlace 9)) = true := by kernel_rfl
theorem c11 : ((Rows.priceLeastRow.unfollowed == Tryz.prog.unfollowed 9)) = true := by kernel_rfl
theorem c12 : ((Rows.priceLeastRow.recurses == Tryz.prog.recurses 9)) = true := by kernel_rfl
theorem c13 : ((Rows.priceLeastRow.named == Tryz.prog.varsNamed 9)) = true := by kernel_rfl
theorem c14 : ((Rows.priceLeastRow.maps == (Tryz.f9.params.toList ++ Rows.priceLeastSpec.plain.varTypes Tryz.prog).any (Tryz.prog.mapsRec ·))) = true := by kernel_rfl
theorem c15 : ((Rows.priceLeastRow.ifaces == (Tryz.f9.params.toList ++ Rows.priceLeastSpec.plain.varTypes Tryz.prog).any (Tryz.prog.ifacesRec ·))) = true := by kernel_rfl
theorem c16 : ((Rows.priceLeastRow.mapsOut == Tryz.prog.mapsAmong Tryz.f9.resultTypes.toList)) = true := by kernel_rfl
theorem c17 : ((Rows.priceLeastRow.loops == (Tryz.f9.params.toList ++ Rows.priceLeastSpec.plain.varTypes Tryz.prog).any (Tryz.prog.loopsFrom ·))) = true := by kernel_rfl
theorem c18 : ((Rows.priceLeastRow.wideKeys == (Tryz.f9.params.toList ++ Rows.priceLeastSpec.plain.varTypes Tryz.prog ++ Tryz.f9.resultTypes.toList).any (Tryz.prog.wideKeysFrom ·))) = true := by kernel_rfl
theorem c19 : (Rows.priceLeastSpec.vars.all (Tryz.prog.varReadable ·)) = true := by kernel_rfl
theorem c20 : (Tryz.f9.resultTypes.all (fun t => Tryz.prog.readableRec t && decide (t < Tryz.prog.types.size))) = true := by kernel_rfl
theorem c21 : ((Rows.priceLeastRow.ifacesOut == Tryz.f9.resultTypes.toList.any (Tryz.prog.ifacesRec ·))) = true := by kernel_rfl
theorem c22 : ((Rows.priceLeastRow.loopsOut == Tryz.f9.resultTypes.toList.any (Tryz.prog.loopsFrom ·))) = true := by kernel_rfl
theorem c23 : ((Rows.priceLeastRow.plainKeys == Tryz.prog.plainKeys)) = true := by kernel_rfl
theorem c24 : (Rows.priceLeastRow.shortTexts.isNone) = true := by kernel_rfl
theorem c27 : ((Rows.priceLeastRow.lifted == Tryz.prog.liftsFinal)) = true := by kernel_rfl
theorem c28 : ((Tryz.prog.make == some Rows.priceLeastRow.make)) = true := by kernel_rfl
theorem c29 : Ab.kindsFit Tryz.prog Tryz.f9 Rows.priceLeastRow = true := by kernel_rfl
theorem c30 : ((Rows.priceLeastRow.pinned == Rows.priceLeastRow.pinnedBy)) = true := by kernel_rfl
theorem c31 : ((Rows.priceLeastRow.veiled == (Tryz.f9.params.toList ++ Rows.priceLeastSpec.plain.varTypes Tryz.prog ++ Tryz.f9.resultTypes.toList).any (Tryz.prog.veiledRec ·))) = true := by kernel_rfl
theorem c32 : (Rows.priceLeastRow.veiledFits Tryz.prog Tryz.f9.params.toList (Tryz.f9.params.toList ++ Rows.priceLeastSpec.plain.varTypes Tryz.prog ++ Tryz.f9.resultTypes.toList)) = true := by kernel_rfl
theorem closedAll : joinedFacts Tryz.prog 9 Tryz.f9 Rows.priceLeastSpec Rows.priceLeastRow = true := Ab.joined_of c1 closed.p2 closed.p3 c4 c5 c6 closed.p7 c8 closed.p9 c10 c11 c12 c13 c14 c15 c16 c17 c18 c19 c20 c21 c22 c23 c24 closed.p25 closed.p26 c27 c28 c29 c30 c31 c32
theorem own : ownKnob Tryz.prog.godebug = none := by kernel_rfl
theorem laidOut : laidOutB Tryz.prog = true := closed.p2
theorem walk (c0 : Value) (a1 : Int) (a2 : Bool) (w : World) (l : List Ab.AV) (h : Ab.FitL w [.sl Ab.kLine] l [c0]) :
    Calls Tryz.prog 9 #[c0, .int .i64 a1, .bool a2] w fun e w' => e = .returned (.bool true) ∧ Below w.heap.size w w' := by
  obtain ⟨x, hr, _, _⟩ := h.slice Ab.decLine
  refine Ab.law_of_S (priceLeast_S x a1 a2 Ab.st0) ⟨rfl, fun j y c hy hc => ?_⟩
  match j with
  | 0 => cases hy; cases hc; exact hr
  | 1 => cases hy; cases hc; exact .int _ _
  | 2 => cases hy; cases hc; exact .bool _
  | j + 3 => cases hy
set_option maxRecDepth 100000 in
theorem lifted (os : Os) (started : os.Started) (H : Type) (enc : TypeId × Value → H) :
    ReturnsInHanded {} Tryz.checked os 9 .any (Rows.priceLeastSpec.pre6 enc Tryz.prog Tryz.f9 Rows.priceLeastRow.domain false) (Rows.priceLeastSpec.post enc Tryz.prog Tryz.f9 false true false false) := by
  refine returnsInHanded_of_change_sized (C := Tryz.checked) own started (by kernel_rfl) Tryz.func9
    (ChangeSpec.witness6 (enc := enc) (C := Tryz.checked) false ⟨#[], #[.slice none 0 0, .int .i64 0, .bool false], []⟩ 8 (by kernel_rfl) (by kernel_rfl) (by kernel_rfl) (by kernel_rfl)) ?_
  intro W base args ds gs before hval0 hW hcnd hsz0 _
  have hval : ∀ (j : Nat) t v, Tryz.f9.params[j]? = some t → args[j]? = some v → Value.okWide Tryz.prog W .any base t v := hval0
  have hW' := hW
  obtain ⟨p, q, hA0, hV, rfl, hfz, hnd⟩ := hW
  have hA : DataW.TrodAll enc Tryz.prog W 0 (fun _ => true) true Tryz.f9.params.toList args.toList ds p := hA0
  rw [Tryz.params9] at hA hval
  obtain ⟨v0, vs0, d0, ds0, p0, q0, hargs, rfl, rfl, h0, r0⟩ := trodAll_cons hA
  obtain ⟨v1, vs1, d1, ds1, p1, q1, rfl, rfl, rfl, h1, r1⟩ := trodAll_cons r0
  obtain ⟨v2, vs2, d2, ds2, p2, q2, rfl, rfl, rfl, h2, r2⟩ := trodAll_cons r1
  obtain ⟨rfl, rfl, rfl⟩ := trodAll_nil r2
  obtain rfl : args = #[v0, v1, v2] := by cases args; simp_all
  obtain ⟨rfl, rfl⟩ := trodVars_none hV
  obtain ⟨a0, len0, cap0, rfl⟩ := okWide_slice Tryz.underlying35 (hval 0 35 v0 rfl rfl)
  obtain ⟨a1, rfl, rfl, rfl, w1⟩ := open_int Tryz.underlying2 (hval 1 2 v1 rfl rfl) h1
  obtain ⟨a2, rfl, rfl, rfl⟩ := open_bool Tryz.underlying4 (hval 2 4 v2 rfl rfl) h2
  have k0 := h0
  have lt0 : ∀ x ∈ p0, x.block < W.heap.size := by obtain ⟨m, hm⟩ := k0; exact DataW.trod_lt m _ _ _ hm
  obtain ⟨l, hl⟩ : ∃ l, Ab.FitL W [.sl Ab.kLine] l [.slice a0 len0 cap0] := by
    obtain ⟨fuel, hf⟩ := h0
    exact Ab.open_kinds 3 fuel 35 [.sl Ab.kLine] _ _ (by kernel_rfl) hf
  clear hA0 hval0 hsz0
  refine (walk _ a1 a2 W l hl).mono fun e W' ⟨he, bel⟩ => ?_
  subst he
  exact ⟨_, rfl, _, _, _, [], _, [], hW', trodAll_mk1 (shut_bool Tryz.underlying4 _), (trodAll_cons_mk (Below.trod laidOut (by kernel_rfl) (of_decide_eq_true (by kernel_rfl)) k0 bel lt0) (trodAll_cons_mk (shut_int Tryz.underlying2 w1) (trodAll_cons_mk (shut_bool Tryz.underlying4 _) trodAll_mk0))), rfl, bel.frame _, fun h => by cases h⟩
theorem over : Rows.priceLeastRow.holds Tryz.pinned (OpenSpec.ofChange Rows.priceLeastSpec) :=
  OpenClaim.holds_of_wide 9 Tryz.f9 rfl rfl rfl rfl rfl rfl rfl ⟨rfl, rfl, rfl, rfl, rfl⟩ rfl rfl rfl rfl rfl (by kernel_rfl) Tryz.func9 closedAll
    (of_decide_eq_true (by kernel_rfl)) (by unfold Func.isWrapper; first | (rw [if_pos (by decide +kernel)]; kernel_rfl) | (rw [if_neg (by decide +kernel)]; exact ⟨rfl, rfl⟩))
    (fun os started H enc _ => lifted os started H enc)
theorem proved : Rows.PriceLeastSaid := over
#print axioms proved
end Go.Proofs.YtnekegdhpjplbaaGreat.priceLeast
namespace Go.Proofs.YtnekegdhpjplbaaGreat
/-- The row, under a short name, for the claim. -/
theorem priceLeast_holds : Rows.PriceLeastSaid := priceLeast.proved
end Go.Proofs.YtnekegdhpjplbaaGreat
