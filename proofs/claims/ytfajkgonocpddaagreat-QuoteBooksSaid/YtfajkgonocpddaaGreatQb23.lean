/- Part 23 of the proof: contracts of the functions that the law reaches -/
import Derived.Test.YtfajkgonocpddaaGreatQb22
import Derived.ChangeSlices
import Derived.ChangeArms
import Derived.Test.YtfajkgonocpddaaGreatRows
import Derived.ProofKit
import Derived.JoinedOf
import Derived.KernelRfl
set_option linter.unusedVariables false
namespace Go.Ab
open Go
theorem lp {A : List AV} {st : St} (n : Nat) (keep : List Nat) (J : Nat → List AV → St → Prop) {B : List Nat → (Nat → KA) → Nat → List AV → St → Prop}
    (h0 : getsK A keep fun us => J 0 us st) (h : ∀ i vs s, i ≤ n → J i vs s → B keep (fun m vs s => ∃ i, i ≤ n ∧ m = n - i ∧ J i vs s) (n - i) vs s) :
    ∃ (keep : List Nat) (I : Nat → KA), (getsK A keep fun us => ∃ m, I m us st) ∧ ∀ m vs s, I m vs s → B keep I m vs s := by
  rw [getsK_eq] at h0
  refine ⟨keep, fun m vs s => ∃ i, i ≤ n ∧ m = n - i ∧ J i vs s, ?_, ?_⟩
  · rw [getsK_eq]; exact ⟨n, 0, Nat.zero_le _, rfl, h0⟩
  · rintro m vs s ⟨i, hi, rfl, hj⟩; exact h i vs s hi hj
theorem nx {n i : Nat} {J : Nat → Prop} (hi : i < n) (h : J (i + 1)) : ∃ m', m' < n - i ∧ ∃ i', i' ≤ n ∧ m' = n - i' ∧ J i' := ⟨n - (i + 1), by omega, i + 1, hi, rfl, h⟩
theorem stop_at {i n : Nat} (h : decide ((i : Int) < (n : Int)) = false) (hi : i ≤ n) : i = n := by have := of_decide_eq_false h; omega
theorem go_on {i n : Nat} (h : decide ((i : Int) < (n : Int)) = true) : i < n := by have := of_decide_eq_true h; omega
def ColL {α : Type} [Inhabited α] (ty e : Nat) (enc : α → AV) (L : List α) (st : St) (sv : AV) (st' : St) : Prop := Col ty e (fun k => enc (L.getD k default)) st L.length sv st'
theorem ColL.start {α : Type} [Inhabited α] (ty e : Nat) (enc : α → AV) (st : St) : ColL ty e enc [] st .emp st := Col.start _ _ _ _
theorem getD_snoc {α : Type} [Inhabited α] (L : List α) (x : α) : (L ++ [x]).getD L.length default = x := by simp [List.getD_eq_getElem?_getD]
theorem getD_app {α : Type} [Inhabited α] {a b : List α} {k : Nat} (h : k < a.length) : (a ++ b).getD k default = a.getD k default := by
  rw [List.getD_eq_getElem?_getD, List.getD_eq_getElem?_getD, List.getElem?_append_left h]
theorem ColL.app {α : Type} [Inhabited α] {T : Tab} {t : TypeId} {x sv : AV} {st st' : St} {k : KK} {r q : TRow} {el : Nat} {enc : α → AV} {L : List α} {y : α} {g : Nat → AV} (hr : T t = some r) (hd : r.desc = .slice el) (hq : T el = some q)
    (hz : (Nat.blt 0 q.size && Nat.blt 0 q.bytes && Nat.beq q.zero.cells.size q.size) = true) (hs : srcOf q.size st' x = some (1, g)) (hg : g 0 = enc y) (hb : (L.length + 1) * q.bytes ≤ 140737488355328)
    (hc : ColL el q.size enc L st sv st') (hk : ∀ sv' st'', ColL el q.size enc (L ++ [y]) st sv' st'' → k sv' st'') : xApp T t sv x st' k := by
  refine Col.app (f := fun k => enc ((L ++ [y]).getD k default)) hr hd hq hz hs (by show g 0 = enc _; rw [getD_snoc]; exact hg) hb (Col.congr hc fun k hk => by show enc _ = enc _; rw [getD_app hk]) (fun sv' st'' h => hk sv' st'' ?_)
  unfold ColL
  rw [List.length_append]; exact h
theorem S_colL {α : Type} [Inhabited α] {P : Program} {F : FuncId} {args : List AV} {st : St} {ty e : Nat} {enc : α → AV} {L : List α} (h : S P F args st fun v st' => ColL ty e enc L st v st') : S P F args st fun v st' => v = arrOf e enc L ∧ st' = st := S_col h
theorem ColL.shift {α : Type} [Inhabited α] {ty e : Nat} {enc : α → AV} {L : List α} {st : St} {sv : AV} {st' : St} (h : ColL ty e enc L st sv st') : Shift [sv] st' [arrOf e enc L] st := Col.shift h
theorem ColL.sup {α : Type} [Inhabited α] {ty e : Nat} {enc : α → AV} {L : List α} {st : St} {sv : AV} {st' : St} (h : ColL ty e enc L st sv st') : Sup st st' := Col.sup h
end Go.Ab
set_option maxRecDepth 100000
set_option linter.unusedSimpArgs false
namespace Go.Proofs.YtfajkgonocpddaaGreat
open Go Go.Ab
attribute [local irreducible] upd del
abbrev Sm (n : Nat) : Prop := n ≤ 4611686018427387904
structure ScopeSm (s : Scope) : Prop where
  n1 : Sm s.skus.length
  n2 : Sm s.cats.length
  s1 : ∀ x ∈ s.skus, Sm x.size
  s2 : ∀ x ∈ s.cats, Sm x.size
end Go.Proofs.YtfajkgonocpddaaGreat
namespace Go.Proofs.YtfajkgonocpddaaGreat
open Go Go.Ab
theorem resO_perm (l : List Promo) (o : List Int) : (resO l o).Perm o := by
  have h := (ranked_perm l o).map fun e : QE => gI o e.2.toNat
  rw [List.map_map] at h
  have e : (List.range o.length).map ((fun e : QE => gI o e.2.toNat) ∘ rankE l o) = o := by
    refine List.ext_getElem (by simp) fun k h1 h2 => ?_
    rw [List.getElem_map, List.getElem_range]
    show o.getD k default = _
    rw [List.getD_eq_getElem?_getD, List.getElem?_eq_getElem h2]; rfl
  rw [e] at h; exact h
end Go.Proofs.YtfajkgonocpddaaGreat
namespace Go.Proofs.YtfajkgonocpddaaGreat
open Go Go.Ab
attribute [local irreducible] upd del
def modB (v n : Int) : Int := v % 18446744073709551616 % n
theorem modB_lt (v : Int) {n : Int} (h : 0 < n) : 0 ≤ modB v n ∧ modB v n < n := ⟨Int.emod_nonneg _ (by omega), Int.emod_lt_of_pos _ h⟩
theorem wrapU (x : Int) : IntKind.u64.wrap x = x % 18446744073709551616 := rfl
theorem mod_eq (v : Int) {n : Int} (h0 : 0 < n) (h1 : n ≤ 9223372036854775807) : IntKind.i64.wrap (Int.tmod (IntKind.u64.wrap v) (IntKind.u64.wrap n)) = modB v n := by
  have h2 := modB_lt v h0
  have e1 : IntKind.u64.wrap n = n := by rw [wrapU]; omega
  have e2 : Int.tmod (IntKind.u64.wrap v) n = modB v n := by rw [Int.tmod_eq_emod_of_nonneg (by rw [wrapU]; omega)]; rfl
  rw [e1, e2, wrap64_of (by omega) (by omega)]
theorem mod_S (v n : Int) (h0 : 0 < n) (h1 : n ≤ 9223372036854775807) (st : St) : S P 32 [eI v, eI n] st fun r st' => r = eI (modB v n) ∧ st' = st := by
  refine S_of_X [] good mixed Tryz.func32 (by rfl) rfl rfl rfl ?_; conv => whnf
  rw [decide_eq_false (show ¬ IntKind.u64.wrap n = 0 by rw [wrapU]; omega)]; conv => whnf
  refine ⟨?_, rfl⟩
  rw [← mod_eq v h0 h1]; rfl
theorem mod64_S' (v n : Int) (h0 : 0 < n) (h1 : n ≤ 9223372036854775807) (st : St) : S P 28 [eI v, eI n] st fun r st' => r = eI (modB v n) ∧ st' = st := by
  refine S_of_X [] good mixed Tryz.func28 (by rfl) rfl rfl rfl ?_; conv => whnf
  rw [decide_eq_false (show ¬ IntKind.u64.wrap n = 0 by rw [wrapU]; omega)]; conv => whnf
  refine ⟨?_, rfl⟩
  rw [← mod_eq v h0 h1]; rfl
def byteS (c : Int) : Str := strA [IntKind.u8.wrap c]
def catN (n : Int) : Str := byteS (120 + modB n 3)
def zoneN (k : Int) : Str := (⟨#[122]⟩ : Str) ++ byteS (48 + k)
def playRate (l : List CatRate) (c : Nat) : CatRate := ⟨catN c, modB (l.getD c default).rate 3000⟩
def playRates (l : List CatRate) : List CatRate := (List.range (min 3 l.length)).map (playRate l)
def playZone (l : List Zone) (k : Nat) : Zone :=
  if k < l.length then ⟨zoneN k, playRates (l.getD k default).rates, modB (l.getD k default).rest 3000, modB (l.getD k default).ship 3000⟩ else ⟨zoneN k, [], 1000 * k, 500 * k⟩
def playTax (t : Tax) : Tax := ⟨t.incl, t.byOrder, modB t.round 3, (List.range 3).map (playZone t.zones)⟩
theorem ScopeSm.fit {s : Scope} (h : ScopeSm s) : ScopeFit s := ⟨by have := h.n1; show _ ≤ 9223372036854775807; omega, by have := h.n2; show _ ≤ 9223372036854775807; omega⟩
end Go.Proofs.YtfajkgonocpddaaGreat
namespace Go.Proofs.YtfajkgonocpddaaGreat
open Go Go.Ab
structure Book where
  goods : Int
  tax : Int
  ship : Int
  shipTax : Int
  fee : Int
def eBook (b : Book) : AV := .agg [eI b.goods, eI b.tax, eI b.ship, eI b.shipTax, eI b.fee]
def eQuote (q : Quote) : AV := .agg [eInts q.goods, eInts q.taxes, eI q.ship, eI q.shipTax, eI q.total, arrOf 2 eDeal q.deals]
def catsB (r : Rules) (l : List Line) : List Str := (itemsOf r.items l).map Ab.Item.cat
def quoteOf (v : Levied) (deals : List Deal) : Quote := ⟨v.goods, v.taxes, v.ship, v.shipTax, sumI v.goods + sumI v.taxes + v.ship + v.shipTax, deals⟩
def quoteB (r : Rules) (z : Zone) (exempt : Bool) (l : List Line) (Pr : Priced) : Quote := quoteOf (levyB r.tax z exempt (catsB r l) Pr.nets Pr.ship) Pr.deals
def bookB (q : Quote) : Book := ⟨sumI q.goods, sumI q.taxes, q.ship, q.shipTax, 0⟩
theorem sumI_bound {l : List Int} {B : Int} (hB : 0 ≤ B) (h : ∀ x ∈ l, -B ≤ x ∧ x ≤ B) : -(l.length * B) ≤ sumI l ∧ sumI l ≤ l.length * B := by
  induction l with
  | nil => exact ⟨by show -(((0 : Nat) : Int) * B) ≤ 0; rw [Int.natCast_zero, Int.zero_mul]; omega, by show (0 : Int) ≤ ((0 : Nat) : Int) * B; rw [Int.natCast_zero, Int.zero_mul]; omega⟩
  | cons x l ih =>
    have h1 := ih fun y hy => h y (List.mem_cons_of_mem _ hy)
    have h2 := h x (List.mem_cons_self ..)
    rw [sumI_cons, List.length_cons, show ((l.length + 1 : Nat) : Int) * B = l.length * B + B by rw [Int.natCast_add, Int.add_mul]; simp]
    omega
structure AmountsIn (l : List Int) : Prop where
  len : l.length ≤ 1000
  all : ∀ x ∈ l, -10000000000000 ≤ x ∧ x ≤ 10000000000000
theorem AmountsIn.take {l : List Int} (h : AmountsIn l) (i : Nat) : -10000000000000000 ≤ sumI (l.take i) ∧ sumI (l.take i) ≤ 10000000000000000 := by
  have h1 := sumI_bound (l := l.take i) (B := 10000000000000) (by decide) fun x hx => h.all x (List.mem_of_mem_take hx)
  have h2 : (l.take i).length ≤ 1000 := by rw [List.length_take]; have := h.len; omega
  omega
theorem AmountsIn.sum {l : List Int} (h : AmountsIn l) : -10000000000000000 ≤ sumI l ∧ sumI l ≤ 10000000000000000 := by
  have := h.take l.length
  rwa [List.take_length] at this
theorem AmountsIn.step {l : List Int} (h : AmountsIn l) {i : Nat} (hi : i < l.length) : IntKind.i64.wrap (sumI (l.take i) + gI l i) = sumI (l.take (i + 1)) := by
  have h1 := h.take (i + 1)
  rw [sumI_take hi] at h1 ⊢
  exact wrap64_of (by omega) (by omega)
structure LevyIn (t : Tax) (z : Zone) (cats : List Str) (nets : List Int) (ship : Int) : Prop where
  tax : taxC t = true
  zone : zoneC z = true
  cats : cats.length = nets.length
  nets : NetsIn nets
  ship : 0 ≤ ship ∧ ship ≤ 10000000000000
structure QuoteIn (q : Quote) (n : Nat) : Prop where
  goods : AmountsIn q.goods
  taxes : AmountsIn q.taxes
  ngoods : q.goods.length = n
  ntaxes : q.taxes.length = n
  pos : ∀ x ∈ q.taxes, 0 ≤ x
  ship : 0 ≤ q.ship ∧ q.ship ≤ 10000000000000
  shipTax : 0 ≤ q.shipTax ∧ q.shipTax ≤ 10000000000000
  total : q.total = sumI q.goods + sumI q.taxes + q.ship + q.shipTax
theorem rates_ok {t : Tax} {z : Zone} {cats : List Str} {nets : List Int} {ship : Int} (h : LevyIn t z cats nets ship) : (cats.map (rateF z)).length = nets.length ∧ ∀ x ∈ cats.map (rateF z), 0 ≤ x ∧ x ≤ 10000 := by
  refine ⟨by rw [List.length_map]; exact h.cats, fun x hx => ?_⟩
  obtain ⟨c, _, rfl⟩ := List.mem_map.1 hx
  exact rateF_ok h.zone c
theorem levy_ok {t : Tax} {z : Zone} {cats : List Str} {nets : List Int} {ship : Int} (h : LevyIn t z cats nets ship) (exempt : Bool) (deals : List Deal) : QuoteIn (quoteOf (levyB t z exempt cats nets ship) deals) nets.length := by
  obtain ⟨r1, r2⟩ := rates_ok h
  obtain ⟨t1, t2⟩ := taxes_ok (t := t) h.nets r1 r2
  have hz := (zoneC_ok h.zone).2.1
  have hm := much_le (t := t) h.ship.1 hz
  have hs := h.ship
  have hn := h.nets
  have hnx : ∀ i, i < nets.length → 0 ≤ gI nets i ∧ gI nets i ≤ 10000000000000 := fun i hi => by
    have h1 := hn.pos _ (show gI nets i ∈ nets from getD_mem hi)
    have h2 := sumI_mem_le hn.pos (show gI nets i ∈ nets from getD_mem hi)
    have h3 := hn.sum
    exact ⟨h1, by omega⟩
  have htx : ∀ i, i < nets.length → 0 ≤ gI (taxesB t (cats.map (rateF z)) nets) i ∧ gI (taxesB t (cats.map (rateF z)) nets) i ≤ 10000000000000 := fun i hi => t2 _ (getD_mem (by omega))
  have hnl := hn.len
  have gl : (goodsB t (taxesB t (cats.map (rateF z)) nets) nets).length = nets.length := by unfold goodsB; rw [List.length_map, List.length_range]
  refine ⟨⟨by show (goodsB _ _ _).length ≤ _; omega, fun x hx => ?_⟩, ⟨?_, fun x hx => ?_⟩, gl, ?_, fun x hx => ?_, ?_, ?_, rfl⟩
  · obtain ⟨i, hi, rfl⟩ := List.mem_map.1 (show x ∈ goodsB _ _ _ from hx)
    have hi := List.mem_range.1 hi
    have h1 := hnx i hi
    have h2 := htx i hi
    split <;> omega
  · show (if exempt = true then List.replicate nets.length 0 else taxesB t (cats.map (rateF z)) nets).length ≤ 1000
    split
    · rw [List.length_replicate]; omega
    · omega
  · have hx : x ∈ (if exempt = true then List.replicate nets.length 0 else taxesB t (cats.map (rateF z)) nets) := hx
    split at hx
    · rw [(List.mem_replicate.1 hx).2]; omega
    · have := t2 x hx; omega
  · show (if exempt = true then List.replicate nets.length 0 else taxesB t (cats.map (rateF z)) nets).length = nets.length
    split
    · exact List.length_replicate
    · exact t1
  · have hx : x ∈ (if exempt = true then List.replicate nets.length 0 else taxesB t (cats.map (rateF z)) nets) := hx
    split at hx
    · rw [(List.mem_replicate.1 hx).2]; exact Int.le_refl _
    · exact (t2 x hx).1
  · show 0 ≤ (if t.incl = true then ship - muchB t ship z.ship else ship) ∧ (if t.incl = true then ship - muchB t ship z.ship else ship) ≤ 10000000000000
    split <;> omega
  · show 0 ≤ (if exempt = true then 0 else muchB t ship z.ship) ∧ (if exempt = true then 0 else muchB t ship z.ship) ≤ 10000000000000
    split <;> omega
theorem levy_sums {t : Tax} {z : Zone} {cats : List Str} {nets : List Int} {ship : Int} (h : LevyIn t z cats nets ship) (exempt : Bool) :
    sumI (levyB t z exempt cats nets ship).goods ≤ 10000000000000 ∧ -10000000000000 ≤ sumI (levyB t z exempt cats nets ship).goods ∧ sumI (levyB t z exempt cats nets ship).taxes ≤ 10000000000000 := by
  obtain ⟨r1, r2⟩ := rates_ok h
  obtain ⟨t1, t2⟩ := taxes_ok (t := t) h.nets r1 r2
  have hs := h.nets.sum
  have hle : ∀ i, i < nets.length → gI (taxesB t (cats.map (rateF z)) nets) i ≤ gI nets i := fun i hi => taxes_le h.nets r1 r2 hi
  have h0 : ∀ i, i < nets.length → 0 ≤ gI (taxesB t (cats.map (rateF z)) nets) i := fun i hi => (t2 _ (getD_mem (by omega))).1
  have hn0 : ∀ i, i < nets.length → 0 ≤ gI nets i := fun i hi => h.nets.pos _ (getD_mem hi)
  have hrn := range_gI nets
  have hg : sumI (goodsB t (taxesB t (cats.map (rateF z)) nets) nets) ≤ sumI ((List.range nets.length).map (gI nets)) := by
    refine sumI_map_le _ _ _ fun i hi => ?_
    have := h0 i hi
    split <;> omega
  have hg0 : 0 ≤ sumI (goodsB t (taxesB t (cats.map (rateF z)) nets) nets) := sumI_nonneg fun x hx => by
    obtain ⟨i, hi, rfl⟩ := List.mem_map.1 hx
    have hi := List.mem_range.1 hi
    have h1 := hle i hi
    have h2 := hn0 i hi
    split <;> omega
  have ht : sumI (taxesB t (cats.map (rateF z)) nets) ≤ sumI ((List.range nets.length).map (gI nets)) := by
    have e := range_gI (taxesB t (cats.map (rateF z)) nets)
    rw [t1] at e
    rw [← e]
    exact sumI_map_le _ _ _ fun i hi => hle i hi
  rw [hrn] at hg ht
  refine ⟨by show sumI (goodsB _ _ _) ≤ _; omega, by show _ ≤ sumI (goodsB _ _ _); omega, ?_⟩
  show sumI (if exempt = true then List.replicate nets.length 0 else taxesB t (cats.map (rateF z)) nets) ≤ _
  split
  · have e : ∀ n, sumI (List.replicate n (0 : Int)) = 0 := fun n => by
      induction n with
      | zero => rfl
      | succ n ih => rw [List.replicate_succ, sumI_cons, ih]; rfl
    rw [e]; omega
  · omega
end Go.Proofs.YtfajkgonocpddaaGreat
namespace Go.Proofs.YtfajkgonocpddaaGreat
open Go Go.Ab
attribute [local irreducible] upd del
theorem find_at {α : Type} [Inhabited α] {l : List α} {p : α → Bool} {i : Nat} (hi : i < l.length) (h : p (l.getD i default) = true) (hno : ∀ j, j < i → p (l.getD j default) = false) : l.find? p = some (l.getD i default) := by
  have g : ∀ j (hj : j < l.length), l.getD j default = l[j] := fun j hj => by rw [List.getD_eq_getElem?_getD, List.getElem?_eq_getElem hj]; rfl
  rw [List.find?_eq_some_iff_getElem]
  refine ⟨h, i, hi, (g i hi).symm, fun j hj => ?_⟩
  have := hno j hj
  rw [g j (by omega)] at this
  rw [this]; rfl
theorem find_no {α : Type} [Inhabited α] {l : List α} {p : α → Bool} (hno : ∀ j, j < l.length → p (l.getD j default) = false) : l.find? p = none := by
  rw [List.find?_eq_none]
  intro x hx
  obtain ⟨j, hj, rfl⟩ := mem_getD hx
  rw [hno j hj]; simp
theorem ruleRate_S (z : Zone) (c : Str) (hl : z.rates.length ≤ 100000) (st : St) : S P 74 [eZone z, eS c] st fun v st' => v = eI (rateF z c) ∧ st' = st := by
  refine S_of_X [2, 6] good mixed Tryz.func74 (by rfl) rfl rfl rfl ?_; conv => whnf
  refine lp z.rates.length [1, 2, 8, 9, 10] (fun i vs t => (∀ j, j < i → ((z.rates.getD j default).cat.toList == c.toList) = false) ∧ vs = [eS c, .fptr (eZone z) 0, arrOf 2 eCatRate z.rates, eI z.rates.length, eI i] ∧ t = st) ?_ ?_
  · conv => whnf
    exact ⟨fun j hj => absurd hj (by omega), rfl, rfl⟩
  · rintro i vs t hi ⟨hno, rfl, rfl⟩
    conv => whnf
    cases h1 : decide ((i : Int) < (z.rates.length : Int))
    · obtain rfl := stop_at h1 hi
      have hf : rateF z c = z.rest := by unfold rateF; rw [find_no hno]
      rw [hf]; conv => whnf
      exact ⟨rfl, rfl⟩
    · have hi' := go_on h1
      conv => whnf
      refine ⟨rfl, ⟨by omega, by omega⟩, ?_⟩; conv => whnf
      refine fork (fun h2 => ?_) (fun h2 => ?_) <;> rw [h2]
      · have hf : rateF z c = (z.rates.getD (i : Int).toNat default).rate := by unfold rateF; rw [find_at (p := fun x : CatRate => x.cat.toList == c.toList) hi' h2 hno]; rfl
        rw [hf]; conv => whnf
        exact ⟨rfl, rfl⟩
      · conv => whnf
        refine ⟨rfl, ?_⟩; conv => whnf
        exact nx hi' ⟨lt_next hno h2, by rw [wrapN (by omega)], rfl⟩
theorem cloneRates_S (l : List CatRate) (hl : l.length ≤ 100000) (st : St) : S P 162 [arrOf 2 eCatRate l] st fun v st' => v = arrOf 2 eCatRate l ∧ st' = st := by
  refine S_colL (ty := 125) ?_
  refine S_of_X [] good mixed Tryz.func162 (by rfl) rfl rfl rfl ?_
  cases l with
  | nil =>
    conv => whnf
    refine ⟨?_, ?_⟩
    · conv => whnf
      exact Col.start _ _ _ _
    · conv => whnf
      refine apE rfl rfl rfl rfl rfl (by show 0 * 24 ≤ _; omega) (fun _ => ?_) (fun h => absurd h (by show ¬ 0 < 0; omega)); conv => whnf
      exact Col.start _ _ _ _
  | cons u us =>
    conv => whnf
    refine Col.apps (n := 0) (m := us.length + 1) (q := r125) (f := fun k => eCatRate ((u :: us).getD k default)) rfl rfl rfl rfl rfl (fun i hi => by rw [Nat.zero_add]) (by show (0 + (us.length + 1)) * 24 ≤ 140737488355328; simp only [List.length_cons] at hl; omega) (Col.start _ _ _ _) (fun sv' st'' hc' => ?_); conv => whnf
    rw [Nat.zero_add] at hc'
    exact hc'
theorem cloneZone_S (z : Zone) (hl : z.rates.length ≤ 100000) (st : St) : S P 114 [eZone z] st fun v st' => v = eZone z ∧ st' = st := by
  have hc := fun s => cloneRates_S z.rates hl s
  refine S_sup ?_
  refine S_of_X [] good mixed Tryz.func114 (by rfl) rfl rfl rfl ?_; conv => whnf
  intro b1 h1; conv => whnf
  intro b2 h2
  have h12 : b1 ≠ b2 := fun e => by subst e; rw [upd_same] at h2; cases h2
  conv => whnf
  refine ldV (by rw [upd_ne h12]; exact upd_same ..) rfl (by omega) rfl ?_; conv => whnf
  refine call1 (hc _) ?_; conv => whnf
  refine stV (by rw [upd_ne h12]; exact upd_same ..) rfl (by omega) rfl (by rfl) ?_; conv => whnf
  refine ldV (upd_same ..) rfl (by omega) (fset_same ..) ?_; conv => whnf
  refine stV (by rw [upd_ne h12.symm]; exact upd_same ..) rfl (by omega) rfl (by rfl) ?_; conv => whnf
  refine ldV (upd_same ..) rfl (by omega) (fset_same ..) ?_; conv => whnf
  have hn2 : st b2 = none := by rw [upd_ne h12.symm] at h2; exact h2
  exact ⟨rfl, ((((Sup.refl st).upd h1).upd h2).over h1).over hn2⟩
def zone0 : Zone := ⟨⟨#[]⟩, [], 0, 0⟩
theorem ruleZone_S (t : Tax) (s : Str) (hl : t.zones.length ≤ 100000) (hr : ∀ z ∈ t.zones, z.rates.length ≤ 100000) (st : St) :
    S P 73 [eTax t, eS s] st fun v st' => v = .tuple [eZone ((zoneF t.zones s).getD zone0), .bool (zoneF t.zones s).isSome] ∧ st' = st := by
  refine S.post (post := fun v s' => Sup st s' ∧ ((∃ z, zoneF t.zones s = some z ∧ v = .tuple [eZone z, .bool true]) ∨ (zoneF t.zones s = none ∧ v = .tuple [.agg [eS ⟨#[]⟩, .emp, eI 0, eI 0], .bool false]))) ?_ (fun v s' ⟨hs, h⟩ => ⟨_, st, ⟨rfl, rfl⟩, by
    rcases h with ⟨z, h1, rfl⟩ | ⟨h1, rfl⟩
    · rw [h1]; exact hs.shift _
    · rw [h1]
      exact (Shift.tuple (Shift.cons (Le.shift (Le.agg (LeL.cons (Le.refl _) (LeL.cons (Le.emp _ _) (LeL.refl _)))) _) (Shift.keep _ _)) rfl).trans (hs.shift _)⟩)
  refine S_of_X [2, 7] good mixed Tryz.func73 (by rfl) rfl rfl rfl ?_; conv => whnf
  intro b4 hb4; conv => whnf
  refine lp t.zones.length [1, 4, 9, 10, 11] (fun i vs u => (∀ j, j < i → ((t.zones.getD j default).name.toList == s.toList) = false) ∧ vs = [eS s, .optr 4 b4 0 0, arrOf 4 eZone t.zones, eI t.zones.length, eI i] ∧ u = upd st b4 ⟨78, 4, 1, fun _ => avOf r78.zero⟩) ?_ ?_
  · conv => whnf
    exact ⟨fun j hj => absurd hj (by omega), rfl, rfl⟩
  · rintro i vs u hi ⟨hno, rfl, rfl⟩
    conv => whnf
    cases h1 : decide ((i : Int) < (t.zones.length : Int))
    · obtain rfl := stop_at h1 hi
      have hf : zoneF t.zones s = none := find_no hno
      conv => whnf
      refine stV (upd_same ..) rfl (by omega) rfl (by rfl) ?_; conv => whnf
      refine ldV (upd_same ..) rfl (by omega) (fset_same ..) ?_; conv => whnf
      exact ⟨((Sup.refl st).upd hb4).over hb4, .inr ⟨hf, rfl⟩⟩
    · have hi' := go_on h1
      conv => whnf
      refine ⟨rfl, ⟨by omega, by omega⟩, ?_⟩; conv => whnf
      refine fork (fun h2 => ?_) (fun h2 => ?_) <;> rw [h2]
      · have hf : zoneF t.zones s = some (t.zones.getD (i : Int).toNat default) := find_at (p := fun z : Zone => z.name.toList == s.toList) hi' h2 hno
        have hc := fun u => cloneZone_S (t.zones.getD (i : Int).toNat default) (hr _ (getD_mem hi')) u
        generalize t.zones.getD (i : Int).toNat default = z at hf hc
        conv => whnf
        refine call1 (hc _) ?_; conv => whnf
        refine stV (upd_same ..) rfl (by omega) rfl (by rfl) ?_; conv => whnf
        refine ldV (upd_same ..) rfl (by omega) (fset_same ..) ?_; conv => whnf
        exact ⟨((Sup.refl st).upd hb4).over hb4, .inl ⟨z, hf, rfl⟩⟩
      · conv => whnf
        refine ⟨rfl, ?_⟩; conv => whnf
        exact nx hi' ⟨lt_next hno h2, by rw [wrapN (by omega)], rfl⟩
theorem lvAmount_S (x : Int) (st : St) : S P 113 [eI x] st fun v st' => v = .bool (upB 0 10000000000000 x) ∧ st' = st := by
  refine S_of_X [] good mixed Tryz.func113 (by rfl) rfl rfl rfl ?_
  repeat' ((conv => whnf); first | (refine fork (fun h => ?_) (fun h => ?_) <;> rw [h]))
  all_goals (conv => whnf)
  all_goals (refine ⟨?_, rfl⟩; show AV.bool _ = AV.bool _; congr 1)
  all_goals (simp only [upB, *, Bool.true_and, Bool.false_and]; try rfl)
theorem much_S (t : Tax) (x rate : Int) (hr : 0 ≤ rate ∧ rate ≤ 10000) (st : St) : S P 77 [eTax t, eI x, eI rate] st fun v st' => v = eI (muchB t x rate) ∧ st' = st := by
  have hM : muchB t x rate = (times x rate (denB t rate) t.round).1 := rfl
  have hw : IntKind.i64.wrap (10000 + rate) = 10000 + rate := wrap64_of (by omega) (by omega)
  refine S_of_X [3] good mixed Tryz.func77 (by rfl) rfl rfl rfl ?_; conv => whnf
  cases hi : t.incl
  · have hd : denB t rate = 10000 := by unfold denB; rw [if_neg (by rw [hi]; simp)]; rfl
    conv => whnf
    refine call1 (times_S x rate 10000 t.round st) ?_
    rw [hM, hd]
    generalize times x rate 10000 t.round = Y
    conv => whnf
    exact ⟨rfl, rfl⟩
  · have hd : denB t rate = 10000 + rate := by unfold denB; rw [if_pos hi]
    conv => whnf
    rw [hw]
    refine call1 (times_S x rate (10000 + rate) t.round st) ?_
    rw [hM, hd]
    generalize times x rate (10000 + rate) t.round = Y
    conv => whnf
    exact ⟨rfl, rfl⟩
theorem lineTaxes_succ (t : Tax) (rates nets : List Int) (i : Nat) : (List.range (i + 1)).map (fun i => muchB t (gI nets i) (gI rates i)) = (List.range i).map (fun i => muchB t (gI nets i) (gI rates i)) ++ [muchB t (gI nets i) (gI rates i)] := by rw [List.range_succ, List.map_append]; rfl
theorem byLine_S (t : Tax) (rates nets : List Int) (hn : nets.length ≤ 1000) (hl : rates.length = nets.length) (hq : ∀ x ∈ rates, 0 ≤ x ∧ x ≤ 10000) (st : St) : S P 75 [eTax t, eInts rates, eInts nets] st fun v st' => v = eInts (lineTaxes t rates nets) ∧ st' = st := by
  refine S_colL (ty := 2) ?_
  have hL : lineTaxes t rates nets = (List.range nets.length).map fun i => muchB t (gI nets i) (gI rates i) := rfl
  rw [hL]
  refine S_of_X [3] good mixed Tryz.func75 (by rfl) rfl rfl rfl ?_; conv => whnf
  refine lp nets.length [1, 3, 7, 10, 11, 12] (fun i vs s => ∃ sv, vs = [eInts rates, .fptr (eTax t) 0, sv, eInts nets, eI nets.length, eI i] ∧ ColL 2 1 eI ((List.range i).map fun i => muchB t (gI nets i) (gI rates i)) st sv s) ?_ ?_
  · conv => whnf
    exact ⟨.emp, rfl, ColL.start _ _ _ _⟩
  · rintro i vs s hi ⟨sv, rfl, hc⟩
    conv => whnf
    cases h1 : decide ((i : Int) < (nets.length : Int))
    · obtain rfl := stop_at h1 hi
      conv => whnf
      exact hc
    · have hi' := go_on h1
      have hm := fun u => much_S t (gI nets (i : Int).toNat) (gI rates (i : Int).toNat) (hq _ (getD_mem (by show i < _; omega))) u
      have hs := lineTaxes_succ t rates nets i
      have hln : ((List.range i).map fun i => muchB t (gI nets i) (gI rates i)).length = i := by rw [List.length_map, List.length_range]
      conv => whnf
      refine ⟨rfl, ⟨by omega, by omega⟩, ?_⟩; conv => whnf
      refine ⟨[8, 9], [], List.range 11, by kernel_rfl, ?_⟩; conv => whnf
      refine ⟨rfl, ⟨by omega, by omega⟩, ?_⟩; conv => whnf
      refine ⟨_, callQ (hm _), ?_⟩
      have hy : muchB t (gI nets i) (gI rates i) = muchB t (gI nets (i : Int).toNat) (gI rates (i : Int).toNat) := rfl
      rw [hy] at hs
      generalize muchB t (gI nets (i : Int).toNat) (gI rates (i : Int).toNat) = Y at hs
      conv => whnf
      refine ColL.app (y := Y) (q := r2) rfl rfl rfl rfl rfl (by rfl) (by rw [hln]; show (i + 1) * 8 ≤ 140737488355328; omega) hc (fun sv' t' hc' => ?_); conv => whnf
      refine ⟨rfl, ?_⟩; conv => whnf
      exact nx hi' ⟨sv', by rw [wrapN (by omega)], by rw [hs]; exact hc'⟩
theorem lvMay_S {t : Tax} {z : Zone} {cats : List Str} {nets : List Int} {ship : Int} (h : LevyIn t z cats nets ship) (st : St) : S P 72 [eTax t, eStrs cats, eInts nets, eI ship] st fun v st' => v = .bool true ∧ st' = st := by
  have hn := h.nets.len
  have hs := h.nets.sum
  have hp := h.nets.pos
  have hc := h.cats
  have hT := fun s => tax_S t s
  have hA := fun s => lvAmount_S ship s
  rw [h.tax] at hT
  rw [show upB 0 10000000000000 ship = true from upB_iff.2 h.ship] at hA
  have htk : ∀ i, 0 ≤ sumI (nets.take i) ∧ sumI (nets.take i) ≤ 10000000000000 := fun i => by
    have := sumI_le_take hp i
    exact ⟨sumI_nonneg fun x hx => hp x (List.mem_of_mem_take hx), by omega⟩
  refine S_of_X [4] good mixed Tryz.func72 (by rfl) rfl rfl rfl ?_; conv => whnf
  refine call1 (hT _) ?_; conv => whnf
  rw [hc, show ((nets.length : Int) != (nets.length : Int)) = false from bne_self_eq_false _]; conv => whnf
  refine fork (fun h1 => absurd (of_decide_eq_true h1) (by omega)) (fun h1 => ?_)
  rw [h1]; conv => whnf
  refine call1 (hA _) ?_; conv => whnf
  refine lp nets.length [9, 32, 33, 34] (fun i vs s => vs = [eI (sumI (nets.take i)), eInts nets, eI nets.length, eI i] ∧ s = st) ?_ ?_
  · conv => whnf
    exact ⟨rfl, rfl⟩
  · rintro i vs s hi ⟨rfl, rfl⟩
    conv => whnf
    cases h2 : decide ((i : Int) < (nets.length : Int))
    · obtain rfl := stop_at h2 hi
      have hB := fun s => lvAmount_S (sumI (nets.take nets.length)) s
      rw [show upB 0 10000000000000 (sumI (nets.take nets.length)) = true from upB_iff.2 (htk _)] at hB; conv => whnf
      refine call1 (hB _) ?_; conv => whnf
      exact ⟨rfl, rfl⟩
    · have hi' := go_on h2
      have hx : 0 ≤ gI nets (i : Int).toNat := hp _ (getD_mem hi')
      have hx2 : gI nets (i : Int).toNat ≤ sumI nets := sumI_mem_le hp (getD_mem hi')
      have hB := fun s => lvAmount_S (gI nets (i : Int).toNat) s
      rw [show upB 0 10000000000000 (gI nets (i : Int).toNat) = true from upB_iff.2 (by omega)] at hB
      have hst : sumI (nets.take (i + 1)) = sumI (nets.take i) + gI nets (i : Int).toNat := sumI_take hi'
      have h3 := htk (i + 1)
      have hw : IntKind.i64.wrap (sumI (nets.take i) + gI nets (i : Int).toNat) = sumI (nets.take (i + 1)) := by rw [hst] at h3 ⊢; exact wrap64_of (by omega) (by omega)
      conv => whnf
      refine ⟨rfl, ⟨by omega, by omega⟩, ?_⟩; conv => whnf
      refine call1 (hB _) ?_; conv => whnf
      rw [hw]
      refine ⟨rfl, ?_⟩; conv => whnf
      exact nx hi' ⟨by rw [wrapN (by omega)], rfl⟩
theorem taxC_lens {t : Tax} (h : taxC t = true) : t.zones.length ≤ 20 ∧ ∀ z ∈ t.zones, z.rates.length ≤ 40 := by
  have h' := h
  unfold taxC at h
  simp only [Bool.and_eq_true, Bool.not_eq_true', Bool.or_eq_false_iff, decide_eq_false_iff_not] at h
  refine ⟨by omega, fun z hz => ?_⟩
  obtain ⟨k, hk, rfl⟩ := mem_getD hz
  exact (zoneC_ok (allAt_iff.1 h.2.1 k hk)).2.2.1
def wayF (t : Tax) : FuncId := if t.byOrder = true then 76 else 75
def taxedAt (t : Tax) (taxes nets : List Int) (i : Nat) : Int := if t.incl = true then gI nets i - gI taxes i else gI nets i
theorem map_rangeI (f : Nat → Int) (i : Nat) : (List.range (i + 1)).map f = (List.range i).map f ++ [f i] := by rw [List.range_succ, List.map_append]; rfl
theorem zeros_at (n i : Nat) : (List.replicate n (0 : Int)).getD i default = 0 := by
  rw [List.getD_eq_getElem?_getD, List.getElem?_replicate]; split <;> rfl
set_option maxHeartbeats 8000000 in
theorem levy_S {t : Tax} {z : Zone} {s : Str} {cats : List Str} {nets : List Int} {ship : Int} (h : LevyIn t z cats nets ship) (hz : zoneF t.zones s = some z) (exempt : Bool)
    (hTax : ∀ st, S P (wayF t) [eTax t, eInts (cats.map (rateF z)), eInts nets] st fun v st' => v = eInts (taxesB t (cats.map (rateF z)) nets) ∧ st' = st) (st : St) :
    S P 46 [eTax t, eS s, eB exempt, eStrs cats, eInts nets, eI ship] st fun v st' =>
      v = .tuple [eInts (levyB t z exempt cats nets ship).goods, eInts (levyB t z exempt cats nets ship).taxes, eI (levyB t z exempt cats nets ship).ship, eI (levyB t z exempt cats nets ship).shipTax, eI 0] ∧ st' = st := by
  obtain ⟨hr1, hr2⟩ := rates_ok h
  obtain ⟨t1, t2⟩ := taxes_ok (t := t) h.nets hr1 hr2
  obtain ⟨l1, l2⟩ := taxC_lens h.tax
  have hzm : z ∈ t.zones := List.mem_of_find?_eq_some hz
  have hzr := l2 z hzm
  have hn := h.nets.len
  have hcl := h.cats
  have hq := (zoneC_ok h.zone).2.1
  have hm := much_le (t := t) h.ship.1 hq
  have hs := h.ship
  have hM := fun st => lvMay_S h st
  have hZ : ∀ st, S P 73 [eTax t, eS s] st fun v st' => v = .tuple [eZone z, .bool true] ∧ st' = st := fun st => by
    have := ruleZone_S t s (by omega) (fun z hz => by have := l2 z hz; omega) st
    rw [hz] at this; exact this
  have hR := fun c st => ruleRate_S z c (by omega) st
  have hU := fun st => much_S t ship z.ship hq st
  have hL : levyB t z exempt cats nets ship = ⟨(List.range nets.length).map (taxedAt t (taxesB t (cats.map (rateF z)) nets) nets), if exempt = true then List.replicate nets.length 0 else taxesB t (cats.map (rateF z)) nets, if t.incl = true then ship - muchB t ship z.ship else ship, if exempt = true then 0 else muchB t ship z.ship⟩ := rfl
  rw [hL]
  have hnx : ∀ i, i < nets.length → 0 ≤ gI nets i ∧ gI nets i ≤ 10000000000000 := fun i hi => by
    have h1 := h.nets.pos _ (show gI nets i ∈ nets from getD_mem hi)
    have h2 := sumI_mem_le h.nets.pos (show gI nets i ∈ nets from getD_mem hi)
    have h3 := h.nets.sum
    exact ⟨h1, by omega⟩
  have htx : ∀ i, i < nets.length → 0 ≤ gI (taxesB t (cats.map (rateF z)) nets) i ∧ gI (taxesB t (cats.map (rateF z)) nets) i ≤ 10000000000000 := fun i hi => t2 _ (getD_mem (by omega))
  generalize taxesB t (cats.map (rateF z)) nets = TX at hTax t1 htx ⊢
  generalize muchB t ship z.ship = MS at hU hm ⊢
  clear hL t2
  refine S.post (post := fun v s' => ∃ gv tv c1 c2, v = .tuple [gv, tv, eI (if t.incl = true then ship - MS else ship), eI (if exempt = true then 0 else MS), eI 0] ∧
      Shift [gv] s' [eInts ((List.range nets.length).map (taxedAt t TX nets))] c1 ∧ Shift [tv] c1 [eInts (if exempt = true then List.replicate nets.length 0 else TX)] c2 ∧ Sup st c2) ?_
    (fun v s' ⟨gv, tv, c1, c2, h1, h2, h3, h4⟩ => ⟨_, st, ⟨rfl, rfl⟩, by
      rw [h1]
      exact (Shift.tuple (Shift.cons h2 (Shift.cons h3 (Shift.keep _ _))) rfl).trans (h4.shift _)⟩)
  refine S_of_X [6] good mixed Tryz.func46 (by rfl) rfl rfl rfl ?_; conv => whnf
  refine call1 (hM _) ?_; conv => whnf
  refine call1 (hZ _) ?_; conv => whnf
  intro b17 hb17; conv => whnf
  refine stV (upd_same ..) rfl (by omega) rfl (by rfl) ?_
  rw [upd_twice]; conv => whnf
  generalize hst : (upd st b17 _ : St) = S0
  obtain ⟨f17, at17, hf17⟩ : ∃ f17 : Nat → AV, S0 b17 = some ⟨78, 4, 1, f17⟩ ∧ f17 0 = eZone z := by rw [← hst]; exact ⟨_, upd_same .., by rw [fset_same]; rfl⟩
  have hs0 : Sup st S0 := by rw [← hst]; exact (Sup.refl st).upd hb17
  clear hst
  refine lp cats.length [2, 4, 5, 6, 12, 17, 19, 39, 40, 41] (fun i vs u => ∃ sv, vs = [eB exempt, eInts nets, eI ship, .fptr (eTax t) 0, .emp, .optr 4 b17 0 0, sv, eStrs cats, eI cats.length, eI i] ∧ ColL 2 1 eI ((cats.take i).map (rateF z)) S0 sv u) ?_ ?_
  · conv => whnf
    exact ⟨.emp, rfl, ColL.start _ _ _ _⟩
  rintro i vs u hi ⟨sv, rfl, hc⟩
  have hcs := hc.sup
  conv => whnf
  cases h1 : decide ((i : Int) < (cats.length : Int))
  case true =>
    have hi' := go_on h1
    have hln : ((cats.take i).map (rateF z)).length = i := by rw [List.length_map, List.length_take]; omega
    have hRi := fun st => hR (cats.getD (i : Int).toNat default) st
    have htk : (cats.take (i + 1)).map (rateF z) = (cats.take i).map (rateF z) ++ [rateF z (cats.getD (i : Int).toNat default)] := by rw [take_next hi', List.map_append]; rfl
    generalize rateF z (cats.getD (i : Int).toNat default) = RT at hRi htk
    conv => whnf
    refine ⟨rfl, ⟨by omega, by omega⟩, ?_⟩; conv => whnf
    refine ldV (hcs b17 _ at17) rfl (by omega) hf17 ?_; conv => whnf
    refine call1 (hRi _) ?_; conv => whnf
    refine ColL.app (y := RT) (q := r2) rfl rfl rfl rfl rfl (by rfl) (by rw [hln]; show (i + 1) * 8 ≤ 140737488355328; omega) hc (fun sv' t' hc' => ?_); conv => whnf
    refine ⟨rfl, ?_⟩; conv => whnf
    exact nx hi' ⟨sv', by rw [wrapN (by omega)], by rw [htk]; exact hc'⟩
  obtain rfl := stop_at h1 hi
  rw [List.take_length] at hc
  have hTS : Shift [AV.agg [eB t.incl, eB t.byOrder, eI t.round, arrOf 4 eZone t.zones], sv, eInts nets] u [eTax t, eInts (cats.map (rateF z)), eInts nets] S0 := Shift.cons (Shift.keep [eTax t] _) (Shift.cons hc.shift (Shift.keep _ _))
  clear hc hcs hM hZ hR
  generalize cats.map (rateF z) = RS at hTax hTS
  unfold wayF at hTax; conv => whnf
  cases hbo : t.byOrder
  case' false => rw [if_neg (by rw [hbo]; simp)] at hTax
  case' true => rw [if_pos hbo] at hTax
  all_goals
    conv => whnf
    refine call_shift hTS (call1 (hTax _) ?_); conv => whnf
    refine ldV at17 rfl (by omega) hf17 ?_; conv => whnf
    refine call1 (hU _) ?_; conv => whnf
    refine lp nets.length [2, 4, 6, 12, 13, 14, 15, 65, 66, 67] (fun i vs u => ∃ sv, vs = [eB exempt, eInts nets, .fptr (eTax t) 0, sv, eInts TX, eI ship, eI MS, eInts nets, eI nets.length, eI i] ∧ ColL 2 1 eI ((List.range i).map (taxedAt t TX nets)) S0 sv u) ?_ ?_
    · conv => whnf
      exact ⟨.emp, rfl, ColL.start _ _ _ _⟩
    rintro i vs u hi ⟨sv, rfl, hc⟩
    have hcs := hc.sup
    conv => whnf
    cases h1 : decide ((i : Int) < (nets.length : Int))
    case true =>
      have hi' := go_on h1
      have hln : ((List.range i).map (taxedAt t TX nets)).length = i := by rw [List.length_map, List.length_range]
      have hnx1 := hnx i hi'
      have htx1 := htx i hi'
      have htk := map_rangeI (taxedAt t TX nets) i
      have hgA : taxedAt t TX nets i = if t.incl = true then gI nets (i : Int).toNat - gI TX (i : Int).toNat else gI nets (i : Int).toNat := rfl
      have hgw : IntKind.i64.wrap (gI nets (i : Int).toNat - gI TX (i : Int).toNat) = gI nets (i : Int).toNat - gI TX (i : Int).toNat := wrap64_of (show _ ≤ gI nets i - gI TX i by omega) (show gI nets i - gI TX i ≤ _ by omega)
      generalize taxedAt t TX nets i = GA at htk hgA
      conv => whnf
      refine ⟨rfl, ⟨by omega, by omega⟩, ?_⟩; conv => whnf
      cases hin : t.incl
      case' false => rw [if_neg (by rw [hin]; simp)] at hgA
      case' true =>
        rw [if_pos hin] at hgA; conv => whnf
        refine ⟨rfl, ⟨by omega, by omega⟩, ?_⟩; conv => whnf
        rw [hgw]
      all_goals
        conv => whnf
        refine ColL.app (y := GA) (q := r2) rfl rfl rfl rfl rfl (by rw [hgA]; rfl) (by rw [hln]; show (i + 1) * 8 ≤ 140737488355328; omega) hc (fun sv' t' hc' => ?_); conv => whnf
        refine ⟨rfl, ?_⟩; conv => whnf
        exact nx hi' ⟨sv', by rw [wrapN (by omega)], by rw [htk]; exact hc'⟩
    obtain rfl := stop_at h1 hi
    have hwS : IntKind.i64.wrap (ship - MS) = ship - MS := wrap64_of (by omega) (by omega)
    conv => whnf
    cases hin : t.incl
    case' false => rw [if_neg (show ¬ (false = true) by simp)]
    case' true =>
      rw [if_pos rfl]; conv => whnf
      rw [hwS]
    all_goals
      conv => whnf
      cases exempt
      · conv => whnf
        exact ⟨sv, eInts TX, S0, S0, rfl, hc.shift, Shift.keep _ _, hs0⟩
      · conv => whnf
        refine mkO rfl rfl rfl (by show 8 * nets.length ≤ _; omega) (by omega) (by rfl) (fun bz hbz => ?_); conv => whnf
        have hb0 : S0 bz = none := Col.off hc hbz
        have hc2 := Col.under (y := ⟨2, 1, nets.length, fun _ => avOf r2.zero⟩) hc hbz
        refine ⟨sv, .own 1 bz 0 nets.length, upd S0 bz ⟨2, 1, nets.length, fun _ => avOf r2.zero⟩, del (upd S0 bz ⟨2, 1, nets.length, fun _ => avOf r2.zero⟩) bz, rfl, Col.shift hc2, ?_, Sup.del (hs0.upd hb0) (hs0.none hb0)⟩
        have e : eInts (List.replicate nets.length 0) = .arr 1 nets.length (fun k => eI ((List.replicate nets.length (0 : Int)).getD k default)) := by unfold eInts arrOf; rw [List.length_replicate]
        rw [if_pos rfl, e]
        exact shift_own (upd_same ..) rfl (Nat.le_refl _) (fun k hk => by rw [zeros_at]; rfl)
structure Add where
  sku : Str
  qty : Int
  deriving Inhabited
def eAdd (x : Add) : AV := .agg [eS x.sku, eI x.qty]
theorem qsum_S (l : List Int) (h : AmountsIn l) (st : St) : S P 47 [eInts l] st fun v st' => v = eI (sumI l) ∧ st' = st := by
  have hn := h.len
  refine S_of_X [] good mixed Tryz.func47 (by rfl) rfl rfl rfl ?_; conv => whnf
  refine lp l.length [3, 6, 7, 8] (fun i vs t => vs = [eI (sumI (l.take i)), eInts l, eI l.length, eI i] ∧ t = st) ?_ ?_
  · conv => whnf
    exact ⟨rfl, rfl⟩
  · rintro i vs t hi ⟨rfl, rfl⟩
    conv => whnf
    cases h1 : decide ((i : Int) < (l.length : Int))
    · obtain rfl := stop_at h1 hi
      rw [List.take_length]; conv => whnf
      exact ⟨rfl, rfl⟩
    · have hi' := go_on h1
      have hs : IntKind.i64.wrap (sumI (l.take i) + gI l (i : Int).toNat) = sumI (l.take (i + 1)) := h.step hi'
      conv => whnf
      refine ⟨rfl, ⟨by omega, by omega⟩, ?_⟩; conv => whnf
      rw [hs]
      refine ⟨rfl, ?_⟩; conv => whnf
      exact nx hi' ⟨by rw [wrapN (by omega)], rfl⟩
theorem book_S (q : Quote) (h1 : AmountsIn q.goods) (h2 : AmountsIn q.taxes) (st : St) : S P 25 [eQuote q] st fun v st' => v = eBook (bookB q) ∧ st' = st := by
  have c1 := fun s => qsum_S q.goods h1 s
  have c2 := fun s => qsum_S q.taxes h2 s
  have hB : bookB q = ⟨sumI q.goods, sumI q.taxes, q.ship, q.shipTax, 0⟩ := rfl
  rw [hB]
  generalize sumI q.goods = G at c1 ⊢
  generalize sumI q.taxes = T' at c2 ⊢
  refine S_sup ?_
  refine S_of_X [1] good mixed Tryz.func25 (by rfl) rfl rfl rfl ?_; conv => whnf
  intro b2 hb; conv => whnf
  refine ⟨[11], [], List.range 12, by kernel_rfl, ?_⟩; conv => whnf
  refine ⟨_, callQ (c1 _), ?_⟩; conv => whnf
  refine ⟨_, callQ (c2 _), ?_⟩; conv => whnf
  refine stV (upd_same ..) rfl (by omega) rfl (by rfl) ?_; conv => whnf
  refine ldV (upd_same ..) rfl (by omega) (fset_same ..) ?_; conv => whnf
  exact ⟨rfl, ((Sup.refl st).upd hb).over hb⟩
theorem four_in {a b c d : Int} (ha : -10000000000000 ≤ a ∧ a ≤ 10000000000000) (hb : -10000000000000 ≤ b ∧ b ≤ 10000000000000) (hc : -10000000000000 ≤ c ∧ c ≤ 10000000000000) (hd : -10000000000000 ≤ d ∧ d ≤ 10000000000000) : AmountsIn [a, b, c, d] := by
  refine ⟨by show 4 ≤ 1000; decide, fun x hx => ?_⟩
  simp only [List.mem_cons, List.not_mem_nil, or_false] at hx
  rcases hx with rfl | rfl | rfl | rfl <;> assumption
theorem shift_four {a b c d : Int} {F : Nat → AV} {st : St} (h0 : F 0 = eI a) (h1 : F 1 = eI b) (h2 : F 2 = eI c) (h3 : F 3 = eI d) : Shift [.arr 1 4 F] st [eInts [a, b, c, d]] st :=
  Shift.arr (g := fun i => eI ([a, b, c, d].getD i default)) fun i hi => by
    match i, hi with
    | 0, _ => exact h0
    | 1, _ => exact h1
    | 2, _ => exact h2
    | 3, _ => exact h3
set_option maxHeartbeats 8000000 in
theorem quote_S {r : Rules} {codes : List Str} {l : List Line} {Pr : Priced} {z : Zone} {zone : Str} (exempt : Bool)
    (hP : ∀ st, S P 44 [eRules r, eStrs codes, arrOf 3 eLine l] st fun v s => v = .tuple [ePriced Pr, eI 0] ∧ s = st)
    (hI : ∀ st, S P 45 [arrOf 4 eItem r.items, arrOf 3 eLine l] st fun v s => v = arrOf 4 eItem (itemsOf r.items l) ∧ s = st)
    (hln : l.length ≤ 1000) (hV : LevyIn r.tax z (catsB r l) Pr.nets Pr.ship) (hz : zoneF r.tax.zones zone = some z)
    (hTax : ∀ st, S P (wayF r.tax) [eTax r.tax, eInts ((catsB r l).map (rateF z)), eInts Pr.nets] st fun v st' => v = eInts (taxesB r.tax ((catsB r l).map (rateF z)) Pr.nets) ∧ st' = st)
    (hsm : sumI (levyB r.tax z exempt (catsB r l) Pr.nets Pr.ship).goods ≤ 10000000000000 ∧ -10000000000000 ≤ sumI (levyB r.tax z exempt (catsB r l) Pr.nets Pr.ship).goods ∧ sumI (levyB r.tax z exempt (catsB r l) Pr.nets Pr.ship).taxes ≤ 10000000000000) (st : St) :
    S P 22 [eRules r, eS zone, eB exempt, eStrs codes, arrOf 3 eLine l] st fun v st' => v = .tuple [eQuote (quoteB r z exempt l Pr), eI 0] ∧ st' = st := by
  have hQ := levy_ok hV exempt Pr.deals
  have hlv := fun s => levy_S hV hz exempt hTax s
  have hq : quoteB r z exempt l Pr = ⟨(levyB r.tax z exempt (catsB r l) Pr.nets Pr.ship).goods, (levyB r.tax z exempt (catsB r l) Pr.nets Pr.ship).taxes, (levyB r.tax z exempt (catsB r l) Pr.nets Pr.ship).ship, (levyB r.tax z exempt (catsB r l) Pr.nets Pr.ship).shipTax, sumI (levyB r.tax z exempt (catsB r l) Pr.nets Pr.ship).goods + sumI (levyB r.tax z exempt (catsB r l) Pr.nets Pr.ship).taxes + (levyB r.tax z exempt (catsB r l) Pr.nets Pr.ship).ship + (levyB r.tax z exempt (catsB r l) Pr.nets Pr.ship).shipTax, Pr.deals⟩ := rfl
  rw [hq]
  have hpos : 0 ≤ sumI (levyB r.tax z exempt (catsB r l) Pr.nets Pr.ship).taxes := sumI_nonneg hQ.pos
  obtain ⟨q1, q2, q3, q4, q5, q6, q7, _⟩ := hQ
  have q1 : AmountsIn (levyB r.tax z exempt (catsB r l) Pr.nets Pr.ship).goods := q1
  have q2 : AmountsIn (levyB r.tax z exempt (catsB r l) Pr.nets Pr.ship).taxes := q2
  have q6 : 0 ≤ (levyB r.tax z exempt (catsB r l) Pr.nets Pr.ship).ship ∧ (levyB r.tax z exempt (catsB r l) Pr.nets Pr.ship).ship ≤ 10000000000000 := q6
  have q7 : 0 ≤ (levyB r.tax z exempt (catsB r l) Pr.nets Pr.ship).shipTax ∧ (levyB r.tax z exempt (catsB r l) Pr.nets Pr.ship).shipTax ≤ 10000000000000 := q7
  clear hq q3 q4 q5 hTax hV hz
  generalize levyB r.tax z exempt (catsB r l) Pr.nets Pr.ship = V at *
  have s1 := fun s => qsum_S V.goods q1 s
  have s2 := fun s => qsum_S V.taxes q2 s
  have s3 := fun s => qsum_S [sumI V.goods, sumI V.taxes, V.ship, V.shipTax] (four_in (by omega) (by omega) (by omega) (by omega)) s
  have e3 : sumI [sumI V.goods, sumI V.taxes, V.ship, V.shipTax] = sumI V.goods + sumI V.taxes + V.ship + V.shipTax := by
    show 0 + sumI V.goods + sumI V.taxes + V.ship + V.shipTax = _; omega
  rw [e3] at s3
  have hil : (itemsOf r.items l).length = l.length := List.length_map ..
  have hcb : catsB r l = (itemsOf r.items l).map Ab.Item.cat := rfl
  rw [hcb] at hlv
  generalize itemsOf r.items l = IT at hI hil hlv
  clear hcb
  refine S_sup ?_
  refine S_of_X [5, 16] good mixed Tryz.func22 (by rfl) rfl rfl rfl ?_; conv => whnf
  intro b10 hb10; conv => whnf
  refine call1 (hP _) ?_; conv => whnf
  intro b12 hb12
  have h02 : b10 ≠ b12 := fun e => by subst e; rw [upd_same] at hb12; cases hb12
  conv => whnf
  refine stV (upd_same ..) rfl (by omega) rfl (by rfl) ?_
  rw [upd_twice]; conv => whnf
  refine call1 (hI _) ?_; conv => whnf
  generalize hst : (upd (upd st b10 _) b12 _ : St) = S0
  obtain ⟨f12, at12, hf12⟩ : ∃ f12 : Nat → AV, S0 b12 = some ⟨92, 4, 1, f12⟩ ∧ f12 0 = ePriced Pr := by rw [← hst]; exact ⟨_, upd_same .., by rw [fset_same]; rfl⟩
  obtain ⟨f10, at10⟩ : ∃ f10 : Nat → AV, S0 b10 = some ⟨59, 6, 1, f10⟩ ∧ f10 0 = avOf r59.zero := by rw [← hst, upd_ne h02]; exact ⟨_, upd_same .., rfl⟩
  obtain ⟨at10, hf10⟩ := at10
  have hs0 : Sup st S0 := by rw [← hst]; exact ((Sup.refl st).upd hb10).upd hb12
  have n12 : st b12 = none := by rw [upd_ne h02.symm] at hb12; exact hb12
  clear hst
  refine lp IT.length [1, 2, 5, 10, 12, 14, 35, 36, 37] (fun i vs u => ∃ sv, vs = [eS zone, eB exempt, .fptr (eRules r) 0, .optr 6 b10 0 0, .optr 4 b12 0 0, sv, arrOf 4 eItem IT, eI IT.length, eI i] ∧ ColL 9 1 eS ((IT.take i).map Ab.Item.cat) S0 sv u) ?_ ?_
  · conv => whnf
    exact ⟨.emp, rfl, ColL.start _ _ _ _⟩
  rintro i vs u hi ⟨sv, rfl, hc⟩
  have hcs := hc.sup
  conv => whnf
  cases h1 : decide ((i : Int) < (IT.length : Int))
  case true =>
    have hi' := go_on h1
    have hln2 : ((IT.take i).map Ab.Item.cat).length = i := by rw [List.length_map, List.length_take]; omega
    have htk : (IT.take (i + 1)).map Ab.Item.cat = (IT.take i).map Ab.Item.cat ++ [(IT.getD (i : Int).toNat default).cat] := by rw [take_next hi', List.map_append]; rfl
    conv => whnf
    refine ⟨rfl, ⟨by omega, by omega⟩, ?_⟩; conv => whnf
    refine ColL.app (y := (IT.getD (i : Int).toNat default).cat) (q := r9) rfl rfl rfl rfl rfl (by rfl) (by rw [hln2]; show (i + 1) * 16 ≤ 140737488355328; omega) hc (fun sv' t' hc' => ?_); conv => whnf
    refine ⟨rfl, ?_⟩; conv => whnf
    exact nx hi' ⟨sv', by rw [wrapN (by omega)], by rw [htk]; exact hc'⟩
  obtain rfl := stop_at h1 hi
  rw [List.take_length] at hc; conv => whnf
  refine ldV (hcs b12 _ at12) rfl (by omega) hf12 ?_; conv => whnf
  refine ldV (hcs b12 _ at12) rfl (by omega) hf12 ?_; conv => whnf
  have hTS : Shift [eTax r.tax, eS zone, eB exempt, sv, eInts Pr.nets, eI Pr.ship] u [eTax r.tax, eS zone, eB exempt, eStrs (IT.map Ab.Item.cat), eInts Pr.nets, eI Pr.ship] S0 :=
    Shift.cons (Shift.keep [eTax r.tax] _) (Shift.cons (Shift.keep [eS zone] _) (Shift.cons (Shift.keep [eB exempt] _) (Shift.cons hc.shift (Shift.keep _ _))))
  refine call_shift hTS (call1 (hlv _) ?_); conv => whnf
  refine ⟨[15], [], List.range 17, by kernel_rfl, ?_⟩; conv => whnf
  refine ⟨_, callQ (s1 _), ?_⟩; conv => whnf
  refine ⟨_, callQ (s2 _), ?_⟩; conv => whnf
  refine ⟨_, ⟨rfl, rfl⟩, ?_⟩; conv => whnf
  refine ⟨_, call_shift (shift_four rfl rfl rfl rfl) (callQ (s3 _)), ?_⟩; conv => whnf
  refine ldV at12 rfl (by omega) hf12 ?_; conv => whnf
  refine stV at10 rfl (by omega) hf10 (by rfl) ?_; conv => whnf
  refine ldV (upd_same ..) rfl (by omega) (fset_same ..) ?_; conv => whnf
  exact ⟨rfl, hs0.over hb10⟩
def badAdd (x : Add) : Bool := decide (x.qty < 1) || decide (x.qty > 100000)
def addLine (items : List Ab.Item) (x : Add) : Line := ⟨x.sku, x.qty, (items.getD (findB items x.sku).toNat default).price⟩
def linesB (items : List Ab.Item) (adds : List Add) : List Line × Int :=
  if adds.length < 1 ∨ adds.length > 1000 then ([], 2) else if (adds.any badAdd) = true then ([], 2) else if (adds.any fun x => decide (findB items x.sku < 0)) = true then ([], 7) else (adds.map (addLine items), 0)
theorem qlines_S (items : List Ab.Item) (adds : List Add) (hi : items.length ≤ 4611686018427387904) (st : St) :
    S P 13 [arrOf 4 eItem items, arrOf 2 eAdd adds] st fun v st' => v = .tuple [arrOf 3 eLine (linesB items adds).1, eI (linesB items adds).2] ∧ st' = st := by
  have hB : linesB items adds = if adds.length < 1 ∨ adds.length > 1000 then ([], 2) else if (adds.any badAdd) = true then ([], 2) else if (adds.any fun x => decide (findB items x.sku < 0)) = true then ([], 7) else (adds.map (addLine items), 0) := rfl
  refine S.post (post := fun v s' => (∃ e, linesB items adds = ([], e) ∧ v = .tuple [.emp, eI e] ∧ Sup st s') ∨ (∃ sv, linesB items adds = (adds.map (addLine items), 0) ∧ v = .tuple [sv, eI 0] ∧ ColL 36 3 eLine (adds.map (addLine items)) st sv s')) ?_ (fun v s' hv => ⟨_, st, ⟨rfl, rfl⟩, by
    rcases hv with ⟨e, h1, rfl, h2⟩ | ⟨sv, h1, rfl, h2⟩
    · rw [h1]; exact (Shift.tuple (Shift.cons (shift_emp 3 _) (Shift.keep _ _)) rfl).trans (h2.shift _)
    · rw [h1]; exact Shift.tuple (Shift.cons h2.shift (Shift.keep _ _)) rfl⟩)
  refine S_of_X [7, 10] good mixed Tryz.func13 (by rfl) rfl rfl rfl ?_; conv => whnf
  refine fork (fun h1 => ?_) (fun h1 => ?_) <;> rw [h1] <;> simp only [decide_eq_true_eq, decide_eq_false_iff_not] at h1
  · rw [if_pos (.inl (by omega))] at hB; conv => whnf
    exact .inl ⟨2, hB, rfl, Sup.refl _⟩
  conv => whnf
  refine fork (fun h2 => ?_) (fun h2 => ?_) <;> rw [h2] <;> simp only [decide_eq_true_eq, decide_eq_false_iff_not] at h2
  · rw [if_pos (.inr (by omega))] at hB; conv => whnf
    exact .inl ⟨2, hB, rfl, Sup.refl _⟩
  rw [if_neg (by omega)] at hB; conv => whnf
  refine lp adds.length [0, 1, 20, 21, 22] (fun i vs t => (∀ j, j < i → badAdd (adds.getD j default) = false) ∧ vs = [arrOf 4 eItem items, arrOf 2 eAdd adds, arrOf 2 eAdd adds, eI adds.length, eI i] ∧ t = st) ?_ ?_
  · conv => whnf
    exact ⟨fun j hj => absurd hj (by omega), rfl, rfl⟩
  rintro i vs t hi' ⟨hno, rfl, rfl⟩
  conv => whnf
  cases h3 : decide ((i : Int) < (adds.length : Int))
  case true =>
    have hi2 := go_on h3
    have hbad : badAdd (adds.getD (i : Int).toNat default) = true → linesB items adds = ([], 2) := fun h => by
      rw [if_pos (List.any_eq_true.2 ⟨_, getD_mem hi2, h⟩)] at hB; exact hB
    conv => whnf
    refine ⟨rfl, ⟨by omega, by omega⟩, ?_⟩; conv => whnf
    refine fork (fun h4 => ?_) (fun h4 => ?_) <;> rw [h4]
    · conv => whnf
      exact .inl ⟨2, hbad (by unfold badAdd; rw [h4]; rfl), rfl, Sup.refl _⟩
    conv => whnf
    refine fork (fun h5 => ?_) (fun h5 => ?_) <;> rw [h5]
    · conv => whnf
      exact .inl ⟨2, hbad (by unfold badAdd; rw [h5, Bool.or_true]), rfl, Sup.refl _⟩
    conv => whnf
    refine ⟨rfl, ?_⟩; conv => whnf
    exact nx hi2 ⟨lt_next hno (show badAdd (adds.getD (i : Int).toNat default) = false by unfold badAdd; rw [h4, h5]; rfl), by rw [wrapN (by omega)], rfl⟩
  obtain rfl := stop_at h3 hi'
  rw [if_neg (by
    rw [Bool.not_eq_true, List.any_eq_false]
    intro x hx
    obtain ⟨j, hj, rfl⟩ := mem_getD hx
    rw [hno j hj]; simp)] at hB
  conv => whnf
  refine lp adds.length [0, 8, 35, 36, 37] (fun i vs s => ∃ sv, (∀ j, j < i → (fun x : Add => decide (findB items x.sku < 0)) (adds.getD j default) = false) ∧ vs = [arrOf 4 eItem items, sv, arrOf 2 eAdd adds, eI adds.length, eI i] ∧ ColL 36 3 eLine ((adds.take i).map (addLine items)) t sv s) ?_ ?_
  · conv => whnf
    exact ⟨.emp, fun j hj => absurd hj (by omega), rfl, ColL.start _ _ _ _⟩
  rintro i vs s hi2 ⟨sv, hno2, rfl, hc⟩
  conv => whnf
  cases h4 : decide ((i : Int) < (adds.length : Int))
  case false =>
    obtain rfl := stop_at h4 hi2
    rw [List.take_length] at hc
    rw [if_neg (by
      rw [Bool.not_eq_true, List.any_eq_false]
      intro x hx
      obtain ⟨j, hj, rfl⟩ := mem_getD hx
      have := hno2 j hj
      simp only at this
      rw [this]; simp)] at hB
    conv => whnf
    exact .inr ⟨sv, hB, rfl, hc⟩
  have hi3 := go_on h4
  have hF := fun u => find_S items (adds.getD (i : Int).toNat default).sku hi u
  have hln : ((adds.take i).map (addLine items)).length = i := by rw [List.length_map, List.length_take]; omega
  have htk : (adds.take (i + 1)).map (addLine items) = (adds.take i).map (addLine items) ++ [addLine items (adds.getD (i : Int).toNat default)] := by rw [take_next hi3, List.map_append]; rfl
  have hrng := idx_lt (fun x : Ab.Item => x.sku.toList == (adds.getD (i : Int).toNat default).sku.toList) items
  have hAL : addLine items (adds.getD (i : Int).toNat default) = ⟨(adds.getD (i : Int).toNat default).sku, (adds.getD (i : Int).toNat default).qty, (items.getD (findB items (adds.getD (i : Int).toNat default).sku).toNat default).price⟩ := rfl
  have hno3 := fun h => lt_next (q := fun j => (fun x : Add => decide (findB items x.sku < 0)) (adds.getD j default) = false) hno2 h
  have hpos : (fun x : Add => decide (findB items x.sku < 0)) (adds.getD (i : Int).toNat default) = true → linesB items adds = ([], 7) := fun h => by
    rw [if_pos (List.any_eq_true.2 ⟨_, getD_mem hi3, h⟩)] at hB; exact hB
  have hf0 : findB items (adds.getD (i : Int).toNat default).sku = findB items (adds.getD i default).sku := rfl
  simp only at hpos hno3
  rw [← hf0] at hno3
  generalize hfv : findB items (adds.getD (i : Int).toNat default).sku = FV at hF hpos hno3 hAL
  have hrng2 : -1 ≤ FV ∧ FV < items.length := by rw [← hfv]; exact hrng
  conv => whnf
  refine ⟨rfl, ⟨by omega, by omega⟩, ?_⟩; conv => whnf
  refine call1 (hF _) ?_; conv => whnf
  refine fork (fun h5 => ?_) (fun h5 => ?_) <;> rw [h5]
  · conv => whnf
    exact .inl ⟨7, hpos h5, rfl, hc.sup⟩
  have h5' := of_decide_eq_false h5
  conv => whnf
  refine ⟨[11, 12], [], List.range 14, by kernel_rfl, ?_⟩; conv => whnf
  refine ⟨rfl, ⟨by omega, by omega⟩, ?_⟩; conv => whnf
  refine ColL.app (y := addLine items (adds.getD (i : Int).toNat default)) (q := r36) rfl rfl rfl rfl rfl (by rw [hAL]; rfl) (by rw [hln]; show (i + 1) * 32 ≤ 140737488355328; omega) hc (fun sv' t' hc' => ?_); conv => whnf
  refine ⟨rfl, ?_⟩; conv => whnf
  exact nx hi3 ⟨sv', hno3 h5, by rw [wrapN (by omega)], by rw [htk]; exact hc'⟩
def aqZ : Zone := ⟨⟨#[122]⟩, [], 1000, 0⟩
def aqI : List Ab.Item := [⟨⟨#[97]⟩, ⟨#[120]⟩, 50, false⟩]
def aqR : Rules := ⟨aqI, [], ⟨false, false, 0, [aqZ]⟩, ⟨0, 0⟩, ⟨0, 0, 1, 0, [], []⟩⟩
def aqL : List Line := [⟨⟨#[97]⟩, 2, 50⟩]
def aqA : List Add := [⟨⟨#[97]⟩, 2⟩]
def aqQ : Quote := ⟨[100], [10], 0, 0, 110, []⟩
theorem aq_lines : linesB aqI aqA = (aqL, 0) := by kernel_rfl
theorem aq_check : priceCheck aqR [] aqL = 0 := by kernel_rfl
theorem aq_price : priceB aqR aqL [] [] = ⟨[100], 100, 0, []⟩ := by kernel_rfl
theorem aq_fit : RulesFit aqR := ⟨Nat.zero_le _, fun p hp => absurd hp List.not_mem_nil, by show 0 < _; decide, by show 0 < _; decide⟩
theorem resO_nil {codes : List Str} {o : List Int} (ho : OrdP [] codes o) : resO [] o = [] := List.perm_nil.1 ((resO_perm [] o).trans ho.1)
theorem aqPrice_S (st : St) : S P 44 [eRules aqR, eStrs [], arrOf 3 eLine aqL] st fun v st' => v = .tuple [ePriced ⟨[100], 100, 0, []⟩, eI 0] ∧ st' = st :=
  (price_S aqR [] aqL aq_fit (by decide) (by decide) (by decide) st).mono fun v s hv => by
    obtain ⟨hv, rfl⟩ := hv
    refine ⟨?_, rfl⟩
    rcases hv with ⟨h, _⟩ | ⟨_, o1, o2, h1, h2, h3⟩
    · exact absurd aq_check h
    · rw [show aqR.promos = [] from rfl] at h1 h2 h3
      rw [resO_nil h1, resO_nil h2, aq_price] at h3
      exact h3
theorem aq_levy : LevyIn aqR.tax aqZ (catsB aqR aqL) [100] 0 := by
  refine ⟨by kernel_rfl, by kernel_rfl, by kernel_rfl, ⟨by decide, fun x hx => ?_, by decide⟩, by decide⟩
  rw [List.mem_singleton.1 hx]; decide
theorem aqQuote_S (st : St) : S P 22 [eRules aqR, eS ⟨#[122]⟩, eB false, eStrs [], arrOf 3 eLine aqL] st fun v st' => v = .tuple [eQuote aqQ, eI 0] ∧ st' = st := by
  have hI : ∀ st, S P 45 [arrOf 4 eItem aqR.items, arrOf 3 eLine aqL] st fun v s => v = arrOf 4 eItem (itemsOf aqR.items aqL) ∧ s = st := fun st => itemsOf_S _ _ (by decide) (by decide) (fun x hx => by rw [List.mem_singleton.1 hx]; kernel_rfl) st
  have h := quote_S (r := aqR) (codes := []) (l := aqL) (Pr := ⟨[100], 100, 0, []⟩) (z := aqZ) (zone := ⟨#[122]⟩) false aqPrice_S hI (by decide) aq_levy (by kernel_rfl) (fun st => byLine_S aqR.tax _ _ (by decide) (by kernel_rfl) (fun x hx => (rates_ok aq_levy).2 x hx) st) (levy_sums aq_levy false) st
  rw [show quoteB aqR aqZ false aqL ⟨[100], 100, 0, []⟩ = aqQ by kernel_rfl] at h
  exact h
theorem awake20_S (st : St) : S P 9 [] st fun v st' => v = .bool true ∧ st' = st := by
  have hLn := fun st => qlines_S aqI aqA (by decide) st
  rw [aq_lines] at hLn
  have hBk := fun st => book_S aqQ ⟨by decide, fun x hx => by rw [List.mem_singleton.1 hx]; decide⟩ ⟨by decide, fun x hx => by rw [List.mem_singleton.1 hx]; decide⟩ st
  refine S_sup ?_
  refine S_of_X [1] good mixed Tryz.func9 (by rfl) rfl rfl rfl ?_; conv => whnf
  refine call_shift ?_ (call1 (hLn st) ?_)
  · refine Shift.cons (Le.shift (Le.arr1 ?_ rfl) _) (Le.shift (Le.arr1 ?_ rfl) _)
    all_goals repeat' first | exact LeL.nil | refine LeL.cons ?_ ?_ | exact Le.refl _
  conv => whnf
  refine call_shift ?_ (call1 (aqQuote_S st) ?_)
  · refine Shift.cons (Le.shift (Le.agg ?_) _) (Shift.cons (Shift.keep [eS ⟨#[122]⟩] _) (Shift.cons (Shift.keep [eB false] _) (Shift.cons (Le.shift (Le.emp _ _) _) (Shift.keep _ _))))
    repeat' first | exact LeL.nil | refine LeL.cons ?_ ?_ | exact Le.refl _ | exact Le.emp _ _ | refine Le.arr1 ?_ rfl
  conv => whnf
  intro b hb; conv => whnf
  refine stV (upd_same ..) rfl (by omega) rfl (by rfl) ?_
  rw [upd_twice]; conv => whnf
  refine ldV (upd_same ..) rfl (by omega) (fset_same ..) ?_; conv => whnf
  refine ldV (upd_same ..) rfl (by omega) (fset_same ..) ?_; conv => whnf
  refine call1 (hBk _) ?_; conv => whnf
  exact ⟨rfl, (Sup.refl st).upd hb⟩
end Go.Proofs.YtfajkgonocpddaaGreat
namespace Go.Ab
open Go
theorem rdOf_same {w : World} {st st' : St} (h : ∀ b, st b = none ↔ st' b = none) : rdOf w st = rdOf w st' := by
  funext a
  unfold rdOf
  cases h1 : st a.block with
  | none => rw [(h _).1 h1]
  | some x =>
    cases h2 : st' a.block with
    | none => rw [(h _).2 h2] at h1; cases h1
    | some y => rfl
theorem Shift.cell {vs : List AV} {st st2 : St} {a i : Nat} {y : Blk} {sv v' : AV} {pre post : List AV} (h : Shift [sv] st [v'] st2) (hy : st a = some y) (hy2 : st2 a = some y) (hi : i < y.n)
    (hf : y.f i = .agg (pre ++ sv :: post)) (h1 : v'.one = true) : Shift vs st vs (upd st2 a { y with f := fset y.f i (.agg (pre ++ v' :: post)) }) := fun w cs hS hR => by
  obtain ⟨ds, hok⟩ := hS a y hy
  obtain ⟨c, hc1, hc2⟩ := hok.cell i pre.length sv hi (by rw [hf]; show (pre ++ sv :: post)[pre.length]? = some sv; simp)
  obtain ⟨hS2, hR2, hE⟩ := h w #[c] hS ⟨rfl, fun k z c' hz hc' => by
    cases k with
    | zero => simp at hz hc'; subst hz; subst hc'; exact hc2
    | succ k => simp at hz⟩
  have hv : RepW w st2 v' c := hR2.2 0 v' c rfl rfl
  have e : rdOf w (upd st2 a { y with f := fset y.f i (.agg (pre ++ v' :: post)) }) = rdOf w st2 := rdOf_same fun b => by
    by_cases eb : b = a
    · subst eb; rw [upd_same, hy2]; constructor <;> (intro h0; cases h0)
    · rw [upd_ne eb]
  have hrep : ∀ v c, RepW w st2 v c → RepW w (upd st2 a { y with f := fset y.f i (.agg (pre ++ v' :: post)) }) v c := fun v c hv => by
    show Rep (rdOf w _) _ _ _
    rw [e]; exact hv
  refine ⟨fun b x hb => ?_, ⟨hR.1, fun k y c hy hc => hrep _ _ (hE.rep (hR.2 k y c hy hc))⟩, ⟨hE.os, hE.tape, hE.output, hE.size, fun b hb hn => ⟨(hE.blk b hb hn).1, ?_⟩, hE.szm⟩⟩
  · by_cases eb : b = a
    · subst eb
      rw [upd_same] at hb; cases hb
      obtain ⟨ds2, hok2⟩ := hS2 b y hy2
      have hds : ds2 = ds := by
        have h3 := hok2.heap
        rw [hok.heap] at h3
        cases h3; rfl
      subst hds
      have hlen := hok2.len i hi
      have hone := hok2.one i hi
      rw [hf] at hlen hone
      refine ⟨ds2, hok2.heap, hok2.size, fun k hk => ?_, fun k hk => ?_, fun k m z hk hz => ?_⟩
      · by_cases ek : k = i
        · subst ek
          show (cellsOf (fset y.f k _ k)).length = y.e
          unfold fset; rw [if_pos rfl, ← hlen]
          show (pre ++ v' :: post).length = (pre ++ sv :: post).length
          simp
        · show (cellsOf (fset y.f i _ k)).length = y.e
          unfold fset; rw [if_neg ek]; exact hok2.len k hk
      · by_cases ek : k = i
        · subst ek
          show (cellsOf (fset y.f k _ k)).all AV.one = true
          unfold fset; rw [if_pos rfl]
          have hone' : (pre ++ sv :: post).all AV.one = true := hone
          show (pre ++ v' :: post).all AV.one = true
          simp only [List.all_append, List.all_cons, Bool.and_eq_true] at hone' ⊢
          exact ⟨hone'.1, h1, hone'.2.2⟩
        · show (cellsOf (fset y.f i _ k)).all AV.one = true
          unfold fset; rw [if_neg ek]; exact hok2.one k hk
      · have hz : (cellsOf (fset y.f i (.agg (pre ++ v' :: post)) k))[m]? = some z := hz
        unfold fset at hz
        by_cases ek : k = i
        · subst ek
          rw [if_pos rfl] at hz
          have hz : (pre ++ v' :: post)[m]? = some z := hz
          by_cases em : m = pre.length
          · subst em
            simp at hz
            subst hz
            exact ⟨c, hc1, hrep _ _ hv⟩
          · have e3 : (pre ++ sv :: post)[m]? = some z := by
              rw [← hz]
              by_cases hm : m < pre.length
              · rw [List.getElem?_append_left hm, List.getElem?_append_left hm]
              · rw [List.getElem?_append_right (by omega), List.getElem?_append_right (by omega)]
                obtain ⟨q, hq⟩ : ∃ q, m - pre.length = q + 1 := ⟨m - pre.length - 1, by omega⟩
                rw [hq]; rfl
            obtain ⟨c', k1, k2⟩ := hok2.cell k m z hk (by rw [hf]; exact e3)
            exact ⟨c', k1, hrep _ _ k2⟩
        · rw [if_neg ek] at hz
          obtain ⟨c', k1, k2⟩ := hok2.cell k m z hk hz
          exact ⟨c', k1, hrep _ _ k2⟩
    · rw [upd_ne eb] at hb
      obtain ⟨ds2, hok2⟩ := hS2 b x hb
      exact ⟨ds2, hok2.heap, hok2.size, hok2.len, hok2.one, fun k m z hk hz => by
        obtain ⟨c', k1, k2⟩ := hok2.cell k m z hk hz
        exact ⟨c', k1, hrep _ _ k2⟩⟩
  · have := (hE.blk b hb hn).2
    have eb : b ≠ a := fun h => by rw [h, hy] at hn; cases hn
    rw [upd_ne eb]; exact this
end Go.Ab
namespace Go.Proofs.YtfajkgonocpddaaGreat
open Go Go.Ab
attribute [local irreducible] upd del
abbrev fRates (l : List CatRate) : Nat → AV := fun i => eCatRate (l.getD i default)
def chainR (zs : Nat → List CatRate) (sv : Nat → AV) : Nat → St → St → Prop
  | 0 => Sup
  | k + 1 => fun s t => ROut (chainR zs sv k) 125 2 (fRates (zs k)) (zs k).length s (sv k) t
theorem besideChain (zs : Nat → List CatRate) (sv : Nat → AV) : ∀ k, Beside (chainR zs sv k)
  | 0 => besideSup
  | k + 1 => besideOut (besideChain zs sv k) _ _ _ _ _
theorem freeze_chain {bz n ty : Nat} {zs : Nat → List CatRate} {sv : Nat → AV} {nm : Nat → Str} {r1 r2 : Nat → Int} : ∀ (k : Nat) (s t : St) (g : Nat → AV), k ≤ n → chainR zs sv k s t → s bz = some ⟨ty, 4, n, g⟩ → (∀ j, j < k → g j = .agg [eS (nm j), sv j, eI (r1 j), eI (r2 j)]) →
    ∃ t' g', (∀ vs, Shift vs t vs t') ∧ Sup (upd s bz ⟨ty, 4, n, g'⟩) t' ∧ (∀ j, j < k → g' j = .agg [eS (nm j), arrOf 2 eCatRate (zs j), eI (r1 j), eI (r2 j)]) ∧ ∀ j, k ≤ j → g' j = g j
  | 0, s, t, g, hk, h, hs, hg => by
    refine ⟨t, g, fun vs => Shift.refl _ _, fun b x hb => ?_, fun j hj => absurd hj (by omega), fun j _ => rfl⟩
    by_cases e : b = bz
    · subst e; rw [upd_same] at hb; cases hb; exact h _ _ hs
    · rw [upd_ne e] at hb; exact h _ _ hb
  | k + 1, s, t, g, hk, h, hs, hg => by
    have hB := besideChain zs sv k
    have ht : t bz = some ⟨ty, 4, n, g⟩ := (besideChain zs sv (k + 1)).sup h _ _ hs
    obtain ⟨t1, hsh, hc⟩ := ROut.shift hB h
    have ht1 : t1 bz = some ⟨ty, 4, n, g⟩ := hB.sup hc _ _ hs
    have hcell := fun vs => Shift.cell (vs := vs) (pre := [eS (nm k)]) (post := [eI (r1 k), eI (r2 k)]) hsh ht ht1 (show k < n by omega) (hg k (by omega)) rfl
    have hc' := hB.write (y' := ⟨ty, 4, n, fset g k (.agg ([eS (nm k)] ++ AV.arr 2 (zs k).length (fRates (zs k)) :: [eI (r1 k), eI (r2 k)]))⟩) hc hs
    obtain ⟨t', g', k1, k2, k3, k4⟩ := freeze_chain (nm := nm) (r1 := r1) (r2 := r2) k _ _ _ (by omega) hc' (upd_same ..) (fun j hj => by rw [fset_ne (by omega)]; exact hg j (by omega))
    rw [upd_twice] at k2
    refine ⟨t', g', fun vs => (hcell vs).trans (k1 vs), k2, fun j hj => ?_, fun j hj => ?_⟩
    · by_cases e : j = k
      · subst e; rw [k4 j (Nat.le_refl _), fset_same]; rfl
      · exact k3 j (by omega)
    · rw [k4 j (by omega), fset_ne (by omega)]
theorem ROut.putB {R : St → St → Prop} (hR : Beside R) {ty e n b : Nat} {fo : Nat → AV} {s t : St} {sv : AV} {y : Blk} (h : ROut R ty e fo n (upd s b y) sv t) (y' : Blk) : ROut R ty e fo n (upd s b y') sv (upd t b y') := by
  have := ROut.write (y' := y') hR h (upd_same ..)
  rwa [upd_twice] at this
abbrev zoneV (z : Zone) (rv : AV) : AV := .agg [eS z.name, rv, eI z.rest, eI z.ship]
def ZO (t : Tax) (k : Nat) (base : St) (zv : AV) (s : St) : Prop :=
  ∃ (sv g : Nat → AV), ROut (chainR (fun j => (playZone t.zones j).rates) sv k) 78 4 g k base zv s ∧ ∀ j, j < k → g j = zoneV (playZone t.zones j) (sv j)
theorem ZO.end {t : Tax} {base s : St} {zv : AV} (h : ZO t 3 base zv s) : ∃ t', Shift [zv] s [arrOf 4 eZone (playTax t).zones] t' ∧ Sup base t' := by
  obtain ⟨sv, g, ⟨s1, hcol, hch⟩, hg⟩ := h
  rcases hcol with ⟨h0, _, _⟩ | ⟨h0, bz, g0, hbz, rfl, rfl, hgg⟩
  · cases h0
  obtain ⟨t', g', hsh, hsup, hg', _⟩ := freeze_chain (nm := fun j => (playZone t.zones j).name) (r1 := fun j => (playZone t.zones j).rest) (r2 := fun j => (playZone t.zones j).ship) 3 _ s g0 (Nat.le_refl _) hch (upd_same ..) (fun j hj => by rw [hgg j hj, hg j hj])
  rw [upd_twice] at hsup
  refine ⟨del t' bz, (hsh _).trans (shift_own (hsup bz _ (upd_same ..)) rfl (Nat.le_refl _) fun i hi => ?_), ?_⟩
  · show g' i = eZone ((playTax t).zones.getD i default)
    rw [hg' i hi]
    have : (playTax t).zones.getD i default = playZone t.zones i := by
      show ((List.range 3).map (playZone t.zones)).getD i default = _
      rw [List.getD_eq_getElem?_getD, List.getElem?_map, List.getElem?_range hi]; rfl
    rw [this]; rfl
  · exact Sup.del (((Sup.refl base).upd hbz).trans hsup) hbz
theorem rsumA_S (l : List Int) (h : AmountsIn l) (st : St) : S P 51 [eInts l] st fun v st' => v = eI (sumI l) ∧ st' = st := by
  have hn := h.len
  refine S_of_X [] good mixed Tryz.func51 (by rfl) rfl rfl rfl ?_; conv => whnf
  refine lp l.length [0, 3, 4] (fun i vs t => vs = [eInts l, eI (sumI (l.take i)), eI i] ∧ t = st) ?_ ?_
  · conv => whnf
    exact ⟨rfl, rfl⟩
  · rintro i vs t hi ⟨rfl, rfl⟩
    conv => whnf
    cases h1 : decide ((i : Int) < (l.length : Int))
    · obtain rfl := stop_at h1 hi
      rw [List.take_length]; conv => whnf
      exact ⟨rfl, rfl⟩
    · have hi' := go_on h1
      have hs : IntKind.i64.wrap (sumI (l.take i) + gI l (i : Int).toNat) = sumI (l.take (i + 1)) := h.step hi'
      conv => whnf
      refine ⟨rfl, ⟨by omega, by omega⟩, ?_⟩; conv => whnf
      rw [hs]
      refine ⟨rfl, ?_⟩; conv => whnf
      exact nx hi' ⟨by rw [wrapN (by omega)], rfl⟩
theorem rbook_S (q : Quote) (h1 : AmountsIn q.goods) (h2 : AmountsIn q.taxes) (st : St) : S P 26 [eQuote q] st fun v st' => v = eBook (bookB q) ∧ st' = st := by
  have c1 := fun s => rsumA_S q.goods h1 s
  have c2 := fun s => rsumA_S q.taxes h2 s
  have hB : bookB q = ⟨sumI q.goods, sumI q.taxes, q.ship, q.shipTax, 0⟩ := rfl
  rw [hB]
  generalize sumI q.goods = G at c1 ⊢
  generalize sumI q.taxes = T' at c2 ⊢
  refine S_sup ?_
  refine S_of_X [1] good mixed Tryz.func26 (by rfl) rfl rfl rfl ?_; conv => whnf
  intro b2 hb; conv => whnf
  refine ⟨[11], [], List.range 12, by kernel_rfl, ?_⟩; conv => whnf
  refine ⟨_, callQ (c1 _), ?_⟩; conv => whnf
  refine ⟨_, callQ (c2 _), ?_⟩; conv => whnf
  refine stV (upd_same ..) rfl (by omega) rfl (by rfl) ?_; conv => whnf
  refine ldV (upd_same ..) rfl (by omega) (fset_same ..) ?_; conv => whnf
  exact ⟨rfl, ((Sup.refl st).upd hb).over hb⟩
def amounts (l : List Int) : List Int := l.map fun x => modB x 1073741824
theorem amounts_in {l : List Int} (h : l.length ≤ 100) : AmountsIn (amounts l) := by
  refine ⟨by unfold amounts; rw [List.length_map]; omega, fun x hx => ?_⟩
  obtain ⟨y, _, rfl⟩ := List.mem_map.1 hx
  have := modB_lt y (n := 1073741824) (by decide)
  omega
theorem amounts_at {l : List Int} {i : Nat} (hi : i < l.length) : gI (amounts l) i = modB (gI l i) 1073741824 := getD_map (fun x => modB x 1073741824) l hi
theorem So.book (b : Book) : So (eBook b) (eBook b) := So.agg (.cons (So.int _ _) (.cons (So.int _ _) (.cons (So.int _ _) (.cons (So.int _ _) (.cons (So.int _ _) .nil)))))
theorem book_eq (b : Book) : ((b.goods == b.goods) && ((b.tax == b.tax) && ((b.ship == b.ship) && ((b.shipTax == b.shipTax) && ((b.fee == b.fee) && true))))) = true := by simp
set_option maxHeartbeats 4000000 in
theorem quoteBooks_S (goods taxes : List Int) (ship tax : Int) (st : St) : S P 8 [eInts goods, eInts taxes, eI ship, eI tax] st fun v st' => v = .bool true := by
  refine S_of_X [] good mixed Tryz.func8 (by rfl) rfl rfl rfl ?_; conv => whnf
  refine fork (fun h => ?_) (fun h => ?_) <;> rw [h] <;> simp only [decide_eq_true_eq, decide_eq_false_iff_not] at h
  · conv => whnf
    refine call1 (awake20_S _) ?_; conv => whnf
    exact rfl
  conv => whnf
  refine fork (fun h2 => ?_) (fun h2 => ?_) <;> rw [h2] <;> simp only [decide_eq_true_eq, decide_eq_false_iff_not] at h2
  · conv => whnf
    refine call1 (awake20_S _) ?_; conv => whnf
    exact rfl
  have m1 := fun s => mod64_S' ship 1073741824 (by decide) (by decide) s
  have m2 := fun s => mod64_S' tax 1073741824 (by decide) (by decide) s
  have hA := modB_lt ship (n := 1073741824) (by decide)
  have hB := modB_lt tax (n := 1073741824) (by decide)
  generalize modB ship 1073741824 = A at m1 hA
  generalize modB tax 1073741824 = B at m2 hB
  have hgl : (amounts goods).length = goods.length := List.length_map ..
  have htl : (amounts taxes).length = taxes.length := List.length_map ..
  have hga := amounts_in (l := goods) (by omega)
  have hta := amounts_in (l := taxes) (by omega)
  have hgi := fun i => amounts_at (l := goods) (i := i)
  have hti := fun i => amounts_at (l := taxes) (i := i)
  generalize amounts goods = GS at hgl hga hgi
  generalize amounts taxes = TS at htl hta hti
  conv => whnf
  refine call1 (m1 _) ?_; conv => whnf
  refine call1 (m2 _) ?_; conv => whnf
  intro b9 hb9; conv => whnf
  refine stV (upd_same ..) rfl (by omega) rfl (by rfl) ?_
  rw [upd_twice]; conv => whnf
  refine lp goods.length [0, 1, 9, 10] (fun i vs s => ∃ gv f, vs = [eInts goods, eInts taxes, .optr 6 b9 0 0, eI i] ∧ f 0 = .agg [gv, .emp, eI A, eI B, eI 0, .emp] ∧ ROut Sup 2 1 (fun k => eI (gI GS k)) i (upd st b9 ⟨59, 6, 1, f⟩) gv s) ?_ ?_
  · conv => whnf
    exact ⟨.emp, _, rfl, by first | rfl | (rw [fset_same]; rfl), ROut.start (Sup.refl _) _ _ _⟩
  rintro i vs s hi ⟨gv, f, rfl, hf, hR⟩
  have at9 : s b9 = some ⟨59, 6, 1, f⟩ := ROut.sup besideSup hR b9 _ (upd_same ..)
  conv => whnf
  cases h3 : decide ((i : Int) < (goods.length : Int))
  case true =>
    have hi' := go_on h3
    have hm := fun s => mod64_S' (gI goods (i : Int).toNat) 1073741824 (by decide) (by decide) s
    have hgA : gI GS i = modB (gI goods (i : Int).toNat) 1073741824 := hgi i hi'
    generalize modB (gI goods (i : Int).toNat) 1073741824 = Y at hm hgA
    rcases ROut.head hR with rfl | ⟨bg, rfl⟩
    all_goals
      conv => whnf
      refine ⟨[8, 10], [], List.range 11, by kernel_rfl, ?_⟩; conv => whnf
      refine ldV at9 rfl (by omega) hf ?_; conv => whnf
      refine ⟨rfl, ⟨by omega, by omega⟩, ?_⟩; conv => whnf
      refine ⟨_, callQ (hm _), ?_⟩; conv => whnf
      refine ⟨_, ⟨rfl, rfl⟩, ?_⟩; conv => whnf
      refine ROut.app (q := r2) besideSup rfl rfl rfl rfl rfl (f := fun k => eI (gI GS k)) (by show _ = eI _; rw [hgA]; rfl) (by show (i + 1) * 8 ≤ 140737488355328; omega) hR (fun sv' t2 hR2 => ?_)
      have at9' : t2 b9 = some ⟨59, 6, 1, f⟩ := ROut.sup besideSup hR2 b9 _ (upd_same ..)
      rcases ROut.head hR2 with rfl | ⟨bg', rfl⟩
      all_goals
        conv => whnf
        refine stV at9' rfl (by omega) hf (by rfl) ?_; conv => whnf
        refine ⟨rfl, ?_⟩; conv => whnf
        exact nx hi' ⟨_, _, by rw [wrapN (by omega)], (by rw [fset_same]; rfl), ROut.putB besideSup hR2 _⟩
  obtain rfl := stop_at h3 hi
  have hBg := besideOut besideSup 2 1 (fun k => eI (gI GS k)) goods.length gv
  have hgv := ROut.head hR
  conv => whnf
  refine lp taxes.length [1, 9, 11] (fun i vs u => ∃ tv f, vs = [eInts taxes, .optr 6 b9 0 0, eI i] ∧ f 0 = .agg [gv, tv, eI A, eI B, eI 0, .emp] ∧ ROut (fun s t => ROut Sup 2 1 (fun k => eI (gI GS k)) goods.length s gv t) 2 1 (fun k => eI (gI TS k)) i (upd st b9 ⟨59, 6, 1, f⟩) tv u) ?_ ?_
  · conv => whnf
    exact ⟨.emp, f, rfl, hf, ROut.start hR _ _ _⟩
  clear hR hf at9
  rintro i vs u hi2 ⟨tv, f2, rfl, hf, hR⟩
  have at9 : u b9 = some ⟨59, 6, 1, f2⟩ := ROut.sup hBg hR b9 _ (upd_same ..)
  conv => whnf
  cases h4 : decide ((i : Int) < (taxes.length : Int))
  case true =>
    have hi' := go_on h4
    have hm := fun s => mod64_S' (gI taxes (i : Int).toNat) 1073741824 (by decide) (by decide) s
    have hgA : gI TS i = modB (gI taxes (i : Int).toNat) 1073741824 := hti i hi'
    generalize modB (gI taxes (i : Int).toNat) 1073741824 = Y at hm hgA
    rcases hgv with rfl | ⟨bg, rfl⟩
    all_goals
      rcases ROut.head hR with rfl | ⟨bt, rfl⟩
      all_goals
        conv => whnf
        refine ⟨[8, 10], [], List.range 11, by kernel_rfl, ?_⟩; conv => whnf
        refine ldV at9 rfl (by omega) hf ?_; conv => whnf
        refine ⟨rfl, ⟨by omega, by omega⟩, ?_⟩; conv => whnf
        refine ⟨_, callQ (hm _), ?_⟩; conv => whnf
        refine ⟨_, ⟨rfl, rfl⟩, ?_⟩; conv => whnf
        refine ROut.app (q := r2) hBg rfl rfl rfl rfl rfl (f := fun k => eI (gI TS k)) (by show _ = eI _; rw [hgA]; rfl) (by show (i + 1) * 8 ≤ 140737488355328; omega) hR (fun sv' t2 hR2 => ?_)
        have at9' : t2 b9 = some ⟨59, 6, 1, f2⟩ := ROut.sup hBg hR2 b9 _ (upd_same ..)
        rcases ROut.head hR2 with rfl | ⟨bt', rfl⟩
        all_goals
          conv => whnf
          refine stV at9' rfl (by omega) hf (by rfl) ?_; conv => whnf
          refine ⟨rfl, ?_⟩; conv => whnf
          exact nx hi' ⟨_, _, by rw [wrapN (by omega)], (by rw [fset_same]; rfl), ROut.putB hBg hR2 _⟩
  obtain rfl := stop_at h4 hi2
  obtain ⟨s0, hcol, hg0⟩ := hR
  obtain ⟨c1, k1, k2⟩ := ROut.shift besideSup hg0
  obtain ⟨c2, k3, k4⟩ := ROut.shift besideSup (show ROut Sup 2 1 (fun k => eI (gI TS k)) taxes.length _ tv c1 from ⟨s0, hcol, k2⟩)
  have eg : eInts GS = .arr 1 goods.length (fun k => eI (gI GS k)) := by unfold eInts arrOf; rw [hgl]
  have et : eInts TS = .arr 1 taxes.length (fun k => eI (gI TS k)) := by unfold eInts arrOf; rw [htl]
  have hTS : Shift [.agg [gv, tv, eI A, eI B, eI 0, .emp]] u [eQuote ⟨GS, TS, A, B, 0, []⟩] st0 := by
    have h1 : Shift [.agg [gv, tv, eI A, eI B, eI 0, .emp]] u [.agg [eInts GS, eInts TS, eI A, eI B, eI 0, .emp]] c2 := Shift.agg (Shift.cons (by rw [eg]; exact k1) (Shift.cons (by rw [et]; exact k3) (Shift.keep _ _)))
    exact (h1.trans (Le.shift (Le.agg (LeL.cons (Le.refl _) (LeL.cons (Le.refl _) (LeL.cons (Le.refl _) (LeL.cons (Le.refl _) (LeL.cons (Le.refl _) (LeL.cons (Le.emp _ _) LeL.nil))))))) _)).trans ((sup_st0 _).shift _)
  have b1 : S P 25 [.agg [gv, tv, eI A, eI B, eI 0, .emp]] u fun v s => v = eBook (bookB ⟨GS, TS, A, B, 0, []⟩) ∧ s = u :=
    S.lends (book_S ⟨GS, TS, A, B, 0, []⟩ hga hta st0) hTS fun v hv => ⟨_, rfl, by rw [hv]; exact So.book _⟩
  have b2 : S P 26 [.agg [gv, tv, eI A, eI B, eI 0, .emp]] u fun v s => v = eBook (bookB ⟨GS, TS, A, B, 0, []⟩) ∧ s = u :=
    S.lends (rbook_S ⟨GS, TS, A, B, 0, []⟩ hga hta st0) hTS fun v hv => ⟨_, rfl, by rw [hv]; exact So.book _⟩
  generalize bookB ⟨GS, TS, A, B, 0, []⟩ = BK at b1 b2
  rcases hgv with rfl | ⟨bg, rfl⟩
  all_goals
    conv => whnf
    refine ⟨[], [], List.range 9, by kernel_rfl, ?_⟩; conv => whnf
    refine ⟨_, callQ (awake20_S _), ?_⟩; conv => whnf
    refine ldV at9 rfl (by omega) hf ?_; conv => whnf
    refine ⟨_, callQ b1, ?_⟩; conv => whnf
    refine ldV at9 rfl (by omega) hf ?_; conv => whnf
    refine ⟨_, callQ b2, ?_⟩; conv => whnf
    exact congrArg AV.bool (book_eq BK)
end Go.Proofs.YtfajkgonocpddaaGreat
namespace Go.Ab
open Go Go.ChangeShapes
inductive LK where
  | bool
  | int (k : IntKind)
  | str
  | sl (ks : List LK)
def aggOf (l : List AV) : AV := match l with | [v] => v | l => .agg l
inductive Fit : LK → AV → Prop
  | bool (b : Bool) : Fit .bool (.bool b)
  | int (k : IntKind) (n : Int) (h : (Lit.int k n).wf = true) : Fit (.int k) (.int k n)
  | str (s : ByteArray) (h : s.size ≤ maxLen) : Fit .str (.str s)
  | sl (ks : List LK) (n : Nat) (L : Nat → List AV) (hn : n ≤ maxLen) (hl : ∀ i, i < n → (L i).length = ks.length) (hf : ∀ (i j : Nat) (y : AV) (k : LK), i < n → (L i)[j]? = some y → ks[j]? = some k → Fit k y) : Fit (.sl ks) (.arr ks.length n fun i => aggOf (L i))
theorem Fit.one {k : LK} {v : AV} (h : Fit k v) : v.one = true := by cases h <;> rfl
theorem cells_one {v : AV} (h : v.one = true) : cellsOf v = [v] := by cases v <;> first | rfl | cases h
theorem cells_agg {l : List AV} (h : ∀ v ∈ l, v.one = true) : cellsOf (aggOf l) = l := by
  unfold aggOf
  split
  · exact cells_one (h _ (List.mem_singleton.2 rfl))
  · rfl
theorem addr_add (a : Addr) (n m : Nat) : a.add (n + m) = (a.add n).add m := by
  unfold Addr.add
  by_cases h : n = 0
  · subst h; simp
  · by_cases k : m = 0
    · subst k; simp [h]
    · simp [h, k, Nat.add_assoc]
def fieldsK (P : Program) (r : TypeId → Option (List LK)) : List Field → Nat → Option (List LK)
  | [], _ => some []
  | f :: fs, o => match Nat.beq f.offset o, r f.type with
    | true, some ks => (match Nat.beq (P.cellsOf f.type) ks.length, fieldsK P r fs (o + ks.length) with
      | true, some l => some (ks ++ l)
      | _, _ => none)
    | _, _ => none
def kindsOf (P : Program) : Nat → TypeId → Option (List LK)
  | 0, _ => none
  | n + 1, t => match P.underlying t with
    | some .bool => some [.bool]
    | some (.int k) => some [.int k]
    | some .string => some [.str]
    | some (.slice e) => (match kindsOf P n e with
      | some ks => (match Nat.beq (P.cellsOf e) ks.length with | true => some [.sl ks] | false => none)
      | none => none)
    | some (.struct fs) => (match fieldsK P (kindsOf P n) fs.toList 0 with
      | some ks => (match Nat.beq (P.cellsOf t) ks.length with | true => some ks | false => none)
      | none => none)
    | _ => none
structure FitL (w : World) (ks : List LK) (l : List AV) (cs : List Value) : Prop where
  len : l.length = ks.length
  clen : cs.length = ks.length
  fit : ∀ (j : Nat) (y : AV) (k : LK), l[j]? = some y → ks[j]? = some k → Fit k y
  rep : ∀ (j : Nat) (y : AV) (c : Value), l[j]? = some y → cs[j]? = some c → RepW w st0 y c
theorem FitL.one {w : World} {ks : List LK} {l : List AV} {cs : List Value} (h : FitL w ks l cs) : ∀ v ∈ l, v.one = true := fun v hv => by
  obtain ⟨j, hj, rfl⟩ := List.getElem_of_mem hv
  exact (h.fit j _ (ks[j]'(by rw [← h.len]; exact hj)) (List.getElem?_eq_getElem hj) (List.getElem?_eq_getElem (by rw [← h.len]; exact hj))).one
theorem FitL.nil (w : World) : FitL w [] [] [] := ⟨rfl, rfl, fun j y k h => by simp at h, fun j y c h => by simp at h⟩
theorem FitL.app {w : World} {ks ks' : List LK} {l l' : List AV} {cs cs' : List Value} (h : FitL w ks l cs) (h' : FitL w ks' l' cs') : FitL w (ks ++ ks') (l ++ l') (cs ++ cs') := by
  have h1 := h.len; have h2 := h.clen; have h3 := h'.len; have h4 := h'.clen
  refine ⟨by simp [h1, h3], by simp [h2, h4], fun j y k hy hk => ?_, fun j y c hy hc => ?_⟩
  · by_cases hj : j < l.length
    · rw [List.getElem?_append_left hj] at hy; rw [List.getElem?_append_left (by omega)] at hk; exact h.fit j y k hy hk
    · rw [List.getElem?_append_right (by omega)] at hy; rw [List.getElem?_append_right (by omega)] at hk
      rw [show j - l.length = j - ks.length by omega] at hy; exact h'.fit _ y k hy hk
  · by_cases hj : j < l.length
    · rw [List.getElem?_append_left hj] at hy; rw [List.getElem?_append_left (by omega)] at hc; exact h.rep j y c hy hc
    · rw [List.getElem?_append_right (by omega)] at hy; rw [List.getElem?_append_right (by omega)] at hc
      rw [show j - l.length = j - cs.length by omega] at hy; exact h'.rep _ y c hy hc
theorem FitL.single {w : World} {k : LK} {v : AV} {c : Value} (h : Fit k v) (hr : RepW w st0 v c) : FitL w [k] [v] [c] :=
  ⟨rfl, rfl, fun j y k' hy hk => by cases j <;> simp at hy hk; subst hy; subst hk; exact h, fun j y c' hy hc => by cases j <;> simp at hy hc; subst hy; subst hc; exact hr⟩
section
variable {H : Type} {enc : TypeId × Value → H} {P : Program} {w : World} {base : Nat} {spare : Nat → Bool} {held : Bool}
theorem open_fields {n m : Nat} (ih : ∀ (t : TypeId) (ks : List LK) (cs : List Value) (x : DataW H × List MemPlace), kindsOf P n t = some ks → DataW.trod enc P w base spare held m t cs = some x → ∃ l, FitL w ks l cs) {cs : List Value} :
    ∀ (fs : List Field) (o : Nat) (ks : List LK), fieldsK P (kindsOf P n) fs o = some ks → (∀ f ∈ fs, ∃ x, DataW.trod enc P w base spare held m f.type ((cs.drop f.offset).take (P.cellsOf f.type)) = some x) → ∃ l, FitL w ks l ((cs.drop o).take ks.length)
  | [], o, ks, h, _ => by cases h; exact ⟨[], by simpa using FitL.nil w⟩
  | f :: fs, o, ks, h, hx => by
    unfold fieldsK at h
    split at h
    · rename_i k1 ho hk1
      split at h
      · rename_i k2 hc hk2
        cases h
        have ho := Nat.eq_of_beq_eq_true ho
        have hc := Nat.eq_of_beq_eq_true hc
        obtain ⟨x, h1⟩ := hx f (List.mem_cons_self ..)
        rw [ho, hc] at h1
        obtain ⟨l1, g1⟩ := ih f.type k1 _ x hk1 h1
        obtain ⟨l2, g2⟩ := open_fields ih fs (o + k1.length) k2 hk2 fun f' hf => hx f' (List.mem_cons_of_mem _ hf)
        refine ⟨l1 ++ l2, ?_⟩
        have e : (cs.drop o).take (k1 ++ k2).length = (cs.drop o).take k1.length ++ (cs.drop (o + k1.length)).take k2.length := by
          rw [List.length_append, List.take_add, List.drop_drop]
        rw [e]; exact g1.app g2
      · cases h
    · cases h
theorem open_kinds : ∀ (n m : Nat) (t : TypeId) (ks : List LK) (cs : List Value) (x : DataW H × List MemPlace), kindsOf P n t = some ks → DataW.trod enc P w base spare held m t cs = some x → ∃ l, FitL w ks l cs
  | 0, m, t, ks, cs, x, h, _ => by cases h
  | n + 1, m, t, ks, cs, x, h, hx => by
    unfold kindsOf at h
    split at h
    · rename_i ht; cases h; obtain ⟨b, rfl, _⟩ := DataW.trod_bool ht hx; exact ⟨[.bool b], .single (.bool b) (.bool b)⟩
    · rename_i k ht; cases h; obtain ⟨i, rfl, _, hw⟩ := DataW.trod_int ht hx; exact ⟨[.int k i], .single (.int k i hw) (.int k i)⟩
    · rename_i ht; cases h; obtain ⟨s, rfl, _, hs⟩ := DataW.trod_string ht hx; exact ⟨[.str s], .single (.str s hs) (.str s)⟩
    · rename_i e ht
      split at h
      case h_2 => cases h
      rename_i ks' hk
      split at h
      case h_2 => cases h
      rename_i hb
      cases h
      have hb := Nat.eq_of_beq_eq_true hb
      rcases DataW.trod_slice ht hx with ⟨rfl, _⟩ | ⟨a, len, cap, elems, rest, m', rfl, rfl, _, hba, hl, hm, hlen, hel, _, _⟩
      · exact ⟨[.arr ks'.length 0 (fun _ => aggOf [])], .single (.sl ks' 0 (fun _ => []) (Nat.zero_le _) (fun i hi => absurd hi (by omega)) (fun i j y k hi => absurd hi (by omega))) (.arr _ 0 _ none 0 (fun _ _ => undef) (Nat.le_refl _) (fun h => absurd h (by omega)) (fun i hi => absurd hi (by omega)) (fun i hi => absurd hi (by omega)) (fun a ha => by cases ha) (fun i j y hi => absurd hi (by omega)))⟩
      · have hall : ∀ i, ∃ p : List AV × List Value, i < len → w.cells? base (a.add (i * P.cellsOf e)) (P.cellsOf e) = some p.2 ∧ FitL w ks' p.1 p.2 := fun i => by
          by_cases hi : i < len
          · have h1 := hel i hi
            rw [List.getElem?_eq_getElem (by omega), Option.bind_eq_some_iff] at h1
            obtain ⟨c1, h2, h3⟩ := h1
            obtain ⟨l, h4⟩ := open_kinds n m' e ks' c1 _ hk h3
            exact ⟨(l, c1), fun _ => ⟨h2, h4⟩⟩
          · exact ⟨([], []), fun h => absurd h hi⟩
        obtain ⟨p, hp⟩ := Classical.axiomOfChoice hall
        refine ⟨[.arr ks'.length len (fun i => aggOf (p i).1)], .single (.sl ks' len (fun i => (p i).1) (by omega) (fun i hi => (hp i hi).2.len) (fun i j y k hi => (hp i hi).2.fit j y k)) ?_⟩
        have hc : ∀ i, i < len → cellsOf (aggOf (p i).1) = (p i).1 := fun i hi => cells_agg (hp i hi).2.one
        refine .arr _ len _ (some a) cap (fun i j => (p i).2.getD j undef) hl (fun _ => ⟨a, rfl⟩) (fun i hi => by rw [hc i hi]; exact (hp i hi).2.len) (fun i hi => by rw [hc i hi]; exact List.all_eq_true.2 (hp i hi).2.one) (fun b hb' i j hi hj => ?_) (fun i j y hi hy => ?_)
        · cases hb'
          have h5 := (World.cells?_some (hp i hi).1)
          have h6 := h5.2.2 j (by omega)
          have hj2 : j < (p i).2.length := by rw [(hp i hi).2.clen]; exact hj
          show w.cell? _ = _
          rw [List.getD_eq_getElem?_getD, List.getElem?_eq_getElem hj2, Option.getD_some]
          rw [List.getElem?_eq_getElem hj2] at h6
          rw [← h6, hb]; show w.cell? _ = w.cell? _; rw [addr_add]
        · rw [hc i hi] at hy
          have hj : j < (p i).1.length := (List.getElem?_eq_some_iff.1 hy).1
          have hj2 : j < (p i).2.length := by rw [(hp i hi).2.clen, ← (hp i hi).2.len]; exact hj
          rw [List.getD_eq_getElem?_getD, List.getElem?_eq_getElem hj2, Option.getD_some]
          exact (hp i hi).2.rep j y _ hy (List.getElem?_eq_getElem hj2)
    · rename_i fs ht
      split at h
      case h_2 => cases h
      rename_i ks' hk
      split at h
      case h_2 => cases h
      rename_i hb
      cases h
      have hb := Nat.eq_of_beq_eq_true hb
      obtain ⟨xs, m', rfl, _, hlen, hxl, hf⟩ := DataW.trod_struct ht hx
      obtain ⟨l, hl⟩ := open_fields (fun t ks cs x => open_kinds n m' t ks cs x) (cs := cs) fs.toList 0 ks hk fun f hfm => by
        obtain ⟨i, hi, rfl⟩ := List.getElem_of_mem hfm
        have := hf i fs[i] (by simp at hi; simp [hi])
        rw [List.getElem?_eq_getElem (by simp at hi; omega)] at this
        exact ⟨_, by simpa using this⟩
      refine ⟨l, ?_⟩
      rw [List.drop_zero, List.take_of_length_le (by omega)] at hl
      exact hl
    · cases h
end
end Go.Ab
namespace Go.Ab
open Go
abbrev FitAll (ks : List LK) (L : List AV) : Prop := L.length = ks.length ∧ ∀ (j : Nat) (y : AV) (k : LK), L[j]? = some y → ks[j]? = some k → Fit k y
abbrev DecQ {α : Type} (ks : List LK) (enc : α → AV) (Q : α → Prop) : Prop := ∀ L : List AV, FitAll ks L → ∃ x, LeL L (cellsOf (enc x)) ∧ (cellsOf (enc x)).all AV.one = true ∧ Q x
theorem Fit.inv_int {y : AV} (h : Fit (.int .i64) y) : ∃ n : Int, y = eI n ∧ (Lit.int .i64 n).wf = true := by cases h with | int k n hn => exact ⟨n, rfl, hn⟩
theorem Fit.inv_sl {α : Type} [Inhabited α] {ks : List LK} {y : AV} {enc : α → AV} {Q : α → Prop} (hd : DecQ ks enc Q) (h : Fit (.sl ks) y) :
    ∃ l : List α, Le y (arrOf ks.length enc l) ∧ l.length ≤ maxLen ∧ ∀ x ∈ l, Q x := by
  cases h with
  | sl ks n L hn hl hf =>
    have h1 : ∀ i, ∃ x, i < n → LeL (L i) (cellsOf (enc x)) ∧ (cellsOf (enc x)).all AV.one = true ∧ Q x := fun i => by
      by_cases hi : i < n
      · obtain ⟨x, hx⟩ := hd (L i) ⟨hl i hi, fun j y k => hf i j y k hi⟩
        exact ⟨x, fun _ => hx⟩
      · exact ⟨default, fun h => absurd h hi⟩
    obtain ⟨g, hg⟩ := Classical.axiomOfChoice h1
    have hlen : ((List.range n).map g).length = n := by rw [List.length_map, List.length_range]
    refine ⟨(List.range n).map g, ?_, by rw [hlen]; exact hn, fun x hx => ?_⟩
    · unfold arrOf
      rw [hlen]
      refine Le.arr fun i hi => ?_
      have e : ((List.range n).map g).getD i default = g i := by
        rw [List.getD_eq_getElem?_getD, List.getElem?_map, List.getElem?_range hi]; rfl
      have one : ∀ v ∈ L i, v.one = true := fun v hv => by
        obtain ⟨j, hj, rfl⟩ := List.getElem_of_mem hv
        exact (hf i j _ (ks[j]'(by rw [← hl i hi]; exact hj)) hi (List.getElem?_eq_getElem hj) (List.getElem?_eq_getElem (by rw [← hl i hi]; exact hj))).one
      rw [e, cells_agg one]
      exact ⟨(hg i hi).1, (hg i hi).2.1⟩
    · obtain ⟨i, hi, rfl⟩ := List.mem_map.1 hx
      exact (hg i (List.mem_range.1 hi)).2.2
theorem FitL.slice {α : Type} [Inhabited α] {w : World} {ks : List LK} {l : List AV} {c : Value} {enc : α → AV} {Q : α → Prop} (hd : DecQ ks enc Q) (h : FitL w [.sl ks] l [c]) :
    ∃ x : List α, RepW w st0 (arrOf ks.length enc x) c ∧ x.length ≤ maxLen ∧ ∀ y ∈ x, Q y := by
  obtain ⟨y, rfl⟩ := List.length_eq_one_iff.1 h.len
  obtain ⟨x, h1, h2, h3⟩ := (h.fit 0 y (.sl ks) rfl rfl).inv_sl hd
  exact ⟨x, h1 _ _ _ (h.rep 0 y c rfl rfl), h2, h3⟩
theorem fit1' {k0 : LK} {L : List AV} (h : FitAll [k0] L) : ∃ x0, L = [x0] ∧ Fit k0 x0 := by
  obtain ⟨h1, h2⟩ := h
  match L, h1 with
  | [x0], _ => exact ⟨x0, rfl, h2 0 _ _ rfl rfl⟩
abbrev QT {α : Type} (_ : α) : Prop := True
abbrev kInt : List LK := [.int .i64]
theorem decInt : DecQ kInt eI QT := fun L h => by
  obtain ⟨a, rfl, ha⟩ := fit1' h
  obtain ⟨a, rfl, _⟩ := ha.inv_int
  exact ⟨a, LeL.refl _, rfl, trivial⟩
end Go.Ab
namespace Go.Ab
open Go
theorem an {a b : Bool} (h : a = true) (k : b = true) : (a && b) = true := by rw [h, k]; rfl
def kindsFit (P : Program) (fn : Func) (c : OpenClaim) : Bool := (c.kinds == (if c.domain.isEmpty then [] else fn.params.toList.map fun t => match P.underlying t with | some (.int k) => some k | _ => none))
theorem joined_of {P : Program} {f : FuncId} {fn : Func} {s : ChangeSpec} {c : OpenClaim} (h1 : (c.wf (OpenSpec.ofChange s)) = true) (h2 : (laidOutB P) = true) (h3 : (mapsRowed P) = true) (h4 : (fn.params.all (P.readableRec ·)) = true) (h5 : (namedTie P c.named s.vars) = true) (h6 : (c.stops == []) = true) (h7 : (P.stops == []) = true) (h8 : (c.knobs == []) = true) (h9 : (P.stopKnobs == []) = true) (h10 : (c.inPlace == P.inPlace f) = true) (h11 : (c.unfollowed == P.unfollowed f) = true) (h12 : (c.recurses == P.recurses f) = true) (h13 : (c.named == P.varsNamed f) = true) (h14 : (c.maps == (fn.params.toList ++ s.plain.varTypes P).any (P.mapsRec ·)) = true) (h15 : (c.ifaces == (fn.params.toList ++ s.plain.varTypes P).any (P.ifacesRec ·)) = true) (h16 : (c.mapsOut == P.mapsAmong fn.resultTypes.toList) = true) (h17 : (c.loops == (fn.params.toList ++ s.plain.varTypes P).any (P.loopsFrom ·)) = true) (h18 : (c.wideKeys == (fn.params.toList ++ s.plain.varTypes P ++ fn.resultTypes.toList).any (P.wideKeysFrom ·)) = true) (h19 : (s.vars.all (P.varReadable ·)) = true) (h20 : (fn.resultTypes.all (fun t => P.readableRec t && decide (t < P.types.size))) = true) (h21 : (c.ifacesOut == fn.resultTypes.toList.any (P.ifacesRec ·)) = true) (h22 : (c.loopsOut == fn.resultTypes.toList.any (P.loopsFrom ·)) = true) (h23 : (c.plainKeys == P.plainKeys) = true) (h24 : c.shortTexts.isNone = true) (h25 : P.stopsHeard = true) (h26 : P.mayEnter = true) (h27 : (c.lifted == P.liftsFinal) = true) (h28 : (P.make == some c.make) = true) (h29 : kindsFit P fn c = true) (h30 : (c.pinned == c.pinnedBy) = true) (h31 : (c.veiled == (fn.params.toList ++ s.plain.varTypes P ++ fn.resultTypes.toList).any (P.veiledRec ·)) = true) (h32 : (c.veiledFits P fn.params.toList (fn.params.toList ++ s.plain.varTypes P ++ fn.resultTypes.toList)) = true) : joinedFacts P f fn s c = true := an (an (an (an (an (an (an (an (an (an (an (an (an (an (an (an (an (an (an (an (an (an (an (an (an (an (an (an (an (an (an (h1) h2) h3) h4) h5) h6) h7) h8) h9) h10) h11) h12) h13) h14) h15) h16) h17) h18) h19) h20) h21) h22) h23) h24) h25) h26) h27) h28) h29) h30) h31) h32
end Go.Ab
namespace Go.Proofs.YtfajkgonocpddaaGreat.closed
open Go
theorem p2 : (laidOutB Tryz.prog) = true := by kernel_rfl
theorem p3 : (mapsRowed Tryz.prog) = true := by kernel_rfl
theorem p7 : (Tryz.prog.stops == []) = true := by kernel_rfl
theorem p9 : (Tryz.prog.stopKnobs == []) = true := by kernel_rfl
theorem p25 : (Tryz.prog.stopsHeard) = true := by kernel_rfl
theorem p26 : (Tryz.prog.mayEnter) = true := by kernel_rfl
end Go.Proofs.YtfajkgonocpddaaGreat.closed
