/- Part 24 of the proof: contracts of the functions that the law reaches -/
import Derived.Test.YtfajkgonocpddaaGreatQn23
import Derived.ChangeSlices
import Derived.ChangeArms
set_option maxRecDepth 100000
set_option linter.unusedVariables false
set_option linter.unusedSimpArgs false
namespace Go.Proofs.YtfajkgonocpddaaGreat
open Go Go.Ab
attribute [local irreducible] upd del
theorem takeR_pre (used : List Bool) (l : List QE) : ∃ pre, l = pre ++ (takeR used l).2 ∧ ∀ e ∈ pre, used.getD e.2.toNat default = true ∨ (takeR used l).1 = some e.2 := by
  induction l with
  | nil => exact ⟨[], rfl, fun e h => by cases h⟩
  | cons e l ih =>
    by_cases hu : used.getD e.2.toNat default = true
    · have ht : takeR used (e :: l) = takeR used l := by
        show (if used.getD e.2.toNat default = true then takeR used l else (some e.2, l)) = _
        rw [if_pos hu]
      obtain ⟨pre, h1, h2⟩ := ih
      rw [ht]
      exact ⟨e :: pre, by rw [List.cons_append, ← h1], fun x hx => by
        rcases List.mem_cons.1 hx with rfl | hx
        · exact .inl hu
        · exact h2 x hx⟩
    · have ht : takeR used (e :: l) = (some e.2, l) := by
        show (if used.getD e.2.toNat default = true then takeR used l else (some e.2, l)) = _
        rw [if_neg hu]
      rw [ht]
      exact ⟨[e], rfl, fun x hx => by rw [List.mem_singleton] at hx; subst hx; exact .inr rfl⟩
def PreOk (E : Nat → List QE) (n : Nat) (s : MSt) : Prop := ∀ k, k < n → ∃ pre, E k = pre ++ s.es k ∧ ∀ e ∈ pre, s.used.getD e.2.toNat default = true
theorem set_true {used : List Bool} {i : Nat} (hi : i < used.length) (j : Nat) : (used.set i true).getD j default = if j = i then true else used.getD j default := by
  simp only [List.getD_eq_getElem?_getD, List.getElem?_set]
  by_cases h : j = i
  · subst h; simp [hi]
  · rw [if_neg (fun e => h e.symm), if_neg h]
theorem PreOk.take {E : Nat → List QE} {us : List AUnit} {n : Nat} {s s' : MSt} (h : PreOk E n s) (hok : MOk us n s) {k : Nat} (hk : k < n) (ht : takeF k s = some s') : PreOk E n s' := by
  obtain ⟨pre0, p1, p2⟩ := takeR_pre s.used (s.es k)
  obtain ⟨_, t2, _, _⟩ := takeR_spec s.used (s.es k)
  unfold takeF at ht
  split at ht
  · cases ht
  · rename_i i hi
    cases ht
    obtain ⟨e0, he0, rfl, _⟩ := t2 i hi
    have hlt : e0.2.toNat < s.used.length := by rw [hok.len]; exact (hok.rng k hk e0 he0).2
    intro j hj
    obtain ⟨pre, h1, h2⟩ := h j hj
    have hmono : ∀ e : QE, s.used.getD e.2.toNat default = true → (s.used.set e0.2.toNat true).getD e.2.toNat default = true := fun e he => by
      rw [set_true hlt]; split
      · rfl
      · exact he
    by_cases ej : j = k
    · subst ej
      refine ⟨pre ++ pre0, ?_, fun e he => ?_⟩
      · show E j = _ ++ fupd s.es j _ j
        rw [fupd_same, List.append_assoc, ← p1]; exact h1
      · rcases List.mem_append.1 he with he | he
        · exact hmono e (h2 e he)
        · rcases p2 e he with he | he
          · exact hmono e he
          · rw [hi] at he
            have he := Option.some.inj he
            show (s.used.set _ true).getD _ default = true
            rw [set_true hlt, if_pos (by rw [he])]
    · refine ⟨pre, ?_, fun e he => hmono e (h2 e he)⟩
      show E j = _ ++ fupd s.es k _ j
      rw [fupd_ne ej]; exact h1
theorem PreOk.takes {E : Nat → List QE} {us : List AUnit} {n : Nat} {s : MSt} (h : PreOk E n s) (hok : MOk us n s) {k : Nat} (hk : k < n) : ∀ {c : Nat} {s' : MSt}, takesF k c s = some s' → PreOk E n s'
  | 0, s', e => by cases e; exact h
  | c + 1, s', e => by
    unfold takesF at e
    obtain ⟨s1, h1, h2⟩ := Option.bind_eq_some_iff.1 e
    exact (PreOk.takes h hok hk h1).take (hok.takes hk h1) hk h2
theorem PreOk.parts {E : Nat → List QE} {us : List AUnit} {p : Promo} {s : MSt} (h : PreOk E p.parts.length s) (hok : MOk us p.parts.length s) : ∀ {k : Nat} {s' : MSt}, k ≤ p.parts.length → partsF p.parts k s = some s' → PreOk E p.parts.length s'
  | 0, s', _, e => by cases e; exact h
  | k + 1, s', hk, e => by
    unfold partsF at e
    obtain ⟨s1, h1, h2⟩ := Option.bind_eq_some_iff.1 e
    exact (PreOk.parts h hok (by omega) h1).takes (MOk.parts hok (by omega) h1) (by omega) h2
abbrev RL (ls : List Int) (svl : AV) : St → St → Prop := fun s t => ROut Sup 2 1 (fun k => eI (gI ls k)) ls.length s svl t
abbrev RA (all ls : List Int) (sva svl : AV) : St → St → Prop := fun s t => ROut (RL ls svl) 3 1 (fun k => eI (gI all k)) all.length s sva t
theorem besideL (ls : List Int) (svl : AV) : Beside (RL ls svl) := besideOut besideSup _ _ _ _ _
theorem RA.start (s : St) : RA [] [] .emp .emp s s := ROut.start (ROut.start (Sup.refl s) _ _ _) _ _ _
theorem RA.shift {all ls : List Int} {sva svl : AV} {s t : St} (h : RA all ls sva svl s t) (a b : AV) : ∃ t2, Shift [a, sva, svl, b] t [a, eInts all, eInts ls, b] t2 ∧ Sup s t2 := by
  obtain ⟨t1, h1, h2⟩ := ROut.shift (besideL ls svl) h
  obtain ⟨t2, h3, h4⟩ := ROut.shift besideSup h2
  exact ⟨t2, Shift.cons (Shift.keep _ _) (Shift.cons h1 (Shift.cons h3 (Shift.keep _ _))), h4⟩
theorem takeOff_app {us : List AUnit} {l offs l' offs' : List Int} (h : l.length = offs.length) : ∀ k, k ≤ offs'.length → k ≤ l'.length → takeOff us (l ++ l') (offs ++ offs') (offs.length + k) = takeOff (takeOff us l offs offs.length) l' offs' k
  | 0, _, _ => by
    rw [Nat.add_zero]
    have : ∀ n, n ≤ offs.length → takeOff us (l ++ l') (offs ++ offs') n = takeOff us l offs n := fun n => by
      induction n with
      | zero => intro _; rfl
      | succ n ih =>
        intro hn
        unfold takeOff
        rw [ih (by omega), gI_append (by omega), gI_append (by omega)]
    exact this _ (Nat.le_refl _)
  | k + 1, h1, h2 => by
    have ih := takeOff_app (us := us) (l' := l') (offs' := offs') h k (by omega) (by omega)
    have e : ∀ (a b : List Int), a.length = offs.length → gI (a ++ b) (offs.length + k) = gI b k := fun a b ha => by
      unfold gI
      rw [List.getD_eq_getElem?_getD, List.getD_eq_getElem?_getD, List.getElem?_append_right (by omega), ha, Nat.add_sub_cancel_left]
    rw [← Nat.add_assoc]
    unfold takeOff
    rw [ih, e l l' h, e offs offs' rfl]
structure RInv (p : Promo) (us : List AUnit) (E : Nat → List QE) (D : Nat) (b : BSt) (ls : List Int) : Prop where
  ok : BOk p us D b
  pre : PreOk E p.parts.length ⟨b.ms.used, b.ms.es, []⟩
  len : ls.length = b.taken.length
  out : b.out = takeOff us b.taken ls ls.length
  sum : sumI ls = b.all
  pos : b.taken = [] ∨ 0 < b.all
  bnd : ∀ k, k < ls.length → 0 ≤ gI ls k ∧ gI ls k ≤ (gU us (gI b.taken k).toNat).net
  nd : (b.taken.map Int.toNat).Nodup
  used : ∀ x ∈ b.taken, b.ms.used.getD x.toNat default = true
theorem RInv.step {p : Promo} (hp : BunOk p) {us : List AUnit} (hu : UnitsOk us) {E : Nat → List QE} {D : Nat} {b : BSt} {ls : List Int} (h : RInv p us E D b ls) {s : MSt} (hs : partsF p.parts p.parts.length ⟨b.ms.used, b.ms.es, []⟩ = some s) (hc : costL us s.l > p.amount) :
    netsAt us (sortI s.l) = weighF b.out (sortI s.l) ∧ RInv p us E D ⟨lessF b.out (sortI s.l) (costL us s.l - p.amount), s, b.taken ++ sortI s.l, b.all + (costL us s.l - p.amount)⟩ (ls ++ largestB (costL us s.l - p.amount) (netsAt us (sortI s.l))) := by
  obtain ⟨k1, k2, k3⟩ := h.ok.step hp hu hs hc
  have hok0 : MOk us p.parts.length ⟨b.ms.used, b.ms.es, []⟩ := ⟨h.ok.ok.len, h.ok.ok.rng, h.ok.ok.srt, fun x hx => by simp at hx⟩
  have hok := MOk.parts hok0 (Nat.le_refl _) hs
  have htr := MTrack.parts (MTrack.start b.ms.used b.ms.es) hok0 (Nat.le_refl _) hs
  have hpre := h.pre.parts hok0 (Nat.le_refl _) hs
  have hN : netsAt us (sortI s.l) = weighF b.out (sortI s.l) := by
    unfold netsAt weighF
    exact List.map_congr_left fun x hx => by rw [h.ok.same _ (htr.free x (sortI_mem.1 hx))]
  have hW := k1.weights
  rw [← hN] at hW
  obtain ⟨a1, a2, a3⟩ := largest_sum hW
  have hle := fun {k} (hk : k < (netsAt us (sortI s.l)).length) => largest_le hW (by have := k1.le; rw [← hN] at this; exact this) hk
  have hnl := netsAt_len us (sortI s.l)
  have hlf : lessF b.out (sortI s.l) (costL us s.l - p.amount) = takeOff b.out (sortI s.l) (largestB (costL us s.l - p.amount) (netsAt us (sortI s.l))) (largestB (costL us s.l - p.amount) (netsAt us (sortI s.l))).length := by
    unfold lessF; rw [← hN, a2, hnl]
  have hlen := h.len
  generalize largestB (costL us s.l - p.amount) (netsAt us (sortI s.l)) = X at *
  refine ⟨hN, ⟨k2, hpre, ?_, ?_, ?_, ?_, ?_, ?_, ?_⟩⟩
  · show (ls ++ X).length = (b.taken ++ sortI s.l).length
    rw [List.length_append, List.length_append]; omega
  · show lessF _ _ _ = takeOff us (b.taken ++ sortI s.l) (ls ++ X) (ls ++ X).length
    rw [hlf, h.out, List.length_append, takeOff_app h.len.symm X.length (Nat.le_refl _) (by omega)]
  · show sumI (ls ++ X) = _
    rw [sumI_append, h.sum, a1]
  · refine .inr ?_
    show 0 < b.all + (costL us s.l - p.amount)
    have := h.ok.off.pos
    omega
  · intro k hk
    show 0 ≤ gI (ls ++ X) k ∧ gI (ls ++ X) k ≤ (gU us (gI (b.taken ++ sortI s.l) k).toNat).net
    by_cases hkl : k < ls.length
    · rw [gI_append hkl, gI_append (by omega)]; exact h.bnd k hkl
    · have e : ∀ (a b : List Int), a.length = ls.length → gI (a ++ b) k = gI b (k - ls.length) := fun a b ha => by
        unfold gI
        rw [List.getD_eq_getElem?_getD, List.getD_eq_getElem?_getD, List.getElem?_append_right (by omega), ha]
      rw [List.length_append] at hk
      rw [e ls X rfl, e b.taken _ hlen.symm]
      refine ⟨a3 _ (getD_mem (by omega)), ?_⟩
      have h9 := hle (k := k - ls.length) (by omega)
      rw [show gI (netsAt us (sortI s.l)) (k - ls.length) = (gU us (gI (sortI s.l) (k - ls.length)).toNat).net from getD_map (fun i : Int => (gU us i.toNat).net) _ (by omega)] at h9
      exact h9
  · show ((b.taken ++ sortI s.l).map Int.toNat).Nodup
    rw [List.map_append]
    refine List.nodup_append.2 ⟨h.nd, ((sortI_perm s.l).map Int.toNat).nodup_iff.2 htr.nd, fun x hx y hy e => ?_⟩
    subst e
    obtain ⟨u, hu1, rfl⟩ := List.mem_map.1 hx
    obtain ⟨w, hw1, hw2⟩ := List.mem_map.1 hy
    have f1 := h.used u hu1
    have f2 := htr.free w (sortI_mem.1 hw1)
    rw [hw2, f1] at f2; cases f2
  · intro x hx
    show s.used.getD x.toNat default = true
    rw [htr.used]
    rcases List.mem_append.1 hx with hx | hx
    · exact .inl (h.used x hx)
    · exact .inr (List.mem_map_of_mem (sortI_mem.1 hx))
structure PromosOk (l : List Promo) : Prop where
  few : l.length ≤ 60
  right : ∀ p ∈ l, promoC p = true
  ids : ∀ i j, i < j → j < l.length → ((l.getD i default).id.toList == (l.getD j default).id.toList) = false
theorem promosOk {l : List Promo} (h : promosC l = true) : PromosOk l := by
  unfold promosC allAt at h
  simp only [Bool.and_eq_true, decide_eq_true_eq, List.all_eq_true, List.mem_range] at h
  obtain ⟨h1, h2⟩ := h
  refine ⟨by omega, fun p hp => ?_, fun i j hij hj => ?_⟩
  · obtain ⟨k, hk, rfl⟩ := mem_getD hp
    have := h2 k hk
    unfold promoAt at this
    rw [Bool.and_eq_true] at this; exact this.1
  · have := h2 j hj
    unfold promoAt at this
    rw [Bool.and_eq_true, Bool.not_eq_true', List.any_eq_false] at this
    have h3 := this.2 (l.getD i default) (by
      have : (l.take j).getD i default = l.getD i default := by rw [List.getD_eq_getElem?_getD, List.getD_eq_getElem?_getD, List.getElem?_take_of_lt hij]
      rw [← this]
      exact getD_mem (by rw [List.length_take]; omega))
    simpa using h3
structure RulesSm (r : Rules) : Prop where
  n : Sm r.items.length
  items : ∀ x ∈ r.items, Sm x.sku.size ∧ Sm x.cat.size
  promos : ∀ p ∈ r.promos, PromoSm p
  tax : TaxSm r.tax
  order : Sm r.policy.order.length
  credit : Sm r.policy.credit.length
def ordB (l : List Promo) (codes : List Str) : List Int := (places l codes l.length).mergeSort fun x y => !aheadB (prAt l y) (prAt l x)
theorem ordB_perm (l : List Promo) (codes : List Str) : (ordB l codes).Perm (places l codes l.length) := List.mergeSort_perm ..
theorem ordB_ord (l : List Promo) (codes : List Str) : (ordB l codes).Pairwise (PrOrd l) := by
  have := List.pairwise_mergeSort (le := fun x y : Int => !aheadB (prAt l y) (prAt l x)) (fun a b c h1 h2 => by simp only [Bool.not_eq_true'] at *; exact nahead_trans h1 h2) (fun a b => by
    cases h : aheadB (prAt l b) (prAt l a) with
    | false => rfl
    | true => rw [ahead_asymm h]; rfl) (places l codes l.length)
  exact this.imp (fun h => by simpa [PrOrd] using h)
theorem prOrd_anti {l : List Promo} (ok : PromosOk l) {x y : Int} (hx : 0 ≤ x ∧ x.toNat < l.length) (hy : 0 ≤ y ∧ y.toNat < l.length) (h1 : PrOrd l x y) (h2 : PrOrd l y x) : x = y := by
  unfold PrOrd at h1 h2
  rw [← Bool.not_eq_true, aheadB_iff] at h1 h2
  have e : (prAt l x).prio = (prAt l y).prio := by
    have a : ¬ (prAt l y).prio > (prAt l x).prio := fun h => h1 (.inl h)
    have b : ¬ (prAt l x).prio > (prAt l y).prio := fun h => h2 (.inl h)
    omega
  have a : slt (prAt l y).id (prAt l x).id = false := by rw [← Bool.not_eq_true]; exact fun h => h1 (.inr ⟨e.symm, h⟩)
  have b : slt (prAt l x).id (prAt l y).id = false := by rw [← Bool.not_eq_true]; exact fun h => h2 (.inr ⟨e, h⟩)
  have c := slt_tri a b
  rcases Nat.lt_trichotomy x.toNat y.toNat with h | h | h
  · have := ok.ids _ _ h hy.2
    rw [beq_eq_false_iff_ne] at this
    exact absurd c.symm this
  · omega
  · have := ok.ids _ _ h hx.2
    rw [beq_eq_false_iff_ne] at this
    exact absurd c this
theorem ordB_one {l : List Promo} (hC : promosC l = true) {codes : List Str} {o : List Int} (h1 : o.Perm (places l codes l.length)) (h2 : o.Pairwise (PrOrd l)) : o = ordB l codes := by
  refine (h1.trans (ordB_perm l codes).symm).eq_of_pairwise (le := PrOrd l) (fun a b ha hb h3 h4 => ?_) h2 (ordB_ord l codes)
  exact prOrd_anti (promosOk hC) (places_lt (h1.mem_iff.1 ha)) (places_lt ((ordB_perm l codes).mem_iff.1 hb)) h3 h4
theorem resO_one {l : List Promo} (hC : promosC l = true) {codes : List Str} {o : List Int} (ho : OrdP l codes o) : resO l o = ordB l codes := by
  refine ordB_one hC ((resO_perm l o).trans ho.1) ?_
  refine List.Pairwise.map _ (fun a b h => h) (R := fun a b : QE => PrOrd l (gI o a.2.toNat) (gI o b.2.toNat)) ?_
  refine (ranked_sorted l o).imp_of_mem fun {a b} ha hb h => ?_
  have h1 := ranked_mem ha
  have h2 := ranked_mem hb
  obtain ⟨i, hi, rfl⟩ := List.mem_map.1 ((ranked_perm l o).mem_iff.1 ha)
  obtain ⟨j, hj, rfl⟩ := List.mem_map.1 ((ranked_perm l o).mem_iff.1 hb)
  rw [prior_no] at h
  simp only [rankE, Int.toNat_natCast] at h h1 h2 ⊢
  unfold PrOrd
  rw [← Bool.not_eq_true, aheadB_iff]
  rintro (h3 | ⟨h3, h4⟩)
  · exact h (.inl h3)
  · rcases Nat.lt_trichotomy i j with e | e | e
    · have := ho.2 i j (Nat.zero_le _) e h2.2
      unfold idLt at this
      rw [this] at h4; cases h4
    · subst e; rw [slt_irrefl] at h4; cases h4
    · exact h (.inr ⟨h3, by omega⟩)
end Go.Proofs.YtfajkgonocpddaaGreat
namespace Go.Proofs.YtfajkgonocpddaaGreat
open Go Go.Ab
theorem playPromoK_sm (p : Promo) (id K : Int) : PromoSm (playPromoK p id K) := by
  have hs := (playScope_ok p.scope).2
  have hp := playParts_ok p.parts
  have ht5 := (playTiers_ok p.tiers 5000 (.inl rfl)).2
  have ht6 := (playTiers_ok p.tiers 5 (.inr rfl)).2
  refine ⟨?_, ?_, ?_, ?_, ?_, ?_, ?_⟩
  · have := nameB_size (id_nameB id); show (idN id).size ≤ _; omega
  · have := (group_named p).2; show (playGroup p).size ≤ _; omega
  · have := (code_named p).2; show (playCode p).size ≤ _; omega
  · show ScopeSm (if K = 4 ∨ K = 7 then ⟨[], []⟩ else playScope p.scope)
    split
    · exact empty_ok.2
    · exact hs
  · show (if K = 4 then playParts p.parts else []).length ≤ _
    split
    · omega
    · exact Nat.zero_le _
  · show ∀ x ∈ (if K = 4 then playParts p.parts else []), _
    split
    · exact fun x hx => (hp.2 x hx).2
    · exact fun x hx => absurd hx List.not_mem_nil
  · show (if K = 5 then playTiers p.tiers 5000 else if K = 6 then playTiers p.tiers 5 else []).length ≤ _
    split
    · omega
    · split
      · omega
      · exact Nat.zero_le _
theorem playZone_sm (l : List Zone) (k : Nat) (hk : k < 3) : ZoneSm (playZone l k) := by
  have hn := List.all_eq_true.1 zone_names k (List.mem_range.2 hk)
  have hz := nameB_size hn
  unfold playZone
  split
  · obtain ⟨h1, h2, h3⟩ := playRates_ok (l.getD k default).rates
    generalize playRates (l.getD k default).rates = R at h1 h2 h3 ⊢
    exact ⟨by show R.length ≤ _; omega, by show (zoneN k).size ≤ _; omega, fun x hx => by have := (h2 x hx).2; show x.cat.size ≤ _; omega⟩
  · exact ⟨by show 0 ≤ _; decide, by show (zoneN k).size ≤ _; omega, fun x hx => absurd hx List.not_mem_nil⟩
theorem playTax_sm (t : Tax) : TaxSm (playTax t) := by
  refine ⟨by show ((List.range 3).map _).length ≤ _; rw [List.length_map, List.length_range]; decide, fun z hz => ?_⟩
  obtain ⟨k, hk, rfl⟩ := List.mem_map.1 hz
  exact playZone_sm _ k (List.mem_range.1 hk)
theorem playRules_sm (r : Rules) : RulesSm (playRules r) := by
  have h0 := playItems_len r.items
  have h2 := (playKinds_ok r.policy.order).2
  have h3 := (playKinds_ok r.policy.credit).2
  refine ⟨by show (playItems r.items).length ≤ _; omega, fun x hx => ?_, fun p hp => ?_, playTax_sm r.tax, by show (playKinds r.policy.order).length ≤ _; omega, by show (playKinds r.policy.credit).length ≤ _; omega⟩
  · have := playItems_mem hx
    exact ⟨by have := this.2.1; show x.sku.size ≤ _; omega, by have := this.2.2; show x.cat.size ≤ _; omega⟩
  · obtain ⟨q, id, K, _, rfl⟩ := playPromos_mem hp
    exact playPromoK_sm q id K
end Go.Proofs.YtfajkgonocpddaaGreat
namespace Go.Proofs.YtfajkgonocpddaaGreat
open Go Go.Ab
attribute [local irreducible] upd del
theorem ROut.own {R : St → St → Prop} {ty e n : Nat} {fo : Nat → AV} {s t : St} {sv : AV} (h : ROut R ty e fo (n + 1) s sv t) : ∃ b, sv = .own e b 0 (n + 1) := by
  obtain ⟨s0, ⟨h1, _⟩ | ⟨_, b, _, _, h1, _⟩, h2⟩ := h
  · cases h1
  · exact ⟨b, h1⟩
theorem RD.wr {dl : List Deal} {gr : List Str} {dv gv : AV} {s t : St} {b : Nat} {y y' : Blk} (h : RD dl gr dv gv s t) (hb : s b = some y) : RD dl gr dv gv (upd s b y') (upd t b y') := (besideD dl gr dv gv).write h hb
theorem RD.sup {dl : List Deal} {gr : List Str} {dv gv : AV} {s t : St} (h : RD dl gr dv gv s t) : Sup s t := (besideD dl gr dv gv).sup h
theorem RD.start (s : St) : RD [] [] .emp .emp s s := ROut.start (ROut.start (Sup.refl s) _ _ _) _ _ _
theorem RD.deals {dl : List Deal} {gr : List Str} {dv gv : AV} {s t : St} (h : RD dl gr dv gv s t) : (dl = [] ∧ dv = .emp) ∨ ∃ bd g, dv = .own 2 bd 0 dl.length ∧ s bd = none ∧ t bd = some ⟨70, 2, dl.length, g⟩ ∧ ∀ k, k < dl.length → g k = fDeals dl k := by
  obtain ⟨s0, hc, hg0⟩ := h
  rcases hc with ⟨h0, h1, rfl⟩ | ⟨h0, b, g0, hb, h1, rfl, hgg⟩
  · exact .inl ⟨List.eq_nil_of_length_eq_zero h0, h1⟩
  · exact .inr ⟨b, g0, h1, hb, (besideG _ _).sup hg0 b _ (upd_same ..), hgg⟩
theorem RD.groups {dl : List Deal} {gr : List Str} {dv gv : AV} {s t : St} (h : RD dl gr dv gv s t) : (gv = .emp ∧ gr = []) ∨ ∃ b g, gv = .own 1 b 0 gr.length ∧ t b = some ⟨9, 1, gr.length, g⟩ ∧ ∀ k, k < gr.length → g k = eS (gr.getD k default) := by
  obtain ⟨s0, hc, s1, hc2, hs⟩ := h
  rcases hc2 with ⟨h0, h1, rfl⟩ | ⟨h0, b, g0, hb, h1, rfl, hgg⟩
  · exact .inl ⟨h1, List.eq_nil_of_length_eq_zero h0⟩
  · exact .inr ⟨b, g0, h1, hs b _ (upd_same ..), hgg⟩
def named (l : List Str) : List Str := l.filter fun g => !isNil g
end Go.Proofs.YtfajkgonocpddaaGreat
namespace Go.Proofs.YtfajkgonocpddaaGreat
open Go Go.Ab
abbrev noted (l : List Promo) (xs : List (Int × Int)) : List Deal := xs.map fun a => (⟨(prAt l a.1).id, a.2⟩ : Deal)
abbrev groupsOf (l : List Promo) (xs : List (Int × Int)) : List Str := (xs.map fun a => (prAt l a.1).group).filter fun g => !isNil g
structure Tr (l : List Promo) (p : PSt) (xs : List (Int × Int)) : Prop where
  deals : p.deals = noted l xs
  groups : p.groups = groupsOf l xs
  pos : ∀ a ∈ xs, 1 ≤ a.2
  apart : p.groups.Pairwise fun x y => (y.toList == x.toList) = false
theorem Tr.start (l : List Promo) (us : List AUnit) : Tr l ⟨us, [], []⟩ [] := ⟨rfl, rfl, fun a h => absurd h List.not_mem_nil, .nil⟩
def StepOk {σ : Type} (px : σ → PSt) (step : σ → Promo → σ) (sm : Promo → Bool) (l : List Promo) (Q : σ → Int → Prop) : Prop :=
  ∀ (a : σ) (s : Int) (pr : Promo), pr ∈ l → sm pr = true → Q a s →
    ((px (step a pr)).deals = (px a).deals ∧ (px (step a pr)).groups = (px a).groups ∧ Q (step a pr) s) ∨
    ∃ off, 1 ≤ off ∧ (px (step a pr)).deals = (px a).deals ++ [⟨pr.id, off⟩] ∧ (px (step a pr)).groups = (px a).groups ++ (if isNil pr.group = true then [] else [pr.group]) ∧ Q (step a pr) (s + off)
theorem tr_fold {σ : Type} {px : σ → PSt} {step : σ → Promo → σ} {sm : Promo → Bool} {l : List Promo} {Q : σ → Int → Prop} (hstep : StepOk px step sm l Q) :
    ∀ (f : List Int) (a : σ) (xs : List (Int × Int)) (s : Int), (∀ x ∈ f, x.toNat < l.length ∧ sm (prAt l x) = true) → Tr l (px a) xs → Q a s →
      ∃ ys, Tr l (px (f.foldl (fun a x => goB px step a (prAt l x)) a)) (xs ++ ys) ∧ (ys.map Prod.fst).Sublist f ∧ Q (f.foldl (fun a x => goB px step a (prAt l x)) a) (s + sumI (ys.map Prod.snd)) := by
  intro f
  induction f with
  | nil => intro a xs s _ ht hq; exact ⟨[], by rw [List.append_nil]; exact ht, List.Sublist.slnil, by rw [show s + sumI (([] : List (Int × Int)).map Prod.snd) = s from Int.add_zero s]; exact hq⟩
  | cons x f ih =>
    intro a xs s hm ht hq
    have hm' : ∀ y ∈ f, y.toNat < l.length ∧ sm (prAt l y) = true := fun y hy => hm y (List.mem_cons_of_mem _ hy)
    have hx := hm x (List.mem_cons_self ..)
    have hmem : prAt l x ∈ l := getD_mem hx.1
    rw [List.foldl_cons]
    unfold goB
    by_cases hg : (isNil (prAt l x).group || !inB (px a).groups (prAt l x).group) = true
    · rw [if_pos hg]
      rcases hstep a s (prAt l x) hmem hx.2 hq with ⟨h1, h2, h3⟩ | ⟨off, h0, h1, h2, h3⟩
      · obtain ⟨ys, k1, k2, k3⟩ := ih _ xs s hm' ⟨h1.trans ht.deals, h2.trans ht.groups, ht.pos, by rw [h2]; exact ht.apart⟩ h3
        exact ⟨ys, k1, k2.cons _, k3⟩
      · have ht' : Tr l (px (step a (prAt l x))) (xs ++ [(x, off)]) := by
          refine ⟨?_, ?_, fun b hb => ?_, ?_⟩
          · rw [h1, ht.deals]; unfold noted; rw [List.map_append]; rfl
          · rw [h2, ht.groups]; unfold groupsOf
            rw [List.map_append, List.filter_append]
            congr 1
            cases hn : isNil (prAt l x).group
            · rw [if_neg (by simp)]
              show [(prAt l x).group] = List.filter (fun g => !isNil g) [(prAt l x).group]
              rw [List.filter_cons_of_pos (p := fun g => !isNil g) (by rw [hn]; rfl)]; rfl
            · rw [if_pos rfl]
              show [] = List.filter (fun g => !isNil g) [(prAt l x).group]
              rw [List.filter_cons_of_neg (p := fun g => !isNil g) (by rw [hn]; simp)]; rfl
          · rcases List.mem_append.1 hb with hb | hb
            · exact ht.pos b hb
            · rw [List.mem_singleton.1 hb]; exact h0
          · rw [h2]
            refine List.pairwise_append.2 ⟨ht.apart, ?_, fun y hy z hz => ?_⟩
            · split
              · exact .nil
              · exact List.pairwise_singleton _ _
            · split at hz
              · exact absurd hz List.not_mem_nil
              · rename_i hn
                rw [List.mem_singleton.1 hz]
                rw [Bool.eq_false_iff.2 hn, Bool.false_or, Bool.not_eq_true'] at hg
                unfold inB at hg
                rw [List.any_eq_false] at hg
                exact Bool.eq_false_iff.2 (hg y hy)
        obtain ⟨ys, k1, k2, k3⟩ := ih _ (xs ++ [(x, off)]) (s + off) hm' ht' h3
        refine ⟨(x, off) :: ys, by rw [List.append_assoc] at k1; exact k1, k2.cons_cons x, ?_⟩
        rw [List.map_cons, sumI_cons, ← Int.add_assoc]; exact k3
    · rw [if_neg hg]
      obtain ⟨ys, k1, k2, k3⟩ := ih _ xs s hm' ht hq
      exact ⟨ys, k1, k2.cons _, k3⟩
theorem tr_each {σ : Type} {px : σ → PSt} {step : σ → Promo → σ} {sm : Promo → Bool} {l : List Promo} {Q : σ → Int → Prop} (hstep : StepOk px step sm l Q) {o : List Int} (ho : ∀ x ∈ o, x.toNat < l.length) {a : σ} {xs : List (Int × Int)} {s : Int} (ht : Tr l (px a) xs) (hq : Q a s) :
    ∃ ys, Tr l (px (eachF px step sm l a o)) (xs ++ ys) ∧ (ys.map Prod.fst).Sublist (o.filter fun x => sm (prAt l x)) ∧ Q (eachF px step sm l a o) (s + sumI (ys.map Prod.snd)) :=
  tr_fold hstep _ a xs s (fun x hx => ⟨ho x (List.mem_filter.1 hx).1, (List.mem_filter.1 hx).2⟩) ht hq
theorem ask_step {items : List Ab.Item} {us0 : List AUnit} {l : List Promo} (hf : ∀ p ∈ l, PromoFit p) (hr : ∀ p ∈ l, promoC p = true) : StepOk (fun p : PSt => p) (askB items) notShip l (fun p s => UsOk items p.us ∧ Off us0 p.us s) := by
  intro a s pr hm hs hq
  have hk : pr.kind ≠ 7 := by simpa [notShip] using hs
  unfold askB
  by_cases h : (wayB items a.us pr).2 > 0
  · rw [if_pos h]
    rcases way_off hq.1 (hf _ hm) (hr _ hm) hk with e | e
    · rw [e] at h; exact absurd h (by decide)
    · exact .inr ⟨_, by omega, rfl, rfl, hq.1.off e, hq.2.trans e⟩
  · rw [if_neg h]
    exact .inl ⟨rfl, rfl, hq⟩
theorem ship_step {net fee fee0 : Int} {l : List Promo} (hr : ∀ p ∈ l, promoC p = true) : StepOk (fun a : PSt × Int => a.1) (shipStep net) isShip l (fun a s => 0 ≤ a.2 ∧ a.2 ≤ fee ∧ a.2 + s = fee0) := by
  intro a s pr hm hs hq
  have hk : pr.kind = 7 := by simpa [isShip] using hs
  have h7 := (promoOk (hr _ hm)).ship hk
  have hb := half_bound a.2 pr.rate
  have hle := rate_le hq.1 (show 0 ≤ pr.rate by omega) h7.2
  unfold shipStep shipB
  by_cases h : net < pr.least
  · rw [if_pos h]; exact .inl ⟨rfl, rfl, hq⟩
  · rw [if_neg h]
    by_cases h2 : half a.2 pr.rate > 0
    · rw [if_pos h2]
      exact .inr ⟨half a.2 pr.rate, by omega, rfl, rfl, by show 0 ≤ a.2 - half a.2 pr.rate; omega, by show a.2 - half a.2 pr.rate ≤ _; omega, by show a.2 - half a.2 pr.rate + (s + half a.2 pr.rate) = _; omega⟩
    · rw [if_neg h2]
      exact .inl ⟨rfl, rfl, by show 0 ≤ a.2 - half a.2 pr.rate; omega, by show a.2 - half a.2 pr.rate ≤ _; omega, by show a.2 - half a.2 pr.rate + s = _; omega⟩
theorem lineNet_append (a b : List AUnit) (j : Nat) : lineNet (a ++ b) j = lineNet a j + lineNet b j := by
  unfold lineNet; rw [List.filter_append, List.map_append, sumI_append]
theorem lineNet_rep (l : List Line) (i j n : Nat) : lineNet (List.replicate n (lnU l i)) j = if i = j then n * (l.getD i default).price else 0 := by
  induction n with
  | zero => show (0 : Int) = _; split <;> simp
  | succ n ih =>
    rw [show List.replicate (n + 1) (lnU l i) = [lnU l i] ++ List.replicate n (lnU l i) from rfl, lineNet_append, ih]
    by_cases h : i = j
    · rw [if_pos h, if_pos h]
      have : lineNet [lnU l i] j = (l.getD i default).price := by
        unfold lineNet
        rw [List.filter_cons_of_pos (by show (((i : Int)).toNat == j) = true; rw [Int.toNat_natCast, h]; simp)]
        show sumI [(l.getD i default).price] = _
        rw [sumI_cons]; exact Int.add_zero _
      rw [this, show ((n + 1 : Nat) : Int) * (l.getD i default).price = n * (l.getD i default).price + (l.getD i default).price by rw [Int.natCast_add, Int.add_mul]; simp]
      omega
    · rw [if_neg h, if_neg h]
      have : lineNet [lnU l i] j = 0 := by
        unfold lineNet
        rw [List.filter_cons_of_neg (by show ¬ (((i : Int)).toNat == j) = true; rw [Int.toNat_natCast]; simpa using h)]; rfl
      rw [this]; rfl
theorem lineNet_up (l : List Line) (hl : ∀ x ∈ l, 0 ≤ x.qty) (j k : Nat) (hk : k ≤ l.length) : lineNet (unitsUp l k) j = if j < k then (l.getD j default).qty * (l.getD j default).price else 0 := by
  induction k with
  | zero => rfl
  | succ k ih =>
    show lineNet (unitsUp l k ++ List.replicate (l.getD k default).qty.toNat (lnU l k)) j = _
    rw [lineNet_append, ih (by omega), lineNet_rep]
    have hq := hl _ (getD_mem (show k < l.length by omega))
    by_cases e : k = j
    · subst e
      rw [if_neg (by omega), if_pos rfl, if_pos (by omega), Int.toNat_of_nonneg hq, Int.zero_add]
    · rw [if_neg e]
      by_cases h : j < k
      · rw [if_pos h, if_pos (by omega), Int.add_zero]
      · rw [if_neg h, if_neg (by omega)]; rfl
theorem lineNet_le {us us' : List AUnit} {x : Int} (h : Off us us' x) (j : Nat) : ∀ k, k ≤ us.length → lineNet (us'.take k) j ≤ lineNet (us.take k) j
  | 0, _ => Int.le_refl _
  | k + 1, hk => by
    have ih := lineNet_le h j k (by omega)
    have hl := h.len
    rw [lineNet_next (by omega), lineNet_next (by omega), h.line k]
    have := (h.net k).2
    split <;> omega
theorem sum_pick (f : Nat → Int) (t : Nat) (x : Int) : ∀ n, sumI ((List.range n).map fun j => if t = j then f j + x else f j) = sumI ((List.range n).map f) + if t < n then x else 0
  | 0 => by rw [if_neg (by omega)]; rfl
  | n + 1 => by
    rw [sumI_map_range, sumI_map_range, sum_pick f t x n]
    by_cases e : t = n
    · rw [if_pos e, if_neg (by omega), if_pos (by omega)]; omega
    · rw [if_neg e]
      by_cases h : t < n
      · rw [if_pos h, if_pos (by omega)]; omega
      · rw [if_neg h, if_neg (by omega)]; omega
theorem sumI_zeros : ∀ n, sumI ((List.range n).map fun _ => (0 : Int)) = 0
  | 0 => rfl
  | n + 1 => by rw [sumI_map_range, sumI_zeros n]; rfl
theorem lineNets_sum {us : List AUnit} {n : Nat} (h : ∀ k, k < us.length → (gU us k).line.toNat < n) : ∀ k, k ≤ us.length → sumI ((List.range n).map (lineNet (us.take k))) = sumI (netsOf (us.take k))
  | 0, _ => sumI_zeros n
  | k + 1, hk => by
    have ih := lineNets_sum h k (by omega)
    have e1 : (lineNet (us.take (k + 1))) = fun j => if (gU us k).line.toNat = j then lineNet (us.take k) j + (gU us k).net else lineNet (us.take k) j := funext fun j => lineNet_next (by omega) j
    rw [e1, sum_pick, ih, if_pos (h k (by omega)), take_next (by omega)]
    unfold netsOf
    rw [List.map_append, sumI_append]
    show _ + (gU us k).net = _ + sumI [(gU us k).net]
    rw [sumI_cons]; show _ = _ + ((gU us k).net + 0); omega
structure PriceLaw (r : Rules) (codes : List Str) (l : List Line) (Pr : Priced) (xs ys : List (Int × Int)) : Prop where
  deals : Pr.deals = noted r.promos (xs ++ ys)
  mem : ∀ a ∈ xs ++ ys, (0 ≤ a.1 ∧ a.1.toNat < r.promos.length) ∧ asked codes (prAt r.promos a.1) = true ∧ 1 ≤ a.2
  sx : (xs.map Prod.fst).Sublist (ordB r.promos codes)
  sy : (ys.map Prod.fst).Sublist (ordB r.promos codes)
  kx : ∀ a ∈ xs, (prAt r.promos a.1).kind ≠ 7
  ky : ∀ a ∈ ys, (prAt r.promos a.1).kind = 7
  apart : (groupsOf r.promos (xs ++ ys)).Pairwise fun x y => (y.toList == x.toList) = false
  sum : Pr.net + sumI (xs.map Prod.snd) = grossN l
  len : Pr.nets.length = l.length
  nets : sumI Pr.nets = Pr.net
  each : ∀ i, i < l.length → 0 ≤ gI Pr.nets i ∧ gI Pr.nets i ≤ (l.getD i default).qty * (l.getD i default).price
  ship : 0 ≤ Pr.ship ∧ Pr.ship ≤ r.ship.fee
  shipSum : Pr.ship + sumI (ys.map Prod.snd) = feeB r.ship (usOf l).length Pr.net
theorem places_asked {l : List Promo} {codes : List Str} {i : Nat} {x : Int} (h : x ∈ places l codes i) : asked codes (prAt l x) = true := by
  unfold places at h
  obtain ⟨k, hk, rfl⟩ := List.mem_map.1 h
  exact (List.mem_filter.1 hk).2
theorem price_law {r : Rules} {codes : List Str} {l : List Line} (hf : RulesFit r) (hck : priceCheck r codes l = 0) : ∃ xs ys, PriceLaw r codes l (priceB r l (ordB r.promos codes) (ordB r.promos codes)) xs ys := by
  have ck := checkOk hck
  have hok := ck.lines
  have hu := usOf_ok hok
  obtain ⟨u1, u2, u3⟩ := unitsUp_net l hok.line l.length (Nat.le_refl _)
  rw [List.take_length] at u1 u2
  have hitl : (itemsOf r.items l).length = l.length := List.length_map ..
  have hpl : ∀ x ∈ ordB r.promos codes, (0 ≤ x ∧ x.toNat < r.promos.length) ∧ asked codes (prAt r.promos x) = true := fun x hx => by
    have := (ordB_perm r.promos codes).mem_iff.1 hx
    exact ⟨places_lt this, places_asked this⟩
  have hlt : ∀ x ∈ ordB r.promos codes, x.toNat < r.promos.length := fun x hx => (hpl x hx).1.2
  obtain ⟨xs, a1, a2, a3, a4⟩ := tr_each (ask_step (items := itemsOf r.items l) (us0 := usOf l) hf.fit ck.promo) hlt (a := ⟨usOf l, [], []⟩) (Tr.start r.promos (usOf l)) ⟨hu, Off.refl hu.ok⟩
  rw [List.nil_append] at a1
  rw [Int.zero_add] at a4
  have hfee : 0 ≤ feeB r.ship (usOf l).length (netB (p1B r l (ordB r.promos codes))) ∧ feeB r.ship (usOf l).length (netB (p1B r l (ordB r.promos codes))) ≤ r.ship.fee := by
    unfold feeB; have := ck.fee; split <;> omega
  obtain ⟨ys, b1, b2, b3⟩ := tr_each (ship_step (net := netB (p1B r l (ordB r.promos codes))) (fee := r.ship.fee) (fee0 := feeB r.ship (usOf l).length (netB (p1B r l (ordB r.promos codes)))) ck.promo) hlt (a := (p1B r l (ordB r.promos codes), feeB r.ship (usOf l).length (netB (p1B r l (ordB r.promos codes))))) (s := 0) a1 ⟨hfee.1, hfee.2, Int.add_zero _⟩
  rw [Int.zero_add] at b3
  have a2' : ∀ a ∈ xs, a.1 ∈ ordB r.promos codes ∧ notShip (prAt r.promos a.1) = true := fun a ha => List.mem_filter.1 (a2.subset (List.mem_map.2 ⟨a, ha, rfl⟩))
  have b2' : ∀ a ∈ ys, a.1 ∈ ordB r.promos codes ∧ isShip (prAt r.promos a.1) = true := fun a ha => List.mem_filter.1 (b2.subset (List.mem_map.2 ⟨a, ha, rfl⟩))
  have hus : UsOk (itemsOf r.items l) (p1B r l (ordB r.promos codes)).us := a3
  have hlen := a4.len
  have hln : ∀ k, k < (p1B r l (ordB r.promos codes)).us.length → (gU (p1B r l (ordB r.promos codes)).us k).line.toNat < l.length := fun k hk => by
    have := (hus.line _ (getD_mem hk)).2
    rw [hitl] at this; exact this
  have hsm := lineNets_sum hln _ (Nat.le_refl _)
  rw [List.take_length] at hsm
  refine ⟨xs, ys, b1.deals, fun a ha => ?_, a2.trans List.filter_sublist, b2.trans List.filter_sublist, fun a ha => by simpa [notShip] using (a2' a ha).2, fun a ha => by simpa [isShip] using (b2' a ha).2, by rw [← b1.groups]; exact b1.apart, ?_, ?_, hsm, fun i hi => ?_, ⟨b3.1, b3.2.1⟩, b3.2.2⟩
  · have hp := b1.pos a ha
    rcases List.mem_append.1 ha with h | h
    · exact ⟨(hpl _ (a2' a h).1).1, (hpl _ (a2' a h).1).2, hp⟩
    · exact ⟨(hpl _ (b2' a h).1).1, (hpl _ (b2' a h).1).2, hp⟩
  · have := a4.sum
    show sumI (netsOf (p1B r l (ordB r.promos codes)).us) + _ = _
    exact this.trans u2
  · show ((List.range l.length).map _).length = _
    rw [List.length_map, List.length_range]
  · have e : gI (priceB r l (ordB r.promos codes) (ordB r.promos codes)).nets i = lineNet (p1B r l (ordB r.promos codes)).us i := by
      show gI ((List.range l.length).map (lineNet (p1B r l (ordB r.promos codes)).us)) i = _
      unfold gI
      rw [List.getD_eq_getElem?_getD, List.getElem?_map, List.getElem?_range hi]; rfl
    rw [e]
    have h1 := (lineNet_bound hus.ok (p1B r l (ordB r.promos codes)).us.length i).1
    rw [List.take_length] at h1
    have h2 := lineNet_le a4 i _ (Nat.le_refl _)
    rw [List.take_length, List.take_of_length_le (Nat.le_of_eq hlen)] at h2
    have h3 := lineNet_up l (fun x hx => ((lineC_iff _).1 (hok.line x hx)).1.1) i l.length (Nat.le_refl _)
    rw [if_pos hi] at h3
    have h2' : lineNet (p1B r l (ordB r.promos codes)).us i ≤ lineNet (unitsUp l l.length) i := h2
    exact ⟨h1, by omega⟩
theorem sum_pos_nil {xs : List (Int × Int)} (h : ∀ a ∈ xs, 1 ≤ a.2) (hs : sumI (xs.map Prod.snd) ≤ 0) : xs = [] := by
  cases xs with
  | nil => rfl
  | cons a xs =>
    have h1 := h a (List.mem_cons_self ..)
    have h2 : 0 ≤ sumI (xs.map Prod.snd) := sumI_nonneg fun x hx => by
      obtain ⟨b, hb, rfl⟩ := List.mem_map.1 hx
      have := h b (List.mem_cons_of_mem _ hb); omega
    rw [List.map_cons, sumI_cons] at hs; omega
theorem PriceLaw.nothing {r : Rules} {codes : List Str} {l : List Line} {Pr : Priced} {xs ys : List (Int × Int)} (h : PriceLaw r codes l Pr xs ys) (hq : ∀ x ∈ l, x.qty = 0) (hu : (usOf l).length = 0) (hg : grossN l = 0) :
    Pr.deals = [] ∧ Pr.ship = 0 ∧ (∀ x ∈ Pr.nets, x = 0) := by
  have h0 : ∀ x ∈ Pr.nets, x = 0 := fun x hx => by
    obtain ⟨i, hi, rfl⟩ := mem_getD hx
    have hi' : i < l.length := by rw [← h.len]; exact hi
    have h1 := h.each i hi'
    rw [hq _ (getD_mem hi'), Int.zero_mul] at h1
    show gI Pr.nets i = 0
    omega
  have hn : 0 ≤ Pr.net := by rw [← h.nets]; exact sumI_nonneg fun x hx => by rw [h0 x hx]; exact Int.le_refl _
  have hx : xs = [] := sum_pos_nil (fun a ha => (h.mem a (List.mem_append_left _ ha)).2.2) (by have := h.sum; omega)
  have hsh := h.shipSum
  have hfee : feeB r.ship (usOf l).length Pr.net = 0 := by unfold feeB; rw [if_pos (.inl (by omega))]
  have hy : ys = [] := sum_pos_nil (fun a ha => (h.mem a (List.mem_append_right _ ha)).2.2) (by have := h.ship; omega)
  subst hx hy
  refine ⟨by rw [h.deals]; rfl, ?_, h0⟩
  rw [hfee] at hsh
  have : Pr.ship + 0 = 0 := hsh
  omega
end Go.Proofs.YtfajkgonocpddaaGreat
namespace Go.Proofs.YtfajkgonocpddaaGreat
open Go Go.Ab
attribute [local irreducible] upd del
structure PlayOk (R : Rules) (C : List Str) (L : List Line) : Prop where
  right : rulesC R = true
  fit : RulesFit R
  sm : RulesSm R
  codes : codesC C = true
  ncodes : C.length ≤ 3
  scodes : ∀ s ∈ C, s.size ≤ 12
  lines : BasketOk L
  check : priceCheck R C L = 0
  few : R.promos.length ≤ 6
  items : R.items.length ≤ 8
  known : ∀ n, known R.items (skuN n) = true
  fee : 0 ≤ R.ship.fee ∧ R.ship.fee ≤ 1000000000
theorem playOk (r : Rules) (codes : List Str) (l : List Line) : PlayOk (playRules r) (playCodes codes) (playLines l) := by
  have hc := playCodes_ok codes
  have hl := playLines_ok l
  have hr := playRules_right r
  have hn := playPromos_len r.promos
  have hck : priceCheck (playRules r) (playCodes codes) (playLines l) = 0 := by
    unfold priceCheck
    rw [if_neg (by rw [hr]; simp), if_neg (by rw [hc.1]; simp)]
    exact hl.check (known_play r.items)
  exact ⟨hr, playRules_fit r, playRules_sm r, hc.1, hc.2.1, hc.2.2, hl, hck, by show (playPromos r.promos).length ≤ 6; omega, by show (playItems r.items).length ≤ 8; rw [playItems_len]; omega, known_play r.items, (checkOk hck).fee⟩
theorem PlayOk.relines {R : Rules} {C : List Str} {L L' : List Line} (h : PlayOk R C L) (hl : BasketOk L') : PlayOk R C L' :=
  { h with
    lines := hl
    check := by
      unfold priceCheck
      rw [if_neg (by rw [h.right]; simp), if_neg (by rw [h.codes]; simp)]
      exact hl.check h.known }
theorem PlayOk.promosC {R : Rules} {C : List Str} {L : List Line} (h : PlayOk R C L) : promosC R.promos = true := by
  have := h.right
  unfold rulesC at this
  simp only [Bool.and_eq_true] at this
  exact this.1.1.1.2
def priceR (R : Rules) (C : List Str) (L : List Line) : Priced := priceB R L (ordB R.promos C) (ordB R.promos C)
theorem price1_S {R : Rules} {C : List Str} {L : List Line} (hck : priceCheck R C L = 0) (hf : RulesFit R) (hC : Go.Proofs.YtfajkgonocpddaaGreat.promosC R.promos = true) (hn : R.promos.length ≤ 6) (hi : R.items.length ≤ 8) (hc : C.length ≤ 3) (st : St) :
    S P 44 [eRules R, eStrs C, arrOf 3 eLine L] st fun v s => v = .tuple [ePriced (priceR R C L), eI 0] ∧ s = st :=
  (price_S R C L hf (by show C.length ≤ 9223372036854775807; omega) (by omega) (by have := places_len R.promos C R.promos.length; omega) st).mono fun v s ⟨hv, hs⟩ => by
    refine ⟨?_, hs⟩
    rcases hv with ⟨h1, _⟩ | ⟨_, o1, o2, h1, h2, h3⟩
    · exact absurd hck h1
    · rw [resO_one hC h1, resO_one hC h2] at h3; exact h3
theorem PlayOk.price_S {R : Rules} {C : List Str} {L : List Line} (h : PlayOk R C L) (st : St) :
    S P 44 [eRules R, eStrs C, arrOf 3 eLine L] st fun v s => v = .tuple [ePriced (priceR R C L), eI 0] ∧ s = st :=
  price1_S h.check h.fit h.promosC h.few h.items h.ncodes st
theorem PlayOk.law {R : Rules} {C : List Str} {L : List Line} (h : PlayOk R C L) : ∃ xs ys, PriceLaw R C L (priceR R C L) xs ys := price_law h.fit h.check
structure NetsOk (L : List Line) (Pr : Priced) (g fee : Int) : Prop where
  len : Pr.nets.length = L.length
  at' : ∀ i, i < L.length → 0 ≤ gI Pr.nets i ∧ gI Pr.nets i ≤ (L.getD i default).qty * (L.getD i default).price
  sum : sumI Pr.nets = Pr.net
  net : 0 ≤ Pr.net ∧ Pr.net ≤ g
  ship : 0 ≤ Pr.ship ∧ Pr.ship ≤ fee
theorem PlayOk.nets {R : Rules} {C : List Str} {L : List Line} (h : PlayOk R C L) : NetsOk L (priceR R C L) (grossN L) R.ship.fee := by
  obtain ⟨xs, ys, hl⟩ := h.law
  have h0 : ∀ x ∈ (priceR R C L).nets, 0 ≤ x := fun x hx => by
    obtain ⟨i, hi, rfl⟩ := mem_getD hx
    exact (hl.each i (by rw [← hl.len]; exact hi)).1
  have hx : 0 ≤ sumI (xs.map Prod.snd) := sumI_nonneg fun x hx => by
    obtain ⟨a, ha, rfl⟩ := List.mem_map.1 hx
    have := (hl.mem a (List.mem_append_left _ ha)).2.2
    omega
  have hs := hl.sum
  have hn := hl.nets
  have := sumI_nonneg h0
  exact ⟨hl.len, hl.each, hl.nets, by omega, hl.ship⟩
theorem zoneName_S (n : Int) (st : St) : S P 21 [eI n] st fun r st' => r = eS (zoneN (modB n 3)) ∧ st' = st := by
  refine S_of_X [] good mixed Tryz.func21 (by rfl) rfl rfl rfl ?_; conv => whnf
  refine call1 (mod_S n 3 (by decide) (by decide) _) ?_; conv => whnf
  refine ⟨?_, rfl⟩
  show AV.str ((⟨#[122]⟩ : Str) ++ strA [IntKind.u8.wrap (48 + IntKind.u8.wrap (modB n 3))]) = _
  rw [wrap8]; rfl
theorem way_S {t : Tax} {z : Zone} {cats : List Str} {nets : List Int} {ship : Int} (h : LevyIn t z cats nets ship) (st : St) :
    S P (wayF t) [eTax t, eInts (cats.map (rateF z)), eInts nets] st fun v st' => v = eInts (taxesB t (cats.map (rateF z)) nets) ∧ st' = st := by
  obtain ⟨r1, r2⟩ := rates_ok h
  unfold wayF taxesB
  split
  · exact byOrder_S t _ _ h.nets r1 r2 st
  · exact byLine_S t _ _ h.nets.len r1 r2 st
theorem PlayOk.taxC {R : Rules} {C : List Str} {L : List Line} (h : PlayOk R C L) : taxC R.tax = true := by
  have := h.right
  unfold rulesC at this
  simp only [Bool.and_eq_true] at this
  exact this.1.1.2
theorem PlayOk.levy {R : Rules} {C : List Str} {L : List Line} (h : PlayOk R C L) {z : Zone} {s : Str} (hz : zoneF R.tax.zones s = some z) : LevyIn R.tax z (catsB R L) (priceR R C L).nets (priceR R C L).ship := by
  have hN := h.nets
  have hg := sums_le h.lines.line
  have hl := h.lines.len
  have hf := h.fee
  have hsh := hN.ship
  refine ⟨h.taxC, find_zoneC h.taxC hz, by rw [catsB_len, hN.len], ⟨by rw [hN.len]; omega, fun x hx => ?_, by rw [hN.sum]; have := hN.net; omega⟩, by omega⟩
  obtain ⟨i, hi, rfl⟩ := mem_getD hx
  exact (hN.at' i (by rw [← hN.len]; exact hi)).1
def quoteR (R : Rules) (C : List Str) (L : List Line) (z : Zone) (exempt : Bool) : Quote := quoteB R z exempt L (priceR R C L)
theorem PlayOk.quote_S {R : Rules} {C : List Str} {L : List Line} (h : PlayOk R C L) {z : Zone} {s : Str} (hz : zoneF R.tax.zones s = some z) (exempt : Bool) (st : St) :
    S P 22 [eRules R, eS s, eB exempt, eStrs C, arrOf 3 eLine L] st fun v st' => v = .tuple [eQuote (quoteR R C L z exempt), eI 0] ∧ st' = st := by
  have hv := h.levy hz
  have hk := (checkOk h.check).lines.known
  have hi := h.items
  have hl := h.lines.len
  exact Go.Proofs.YtfajkgonocpddaaGreat.quote_S exempt (fun st => h.price_S st) (fun st => itemsOf_S _ _ (by omega) (by omega) hk st) (by omega) hv hz (fun st => way_S hv st) (levy_sums hv exempt) st
theorem PlayOk.quoteIn {R : Rules} {C : List Str} {L : List Line} (h : PlayOk R C L) {z : Zone} {s : Str} (hz : zoneF R.tax.zones s = some z) (exempt : Bool) : QuoteIn (quoteR R C L z exempt) L.length := by
  have := levy_ok (h.levy hz) exempt (priceR R C L).deals
  rw [h.nets.len] at this; exact this
theorem playZone_find (r : Rules) (n : Int) : ∃ z, zoneF (playRules r).tax.zones (zoneN (modB n 3)) = some z := by
  have := modB_lt n (n := 3) (by decide)
  obtain ⟨k, hk⟩ : ∃ k : Nat, modB n 3 = k := ⟨(modB n 3).toNat, by omega⟩
  rw [hk]
  exact ⟨_, zone_find r.tax (by omega)⟩
theorem Shift.pre {a b : List AV} {s t : St} (h : Shift a s b t) : ∀ l : List AV, Shift (l ++ a) s (l ++ b) t
  | [] => h
  | x :: l => Shift.cons (Shift.keep [x] s) (Shift.pre h l)
abbrev fParts (l : List Part) : Nat → AV := fun k => ePart (l.getD k default)
theorem ROut.put {ty e n b : Nat} {fo : Nat → AV} {s t : St} {sv : AV} {y : Blk} (h : ROut Sup ty e fo n (upd s b y) sv t) (y' : Blk) : ROut Sup ty e fo n (upd s b y') sv (upd t b y') := by
  have := ROut.write (y' := y') besideSup h (upd_same ..)
  rwa [upd_twice] at this
theorem playParts_none {l : List Part} (h : l.length = 0) : playParts l = [⟨⟨[], []⟩, 2⟩] := if_pos h
theorem playParts_some {l : List Part} (h : l.length ≠ 0) : playParts l = (l.take 3).map playPart := if_neg h
theorem part_at {l : List Part} {i : Nat} (hi : i < min l.length 3) : ((l.take 3).map playPart).getD i default = playPart (l.getD i default) := by
  rw [List.getD_eq_getElem?_getD, List.getElem?_map, List.getElem?_take_of_lt (by omega), List.getElem?_eq_getElem (by omega), List.getD_eq_getElem?_getD, List.getElem?_eq_getElem (by omega)]; rfl
set_option maxHeartbeats 80000000 in
theorem playPromo_S (p : Promo) (id : Int) (st : St) : S P 62 [ePromo p, eI id] st fun v st' => v = ePromo (playPromo p id) ∧ st' = st := by
  refine S.post (post := fun v s => (∃ W, v = .agg W ∧ Sup st s ∧ LeL W (cellsOf (ePromo (playPromo p id)))) ∨ ∃ (pre : List AV) (sv fin : AV) (base : St), v = .agg (pre ++ [sv, fin]) ∧ Shift [sv] s [arrOf 3 ePart (playParts p.parts)] base ∧ Sup st base ∧ LeL (pre ++ [arrOf 3 ePart (playParts p.parts), fin]) (cellsOf (ePromo (playPromo p id)))) ?_ (fun v s h => ⟨_, st, ⟨rfl, rfl⟩, by
      rcases h with ⟨W, h1, h3, h4⟩ | ⟨pre, sv, fin, base, h1, h2, h3, h4⟩
      · rw [h1]; exact (Le.shift (Le.agg h4) _).trans (h3.shift _)
      · rw [h1]
        refine (Shift.agg (Shift.pre (Shift.cons h2 (Shift.keep [fin] _)) pre)).trans ?_
        exact (Le.shift (Le.agg h4) _).trans (h3.shift _)⟩)
  have hScope := fun s => pscope_S p.scope s
  obtain ⟨SC, hSC⟩ : ∃ SC, SC = playScope p.scope := ⟨_, rfl⟩
  rw [← hSC] at hScope
  have hId := fun s => id_S id s
  obtain ⟨I, hI⟩ : ∃ I, I = idN id := ⟨_, rfl⟩
  rw [← hI] at hId
  have hPr := fun s => mod_S p.prio 5 (by decide) (by decide) s
  obtain ⟨PR, hPR⟩ : ∃ PR, PR = modB p.prio 5 := ⟨_, rfl⟩
  rw [← hPR] at hPr
  have hKd := fun s => mod_S (IntKind.i64.wrap (p.kind - 1)) 7 (by decide) (by decide) s
  have hkm := modB_lt (IntKind.i64.wrap (p.kind - 1)) (n := 7) (by decide)
  have hkw : IntKind.i64.wrap (1 + modB (IntKind.i64.wrap (p.kind - 1)) 7) = playKind p := wrap64_of (by omega) (by omega)
  have hK := playKind_ok p
  have hP : playPromo p id = playPromoK p id (playKind p) := rfl
  rw [hP]
  generalize playKind p = K at hK hkw ⊢
  clear hP
  generalize modB (IntKind.i64.wrap (p.kind - 1)) 7 = KD at hKd hkw
  obtain ⟨G, hG⟩ : ∃ G, G = playGroup p := ⟨_, rfl⟩
  obtain ⟨C, hC⟩ : ∃ C, C = playCode p := ⟨_, rfl⟩
  obtain ⟨L, hL⟩ : ∃ L, L = playLeast p := ⟨_, rfl⟩
  have wr : IntKind.i64.wrap (1 + modB p.rate 10000) = 1 + modB p.rate 10000 := by have := modB_lt p.rate (n := 10000) (by decide); exact wrap64_of (by omega) (by omega)
  have wa : IntKind.i64.wrap (1 + modB p.amount 900) = 1 + modB p.amount 900 := by have := modB_lt p.amount (n := 900) (by decide); exact wrap64_of (by omega) (by omega)
  have wb : IntKind.i64.wrap (1 + modB p.buy 3) = 1 + modB p.buy 3 := by have := modB_lt p.buy (n := 3) (by decide); exact wrap64_of (by omega) (by omega)
  have wg : IntKind.i64.wrap (1 + modB p.get 2) = 1 + modB p.get 2 := by have := modB_lt p.get (n := 2) (by decide); exact wrap64_of (by omega) (by omega)
  have hT5 := fun s => playTiers_S p.tiers 5000 (by decide) (by decide) s
  obtain ⟨TS, hTS⟩ : ∃ TS, TS = playTiers p.tiers 5000 := ⟨_, rfl⟩
  rw [← hTS] at hT5
  have hT6 := fun s => playTiers_S p.tiers 5 (by decide) (by decide) s
  obtain ⟨TU, hTU⟩ : ∃ TU, TU = playTiers p.tiers 5 := ⟨_, rfl⟩
  rw [← hTU] at hT6
  have hA3 := fun s => mod64_S' p.amount 3000 (by decide) (by decide) s
  obtain ⟨A3, hA⟩ : ∃ A3, A3 = modB p.amount 3000 := ⟨_, rfl⟩
  rw [← hA] at hA3
  refine S_of_X [2] good mixed Tryz.func62 (by rfl) rfl rfl rfl ?_; conv => whnf
  intro b4 hb4; conv => whnf
  refine ⟨[16, 17], [1, 3, 5, 8, 9, 11, 13, 14], List.range 18, by kernel_rfl, ?_⟩; conv => whnf
  refine ⟨_, fun s _ => callQ (hId s), ?_⟩; conv => whnf
  refine ⟨_, fun s _ => ⟨rfl, rfl⟩, ?_⟩; conv => whnf
  refine ⟨_, fun s _ => callQ (hKd s), ?_⟩; conv => whnf
  refine ⟨_, fun s _ => ⟨rfl, rfl⟩, ?_⟩; conv => whnf
  refine ⟨_, fun s _ => callQ (hPr s), ?_⟩; conv => whnf
  refine ⟨_, fun s _ => ⟨rfl, rfl⟩, ?_⟩; conv => whnf
  refine ⟨_, fun s _ => ⟨rfl, rfl⟩, ?_⟩; conv => whnf
  refine ⟨_, fun s _ => callQ (hScope s), ?_⟩; conv => whnf
  intro b5 hb5
  have hne : b4 ≠ b5 := fun e => by subst e; rw [upd_same] at hb5; cases hb5
  conv => whnf
  refine stV (upd_same ..) rfl (by omega) rfl (by rfl) ?_
  rw [upd_twice, hkw]
  have hst : ∀ Y : Blk, Sup st (upd (upd st b4 ⟨122, 15, 1, fun _ => avOf r122.zero⟩) b5 Y) := fun Y => ((Sup.refl st).upd hb4).upd hb5
  conv => whnf
  refine call1 (pick_S _ _) ?_; conv => whnf
  refine call1 (mod_S _ 3 (by decide) (by decide) _) ?_; conv => whnf
  cases hg : (modB (pickN p.group) 3 == 1)
  case' true =>
    have hgv : (⟨#[103]⟩ : Str) ++ strA ([] ++ [IntKind.u8.wrap (48 + IntKind.u8.wrap (modB p.group.size 2))]) = G := by rw [hG, wrap8]; exact (if_pos (by simpa using hg)).symm
    conv => whnf
    refine call1 (mod_S _ 2 (by decide) (by decide) _) ?_; conv => whnf
    rw [hgv]
    refine stV (upd_same ..) rfl (by omega) (fset_same ..) (by rfl) ?_
    rw [upd_twice]
  case' false =>
    have hG0 : (⟨#[]⟩ : Str) = G := by rw [hG]; exact (if_neg (by simpa using hg)).symm
  all_goals
    conv => whnf
    refine call1 (pick_S _ _) ?_; conv => whnf
    refine call1 (mod_S _ 3 (by decide) (by decide) _) ?_; conv => whnf
    cases hcd : (modB (pickN p.code) 3 == 1)
    case' true =>
      have hcv : codeN p.code.size = C := by rw [hC]; exact (if_pos (by simpa using hcd)).symm
      conv => whnf
      refine call1 (code_S _ _) ?_; conv => whnf
      rw [hcv]
      refine stV (upd_same ..) rfl (by omega) (fset_same ..) (by rfl) ?_
      rw [upd_twice]
    case' false =>
      have hC0 : (⟨#[]⟩ : Str) = C := by rw [hC]; exact (if_neg (by simpa using hcd)).symm
    all_goals
      conv => whnf
      refine call1 (mod64_S' _ 3 (by decide) (by decide) _) ?_; conv => whnf
      cases hl : (modB p.least 3 == 1)
      case' true =>
        have hlv : modB p.least 9000 = L := by rw [hL]; exact (if_pos (by simpa using hl)).symm
        conv => whnf
        refine call1 (mod64_S' _ 9000 (by decide) (by decide) _) ?_; conv => whnf
        rw [hlv]
        refine stV (upd_same ..) rfl (by omega) (fset_same ..) (by rfl) ?_
        rw [upd_twice]
      case' false =>
        have hL0 : (0 : Int) = L := by rw [hL]; exact (if_neg (by simpa using hl)).symm
      all_goals
        conv => whnf
        refine ldV (upd_same ..) rfl (by omega) (fset_same ..) ?_
        rcases (show K = 1 ∨ K = 2 ∨ K = 3 ∨ K = 4 ∨ K = 5 ∨ K = 6 ∨ K = 7 by omega) with rfl | rfl | rfl | rfl | rfl | rfl | rfl
        · rw [show cellsOf (ePromo (playPromoK p id 1)) = [eS (I), eI 1, eI (PR), eS (G), eS (C), eB p.closes, eStrs (SC).skus, eStrs (SC).cats, eI (L), eI (1 + modB p.rate 10000), eI 0, eI 0, eI 0, arrOf 3 ePart [], arrOf 3 eTier []] from by rw [hI, hPR, hG, hC, hL, hSC]; rfl]
          (try subst hG0); (try subst hC0); (try subst hL0)
          conv => whnf
          refine call1 (mod64_S' _ 10000 (by decide) (by decide) _) ?_; conv => whnf
          rw [wr]
          refine stV (upd_same ..) rfl (by omega) (fset_same ..) (by rfl) ?_
          rw [upd_twice]; conv => whnf
          refine ldV (upd_same ..) rfl (by omega) (fset_same ..) ?_; conv => whnf
          refine stV (by rw [upd_ne hne]; exact upd_same ..) rfl (by omega) rfl (by rfl) ?_; conv => whnf
          refine ldV (upd_same ..) rfl (by omega) (fset_same ..) ?_; conv => whnf
          exact .inl ⟨_, rfl, (hst _).over hb4, LeL.cons (Le.refl _) (LeL.cons (Le.refl _) (LeL.cons (Le.refl _) (LeL.cons (Le.refl _) (LeL.cons (Le.refl _) (LeL.cons (Le.refl _) (LeL.cons (Le.refl _) (LeL.cons (Le.refl _) (LeL.cons (Le.refl _) (LeL.cons (Le.refl _) (LeL.cons (Le.refl _) (LeL.cons (Le.refl _) (LeL.cons (Le.refl _) (LeL.cons (Le.emp _ _) (LeL.cons (Le.emp _ _) (LeL.nil)))))))))))))))⟩
        · rw [show cellsOf (ePromo (playPromoK p id 2)) = [eS (I), eI 2, eI (PR), eS (G), eS (C), eB p.closes, eStrs (SC).skus, eStrs (SC).cats, eI (L), eI 0, eI (1 + modB p.amount 900), eI 0, eI 0, arrOf 3 ePart [], arrOf 3 eTier []] from by rw [hI, hPR, hG, hC, hL, hSC]; rfl]
          (try subst hG0); (try subst hC0); (try subst hL0)
          conv => whnf
          refine call1 (mod64_S' _ 900 (by decide) (by decide) _) ?_; conv => whnf
          rw [wa]
          refine stV (upd_same ..) rfl (by omega) (fset_same ..) (by rfl) ?_
          rw [upd_twice]; conv => whnf
          refine ldV (upd_same ..) rfl (by omega) (fset_same ..) ?_; conv => whnf
          refine stV (by rw [upd_ne hne]; exact upd_same ..) rfl (by omega) rfl (by rfl) ?_; conv => whnf
          refine ldV (upd_same ..) rfl (by omega) (fset_same ..) ?_; conv => whnf
          exact .inl ⟨_, rfl, (hst _).over hb4, LeL.cons (Le.refl _) (LeL.cons (Le.refl _) (LeL.cons (Le.refl _) (LeL.cons (Le.refl _) (LeL.cons (Le.refl _) (LeL.cons (Le.refl _) (LeL.cons (Le.refl _) (LeL.cons (Le.refl _) (LeL.cons (Le.refl _) (LeL.cons (Le.refl _) (LeL.cons (Le.refl _) (LeL.cons (Le.refl _) (LeL.cons (Le.refl _) (LeL.cons (Le.emp _ _) (LeL.cons (Le.emp _ _) (LeL.nil)))))))))))))))⟩
        · rw [show cellsOf (ePromo (playPromoK p id 3)) = [eS (I), eI 3, eI (PR), eS (G), eS (C), eB p.closes, eStrs (SC).skus, eStrs (SC).cats, eI (L), eI (1 + modB p.rate 10000), eI 0, eI (1 + modB p.buy 3), eI (1 + modB p.get 2), arrOf 3 ePart [], arrOf 3 eTier []] from by rw [hI, hPR, hG, hC, hL, hSC]; rfl]
          (try subst hG0); (try subst hC0); (try subst hL0)
          conv => whnf
          refine ⟨[13, 15, 17], [], List.range 18, by kernel_rfl, ?_⟩; conv => whnf
          refine ⟨_, callQ (mod64_S' _ 10000 (by decide) (by decide) _), ?_⟩; conv => whnf
          rw [wr]
          refine ⟨_, callQ (mod_S _ 3 (by decide) (by decide) _), ?_⟩; conv => whnf
          rw [wb]
          refine ⟨_, callQ (mod_S _ 2 (by decide) (by decide) _), ?_⟩; conv => whnf
          rw [wg]
          refine stV (upd_same ..) rfl (by omega) (fset_same ..) (by rfl) ?_
          rw [upd_twice]; conv => whnf
          refine stV (upd_same ..) rfl (by omega) (fset_same ..) (by rfl) ?_
          rw [upd_twice]; conv => whnf
          refine stV (upd_same ..) rfl (by omega) (fset_same ..) (by rfl) ?_
          rw [upd_twice]; conv => whnf
          refine ldV (upd_same ..) rfl (by omega) (fset_same ..) ?_; conv => whnf
          refine stV (by rw [upd_ne hne]; exact upd_same ..) rfl (by omega) rfl (by rfl) ?_; conv => whnf
          refine ldV (upd_same ..) rfl (by omega) (fset_same ..) ?_; conv => whnf
          exact .inl ⟨_, rfl, (hst _).over hb4, LeL.cons (Le.refl _) (LeL.cons (Le.refl _) (LeL.cons (Le.refl _) (LeL.cons (Le.refl _) (LeL.cons (Le.refl _) (LeL.cons (Le.refl _) (LeL.cons (Le.refl _) (LeL.cons (Le.refl _) (LeL.cons (Le.refl _) (LeL.cons (Le.refl _) (LeL.cons (Le.refl _) (LeL.cons (Le.refl _) (LeL.cons (Le.refl _) (LeL.cons (Le.emp _ _) (LeL.cons (Le.emp _ _) (LeL.nil)))))))))))))))⟩
        · rw [show cellsOf (ePromo (playPromoK p id 4)) = [eS (I), eI 4, eI (PR), eS (G), eS (C), eB p.closes, eStrs [], eStrs [], eI (L), eI 0, eI (A3), eI 0, eI 0, arrOf 3 ePart (playParts p.parts), arrOf 3 eTier []] from by rw [hI, hPR, hG, hC, hL, hA]; rfl]; conv => whnf
          refine call1 (hA3 _) ?_; conv => whnf
          refine stV (upd_same ..) rfl (by omega) (fset_same ..) (by rfl) ?_
          rw [upd_twice]; conv => whnf
          refine stV (upd_same ..) rfl (by omega) (fset_same ..) (by rfl) ?_
          rw [upd_twice]; conv => whnf
          refine lp (min p.parts.length 3) [2, 4, 5, 6] (fun i vs s => ∃ sv f, vs = [.fptr (ePromo p) 0, .optr 15 b4 0 0, .optr 15 b5 0 0, eI i] ∧ f 0 = .agg ([eS I, eI 4, eI PR, eS G, eS C, eB p.closes, .emp, .emp, eI L, eI 0, eI A3, eI 0, eI 0] ++ [sv, .emp]) ∧ ROut Sup 157 3 (fParts ((p.parts.take 3).map playPart)) i (upd (upd st b4 ⟨122, 15, 1, fun _ => avOf r122.zero⟩) b5 ⟨122, 15, 1, f⟩) sv s) ?_ ?_
          · conv => whnf
            exact ⟨.emp, _, rfl, by (try rw [← hG0]); (try rw [← hC0]); (try rw [← hL0]); first | rfl | (rw [fset_same]; rfl), ROut.start (Sup.refl _) _ _ _⟩
          · rintro i vs s hi ⟨sv, f, rfl, hf, hR⟩
            have hsup := ROut.sup besideSup hR
            have at5 : s b5 = some ⟨122, 15, 1, f⟩ := hsup b5 _ (upd_same ..)
            have at4 : s b4 = some ⟨122, 15, 1, fun _ => avOf r122.zero⟩ := hsup b4 _ (by rw [upd_ne hne]; exact upd_same ..)
            have n5 : st b5 = none := by rw [upd_ne (Ne.symm hne)] at hb5; exact hb5
            conv => whnf
            refine fork (fun h1 => ?_) (fun h1 => ?_) <;> rw [h1] <;> simp only [decide_eq_true_eq, decide_eq_false_iff_not] at h1
            case' refine_1 =>
              conv => whnf
              refine fork (fun h2 => ?_) (fun h2 => ?_) <;> rw [h2] <;> simp only [decide_eq_true_eq, decide_eq_false_iff_not] at h2
            case refine_1.refine_1 =>
              have hi' : i < min p.parts.length 3 := by omega
              have hsc2 := fun s => pscope_S (p.parts.getD (i : Int).toNat default).scope s
              have hpa := part_at hi'
              have hm2 := modB_lt (p.parts.getD (i : Int).toNat default).count (n := 2) (by decide)
              have wc : IntKind.i64.wrap (1 + modB (p.parts.getD (i : Int).toNat default).count 2) = 1 + modB (p.parts.getD (i : Int).toNat default).count 2 := wrap64_of (by omega) (by omega)
              have hpp : ePart (playPart (p.parts.getD i default)) = .agg [eStrs (playScope (p.parts.getD (i : Int).toNat default).scope).skus, eStrs (playScope (p.parts.getD (i : Int).toNat default).scope).cats, eI (1 + modB (p.parts.getD (i : Int).toNat default).count 2)] := rfl
              generalize playScope (p.parts.getD (i : Int).toNat default).scope = S2 at hsc2 hpp
              rcases ROut.head hR with rfl | ⟨bp, rfl⟩
              all_goals
                conv => whnf
                refine ⟨[19, 21], [15], List.range 22, by kernel_rfl, ?_⟩; conv => whnf
                refine ldV at5 rfl (by omega) hf ?_; conv => whnf
                refine ⟨rfl, ⟨by omega, by omega⟩, ?_⟩; conv => whnf
                refine ⟨_, callQ (hsc2 _), ?_⟩; conv => whnf
                refine ⟨rfl, ⟨by omega, by omega⟩, ?_⟩; conv => whnf
                refine ⟨_, fun s _ => callQ (mod_S _ 2 (by decide) (by decide) s), ?_⟩; conv => whnf
                rw [wc]
                refine ⟨_, ⟨rfl, rfl⟩, ?_⟩; conv => whnf
                refine ROut.app (q := r157) besideSup rfl rfl rfl rfl rfl (f := fParts ((p.parts.take 3).map playPart)) (by show _ = ePart _; rw [hpa, hpp]; rfl) (by show (i + 1) * 56 ≤ 140737488355328; omega) hR (fun sv' t2 hR2 => ?_)
                have at5' : t2 b5 = some ⟨122, 15, 1, f⟩ := ROut.sup besideSup hR2 b5 _ (upd_same ..)
                rcases ROut.head hR2 with rfl | ⟨bp', rfl⟩
                all_goals
                  conv => whnf
                  refine stV at5' rfl (by omega) hf (by rfl) ?_; conv => whnf
                  refine ⟨rfl, ?_⟩; conv => whnf
                  exact nx hi' ⟨_, _, by rw [wrapN (by omega)], (by rw [fset_same]; rfl), ROut.put hR2 _⟩
            all_goals
              have hie : i = min p.parts.length 3 := by omega
              obtain ⟨s0, hcol, hss⟩ := hR
              rcases hcol with ⟨h0, rfl, rfl⟩ | ⟨h0, bp, g, hbp, rfl, rfl, hgg⟩
              · have hPP := playParts_none (l := p.parts) (by omega)
                subst h0
                rw [hPP]; conv => whnf
                refine ldV at5 rfl (by omega) hf ?_; conv => whnf
                refine stV at5 rfl (by omega) hf (by rfl) ?_; conv => whnf
                refine ldV (upd_same ..) rfl (by omega) (fset_same ..) ?_; conv => whnf
                refine stV (by rw [upd_ne hne]; exact at4) rfl (by omega) rfl (by rfl) ?_; conv => whnf
                refine ldV (upd_same ..) rfl (by omega) (fset_same ..) ?_; conv => whnf
                exact .inl ⟨_, rfl, ((((Sup.refl st).upd hb4).upd hb5).trans hss |>.over n5).over hb4, LeL.cons (Le.refl _) (LeL.cons (Le.refl _) (LeL.cons (Le.refl _) (LeL.cons (Le.refl _) (LeL.cons (Le.refl _) (LeL.cons (Le.refl _) (LeL.cons (Le.emp _ _) (LeL.cons (Le.emp _ _) (LeL.cons (Le.refl _) (LeL.cons (Le.refl _) (LeL.cons (Le.refl _) (LeL.cons (Le.refl _) (LeL.cons (Le.refl _) (LeL.cons (Le.arr1 (LeL.cons (Le.emp _ _) (LeL.cons (Le.emp _ _) (LeL.cons (Le.refl _) LeL.nil))) rfl) (LeL.cons (Le.emp _ _) (LeL.nil)))))))))))))))⟩
              · have hPP := playParts_some (l := p.parts) (by omega)
                have hAP : arrOf 3 ePart (playParts p.parts) = .arr 3 i (fParts ((p.parts.take 3).map playPart)) := by unfold arrOf; rw [hPP, show ((p.parts.take 3).map playPart).length = i by rw [List.length_map, List.length_take]; omega]
                have hR3 : ROut Sup 157 3 (fParts ((p.parts.take 3).map playPart)) i (upd (upd st b4 ⟨122, 15, 1, fun _ => avOf r122.zero⟩) b5 ⟨122, 15, 1, f⟩) (.own 3 bp 0 i) s := ⟨_, .inr ⟨h0, bp, g, hbp, rfl, rfl, hgg⟩, hss⟩
                conv => whnf
                refine ldV at5 rfl (by omega) hf ?_; conv => whnf
                rw [show ((i : Int) == 0) = false by rw [beq_eq_false_iff_ne]; omega]; conv => whnf
                refine ldV at5 rfl (by omega) hf ?_; conv => whnf
                refine stV at4 rfl (by omega) rfl (by rfl) ?_; conv => whnf
                refine ldV (upd_same ..) rfl (by omega) (fset_same ..) ?_; conv => whnf
                obtain ⟨base, hsh, hsb⟩ := ROut.shift besideSup (ROut.write besideSup hR3 (b := b4) (by rw [upd_ne hne]; exact upd_same ..))
                refine .inr ⟨[eS I, eI 4, eI PR, eS G, eS C, eB p.closes, .emp, .emp, eI L, eI 0, eI A3, eI 0, eI 0], .own 3 bp 0 i, .emp, base, rfl, by rw [hAP]; exact hsh, ((((Sup.refl st).upd hb4).upd hb5).over hb4).trans hsb, LeL.cons (Le.refl _) (LeL.cons (Le.refl _) (LeL.cons (Le.refl _) (LeL.cons (Le.refl _) (LeL.cons (Le.refl _) (LeL.cons (Le.refl _) (LeL.cons (Le.emp _ _) (LeL.cons (Le.emp _ _) (LeL.cons (Le.refl _) (LeL.cons (Le.refl _) (LeL.cons (Le.refl _) (LeL.cons (Le.refl _) (LeL.cons (Le.refl _) (LeL.cons (Le.refl _) (LeL.cons (Le.emp _ _) (LeL.nil)))))))))))))))⟩
        · rw [show cellsOf (ePromo (playPromoK p id 5)) = [eS (I), eI 5, eI (PR), eS (G), eS (C), eB p.closes, eStrs (SC).skus, eStrs (SC).cats, eI (L), eI 0, eI 0, eI 0, eI 0, arrOf 3 ePart [], arrOf 3 eTier (TS)] from by rw [hI, hPR, hG, hC, hL, hSC, hTS]; rfl]
          (try subst hG0); (try subst hC0); (try subst hL0)
          conv => whnf
          refine call1 (hT5 _) ?_; conv => whnf
          refine stV (upd_same ..) rfl (by omega) (fset_same ..) (by rfl) ?_
          rw [upd_twice]; conv => whnf
          refine ldV (upd_same ..) rfl (by omega) (fset_same ..) ?_; conv => whnf
          refine stV (by rw [upd_ne hne]; exact upd_same ..) rfl (by omega) rfl (by rfl) ?_; conv => whnf
          refine ldV (upd_same ..) rfl (by omega) (fset_same ..) ?_; conv => whnf
          exact .inl ⟨_, rfl, (hst _).over hb4, LeL.cons (Le.refl _) (LeL.cons (Le.refl _) (LeL.cons (Le.refl _) (LeL.cons (Le.refl _) (LeL.cons (Le.refl _) (LeL.cons (Le.refl _) (LeL.cons (Le.refl _) (LeL.cons (Le.refl _) (LeL.cons (Le.refl _) (LeL.cons (Le.refl _) (LeL.cons (Le.refl _) (LeL.cons (Le.refl _) (LeL.cons (Le.refl _) (LeL.cons (Le.emp _ _) (LeL.cons (Le.refl _) (LeL.nil)))))))))))))))⟩
        · rw [show cellsOf (ePromo (playPromoK p id 6)) = [eS (I), eI 6, eI (PR), eS (G), eS (C), eB p.closes, eStrs (SC).skus, eStrs (SC).cats, eI (L), eI 0, eI 0, eI 0, eI 0, arrOf 3 ePart [], arrOf 3 eTier (TU)] from by rw [hI, hPR, hG, hC, hL, hSC, hTU]; rfl]
          (try subst hG0); (try subst hC0); (try subst hL0)
          conv => whnf
          refine call1 (hT6 _) ?_; conv => whnf
          refine stV (upd_same ..) rfl (by omega) (fset_same ..) (by rfl) ?_
          rw [upd_twice]; conv => whnf
          refine ldV (upd_same ..) rfl (by omega) (fset_same ..) ?_; conv => whnf
          refine stV (by rw [upd_ne hne]; exact upd_same ..) rfl (by omega) rfl (by rfl) ?_; conv => whnf
          refine ldV (upd_same ..) rfl (by omega) (fset_same ..) ?_; conv => whnf
          exact .inl ⟨_, rfl, (hst _).over hb4, LeL.cons (Le.refl _) (LeL.cons (Le.refl _) (LeL.cons (Le.refl _) (LeL.cons (Le.refl _) (LeL.cons (Le.refl _) (LeL.cons (Le.refl _) (LeL.cons (Le.refl _) (LeL.cons (Le.refl _) (LeL.cons (Le.refl _) (LeL.cons (Le.refl _) (LeL.cons (Le.refl _) (LeL.cons (Le.refl _) (LeL.cons (Le.refl _) (LeL.cons (Le.emp _ _) (LeL.cons (Le.refl _) (LeL.nil)))))))))))))))⟩
        · rw [show cellsOf (ePromo (playPromoK p id 7)) = [eS (I), eI 7, eI (PR), eS (G), eS (C), eB false, eStrs [], eStrs [], eI (L), eI (1 + modB p.rate 10000), eI 0, eI 0, eI 0, arrOf 3 ePart [], arrOf 3 eTier []] from by rw [hI, hPR, hG, hC, hL]; rfl]
          (try subst hG0); (try subst hC0); (try subst hL0)
          conv => whnf
          refine call1 (mod64_S' _ 10000 (by decide) (by decide) _) ?_; conv => whnf
          rw [wr]
          refine stV (upd_same ..) rfl (by omega) (fset_same ..) (by rfl) ?_
          rw [upd_twice]; conv => whnf
          refine stV (upd_same ..) rfl (by omega) (fset_same ..) (by rfl) ?_
          rw [upd_twice]; conv => whnf
          refine stV (upd_same ..) rfl (by omega) (fset_same ..) (by rfl) ?_
          rw [upd_twice]; conv => whnf
          refine ldV (upd_same ..) rfl (by omega) (fset_same ..) ?_; conv => whnf
          refine stV (by rw [upd_ne hne]; exact upd_same ..) rfl (by omega) rfl (by rfl) ?_; conv => whnf
          refine ldV (upd_same ..) rfl (by omega) (fset_same ..) ?_; conv => whnf
          exact .inl ⟨_, rfl, (hst _).over hb4, LeL.cons (Le.refl _) (LeL.cons (Le.refl _) (LeL.cons (Le.refl _) (LeL.cons (Le.refl _) (LeL.cons (Le.refl _) (LeL.cons (Le.refl _) (LeL.cons (Le.emp _ _) (LeL.cons (Le.emp _ _) (LeL.cons (Le.refl _) (LeL.cons (Le.refl _) (LeL.cons (Le.refl _) (LeL.cons (Le.refl _) (LeL.cons (Le.refl _) (LeL.cons (Le.emp _ _) (LeL.cons (Le.emp _ _) (LeL.nil)))))))))))))))⟩
theorem idAt_eq (i : Nat) (h : i < 6) : Int.tmod (IntKind.i64.wrap (IntKind.i64.wrap ((i : Int) * 7) + 3)) 10 = idAt i := by
  rw [wrap64_of (x := (i : Int) * 7) (by omega) (by omega), wrap64_of (by omega) (by omega), Int.tmod_eq_emod_of_nonneg (by omega)]; rfl
theorem playPromos_S (l : List Promo) (st : St) : S P 39 [arrOf 15 ePromo l] st fun v st' => v = arrOf 15 ePromo (playPromos l) ∧ st' = st := by
  refine S_colL (ty := 122) ?_
  have hat : ∀ i, i < 6 → playPromoAt l i = playPromo (l.getD (i : Int).toNat default) (Int.tmod (IntKind.i64.wrap (IntKind.i64.wrap ((i : Int) * 7) + 3)) 10) := fun i hi => by rw [idAt_eq i hi]; rfl
  have hPl : playPromos l = (List.range (min l.length 6)).map (playPromoAt l) := rfl
  rw [hPl]
  have hnext := map_range_succ (playPromoAt l)
  have hS := fun i => playPromo_S (l.getD (i : Nat) default)
  generalize playPromoAt l = F at hat hnext ⊢
  refine S_of_X [] good mixed Tryz.func39 (by rfl) rfl rfl rfl ?_; conv => whnf
  refine lp (min l.length 6) [0, 3, 4] (fun i vs s => ∃ sv, vs = [arrOf 15 ePromo l, sv, eI i] ∧ ColL 122 15 ePromo ((List.range i).map F) st sv s) ?_ ?_
  · conv => whnf
    exact ⟨.emp, rfl, ColL.start _ _ _ _⟩
  · rintro i vs s hi ⟨sv, rfl, hc⟩
    have hfin : i = min l.length 6 → ColL 122 15 ePromo ((List.range (min l.length 6)).map F) st sv s := fun e => by rw [← e]; exact hc
    have hlen : ((List.range i).map F).length = i := by rw [List.length_map, List.length_range]
    conv => whnf
    refine fork (fun h1 => ?_) (fun h1 => ?_) <;> rw [h1] <;> simp only [decide_eq_true_eq, decide_eq_false_iff_not] at h1
    · conv => whnf
      refine fork (fun h2 => ?_) (fun h2 => ?_) <;> rw [h2] <;> simp only [decide_eq_true_eq, decide_eq_false_iff_not] at h2
      · have hi' : i < min l.length 6 := by omega
        have hF := hat i (by omega)
        conv => whnf
        refine ⟨rfl, ⟨by omega, by omega⟩, ?_⟩; conv => whnf
        refine call1 (hS (i : Int).toNat _ _) ?_
        generalize hid : Int.tmod (IntKind.i64.wrap (IntKind.i64.wrap ((i : Int) * 7) + 3)) 10 = ID at hF
        generalize playPromo (l.getD (i : Int).toNat default) ID = Y at hF
        conv => whnf
        refine ColL.app (y := Y) (q := r122) rfl rfl rfl rfl rfl (by rfl) (by rw [hlen]; show (i + 1) * 208 ≤ 140737488355328; omega) hc (fun sv' t' hc' => ?_); conv => whnf
        refine ⟨rfl, ?_⟩; conv => whnf
        refine nx hi' ⟨sv', by rw [wrapN (by omega)], ?_⟩
        rw [hnext, hF]; exact hc'
      · conv => whnf
        exact hfin (by omega)
    · conv => whnf
      exact hfin (by omega)
set_option maxHeartbeats 8000000 in
theorem playRules_S (r : Rules) (st : St) : S P 18 [eRules r] st fun v st' => v = eRules (playRules r) ∧ st' = st := by
  have hE : eRules (playRules r) = .agg [arrOf 4 eItem (playItems r.items), arrOf 15 ePromo (playPromos r.promos), eB (playTax r.tax).incl, eB (playTax r.tax).byOrder, eI (playTax r.tax).round, arrOf 4 eZone (playTax r.tax).zones, eI (modB r.ship.fee 900), eI (modB r.ship.free 3 * 4000),
    eI (20 + modB r.policy.window 60), eI (modB r.policy.grace 40), eI (1 + modB r.policy.mode 3), eI (modB r.policy.restock 3 * modB r.policy.restock 2500), eInts (playKinds r.policy.order), eInts (playKinds r.policy.credit)] := rfl
  rw [hE]
  clear hE
  have h1 := modB_lt r.ship.fee (n := 900) (by decide)
  have h2 := modB_lt r.ship.free (n := 3) (by decide)
  have h3 := modB_lt r.policy.window (n := 60) (by decide)
  have h5 := modB_lt r.policy.mode (n := 3) (by decide)
  have h6 := modB_lt r.policy.restock (n := 3) (by decide)
  have h7 := modB_lt r.policy.restock (n := 2500) (by decide)
  have h8 : modB r.policy.restock 3 * modB r.policy.restock 2500 ≤ 2 * 2499 := Int.mul_le_mul (by omega) (by omega) (by omega) (by omega)
  have h9 : 0 ≤ modB r.policy.restock 3 * modB r.policy.restock 2500 := Int.mul_nonneg h6.1 h7.1
  have w1 : IntKind.i64.wrap (modB r.ship.free 3 * 4000) = modB r.ship.free 3 * 4000 := wrap64_of (by omega) (by omega)
  have w2 : IntKind.i64.wrap (20 + modB r.policy.window 60) = 20 + modB r.policy.window 60 := wrap64_of (by omega) (by omega)
  have w3 : IntKind.i64.wrap (1 + modB r.policy.mode 3) = 1 + modB r.policy.mode 3 := wrap64_of (by omega) (by omega)
  have w4 : IntKind.i64.wrap (modB r.policy.restock 3 * modB r.policy.restock 2500) = modB r.policy.restock 3 * modB r.policy.restock 2500 := wrap64_of (by omega) (by omega)
  have m1 := fun s => mod64_S' r.ship.fee 900 (by decide) (by decide) s
  have m2 := fun s => mod64_S' r.ship.free 3 (by decide) (by decide) s
  have m3 := fun s => mod_S r.policy.window 60 (by decide) (by decide) s
  have m4 := fun s => mod_S r.policy.grace 40 (by decide) (by decide) s
  have m5 := fun s => mod_S r.policy.mode 3 (by decide) (by decide) s
  have m6 := fun s => mod64_S' r.policy.restock 3 (by decide) (by decide) s
  have m7 := fun s => mod64_S' r.policy.restock 2500 (by decide) (by decide) s
  have c1 := fun s => playItems_S r.items s
  have c2 := fun s => playPromos_S r.promos s
  have c3 : ∀ s, S P 40 [eTax r.tax] s fun v st' => v = .agg [eB (playTax r.tax).incl, eB (playTax r.tax).byOrder, eI (playTax r.tax).round, arrOf 4 eZone (playTax r.tax).zones] ∧ st' = s := fun s => playTax_S r.tax s
  have c4 := fun s => playKinds_S r.policy.order s
  have c5 := fun s => playKinds_S r.policy.credit s
  clear h1 h2 h3 h5 h6 h7 h8 h9
  generalize modB r.ship.fee 900 = M1 at *
  generalize modB r.ship.free 3 = M2 at *
  generalize modB r.policy.window 60 = M3 at *
  generalize modB r.policy.grace 40 = M4 at *
  generalize modB r.policy.mode 3 = M5 at *
  generalize modB r.policy.restock 3 = M6 at *
  generalize modB r.policy.restock 2500 = M7 at *
  generalize playItems r.items = V1 at *
  generalize playPromos r.promos = V2 at *
  generalize playTax r.tax = V3 at *
  generalize playKinds r.policy.order = V4 at *
  generalize playKinds r.policy.credit = V5 at *
  refine S_sup ?_
  refine S_of_X [1, 3] good mixed Tryz.func18 (by rfl) rfl rfl rfl ?_; conv => whnf
  intro b2 hb; conv => whnf
  refine ⟨[45], [], List.range 46, by kernel_rfl, ?_⟩; conv => whnf
  refine ⟨_, callQ (c1 _), ?_⟩; conv => whnf
  refine ⟨_, callQ (c2 _), ?_⟩; conv => whnf
  refine ⟨_, callQ (c3 _), ?_⟩; conv => whnf
  refine ⟨_, callQ (m1 _), ?_⟩; conv => whnf
  refine ⟨_, callQ (m2 _), ?_⟩; conv => whnf
  rw [w1]
  refine ⟨_, callQ (m3 _), ?_⟩; conv => whnf
  rw [w2]
  refine ⟨_, callQ (m4 _), ?_⟩; conv => whnf
  refine ⟨_, callQ (m5 _), ?_⟩; conv => whnf
  rw [w3]
  refine ⟨_, callQ (m6 _), ?_⟩; conv => whnf
  refine ⟨_, callQ (m7 _), ?_⟩; conv => whnf
  rw [w4]
  refine ⟨_, callQ (c4 _), ?_⟩; conv => whnf
  refine ⟨_, callQ (c5 _), ?_⟩; conv => whnf
  refine stV (upd_same ..) rfl (by omega) rfl (by rfl) ?_; conv => whnf
  refine ldV (upd_same ..) rfl (by omega) (fset_same ..) ?_; conv => whnf
  exact ⟨rfl, ((Sup.refl st).upd hb).over hb⟩
theorem fewQ_S (r : Rules) (codes : List Str) (l : List Line) (st : St) : S P 17 [eRules r, eStrs codes, arrOf 3 eLine l] st fun v st' => v = .bool (fewC r && (decide ((codes.length : Int) < 30) && decide ((l.length : Int) < 40))) ∧ st' = st := by
  refine S_of_X [3] good mixed Tryz.func17 (by rfl) rfl rfl rfl ?_; conv => whnf
  refine call1 (few_S r _) ?_; conv => whnf
  generalize fewC r = a
  cases a
  · conv => whnf
    exact ⟨rfl, rfl⟩
  · conv => whnf
    refine fork (fun h => ?_) (fun h => ?_) <;> rw [h] <;> (conv => whnf) <;> exact ⟨rfl, rfl⟩
def zeroQ (x : Line) : Line := { x with qty := 0 }
def zeroUp (L : List Line) (i : Nat) : List Line := (L.take i).map zeroQ ++ L.drop i
theorem zeroUp_all (L : List Line) : zeroUp L L.length = L.map zeroQ := by
  unfold zeroUp; rw [List.take_length, List.drop_length, List.append_nil]
theorem zeroUp_at {L : List Line} {i k : Nat} (hk : k < L.length) : (zeroUp L i).getD k default = if k < i then zeroQ (L.getD k default) else L.getD k default := by
  unfold zeroUp
  rw [List.getD_eq_getElem?_getD, List.getD_eq_getElem?_getD]
  by_cases h : k < i
  · rw [if_pos h, List.getElem?_append_left (by rw [List.length_map, List.length_take]; omega), List.getElem?_map, List.getElem?_take_of_lt h, List.getElem?_eq_getElem hk]; rfl
  · rw [if_neg h, List.getElem?_append_right (by rw [List.length_map, List.length_take]; omega), List.length_map, List.length_take, List.getElem?_drop, show min i L.length = i by omega, show i + (k - i) = k by omega]
theorem basket_zero {L : List Line} (h : BasketOk L) : BasketOk (L.map zeroQ) := by
  refine ⟨by rw [List.length_map]; exact h.len, fun x hx => ?_, fun x hx => ?_⟩
  · obtain ⟨y, hy, rfl⟩ := List.mem_map.1 hx
    have := h.line y hy
    exact ⟨by show (0 : Int) ≤ 0 ∧ (0 : Int) ≤ 9; omega, this.2⟩
  · obtain ⟨y, hy, rfl⟩ := List.mem_map.1 hx
    exact h.sku y hy
theorem zero_sums {L : List Line} (h : ∀ x ∈ L, x.qty = 0) : unitsN L = 0 ∧ grossN L = 0 := by
  have : ∀ (L : List Line) (a b : Int), (∀ x ∈ L, x.qty = 0) → L.foldl (fun s x => s + x.qty) a = a ∧ L.foldl (fun s x => s + x.qty * x.price) b = b := by
    intro L
    induction L with
    | nil => intro a b _; exact ⟨rfl, rfl⟩
    | cons y L ih =>
      intro a b h
      have hy := h y (List.mem_cons_self ..)
      have := ih (a + y.qty) (b + y.qty * y.price) fun x hx => h x (List.mem_cons_of_mem _ hx)
      rw [List.foldl_cons, List.foldl_cons, this.1, this.2, hy, Int.zero_mul]; omega
  exact this L 0 0 h
structure NilOk (A : Quote) (n : Nat) : Prop where
  total : A.total = 0
  ship : A.ship = 0
  deals : A.deals = []
  goods : A.goods.length = n
  taxes : A.taxes.length = n
theorem PlayOk.nothing {R : Rules} {C : List Str} {L : List Line} (h : PlayOk R C L) {z : Zone} {s : Str} (hz : zoneF R.tax.zones s = some z) (h0 : ∀ x ∈ L, x.qty = 0) : NilOk (quoteR R C L z false) L.length := by
  obtain ⟨xs, ys, hl⟩ := h.law
  have hu : (usOf L).length = 0 := by
    obtain ⟨u1, _, _⟩ := unitsUp_net L (fun x hx => h.lines.lineC hx) L.length (Nat.le_refl _)
    rw [List.take_length, (zero_sums h0).1] at u1
    show (unitsUp L L.length).length = 0
    omega
  obtain ⟨n1, n2, n3⟩ := hl.nothing h0 hu (zero_sums h0).2
  have hv := h.levy hz
  have hq := h.quoteIn hz false
  rw [n2] at hv
  have := levy_zero hv n3 (priceR R C L).deals
  refine ⟨?_, ?_, n1, hq.ngoods, hq.ntaxes⟩
  · unfold quoteR quoteB; rw [n2]; exact this.1
  · unfold quoteR quoteB; rw [n2]; exact this.2
theorem PlayOk.zero_S {R : Rules} {C : List Str} {L : List Line} (h : PlayOk R C L) {z : Zone} {s : Str} (hz : zoneF R.tax.zones s = some z) :
    ∃ sx, ∀ (sv : AV) (u : St), Shift [sv] u [arrOf 3 eLine (L.map zeroQ)] st0 → S P 22 [eRules R, eS s, eB false, eStrs C, sv] u fun v st' => v = .tuple [.agg [noA L.length, noA L.length, eI 0, eI sx, eI 0, noA 0], eI 0] ∧ st' = u := by
  have h0 := h.relines (basket_zero h.lines)
  have hN := h0.nothing hz fun x hx => by obtain ⟨y, _, rfl⟩ := List.mem_map.1 hx; rfl
  rw [List.length_map] at hN
  have hq := h0.quote_S hz false st0
  generalize quoteR R C (L.map zeroQ) z false = A at hN hq
  obtain ⟨G, T', sh, sx, tot, D⟩ := A
  obtain ⟨n1, n2, n3, n4, n5⟩ := hN
  obtain rfl : tot = 0 := n1
  obtain rfl : sh = 0 := n2
  obtain rfl : D = [] := n3
  have n4 : G.length = L.length := n4
  have n5 : T'.length = L.length := n5
  refine ⟨sx, fun sv u hs => S.lends hq (Shift.cons (Shift.keep [eRules R] _) (Shift.cons (Shift.keep [eS s] _) (Shift.cons (Shift.keep [eB false] _) (Shift.cons (Shift.keep [eStrs C] _) hs)))) fun v hv => ⟨_, rfl, ?_⟩⟩
  rw [hv]
  refine So.tuple (.cons (So.agg (.cons ?_ (.cons ?_ (.cons (So.int _ _) (.cons (So.int _ _) (.cons (So.int _ _) (.cons (So.arr _ _ _) .nil))))))) (.cons (So.int _ _) .nil))
  · rw [← n4]; exact So.arr _ _ _
  · rw [← n5]; exact So.arr _ _ _
set_option maxHeartbeats 8000000 in
theorem quoteNothing_S (r : Rules) (zone : Int) (codes : List Str) (l : List Line) (st : St) : S P 7 [eRules r, eI zone, eStrs codes, arrOf 3 eLine l] st fun v st' => v = .bool true := by
  have hOk := playOk r codes l
  obtain ⟨z, hz⟩ := playZone_find r zone
  have cR := fun s => playRules_S r s
  have cC := fun s => playCodes_S codes s
  have cL := fun s => playLinesO_S l s
  have cZ := fun s => zoneName_S zone s
  generalize playRules r = R at hOk cR hz
  generalize playCodes codes = C at hOk cC
  generalize playLines l = L at hOk cL
  generalize zoneN (modB zone 3) = Z at cZ hz
  have hln := hOk.lines.len
  obtain ⟨sx, pq⟩ := hOk.zero_S hz
  have fw := fun s => fewQ_S r codes l s
  generalize (fewC r && (decide ((codes.length : Int) < 30) && decide ((l.length : Int) < 40))) = FW at fw
  refine S_of_X [] good mixed Tryz.func7 (by rfl) rfl rfl rfl ?_; conv => whnf
  intro b4 hb4; conv => whnf
  refine ldV (upd_same ..) rfl (by omega) rfl ?_; conv => whnf
  refine call1 (fw _) ?_; conv => whnf
  cases FW
  case true =>
    conv => whnf
    refine ldV (upd_same ..) rfl (by omega) rfl ?_; conv => whnf
    refine call1 (cR _) ?_; conv => whnf
    refine call1 (cC _) ?_; conv => whnf
    refine call (cL _) (fun sv s1 hc => ?_)
    have at4 := hc.sup b4 _ (upd_same ..)
    rcases hc with ⟨h0, rfl, rfl⟩ | ⟨h0, bl, g, h1, rfl, rfl, hg⟩
    · conv => whnf
      refine stV at4 rfl (by omega) rfl (by rfl) ?_
      rw [upd_twice]; conv => whnf
      generalize hst : (upd st b4 _ : St) = S1
      obtain ⟨f4, at4, hf4⟩ : ∃ f4 : Nat → AV, S1 b4 = some ⟨49, 14, 1, f4⟩ ∧ f4 0 = eRules R := by
        rw [← hst]; exact ⟨_, upd_same .., by rw [fset_same]; rfl⟩
      clear hst
      refine once [1, 2, 3, 4, 9] ?_; conv => whnf
      intro I; conv => whnf
      have hsv : ∀ u', Sup S1 u' → Shift [.emp] u' [arrOf 3 eLine (L.map zeroQ)] st0 := fun u' _ => by
        have e : L = [] := List.length_eq_zero_iff.1 h0
        subst e
        exact (shift_emp 3 _).trans ((sup_st0 u').shift _)
      rw [h0] at pq
      refine ⟨[9, 10], [0, 2, 5], List.range 12, by kernel_rfl, ?_⟩; conv => whnf
      refine ⟨_, fun u' hu => ldV (hu _ _ at4) rfl (by omega) hf4 ⟨rfl, rfl⟩, ?_⟩; conv => whnf
      refine ⟨_, fun u' _ => callQ (cZ u'), ?_⟩; conv => whnf
      refine ⟨_, fun u' hu => callQ (pq _ u' (hsv u' hu)), ?_⟩; conv => whnf
      intro b10 hb10; conv => whnf
      refine stV (upd_same ..) rfl (by omega) rfl (by rfl) ?_
      rw [upd_twice]; conv => whnf
      refine call1 (awake20_S _) ?_
      have w8 : ∀ x : Int, (x == x) = true := fun x => beq_self_eq_true x
      repeat' ((conv => whnf); first | refine ldV (upd_same ..) rfl (by omega) (fset_same ..) ?_ | rw [w8])
      conv => whnf
      exact rfl
    · have hne : bl ≠ b4 := fun e => by subst e; rw [upd_same] at h1; cases h1
      conv => whnf
      refine stV at4 rfl (by omega) rfl (by rfl) ?_; conv => whnf
      generalize hst : (upd (upd (upd st b4 _) bl _) b4 _ : St) = S1
      obtain ⟨f4, at4, hf4⟩ : ∃ f4 : Nat → AV, S1 b4 = some ⟨49, 14, 1, f4⟩ ∧ f4 0 = eRules R := by
        rw [← hst]; exact ⟨_, upd_same .., by rw [fset_same]; rfl⟩
      have atl : S1 bl = some ⟨36, 3, L.length, g⟩ := by rw [← hst, upd_ne hne]; exact upd_same ..
      clear hst
      refine lp L.length [1, 2, 3, 4, 9] (fun i vs u => vs = [eI zone, eStrs C, .own 3 bl 0 L.length, .optr 14 b4 0 0, eI i] ∧ u b4 = some ⟨49, 14, 1, f4⟩ ∧ ∃ g, u bl = some ⟨36, 3, L.length, g⟩ ∧ ∀ k, k < L.length → g k = eLine ((zeroUp L i).getD k default)) ?_ ?_
      · conv => whnf
        exact ⟨rfl, at4, g, atl, hg⟩
      clear at4 atl hg
      rintro i vs u hi ⟨rfl, at4, g, atl, hg⟩
      conv => whnf
      cases h2 : decide ((i : Int) < (L.length : Int))
      case true =>
        have hi' := go_on h2
        have hgi := hg i hi'
        rw [zeroUp_at hi', if_neg (by omega)] at hgi; conv => whnf
        refine ⟨rfl, ⟨by omega, by omega⟩, ?_⟩; conv => whnf
        refine stV atl rfl (by omega) (v := eLine (L.getD i default)) (by rw [show 0 + ((i : Nat) : Int).toNat = i by omega]; exact hgi) (by rfl) ?_; conv => whnf
        refine ⟨rfl, ?_⟩; conv => whnf
        refine nx hi' ⟨by rw [wrapN (by omega)], by rw [upd_ne hne.symm]; exact at4, _, upd_same .., fun k hk => ?_⟩
        rw [zeroUp_at hk]
        by_cases e : k = i
        · subst e
          rw [if_pos (by omega), show 0 + ((k : Nat) : Int).toNat = k by omega, fset_same]; rfl
        · have := hg k hk
          rw [zeroUp_at hk] at this
          rw [show 0 + ((i : Nat) : Int).toNat = i by omega, fset_ne e, this]
          by_cases e2 : k < i
          · rw [if_pos e2, if_pos (by omega)]
          · rw [if_neg e2, if_neg (by omega)]
      obtain rfl := stop_at h2 hi
      conv => whnf
      have hsv : ∀ u', Sup u u' → Shift [.own 3 bl 0 L.length] u' [arrOf 3 eLine (L.map zeroQ)] st0 := fun u' hu => by
        have e : arrOf 3 eLine (L.map zeroQ) = .arr 3 L.length (fun k => eLine ((L.map zeroQ).getD k default)) := by unfold arrOf; rw [List.length_map]
        rw [e]
        exact (shift_own (hu _ _ atl) rfl (Nat.le_refl _) (fun k hk => by rw [← zeroUp_all]; exact hg k hk)).trans ((sup_st0 _).shift _)
      refine ⟨[9, 10], [0, 2, 5], List.range 12, by kernel_rfl, ?_⟩; conv => whnf
      refine ⟨_, fun u' hu => ldV (hu _ _ at4) rfl (by omega) hf4 ⟨rfl, rfl⟩, ?_⟩; conv => whnf
      refine ⟨_, fun u' _ => callQ (cZ u'), ?_⟩; conv => whnf
      refine ⟨_, fun u' hu => callQ (pq _ u' (hsv u' hu)), ?_⟩; conv => whnf
      intro b10 hb10; conv => whnf
      refine stV (upd_same ..) rfl (by omega) rfl (by rfl) ?_
      rw [upd_twice]; conv => whnf
      refine call1 (awake20_S _) ?_
      have w8 : ∀ x : Int, (x == x) = true := fun x => beq_self_eq_true x
      repeat' ((conv => whnf); first | refine ldV (upd_same ..) rfl (by omega) (fset_same ..) ?_ | rw [w8])
      conv => whnf
      exact rfl
  all_goals
    conv => whnf
    refine call1 (awake20_S _) ?_; conv => whnf
    exact rfl
end Go.Proofs.YtfajkgonocpddaaGreat
namespace Go.Ab
open Go Go.ChangeShapes
inductive LK where
  | bool
  | int (k : IntKind)
  | str
  | sl (ks : List LK)
def aggOf (l : List AV) : AV := match l with | [v] => v | l => .agg l
inductive Fit : LK → AV → Prop
  | bool (b : Bool) : Fit .bool (.bool b)
  | int (k : IntKind) (n : Int) (h : (Lit.int k n).wf = true) : Fit (.int k) (.int k n)
  | str (s : ByteArray) (h : s.size ≤ maxLen) : Fit .str (.str s)
  | sl (ks : List LK) (n : Nat) (L : Nat → List AV) (hn : n ≤ maxLen) (hl : ∀ i, i < n → (L i).length = ks.length) (hf : ∀ (i j : Nat) (y : AV) (k : LK), i < n → (L i)[j]? = some y → ks[j]? = some k → Fit k y) : Fit (.sl ks) (.arr ks.length n fun i => aggOf (L i))
theorem Fit.one {k : LK} {v : AV} (h : Fit k v) : v.one = true := by cases h <;> rfl
theorem cells_one {v : AV} (h : v.one = true) : cellsOf v = [v] := by cases v <;> first | rfl | cases h
theorem cells_agg {l : List AV} (h : ∀ v ∈ l, v.one = true) : cellsOf (aggOf l) = l := by
  unfold aggOf
  split
  · exact cells_one (h _ (List.mem_singleton.2 rfl))
  · rfl
theorem addr_add (a : Addr) (n m : Nat) : a.add (n + m) = (a.add n).add m := by
  unfold Addr.add
  by_cases h : n = 0
  · subst h; simp
  · by_cases k : m = 0
    · subst k; simp [h]
    · simp [h, k, Nat.add_assoc]
def fieldsK (P : Program) (r : TypeId → Option (List LK)) : List Field → Nat → Option (List LK)
  | [], _ => some []
  | f :: fs, o => match Nat.beq f.offset o, r f.type with
    | true, some ks => (match Nat.beq (P.cellsOf f.type) ks.length, fieldsK P r fs (o + ks.length) with
      | true, some l => some (ks ++ l)
      | _, _ => none)
    | _, _ => none
def kindsOf (P : Program) : Nat → TypeId → Option (List LK)
  | 0, _ => none
  | n + 1, t => match P.underlying t with
    | some .bool => some [.bool]
    | some (.int k) => some [.int k]
    | some .string => some [.str]
    | some (.slice e) => (match kindsOf P n e with
      | some ks => (match Nat.beq (P.cellsOf e) ks.length with | true => some [.sl ks] | false => none)
      | none => none)
    | some (.struct fs) => (match fieldsK P (kindsOf P n) fs.toList 0 with
      | some ks => (match Nat.beq (P.cellsOf t) ks.length with | true => some ks | false => none)
      | none => none)
    | _ => none
structure FitL (w : World) (ks : List LK) (l : List AV) (cs : List Value) : Prop where
  len : l.length = ks.length
  clen : cs.length = ks.length
  fit : ∀ (j : Nat) (y : AV) (k : LK), l[j]? = some y → ks[j]? = some k → Fit k y
  rep : ∀ (j : Nat) (y : AV) (c : Value), l[j]? = some y → cs[j]? = some c → RepW w st0 y c
theorem FitL.one {w : World} {ks : List LK} {l : List AV} {cs : List Value} (h : FitL w ks l cs) : ∀ v ∈ l, v.one = true := fun v hv => by
  obtain ⟨j, hj, rfl⟩ := List.getElem_of_mem hv
  exact (h.fit j _ (ks[j]'(by rw [← h.len]; exact hj)) (List.getElem?_eq_getElem hj) (List.getElem?_eq_getElem (by rw [← h.len]; exact hj))).one
theorem FitL.nil (w : World) : FitL w [] [] [] := ⟨rfl, rfl, fun j y k h => by simp at h, fun j y c h => by simp at h⟩
theorem FitL.app {w : World} {ks ks' : List LK} {l l' : List AV} {cs cs' : List Value} (h : FitL w ks l cs) (h' : FitL w ks' l' cs') : FitL w (ks ++ ks') (l ++ l') (cs ++ cs') := by
  have h1 := h.len; have h2 := h.clen; have h3 := h'.len; have h4 := h'.clen
  refine ⟨by simp [h1, h3], by simp [h2, h4], fun j y k hy hk => ?_, fun j y c hy hc => ?_⟩
  · by_cases hj : j < l.length
    · rw [List.getElem?_append_left hj] at hy; rw [List.getElem?_append_left (by omega)] at hk; exact h.fit j y k hy hk
    · rw [List.getElem?_append_right (by omega)] at hy; rw [List.getElem?_append_right (by omega)] at hk
      rw [show j - l.length = j - ks.length by omega] at hy; exact h'.fit _ y k hy hk
  · by_cases hj : j < l.length
    · rw [List.getElem?_append_left hj] at hy; rw [List.getElem?_append_left (by omega)] at hc; exact h.rep j y c hy hc
    · rw [List.getElem?_append_right (by omega)] at hy; rw [List.getElem?_append_right (by omega)] at hc
      rw [show j - l.length = j - cs.length by omega] at hy; exact h'.rep _ y c hy hc
theorem FitL.single {w : World} {k : LK} {v : AV} {c : Value} (h : Fit k v) (hr : RepW w st0 v c) : FitL w [k] [v] [c] :=
  ⟨rfl, rfl, fun j y k' hy hk => by cases j <;> simp at hy hk; subst hy; subst hk; exact h, fun j y c' hy hc => by cases j <;> simp at hy hc; subst hy; subst hc; exact hr⟩
section
variable {H : Type} {enc : TypeId × Value → H} {P : Program} {w : World} {base : Nat} {spare : Nat → Bool} {held : Bool}
theorem open_fields {n m : Nat} (ih : ∀ (t : TypeId) (ks : List LK) (cs : List Value) (x : DataW H × List MemPlace), kindsOf P n t = some ks → DataW.trod enc P w base spare held m t cs = some x → ∃ l, FitL w ks l cs) {cs : List Value} :
    ∀ (fs : List Field) (o : Nat) (ks : List LK), fieldsK P (kindsOf P n) fs o = some ks → (∀ f ∈ fs, ∃ x, DataW.trod enc P w base spare held m f.type ((cs.drop f.offset).take (P.cellsOf f.type)) = some x) → ∃ l, FitL w ks l ((cs.drop o).take ks.length)
  | [], o, ks, h, _ => by cases h; exact ⟨[], by simpa using FitL.nil w⟩
  | f :: fs, o, ks, h, hx => by
    unfold fieldsK at h
    split at h
    · rename_i k1 ho hk1
      split at h
      · rename_i k2 hc hk2
        cases h
        have ho := Nat.eq_of_beq_eq_true ho
        have hc := Nat.eq_of_beq_eq_true hc
        obtain ⟨x, h1⟩ := hx f (List.mem_cons_self ..)
        rw [ho, hc] at h1
        obtain ⟨l1, g1⟩ := ih f.type k1 _ x hk1 h1
        obtain ⟨l2, g2⟩ := open_fields ih fs (o + k1.length) k2 hk2 fun f' hf => hx f' (List.mem_cons_of_mem _ hf)
        refine ⟨l1 ++ l2, ?_⟩
        have e : (cs.drop o).take (k1 ++ k2).length = (cs.drop o).take k1.length ++ (cs.drop (o + k1.length)).take k2.length := by
          rw [List.length_append, List.take_add, List.drop_drop]
        rw [e]; exact g1.app g2
      · cases h
    · cases h
theorem open_kinds : ∀ (n m : Nat) (t : TypeId) (ks : List LK) (cs : List Value) (x : DataW H × List MemPlace), kindsOf P n t = some ks → DataW.trod enc P w base spare held m t cs = some x → ∃ l, FitL w ks l cs
  | 0, m, t, ks, cs, x, h, _ => by cases h
  | n + 1, m, t, ks, cs, x, h, hx => by
    unfold kindsOf at h
    split at h
    · rename_i ht; cases h; obtain ⟨b, rfl, _⟩ := DataW.trod_bool ht hx; exact ⟨[.bool b], .single (.bool b) (.bool b)⟩
    · rename_i k ht; cases h; obtain ⟨i, rfl, _, hw⟩ := DataW.trod_int ht hx; exact ⟨[.int k i], .single (.int k i hw) (.int k i)⟩
    · rename_i ht; cases h; obtain ⟨s, rfl, _, hs⟩ := DataW.trod_string ht hx; exact ⟨[.str s], .single (.str s hs) (.str s)⟩
    · rename_i e ht
      split at h
      case h_2 => cases h
      rename_i ks' hk
      split at h
      case h_2 => cases h
      rename_i hb
      cases h
      have hb := Nat.eq_of_beq_eq_true hb
      rcases DataW.trod_slice ht hx with ⟨rfl, _⟩ | ⟨a, len, cap, elems, rest, m', rfl, rfl, _, hba, hl, hm, hlen, hel, _, _⟩
      · exact ⟨[.arr ks'.length 0 (fun _ => aggOf [])], .single (.sl ks' 0 (fun _ => []) (Nat.zero_le _) (fun i hi => absurd hi (by omega)) (fun i j y k hi => absurd hi (by omega))) (.arr _ 0 _ none 0 (fun _ _ => undef) (Nat.le_refl _) (fun h => absurd h (by omega)) (fun i hi => absurd hi (by omega)) (fun i hi => absurd hi (by omega)) (fun a ha => by cases ha) (fun i j y hi => absurd hi (by omega)))⟩
      · have hall : ∀ i, ∃ p : List AV × List Value, i < len → w.cells? base (a.add (i * P.cellsOf e)) (P.cellsOf e) = some p.2 ∧ FitL w ks' p.1 p.2 := fun i => by
          by_cases hi : i < len
          · have h1 := hel i hi
            rw [List.getElem?_eq_getElem (by omega), Option.bind_eq_some_iff] at h1
            obtain ⟨c1, h2, h3⟩ := h1
            obtain ⟨l, h4⟩ := open_kinds n m' e ks' c1 _ hk h3
            exact ⟨(l, c1), fun _ => ⟨h2, h4⟩⟩
          · exact ⟨([], []), fun h => absurd h hi⟩
        obtain ⟨p, hp⟩ := Classical.axiomOfChoice hall
        refine ⟨[.arr ks'.length len (fun i => aggOf (p i).1)], .single (.sl ks' len (fun i => (p i).1) (by omega) (fun i hi => (hp i hi).2.len) (fun i j y k hi => (hp i hi).2.fit j y k)) ?_⟩
        have hc : ∀ i, i < len → cellsOf (aggOf (p i).1) = (p i).1 := fun i hi => cells_agg (hp i hi).2.one
        refine .arr _ len _ (some a) cap (fun i j => (p i).2.getD j undef) hl (fun _ => ⟨a, rfl⟩) (fun i hi => by rw [hc i hi]; exact (hp i hi).2.len) (fun i hi => by rw [hc i hi]; exact List.all_eq_true.2 (hp i hi).2.one) (fun b hb' i j hi hj => ?_) (fun i j y hi hy => ?_)
        · cases hb'
          have h5 := (World.cells?_some (hp i hi).1)
          have h6 := h5.2.2 j (by omega)
          have hj2 : j < (p i).2.length := by rw [(hp i hi).2.clen]; exact hj
          show w.cell? _ = _
          rw [List.getD_eq_getElem?_getD, List.getElem?_eq_getElem hj2, Option.getD_some]
          rw [List.getElem?_eq_getElem hj2] at h6
          rw [← h6, hb]; show w.cell? _ = w.cell? _; rw [addr_add]
        · rw [hc i hi] at hy
          have hj : j < (p i).1.length := (List.getElem?_eq_some_iff.1 hy).1
          have hj2 : j < (p i).2.length := by rw [(hp i hi).2.clen, ← (hp i hi).2.len]; exact hj
          rw [List.getD_eq_getElem?_getD, List.getElem?_eq_getElem hj2, Option.getD_some]
          exact (hp i hi).2.rep j y _ hy (List.getElem?_eq_getElem hj2)
    · rename_i fs ht
      split at h
      case h_2 => cases h
      rename_i ks' hk
      split at h
      case h_2 => cases h
      rename_i hb
      cases h
      have hb := Nat.eq_of_beq_eq_true hb
      obtain ⟨xs, m', rfl, _, hlen, hxl, hf⟩ := DataW.trod_struct ht hx
      obtain ⟨l, hl⟩ := open_fields (fun t ks cs x => open_kinds n m' t ks cs x) (cs := cs) fs.toList 0 ks hk fun f hfm => by
        obtain ⟨i, hi, rfl⟩ := List.getElem_of_mem hfm
        have := hf i fs[i] (by simp at hi; simp [hi])
        rw [List.getElem?_eq_getElem (by simp at hi; omega)] at this
        exact ⟨_, by simpa using this⟩
      refine ⟨l, ?_⟩
      rw [List.drop_zero, List.take_of_length_le (by omega)] at hl
      exact hl
    · cases h
end
end Go.Ab
namespace Go.Ab
open Go
abbrev FitAll (ks : List LK) (L : List AV) : Prop := L.length = ks.length ∧ ∀ (j : Nat) (y : AV) (k : LK), L[j]? = some y → ks[j]? = some k → Fit k y
abbrev DecQ {α : Type} (ks : List LK) (enc : α → AV) (Q : α → Prop) : Prop := ∀ L : List AV, FitAll ks L → ∃ x, LeL L (cellsOf (enc x)) ∧ (cellsOf (enc x)).all AV.one = true ∧ Q x
theorem Fit.inv_str {y : AV} (h : Fit .str y) : ∃ s : Str, y = eS s ∧ s.size ≤ maxLen := by cases h with | str s hs => exact ⟨s, rfl, hs⟩
theorem Fit.inv_int {y : AV} (h : Fit (.int .i64) y) : ∃ n : Int, y = eI n ∧ (Lit.int .i64 n).wf = true := by cases h with | int k n hn => exact ⟨n, rfl, hn⟩
theorem Fit.inv_bool {y : AV} (h : Fit .bool y) : ∃ b : Bool, y = eB b := by cases h with | bool b => exact ⟨b, rfl⟩
theorem Fit.inv_sl {α : Type} [Inhabited α] {ks : List LK} {y : AV} {enc : α → AV} {Q : α → Prop} (hd : DecQ ks enc Q) (h : Fit (.sl ks) y) :
    ∃ l : List α, Le y (arrOf ks.length enc l) ∧ l.length ≤ maxLen ∧ ∀ x ∈ l, Q x := by
  cases h with
  | sl ks n L hn hl hf =>
    have h1 : ∀ i, ∃ x, i < n → LeL (L i) (cellsOf (enc x)) ∧ (cellsOf (enc x)).all AV.one = true ∧ Q x := fun i => by
      by_cases hi : i < n
      · obtain ⟨x, hx⟩ := hd (L i) ⟨hl i hi, fun j y k => hf i j y k hi⟩
        exact ⟨x, fun _ => hx⟩
      · exact ⟨default, fun h => absurd h hi⟩
    obtain ⟨g, hg⟩ := Classical.axiomOfChoice h1
    have hlen : ((List.range n).map g).length = n := by rw [List.length_map, List.length_range]
    refine ⟨(List.range n).map g, ?_, by rw [hlen]; exact hn, fun x hx => ?_⟩
    · unfold arrOf
      rw [hlen]
      refine Le.arr fun i hi => ?_
      have e : ((List.range n).map g).getD i default = g i := by
        rw [List.getD_eq_getElem?_getD, List.getElem?_map, List.getElem?_range hi]; rfl
      have one : ∀ v ∈ L i, v.one = true := fun v hv => by
        obtain ⟨j, hj, rfl⟩ := List.getElem_of_mem hv
        exact (hf i j _ (ks[j]'(by rw [← hl i hi]; exact hj)) hi (List.getElem?_eq_getElem hj) (List.getElem?_eq_getElem (by rw [← hl i hi]; exact hj))).one
      rw [e, cells_agg one]
      exact ⟨(hg i hi).1, (hg i hi).2.1⟩
    · obtain ⟨i, hi, rfl⟩ := List.mem_map.1 hx
      exact (hg i (List.mem_range.1 hi)).2.2
theorem FitL.slice {α : Type} [Inhabited α] {w : World} {ks : List LK} {l : List AV} {c : Value} {enc : α → AV} {Q : α → Prop} (hd : DecQ ks enc Q) (h : FitL w [.sl ks] l [c]) :
    ∃ x : List α, RepW w st0 (arrOf ks.length enc x) c ∧ x.length ≤ maxLen ∧ ∀ y ∈ x, Q y := by
  obtain ⟨y, rfl⟩ := List.length_eq_one_iff.1 h.len
  obtain ⟨x, h1, h2, h3⟩ := (h.fit 0 y (.sl ks) rfl rfl).inv_sl hd
  exact ⟨x, h1 _ _ _ (h.rep 0 y c rfl rfl), h2, h3⟩
theorem fit3 {k0 k1 k2 : LK} {L : List AV} (h : FitAll [k0, k1, k2] L) : ∃ a b c, L = [a, b, c] ∧ Fit k0 a ∧ Fit k1 b ∧ Fit k2 c := by
  obtain ⟨h1, h2⟩ := h
  match L, h1 with
  | [a, b, c], _ => exact ⟨a, b, c, rfl, h2 0 _ _ rfl rfl, h2 1 _ _ rfl rfl, h2 2 _ _ rfl rfl⟩
abbrev kLine : List LK := [.str, .int .i64, .int .i64]
theorem decLine : DecQ kLine eLine fun _ => True := fun L h => by
  obtain ⟨a, b, c, rfl, ha, hb, hc⟩ := fit3 h
  obtain ⟨a, rfl, _⟩ := ha.inv_str
  obtain ⟨b, rfl, _⟩ := hb.inv_int
  obtain ⟨c, rfl, _⟩ := hc.inv_int
  exact ⟨⟨a, b, c⟩, LeL.refl _, rfl, trivial⟩
end Go.Ab
