/- Part 21 of the proof: contracts of the functions that the law reaches -/
import Derived.Test.YtfajkgonocpddaaGreatQn20
set_option maxRecDepth 100000
set_option linter.unusedVariables false
set_option linter.unusedSimpArgs false
namespace Go.Proofs.YtfajkgonocpddaaGreat
open Go Go.Ab
attribute [local irreducible] upd del
def netF (us : List AUnit) (l : List Int) : Int := sumI (l.map fun i => (gU us i.toNat).net)
theorem netF_take {us : List AUnit} (hu : UnitsOk us) {l : List Int} (hl : ∀ k, k < l.length → 0 ≤ gI l k ∧ (gI l k).toNat < us.length) (hn : l.length ≤ 800000) {i : Nat} (hi : i < l.length) :
    IntKind.i64.wrap (netF us (l.take i) + (gU us (gI l i).toNat).net) = netF us (l.take (i + 1)) := by
  have hc := costL_bound hu (l.take i) (fun x hx => by obtain ⟨k, hk, rfl⟩ := mem_getD (List.take_subset _ _ hx); exact hl k hk)
  have h3 : 0 ≤ (gU us (gI l i).toNat).net := hu.pos _ (getD_mem (hl i hi).2)
  have h4 : (gU us (gI l i).toNat).net ≤ 10000000000000 := hu.le (getD_mem (hl i hi).2)
  have e : netF us (l.take (i + 1)) = netF us (l.take i) + (gU us (gI l i).toNat).net := by
    unfold netF; rw [take_next hi, List.map_append, sumI_append]; simp [sumI]
  have hcl : (l.take i).length ≤ 800000 := by rw [List.length_take]; omega
  have e2 : costL us (l.take i) = netF us (l.take i) := rfl
  rw [e]
  exact wrap64_of (by omega) (by omega)
theorem net_S (bx : Nat) (items : List Ab.Item) (p : PSt) (hu : UnitsOk p.us) (l : List Int) (hn : l.length ≤ 800000) (hl : ∀ k, k < l.length → 0 ≤ gI l k ∧ (gI l k).toNat < p.us.length) (s t : St) (h : PxR bx items p s t) :
    S P 155 [.optr 4 bx 0 0, eInts l] t fun v t' => v = eI (netF p.us l) ∧ t' = t := by
  obtain ⟨dv, gv, fx, hx, hx0, hdv, hgv⟩ := h.at
  refine S_of_X [] good mixed Tryz.func155 (by rfl) rfl rfl rfl ?_; conv => whnf
  refine ⟨[0, 5, 8, 9, 10], fun m vs t' => ∃ i : Nat, i ≤ l.length ∧ m = l.length - i ∧ vs = [.optr 4 bx 0 0, eI (netF p.us (l.take i)), eInts l, eI l.length, eI i] ∧ t' = t, ?_, ?_⟩
  · conv => whnf
    exact ⟨_, 0, Nat.zero_le _, rfl, rfl, rfl⟩
  · rintro m vs t' ⟨i, hi, rfl, rfl, rfl⟩
    conv => whnf
    cases h2 : decide ((i : Int) < (l.length : Int))
    · have := of_decide_eq_false h2
      obtain rfl : i = l.length := by omega
      rw [List.take_length]; conv => whnf
      exact ⟨rfl, rfl⟩
    · have hi' : i < l.length := by have := of_decide_eq_true h2; omega
      have hr := hl i hi'
      conv => whnf
      refine ⟨rfl, ⟨by omega, by omega⟩, ?_⟩; conv => whnf
      refine ldV hx rfl (by omega) hx0 ?_; conv => whnf
      refine ⟨rfl, ⟨by show 0 ≤ gI l i; exact hr.1, by show gI l i < (p.us.length : Int); have := hr.2; have := hr.1; omega⟩, ?_⟩; conv => whnf
      refine ⟨rfl, ?_⟩; conv => whnf
      exact ⟨l.length - (i + 1), by omega, i + 1, by omega, rfl, by rw [wrapN (by omega), ← netF_take hu hl hn hi']; rfl, rfl⟩
theorem netO_S (bx : Nat) (items : List Ab.Item) (p : PSt) (hu : UnitsOk p.us) (l : List Int) (hn : l.length ≤ 800000) (hl : ∀ k, k < l.length → 0 ≤ gI l k ∧ (gI l k).toNat < p.us.length) (s t : St) (h : PxR bx items p s t)
    (b : Nat) (m0 : Nat) (f : Nat → AV) (hm0 : l.length ≤ m0) (hb : t b = some ⟨3, 1, m0, f⟩) (hf : ∀ k, k < l.length → f k = eI (gI l k)) :
    S P 155 [.optr 4 bx 0 0, .own 1 b 0 l.length] t fun v t' => v = eI (netF p.us l) ∧ t' = t := by
  obtain ⟨dv, gv, fx, hx, hx0, hdv, hgv⟩ := h.at
  refine S_of_X [] good mixed Tryz.func155 (by rfl) rfl rfl rfl ?_; conv => whnf
  refine ⟨[0, 5, 8, 9, 10], fun m vs t' => ∃ i : Nat, i ≤ l.length ∧ m = l.length - i ∧ vs = [.optr 4 bx 0 0, eI (netF p.us (l.take i)), .own 1 b 0 l.length, eI l.length, eI i] ∧ t' = t, ?_, ?_⟩
  · conv => whnf
    exact ⟨_, 0, Nat.zero_le _, rfl, rfl, rfl⟩
  · rintro m vs t' ⟨i, hi, rfl, rfl, rfl⟩
    conv => whnf
    cases h2 : decide ((i : Int) < (l.length : Int))
    · have := of_decide_eq_false h2
      obtain rfl : i = l.length := by omega
      rw [List.take_length]; conv => whnf
      exact ⟨rfl, rfl⟩
    · have hi' : i < l.length := by have := of_decide_eq_true h2; omega
      have hr := hl i hi'
      conv => whnf
      refine ⟨rfl, ⟨by omega, by omega⟩, ?_⟩; conv => whnf
      refine ldV hb rfl (by omega) (v := eI (gI l i)) (by rw [show 0 + (i : Int).toNat = i by omega]; exact hf i hi') ?_; conv => whnf
      refine ldV hx rfl (by omega) hx0 ?_; conv => whnf
      refine ⟨rfl, ⟨by show 0 ≤ gI l i; exact hr.1, by show gI l i < (p.us.length : Int); have := hr.2; have := hr.1; omega⟩, ?_⟩; conv => whnf
      refine ⟨rfl, ?_⟩; conv => whnf
      exact ⟨l.length - (i + 1), by omega, i + 1, by omega, rfl, by rw [wrapN (by omega), ← netF_take hu hl hn hi'], rfl⟩
def noteF (p : PSt) (pr : Promo) (off : Int) : PSt := ⟨p.us, p.deals ++ [⟨pr.id, off⟩], p.groups ++ (if isNil pr.group = true then [] else [pr.group])⟩
theorem getD_app {α : Type} [Inhabited α] {a b : List α} {k : Nat} (h : k < a.length) : (a ++ b).getD k default = a.getD k default := by
  rw [List.getD_eq_getElem?_getD, List.getD_eq_getElem?_getD, List.getElem?_append_left h]
theorem getD_lst {α : Type} [Inhabited α] (a : List α) (x : α) : (a ++ [x]).getD a.length default = x := by
  simp [List.getD_eq_getElem?_getD]
theorem RD.at {bx : Nat} {dl : List Deal} {gr : List Str} {dv gv : AV} {s t : St} {f : Nat → AV} (h : RD dl gr dv gv (upd s bx ⟨131, 4, 1, f⟩) t) : t bx = some ⟨131, 4, 1, f⟩ := (besideD _ _ _ _).sup h bx _ (upd_same ..)
theorem RD.put {bx : Nat} {dl : List Deal} {gr : List Str} {dv gv : AV} {s t : St} {f f' : Nat → AV} (h : RD dl gr dv gv (upd s bx ⟨131, 4, 1, f⟩) t) : RD dl gr dv gv (upd s bx ⟨131, 4, 1, f'⟩) (upd t bx ⟨131, 4, 1, f'⟩) := by
  have := (besideD dl gr dv gv).write (y' := ⟨131, 4, 1, f'⟩) h (upd_same ..)
  rw [upd_twice] at this; exact this
theorem RD.of {dl : List Deal} {gr : List Str} {dv gv : AV} {s t : St} {d : Deal} (h : ROut (RG gr gv) 70 2 (fDeals (dl ++ [d])) (dl.length + 1) s dv t) : RD (dl ++ [d]) gr dv gv s t := by
  unfold RD; rw [List.length_append]; exact h
theorem RD.grp {K : KK} {X : Prop} {dl : List Deal} {gr : List Str} {dv gv : AV} {s t : St} (h : RD dl gr dv gv s t) (g : Str)
    (happ : ∀ {s1 : St}, ROut Sup 9 1 (fStrs (gr ++ [g])) gr.length s1 gv t → (∀ gv' t', ROut Sup 9 1 (fStrs (gr ++ [g])) (gr.length + 1) s1 gv' t' → K gv' t') → X)
    (hk : ∀ gv' t', RD dl (gr ++ [g]) dv gv' s t' → (gv' = .emp ∨ ∃ b, gv' = .own 1 b 0 (gr ++ [g]).length) → K gv' t') : X := by
  obtain ⟨s1, hc, hg⟩ := h
  refine happ (s1 := s1) (hg.congr fun k hk => by simp only [fStrs]; rw [getD_app hk]) (fun gv' t' hg' => ?_)
  have hg2 : RG (gr ++ [g]) gv' s1 t' := by unfold RG; rw [List.length_append]; exact hg'
  exact hk gv' t' ⟨s1, hc, hg2⟩ (ROut.head hg2)
theorem PxR.mk' {bx : Nat} {items : List Ab.Item} {p : PSt} {dv gv : AV} {s t : St} {f : Nat → AV} (hbx : s bx = none) (hf : f 0 = .agg [arrOf 4 eItem items, eUnits p.us, dv, gv]) (h : RD p.deals p.groups dv gv (upd s bx ⟨131, 4, 1, f⟩) t) : PxR bx items p s t :=
  ⟨(dv, gv), hbx, _, ⟨f, rfl, hf⟩, h⟩
theorem PxR.fin {bx : Nat} {items : List Ab.Item} {us : List AUnit} {dl : List Deal} {gr : List Str} {dv gv : AV} {s t : St} {f : Nat → AV} (hbx : s bx = none) (h : RD dl gr dv gv (upd s bx ⟨131, 4, 1, f⟩) t) (f' : Nat → AV) (hf : f' 0 = .agg [arrOf 4 eItem items, eUnits us, dv, gv]) :
    PxR bx items ⟨us, dl, gr⟩ s (upd t bx ⟨131, 4, 1, f'⟩) := PxR.mk' hbx hf (RD.put h)
theorem note_S (bx : Nat) (items : List Ab.Item) (p : PSt) (pr : Promo) (off : Int) (hd : p.deals.length ≤ 1000) (hg : p.groups.length ≤ 1000) (s t : St) (h : PxR bx items p s t) :
    S P 110 [.optr 4 bx 0 0, ePromo pr, eI off] t fun v t' => v = .tuple [] ∧ PxR bx items (noteF p pr off) s t' := by
  obtain ⟨⟨dv, gv⟩, hbx, y, ⟨f, rfl, hf⟩, hRD⟩ := h
  simp only at hf hRD
  refine S_of_X [4] good mixed Tryz.func110 (by rfl) rfl rfl rfl ?_; conv => whnf
  refine ⟨[10, 13], [], [0, 1, 2, 3, 4, 5, 6, 7, 8, 9, 10, 11, 12, 13], by kernel_rfl, ?_⟩
  have hdv : dv = .emp ∨ ∃ b, dv = .own 2 b 0 p.deals.length := ROut.head hRD
  have hgv : gv = .emp ∨ ∃ b, gv = .own 1 b 0 p.groups.length := by obtain ⟨s0, hc, hgg⟩ := hRD; exact ROut.head hgg
  rcases hdv with rfl | ⟨bd, rfl⟩ <;> rcases hgv with rfl | ⟨bg, rfl⟩
  all_goals
    conv => whnf
    refine ldV hRD.at rfl (by omega) hf ?_; conv => whnf
    refine ⟨_, ⟨rfl, rfl⟩, ?_⟩; conv => whnf
    refine ROut.app (q := r70) (besideG _ _) rfl rfl rfl rfl rfl (f := fDeals (p.deals ++ [⟨pr.id, off⟩])) (by simp only [fDeals, getD_lst]; rfl) (by show (p.deals.length + 1) * 24 ≤ 140737488355328; omega) (hRD.congr fun k hk => by simp only [fDeals]; rw [getD_app hk]) (fun dv' t2 hRD2 => ?_)
    have hRD2' := RD.of hRD2
    rcases ROut.head hRD2' with rfl | ⟨bd', rfl⟩
    all_goals
      conv => whnf
      refine stV hRD2'.at rfl (by omega) hf (by rfl) ?_; conv => whnf
      have hnil : (ByteArray.toList pr.group == ByteArray.toList ⟨#[]⟩) = isNil pr.group := rfl
      rw [hnil]
      cases hgr : isNil pr.group
      · conv => whnf
        refine ⟨[8, 11], [], [0, 1, 2, 3, 4, 5, 6, 7, 8, 9, 10, 11], by kernel_rfl, ?_⟩; conv => whnf
        refine ldV (RD.put hRD2').at rfl (by omega) (by rw [fset_same]) ?_; conv => whnf
        refine ⟨_, ⟨rfl, rfl⟩, ?_⟩; conv => whnf
        refine RD.grp (RD.put hRD2') pr.group (fun happ => ROut.app (q := r9) besideSup rfl rfl rfl rfl rfl (by simp only [fStrs, getD_lst]; rfl) (by show (p.groups.length + 1) * 16 ≤ 140737488355328; omega) happ) (fun gv' t4 hRD4 hh => ?_)
        rcases hh with rfl | ⟨bg', rfl⟩
        all_goals
          conv => whnf
          refine stV hRD4.at rfl (by omega) (by rw [fset_same]) (by rfl) ?_; conv => whnf
          refine ⟨rfl, ?_⟩
          unfold noteF
          rw [hgr]
          exact PxR.fin hbx hRD4 _ (by rw [fset_same]; rfl)
      · conv => whnf
        refine ⟨rfl, ?_⟩
        unfold noteF
        rw [hgr]
        simp only [if_true, List.append_nil]
        exact PxR.fin hbx hRD2' _ (by rw [fset_same]; rfl)
end Go.Proofs.YtfajkgonocpddaaGreat
namespace Go.Proofs.YtfajkgonocpddaaGreat
open Go Go.Ab
theorem upB_iff {lo hi x : Int} : upB lo hi x = true ↔ lo ≤ x ∧ x ≤ hi := by
  unfold upB; simp only [Bool.and_eq_true, decide_eq_true_eq, ge_iff_le]
theorem allAt_iff {α : Type} [Inhabited α] {l : List α} {p : Nat → α → Bool} : allAt l p = true ↔ ∀ k, k < l.length → p k (l.getD k default) = true := by
  unfold allAt
  rw [List.all_eq_true]
  exact ⟨fun h k hk => h k (List.mem_range.2 hk), fun h k hk => h k (List.mem_range.1 hk)⟩
structure PromoOk (p : Promo) : Prop where
  kind : 1 ≤ p.kind ∧ p.kind < 8
  skus : p.scope.skus.length ≤ 20
  cats : p.scope.cats.length ≤ 20
  least : 0 ≤ p.least ∧ p.least ≤ 10000000000000
  buy : p.kind = 3 → BuyOk p
  bun : p.kind = 4 → BunOk p ∧ ∀ x ∈ p.parts, x.scope.skus.length ≤ 20 ∧ x.scope.cats.length ≤ 20
  ask : PromoFit p → p.kind = 1 ∨ p.kind = 2 ∨ p.kind = 5 ∨ p.kind = 6 → AskOk p
  ship : p.kind = 7 → 1 ≤ p.rate ∧ p.rate ≤ 10000
theorem tiersC_ok {l : List Tier} (h : tiersC l = true) : TiersOk l := by
  unfold tiersC at h
  simp only [Bool.and_eq_true, Bool.not_eq_true', Bool.or_eq_false_iff, decide_eq_false_iff_not] at h
  refine ⟨by omega, fun t ht => ?_⟩
  obtain ⟨k, hk, rfl⟩ := mem_getD ht
  have h2 := allAt_iff.1 h.2 k hk
  unfold tierAt at h2
  simp only [Bool.not_eq_true', Bool.or_eq_false_iff, decide_eq_false_iff_not] at h2
  omega
theorem promoOk {p : Promo} (h : promoC p = true) : PromoOk p := by
  have h0 := h
  unfold promoC at h
  simp only [Bool.and_eq_true, decide_eq_true_eq] at h
  obtain ⟨⟨⟨⟨hk1, hk2⟩, hh⟩, hp⟩, hkd⟩ := h
  have hl := pHead_len hh
  simp only [pHead, Bool.and_eq_true, upB_iff] at hh
  unfold pKind at hkd
  refine ⟨⟨hk1, hk2⟩, hl.1, hl.2, hh.2, fun e => ?_, fun e => ?_, fun hf e => ?_, fun e => ?_⟩
  · rw [e] at hkd
    simp [pBuyGet, pRate, upB_iff] at hkd
    exact ⟨hkd.2.1, hkd.2.2, ⟨by omega, hkd.1.2⟩⟩
  · rw [e] at hkd
    simp only [show ¬ (4 : Int) = 1 by decide, show ¬ (4 : Int) = 2 by decide, show ¬ (4 : Int) = 3 by decide, if_false, if_true] at hkd
    unfold pBundle at hkd
    simp only [Bool.and_eq_true, Bool.not_eq_true', Bool.or_eq_false_iff, decide_eq_false_iff_not, List.any_eq_false] at hkd
    obtain ⟨⟨⟨⟨a1, a2⟩, a3⟩, a4⟩, a5⟩ := hkd
    have hpt : ∀ x ∈ p.parts, partC x = true := fun x hx => by simpa using a5 x hx
    refine ⟨⟨by omega, by omega, fun x hx => ?_, by omega, by omega⟩, fun x hx => ?_⟩
    · have := hpt x hx
      unfold partC at this
      simp only [Bool.and_eq_true, Bool.not_eq_true', Bool.or_eq_false_iff, decide_eq_false_iff_not] at this
      omega
    · have := hpt x hx
      unfold partC at this
      simp only [Bool.and_eq_true] at this
      exact scopeB_len this.1
  · refine ⟨hf, h0, e, fun e2 => ?_, fun e2 => ?_⟩
    · rcases e2 with e2 | e2 <;> rw [e2] at hkd <;> simp at hkd <;> exact tiersC_ok hkd
    · rw [e2] at hkd
      simp [pAmount, upB_iff] at hkd
      omega
  · rw [e] at hkd
    simp [pRate, upB_iff] at hkd
    exact hkd
theorem offs_le {p : Promo} (hp : AskOk p) {nets : List Int} (h0 : ∀ x ∈ nets, 0 ≤ x) (hs : sumI nets ≤ 10000000000000) (hl : nets.length ≤ 100000) : ∀ k, k < (offsOf p nets).length → gI (offsOf p nets) k ≤ gI nets k := fun k hk => by
  have hn := sumI_nonneg h0
  have hlen := (offs_bound hp h0 hs hl).2.1
  have hx : 0 ≤ gI nets k := h0 _ (getD_mem (by omega))
  have hkn : k < nets.length := by omega
  unfold offsOf at hk ⊢
  have hmap : ∀ (r a : Int), 0 ≤ a → gI (nets.map fun x => offC x r a) k ≤ gI nets k := fun r a ha => by
    rw [show gI (nets.map fun x => offC x r a) k = offC (gI nets k) r a from getD_map (fun x => offC x r a) nets hkn]
    exact (offC_bound hx ha).2
  rcases hp.kind with e | e | e | e
  · rw [if_pos e] at hk ⊢; exact hmap _ _ (Int.le_refl _)
  · rw [if_neg (by omega), if_pos e] at hk ⊢; exact hmap _ _ (hp.amount e).1
  · rw [if_neg (by omega), if_neg (by omega), if_pos e] at hk ⊢
    have hok := reached_ok (hp.tiers (.inl e)) (sumI nets)
    unfold offsS at hk ⊢
    split at hk
    · simp at hk
    · rename_i t hr
      rw [hr] at hok
      have hob : 0 ≤ offC (sumI nets) t.rate t.amount ∧ offC (sumI nets) t.rate t.amount ≤ sumI nets := offC_bound hn hok.1
      have hW : Weights (offC (sumI nets) t.rate t.amount) nets := ⟨hob.1, by omega, hl, h0, by omega, fun e => by omega⟩
      have hll := (largest_sum hW).2.1
      exact largest_le hW hob.2 (by omega)
  · rw [if_neg (by omega), if_neg (by omega), if_neg (by omega)] at hk ⊢
    have hok := reached_ok (hp.tiers (.inr e)) nets.length
    unfold offsC at hk ⊢
    split at hk
    · simp at hk
    · rename_i t hr
      rw [hr] at hok
      exact hmap _ _ hok.1
theorem netsAt_weigh (us : List AUnit) (mine : List Int) : netsAt us mine = weighF us mine := rfl
theorem applyB_off {p : Promo} (hp : AskOk p) {us : List AUnit} (hu : UnitsOk us) {mine : List Int} (hm : MineOk us mine) : Off us (applyB p us mine).1 (applyB p us mine).2 := by
  have hnl : (netsAt us mine).length = mine.length := List.length_map ..
  have hml := hm.len
  have hul := hu.len
  have hn0 : ∀ x ∈ netsAt us mine, 0 ≤ x := fun x hx => by
    obtain ⟨i, hi, rfl⟩ := List.mem_map.1 hx
    exact hu.at0 _
  have hwl := weigh_le hu hm.places
  have hus := hu.sum
  have hns : sumI (netsAt us mine) ≤ 10000000000000 := by rw [netsAt_weigh]; omega
  obtain ⟨ob1, ob2, ob3⟩ := offs_bound hp hn0 hns (by omega)
  have hle := offs_le hp hn0 hns (by omega)
  have h1 := takeOff_off hu hm.places (offs := offsOf p (netsAt us mine)) (by omega) (fun k hk => ⟨ob3 _ (getD_mem hk), by
    have := hle k hk
    rw [show gI (netsAt us mine) k = (gU us (gI mine k).toNat).net from getD_map (fun i : Int => (gU us i.toNat).net) mine (by omega)] at this
    exact this⟩) (offsOf p (netsAt us mine)).length (Nat.le_refl _)
  rw [List.take_length] at h1
  unfold applyB
  simp only
  split
  · have h2 := Off.closeB (h1.ok hu) mine (fun x hx => by
      obtain ⟨k, hk, rfl⟩ := mem_getD hx
      rw [h1.len]; exact (hm.rng k hk).2)
    have h3 := h1.trans h2
    rw [Int.add_zero] at h3; exact h3
  · exact h1
end Go.Proofs.YtfajkgonocpddaaGreat
namespace Go.Proofs.YtfajkgonocpddaaGreat
open Go Go.Ab
attribute [local irreducible] upd del
theorem PxR.more {bx : Nat} {items : List Ab.Item} {p : PSt} {s t t' : St} (h : PxR bx items p s t) (hs : Sup t t') : PxR bx items p s t' := by
  obtain ⟨v, h1, y, h2, s1, h3, s2, h4, h5⟩ := h
  exact ⟨v, h1, y, h2, s1, h3, s2, h4, h5.trans hs⟩
structure UsOk (items : List Ab.Item) (us : List AUnit) : Prop where
  ok : UnitsOk us
  few : items.length ≤ 100000
  line : ∀ u ∈ us, 0 ≤ u.line ∧ u.line.toNat < items.length
theorem UsOk.off {items : List Ab.Item} {us us' : List AUnit} {x : Int} (h : UsOk items us) (ho : Off us us' x) : UsOk items us' :=
  ⟨ho.ok h.ok, h.few, fun u hu => by
    obtain ⟨k, hk, rfl⟩ := mem_getD hu
    have h1 := ho.line k
    have h2 := h.line (gU us k) (getD_mem (by rw [← ho.len]; exact hk))
    show 0 ≤ (gU us' k).line ∧ (gU us' k).line.toNat < items.length
    rw [h1]; exact h2⟩
def singleB (items : List Ab.Item) (us : List AUnit) (pr : Promo) : List AUnit × Int :=
  if netF us (mineB pr.scope items us us.length) < pr.least then ([], 0)
  else if pr.kind = 3 then buyGetB pr us (mineB pr.scope items us us.length) else applyB pr us (mineB pr.scope items us us.length)
theorem call1s {P : Program} {f : FuncId} {args : List AV} {st st1 : St} {v : AV} {K : KK} (h : S P f args st fun v' st' => v' = v ∧ st' = st1) (hK : K v st1) : xCall P f args st K := call h fun v' st' ⟨e1, e2⟩ => by rw [e1, e2]; exact hK
theorem single_S (bx : Nat) (items : List Ab.Item) (p : PSt) (pr : Promo) (hfit : PromoFit pr) (hright : promoC pr = true) (hk : pr.kind ≠ 4 ∧ pr.kind ≠ 7) (hu : UsOk items p.us) (s t : St) (h : PxR bx items p s t) :
    S P 108 [.optr 4 bx 0 0, ePromo pr] t fun v t' => v = .tuple [eUnits (singleB items p.us pr).1, eI (singleB items p.us pr).2] ∧ t' = t := by
  have hok := promoOk hright
  have hm := mineB_ok pr.scope items p.us
  have hml := hm.len
  have hul := hu.ok.len
  refine S.post (post := fun v t' => (v = .tuple [eUnits (singleB items p.us pr).1, eI (singleB items p.us pr).2] ∨ (singleB items p.us pr = ([], 0) ∧ v = .tuple [.emp, eI 0])) ∧ t' = t) ?_ (fun v t' ⟨hv, ht⟩ => by
    subst ht
    rcases hv with rfl | ⟨h1, rfl⟩
    · exact ⟨_, _, ⟨rfl, rfl⟩, Shift.refl _ _⟩
    · exact ⟨_, _, ⟨rfl, rfl⟩, by rw [h1]; exact Shift.tuple (Shift.cons (shift_emp 3 _) (Shift.keep _ _)) rfl⟩)
  obtain ⟨dv, gv, fx, hx, hx0, hdv, hgv⟩ := h.at
  refine S_of_X [3] good mixed Tryz.func108 (by rfl) rfl rfl rfl ?_; conv => whnf
  refine call1 (mine_S bx items p pr.scope hok.skus hok.cats hul hu.few hu.line s t h) ?_; conv => whnf
  refine ⟨[], [], [0, 1, 2, 3, 4, 5], by kernel_rfl, ?_⟩; conv => whnf
  refine ⟨_, callQ (net_S bx items p hu.ok _ (by omega) hm.rng s t h), ?_⟩
  have hS : singleB items p.us pr = if netF p.us (mineB pr.scope items p.us p.us.length) < pr.least then ([], 0) else if pr.kind = 3 then buyGetB pr p.us (mineB pr.scope items p.us p.us.length) else applyB pr p.us (mineB pr.scope items p.us p.us.length) := rfl
  conv => whnf
  refine fork (fun h1 => ?_) (fun h1 => ?_) <;> rw [h1] <;> simp only [decide_eq_true_eq, decide_eq_false_iff_not] at h1
  · rw [if_pos h1] at hS; conv => whnf
    exact ⟨.inr ⟨hS, rfl⟩, rfl⟩
  rw [if_neg h1] at hS; conv => whnf
  refine fork (fun h2 => ?_) (fun h2 => ?_) <;> rw [h2] <;> simp only [beq_iff_eq, beq_eq_false_iff_ne] at h2
  · rw [if_pos h2] at hS; conv => whnf
    refine ⟨[], [], [0, 1, 2, 3, 4, 5, 6, 7, 8, 9, 10], by kernel_rfl, ?_⟩; conv => whnf
    refine ldV hx rfl (by omega) hx0 ?_; conv => whnf
    refine ⟨_, callQ (buyGet_S pr p.us _ hfit hright h2 (hok.buy h2) hu.ok hm t), ?_⟩; conv => whnf
    exact ⟨.inl (by rw [hS]; rfl), rfl⟩
  · rw [if_neg h2] at hS
    have hask : AskOk pr := hok.ask hfit (by have := hok.kind; have := hk.1; have := hk.2; omega)
    conv => whnf
    refine ⟨[], [], [0, 1, 2, 3, 4, 5, 6, 7, 8, 9, 10], by kernel_rfl, ?_⟩; conv => whnf
    refine ldV hx rfl (by omega) hx0 ?_; conv => whnf
    refine ⟨_, callQ (apply_S pr p.us _ hask hu.ok hm t), ?_⟩; conv => whnf
    exact ⟨.inl (by rw [hS]; rfl), rfl⟩
theorem gI_right (a b : List Int) (j : Nat) : gI (a ++ b) (a.length + j) = gI b j := by
  unfold gI
  rw [List.getD_eq_getElem?_getD, List.getD_eq_getElem?_getD, List.getElem?_append_right (by omega), Nat.add_sub_cancel_left]
theorem netE_S (bx : Nat) (t : St) : S P 155 [.optr 4 bx 0 0, .emp] t fun v t' => v = eI 0 ∧ t' = t := by
  refine S_of_X [] good mixed Tryz.func155 (by rfl) rfl rfl rfl ?_; conv => whnf
  refine once [0, 5, 8, 9, 10] ?_; conv => whnf
  intro I; conv => whnf
  exact ⟨rfl, rfl⟩
def partsM (items : List Ab.Item) (us : List AUnit) (pr : Promo) : List (List Int) := pr.parts.map fun x => mineB x.scope items us us.length
def allM (items : List Ab.Item) (us : List AUnit) (pr : Promo) (i : Nat) : List Int := ((partsM items us pr).take i).flatten
def bundleP (items : List Ab.Item) (us : List AUnit) (pr : Promo) : List AUnit × Int :=
  if netF us (compI (sortI (allM items us pr pr.parts.length))) < pr.least then ([], 0) else bundleB pr us (partsM items us pr)
theorem allM_succ (items : List Ab.Item) (us : List AUnit) (pr : Promo) {i : Nat} (hi : i < pr.parts.length) : allM items us pr (i + 1) = allM items us pr i ++ mineB (pr.parts.getD i default).scope items us us.length := by
  unfold allM
  have hl : (partsM items us pr).length = pr.parts.length := List.length_map ..
  rw [take_next (by omega), List.flatten_append]
  congr 1
  have : (partsM items us pr).getD i default = mineB (pr.parts.getD i default).scope items us us.length := getD_map (fun x : Part => mineB x.scope items us us.length) pr.parts hi
  rw [this]; simp
theorem allM_len (items : List Ab.Item) (us : List AUnit) (pr : Promo) : ∀ i, i ≤ pr.parts.length → (allM items us pr i).length ≤ i * us.length
  | 0, _ => by simp [allM]
  | i + 1, h => by
    have ih := allM_len items us pr i (by omega)
    rw [allM_succ items us pr (by omega), List.length_append]
    have := mineB_len (pr.parts.getD i default).scope items us us.length
    have e : (i + 1) * us.length = i * us.length + us.length := Nat.succ_mul i us.length
    omega
theorem compI_mem {l : List Int} {x : Int} (h : x ∈ compI l) : x ∈ l := by
  unfold compI Go.Lib.compactUpTo at h
  obtain ⟨k, hk, rfl⟩ := List.mem_map.1 h
  have hk2 : k < l.length := List.mem_range.1 (List.mem_filter.1 hk).1
  have : l.toArray[k]! = l[k] := by rw [getElem!_pos _ k (by simpa using hk2)]; simp
  rw [this]; exact List.getElem_mem hk2
theorem allM_mem {items : List Ab.Item} {us : List AUnit} {pr : Promo} {i : Nat} {x : Int} (h : x ∈ allM items us pr i) : 0 ≤ x ∧ x.toNat < us.length := by
  unfold allM at h
  obtain ⟨l, hl, hx⟩ := List.mem_flatten.1 h
  obtain ⟨q, hq, rfl⟩ := List.mem_map.1 (List.take_subset _ _ hl)
  obtain ⟨k, hk, rfl⟩ := mem_getD hx
  exact (mineB_ok q.scope items us).rng k hk
theorem pbundle_S (bx : Nat) (items : List Ab.Item) (p : PSt) (pr : Promo) (hfit : PromoFit pr) (hright : promoC pr = true) (hk : pr.kind = 4) (hu : UsOk items p.us) (s t : St) (h : PxR bx items p s t) :
    S P 109 [.optr 4 bx 0 0, ePromo pr] t fun v t' => v = .tuple [eUnits (bundleP items p.us pr).1, eI (bundleP items p.us pr).2] ∧ t' = t := by
  have hok := promoOk hright
  obtain ⟨hbun, hsc⟩ := hok.bun hk
  have hn8 := hbun.n8
  have hul := hu.ok.len
  have hpl : (partsM items p.us pr).length = pr.parts.length := List.length_map ..
  have hpm : ∀ x ∈ partsM items p.us pr, MineOk p.us x := fun x hx => by
    obtain ⟨q, hq, rfl⟩ := List.mem_map.1 hx
    exact mineB_ok _ _ _
  refine S.post (post := fun v t' => (v = .tuple [eUnits (bundleP items p.us pr).1, eI (bundleP items p.us pr).2] ∨ (bundleP items p.us pr = ([], 0) ∧ v = .tuple [.emp, eI 0])) ∧ Sup t t') ?_ (fun v t' ⟨hv, ht⟩ => by
    rcases hv with rfl | ⟨h1, rfl⟩
    · exact ⟨_, _, ⟨rfl, rfl⟩, ht.shift _⟩
    · exact ⟨_, _, ⟨rfl, rfl⟩, by rw [h1]; exact (ht.shift _).trans (Shift.tuple (Shift.cons (shift_emp 3 _) (Shift.keep _ _)) rfl)⟩)
  have hBi := fun (n : Nat) (sv : AV) (fo : Nat → AV) => besideOut besideSup 3 1 fo n sv
  refine S_of_X [3, 9] good mixed Tryz.func109 (by rfl) rfl rfl rfl ?_; conv => whnf
  refine ⟨[0, 3, 6, 7, 12, 13, 14], fun m vs t' => ∃ (i : Nat) (sv1 sv2 : AV), i ≤ pr.parts.length ∧ m = pr.parts.length - i ∧ vs = [.optr 4 bx 0 0, .fptr (ePromo pr) 0, sv1, sv2, arrOf 3 ePart pr.parts, eI pr.parts.length, eI i] ∧
    ROut (fun s t' => ROut Sup 3 1 (fun k => eI (gI (allM items p.us pr i) k)) (allM items p.us pr i).length s sv2 t') 45 1 (fun k => eInts ((partsM items p.us pr).getD k default)) i t sv1 t', ?_, ?_⟩
  · conv => whnf
    exact ⟨_, 0, .emp, .emp, Nat.zero_le _, rfl, rfl, ROut.start (ROut.start (Sup.refl _) _ _ _) _ _ _⟩
  · rintro m vs t' ⟨i, sv1, sv2, hi, rfl, rfl, hout⟩
    have hal := allM_len items p.us pr i hi
    have hal2 : i * p.us.length ≤ 8 * 100000 := Nat.mul_le_mul (by omega) hul
    have hsup : Sup t t' := hout.sup (hBi _ _ _)
    conv => whnf
    cases hd : decide ((i : Int) < (pr.parts.length : Int))
    · have := of_decide_eq_false hd
      obtain rfl : i = pr.parts.length := by omega
      obtain ⟨s1, hc1, hout2⟩ := hout
      generalize hA : allM items p.us pr pr.parts.length = A at *
      have hAm : ∀ x ∈ A, 0 ≤ x ∧ x.toNat < p.us.length := fun x hx => allM_mem (by rw [hA]; exact hx)
      have hSl : (sortI A).length = A.length := sortI_len A
      have hCl := compI_len (sortI A)
      have hCm : ∀ k, k < (compI (sortI A)).length → 0 ≤ gI (compI (sortI A)) k ∧ (gI (compI (sortI A)) k).toNat < p.us.length := fun k hk => hAm _ (sortI_mem.1 (compI_mem (getD_mem hk)))
      conv => whnf
      refine call (sortOut_S besideSup (by omega) hout2) (fun v t2 hv => ?_)
      obtain ⟨rfl, hout3⟩ := hv
      have hsup2 : Sup s1 t2 := hout3.sup besideSup
      have hB : bundleP items p.us pr = if netF p.us (compI (sortI A)) < pr.least then ([], 0) else bundleB pr p.us (partsM items p.us pr) := by unfold bundleP; rw [hA]
      -- what is behind the two, with the store as it is then
      have fin : ∀ t3, Sup s1 t3 → ∀ K : KK, (∀ v, v = .tuple [eUnits (bundleB pr p.us (partsM items p.us pr)).1, eI (bundleB pr p.us (partsM items p.us pr)).2] → K v t) → xCall P 160 [ePromo pr, eUnits p.us, sv1] t3 K := fun t3 h3 K hK => by
        have hsh : Shift [ePromo pr, eUnits p.us, sv1] t3 [ePromo pr, eUnits p.us, arrOf 1 eInts (partsM items p.us pr)] t := by
          refine Shift.cons (Shift.keep _ _) (Shift.cons (Shift.keep _ _) ?_)
          have e : arrOf 1 eInts (partsM items p.us pr) = .arr 1 pr.parts.length (fun k => eInts ((partsM items p.us pr).getD k default)) := by unfold arrOf; rw [hpl]
          rw [e]
          exact (h3.shift _).trans hc1.shift
        refine call_shift hsh (call (bundle_S pr p.us (partsM items p.us pr) hfit hright hk hbun hu.ok hpl hpm t) (fun v t4 hv => ?_))
        rw [hv.2]; exact hK v hv.1
      have hpx : ∀ t3, Sup s1 t3 → PxR bx items p s t3 := fun t3 h3 => h.more (hc1.sup.trans h3)
      conv => whnf
      refine ⟨[2, 5], [], [], .qui 0 (.qui 1 (.qui 4 (.two 2 5 (.qui 5 (.qui 3 (.qui 6 .done))) (.gen 2 (.qui 3 (.qui 6 .done)))))), by kernel_rfl, ?_⟩
      obtain ⟨s2, hc2, hs2⟩ := hout3
      rcases hc2 with ⟨h0, rfl, rfl⟩ | ⟨h0, b2, g2, hb2, rfl, rfl, hg2⟩
      · have hA0 : A = [] := List.eq_nil_of_length_eq_zero h0
        have hnet : netF p.us (compI (sortI A)) = 0 := by
          have : compI (sortI A) = [] := List.eq_nil_of_length_eq_zero (by omega)
          rw [this]; rfl
        rw [hnet] at hB; conv => whnf
        constructor
        all_goals conv => whnf
        all_goals refine call1 (compact0_S _) ?_
        all_goals conv => whnf
        all_goals refine ⟨_, callQ (netE_S bx _), ?_⟩
        all_goals conv => whnf
        all_goals refine fork (fun h1 => ?_) (fun h1 => ?_) <;> rw [h1] <;> simp only [decide_eq_true_eq, decide_eq_false_iff_not] at h1
        all_goals first
          | (rw [if_pos h1] at hB
             conv => whnf
             exact ⟨.inr ⟨hB, rfl⟩, hc1.sup.trans hs2⟩)
          | (rw [if_neg h1] at hB
             obtain ⟨dv, gv, fx, hx, hx0, _, _⟩ := (hpx _ hs2).at
             conv => whnf
             refine ⟨[6], [], [0, 1, 2, 3, 4, 5, 6, 7, 8, 9, 10], by kernel_rfl, ?_⟩; conv => whnf
             refine ldV hx rfl (by omega) hx0 ?_; conv => whnf
             refine fin _ hs2 _ (fun v hv => ?_)
             subst hv; conv => whnf
             exact ⟨.inl (by rw [hB]; rfl), Sup.refl _⟩)
      · have hb2t := hs2 b2 _ (upd_same ..)
        have hC := compact_S b2 (sortI A) (by omega) t2 ⟨g2, by rw [hb2t, hSl], fun k hk => hg2 k (by omega)⟩
        rw [hSl] at hC
        have hs3 : ∀ y, Sup s1 (upd t2 b2 y) := fun y => hsup2.over hb2
        have hN := fun t3 (h3 : Sup s1 t3) (e3 : t3 = upd t2 b2 (rowBlk (compZ (sortI A)))) => netO_S bx items p hu.ok (compI (sortI A)) (by omega) hCm s t3 (hpx t3 h3) b2 (compZ (sortI A)).length (fun k => eI (gI (compZ (sortI A)) k)) (by rw [compZ_len]; omega) (by rw [e3, upd_same]; rfl) (fun k hk => by rw [gI_comp hk])
        conv => whnf
        constructor
        all_goals conv => whnf
        all_goals refine call1s hC ?_
        all_goals conv => whnf
        all_goals refine ⟨_, callQ (hN _ (hs3 _) rfl), ?_⟩
        all_goals conv => whnf
        all_goals refine fork (fun h1 => ?_) (fun h1 => ?_) <;> rw [h1] <;> simp only [decide_eq_true_eq, decide_eq_false_iff_not] at h1
        all_goals first
          | (rw [if_pos h1] at hB
             conv => whnf
             exact ⟨.inr ⟨hB, rfl⟩, hc1.sup.trans (hs3 _)⟩)
          | (rw [if_neg h1] at hB
             obtain ⟨dv, gv, fx, hx, hx0, _, _⟩ := (hpx _ (hs3 (rowBlk (compZ (sortI A))))).at
             conv => whnf
             refine ⟨[6], [], [0, 1, 2, 3, 4, 5, 6, 7, 8, 9, 10], by kernel_rfl, ?_⟩; conv => whnf
             refine ldV hx rfl (by omega) hx0 ?_; conv => whnf
             refine fin _ (hs3 _) _ (fun v hv => ?_)
             subst hv; conv => whnf
             exact ⟨.inl (by rw [hB]; rfl), Sup.refl _⟩)
    · have hi' : i < pr.parts.length := by have := of_decide_eq_true hd; omega
      have hq := hsc (pr.parts.getD i default) (getD_mem hi')
      have hpk : (partsM items p.us pr).getD i default = mineB (pr.parts.getD i default).scope items p.us p.us.length := getD_map (fun x : Part => mineB x.scope items p.us p.us.length) pr.parts hi'
      have hls := allM_succ items p.us pr hi'
      have hml := mineB_len (pr.parts.getD i default).scope items p.us p.us.length
      conv => whnf
      refine ⟨rfl, ⟨by omega, by omega⟩, ?_⟩; conv => whnf
      refine call1 (mine_S bx items p (pr.parts.getD i default).scope hq.1 hq.2 hul hu.few hu.line s t' (h.more hsup)) ?_; conv => whnf
      refine ROut.app (q := r45) (hBi _ _ _) rfl rfl rfl rfl rfl (by simp only [hpk]; rfl) (by show (i + 1) * 24 ≤ 140737488355328; omega) hout (fun sv1' t2 hout2 => ?_); conv => whnf
      obtain ⟨s1, hc1, hin⟩ := hout2
      refine ROut.apps (q := r3) (n := (allM items p.us pr i).length) (m := (mineB (pr.parts.getD i default).scope items p.us p.us.length).length) besideSup rfl rfl rfl rfl (srcInts rfl _) (f := fun k => eI (gI (allM items p.us pr (i + 1)) k)) (fun j hj => ?_) (by show ((allM items p.us pr i).length + (mineB (pr.parts.getD i default).scope items p.us p.us.length).length) * 8 ≤ 140737488355328; omega) (hin.congr fun k hk => by rw [hls, gI_append hk]) (fun sv2' t3 hout3 => ?_)
      · rw [hls]
        show eI (gI (mineB (pr.parts.getD i default).scope items p.us p.us.length) j) = eI (gI _ _)
        rw [gI_right]
      conv => whnf
      refine ⟨rfl, ?_⟩; conv => whnf
      refine ⟨pr.parts.length - (i + 1), by omega, i + 1, sv1', sv2', by omega, rfl, by rw [wrapN (by omega)], s1, hc1, ?_⟩
      rw [hls, List.length_append, ← hls]; exact hout3
def wayB (items : List Ab.Item) (us : List AUnit) (pr : Promo) : List AUnit × Int := if pr.kind = 4 then bundleP items us pr else singleB items us pr
def askB (items : List Ab.Item) (p : PSt) (pr : Promo) : PSt :=
  if (wayB items p.us pr).2 > 0 then noteF ⟨(wayB items p.us pr).1, p.deals, p.groups⟩ pr (wayB items p.us pr).2 else p
theorem way_off {items : List Ab.Item} {us : List AUnit} (hu : UsOk items us) {pr : Promo} (hfit : PromoFit pr) (hright : promoC pr = true) (hk : pr.kind ≠ 7) : wayB items us pr = ([], 0) ∨ Off us (wayB items us pr).1 (wayB items us pr).2 := by
  have hok := promoOk hright
  unfold wayB
  split
  · rename_i h4
    unfold bundleP
    split
    · exact .inl rfl
    · right
      have hpl : (partsM items us pr).length = pr.parts.length := List.length_map ..
      exact bundleB_off (hok.bun h4).1 hu.ok hpl fun k hk => by
        have hm := getD_mem (l := partsM items us pr) hk
        obtain ⟨q, hq, he⟩ := List.mem_map.1 hm
        rw [show (partsM items us pr).getD k [] = (partsM items us pr).getD k default from rfl, ← he]
        exact mineB_ok _ _ _
  · rename_i h4
    unfold singleB
    split
    · exact .inl rfl
    · right
      split
      · rename_i h3
        exact buyGetB_off (hok.buy h3) hu.ok (mineB_ok _ _ _)
      · rename_i h3
        exact applyB_off (hok.ask hfit (by have := hok.kind; omega)) hu.ok (mineB_ok _ _ _)
theorem askB_off {items : List Ab.Item} {p : PSt} (hu : UsOk items p.us) {pr : Promo} (hfit : PromoFit pr) (hright : promoC pr = true) (hk : pr.kind ≠ 7) : ∃ x, Off p.us (askB items p pr).us x := by
  unfold askB
  split
  · rename_i h0
    rcases way_off hu hfit hright hk with e | e
    · rw [e] at h0; exact absurd h0 (by decide)
    · exact ⟨_, e⟩
  · exact ⟨0, Off.refl hu.ok⟩
theorem ask_S (bx : Nat) (items : List Ab.Item) (p : PSt) (pr : Promo) (hfit : PromoFit pr) (hright : promoC pr = true) (hk : pr.kind ≠ 7) (hu : UsOk items p.us) (hd : p.deals.length ≤ 1000) (hg : p.groups.length ≤ 1000) (s t : St) (h : PxR bx items p s t) :
    S P 68 [.optr 4 bx 0 0, ePromo pr] t fun v t' => v = .tuple [] ∧ PxR bx items (askB items p pr) s t' := by
  have key : ∀ K : KK, (∀ v, v = .tuple [eUnits (wayB items p.us pr).1, eI (wayB items p.us pr).2] → K v t) → xCall P (if pr.kind = 4 then 109 else 108) [.optr 4 bx 0 0, ePromo pr] t K := fun K hK => by
    unfold wayB at hK
    split
    · rename_i h4
      rw [if_pos h4] at hK
      exact call (pbundle_S bx items p pr hfit hright h4 hu s t h) (fun v t' hv => by rw [hv.2]; exact hK v hv.1)
    · rename_i h4
      rw [if_neg h4] at hK
      exact call (single_S bx items p pr hfit hright ⟨h4, hk⟩ hu s t h) (fun v t' hv => by rw [hv.2]; exact hK v hv.1)
  obtain ⟨⟨dv, gv⟩, hbx, y, ⟨f, rfl, hf⟩, hRD⟩ := h
  simp only at hf hRD
  have hA : askB items p pr = if (wayB items p.us pr).2 > 0 then noteF ⟨(wayB items p.us pr).1, p.deals, p.groups⟩ pr (wayB items p.us pr).2 else p := rfl
  have h0 : PxR bx items p s t := ⟨(dv, gv), hbx, _, ⟨f, rfl, hf⟩, hRD⟩
  refine S_of_X [3] good mixed Tryz.func68 (by rfl) rfl rfl rfl ?_; conv => whnf
  refine fork (fun h4 => ?_) (fun h4 => ?_) <;> rw [h4] <;> simp only [beq_iff_eq, beq_eq_false_iff_ne] at h4
  · rw [if_pos h4] at key; conv => whnf
    refine key _ (fun v hv => ?_)
    subst hv; conv => whnf
    refine fork (fun h5 => ?_) (fun h5 => ?_) <;> rw [h5] <;> simp only [decide_eq_true_eq, decide_eq_false_iff_not] at h5
    · rw [if_pos h5] at hA
      rw [hA]; conv => whnf
      refine stV hRD.at rfl (by omega) hf (by rfl) ?_; conv => whnf
      refine call (note_S bx items ⟨(wayB items p.us pr).1, p.deals, p.groups⟩ pr _ hd hg s _ (PxR.fin hbx hRD _ (by rw [fset_same]; rfl))) (fun v t' hv => ?_)
      obtain ⟨rfl, h6⟩ := hv
      conv => whnf
      exact ⟨rfl, h6⟩
    · rw [if_neg h5] at hA
      rw [hA]; conv => whnf
      exact ⟨rfl, h0⟩
  · rw [if_neg h4] at key; conv => whnf
    refine key _ (fun v hv => ?_)
    subst hv; conv => whnf
    refine fork (fun h5 => ?_) (fun h5 => ?_) <;> rw [h5] <;> simp only [decide_eq_true_eq, decide_eq_false_iff_not] at h5
    · rw [if_pos h5] at hA
      rw [hA]; conv => whnf
      refine stV hRD.at rfl (by omega) hf (by rfl) ?_; conv => whnf
      refine call (note_S bx items ⟨(wayB items p.us pr).1, p.deals, p.groups⟩ pr _ hd hg s _ (PxR.fin hbx hRD _ (by rw [fset_same]; rfl))) (fun v t' hv => ?_)
      obtain ⟨rfl, h6⟩ := hv
      conv => whnf
      exact ⟨rfl, h6⟩
    · rw [if_neg h5] at hA
      rw [hA]; conv => whnf
      exact ⟨rfl, h0⟩
def shipB (p : PSt) (pr : Promo) (net ship : Int) : Int × PSt :=
  if net < pr.least then (ship, p) else (ship - half ship pr.rate, if half ship pr.rate > 0 then noteF p pr (half ship pr.rate) else p)
theorem shipping_S (bx : Nat) (items : List Ab.Item) (p : PSt) (pr : Promo) (net ship : Int) (h0 : 0 ≤ ship) (h1 : ship ≤ 10000000000000) (hd : p.deals.length ≤ 1000) (hg : p.groups.length ≤ 1000) (s t : St) (h : PxR bx items p s t) :
    S P 71 [.optr 4 bx 0 0, ePromo pr, eI net, eI ship] t fun v t' => v = eI (shipB p pr net ship).1 ∧ PxR bx items (shipB p pr net ship).2 s t' := by
  have hS : shipB p pr net ship = if net < pr.least then (ship, p) else (ship - half ship pr.rate, if half ship pr.rate > 0 then noteF p pr (half ship pr.rate) else p) := rfl
  have hb := half_bound ship pr.rate
  have w : IntKind.i64.wrap (ship - half ship pr.rate) = ship - half ship pr.rate := wrap64_of (by omega) (by omega)
  refine S_of_X [5] good mixed Tryz.func71 (by rfl) rfl rfl rfl ?_; conv => whnf
  refine fork (fun h2 => ?_) (fun h2 => ?_) <;> rw [h2] <;> simp only [decide_eq_true_eq, decide_eq_false_iff_not] at h2
  · rw [if_pos h2] at hS
    rw [hS]; conv => whnf
    exact ⟨rfl, h⟩
  rw [if_neg h2] at hS
  rw [hS]; conv => whnf
  refine call1 (rate_S ship pr.rate 1 t) ?_; conv => whnf
  refine fork (fun h3 => ?_) (fun h3 => ?_) <;> rw [h3] <;> simp only [decide_eq_true_eq, decide_eq_false_iff_not] at h3
  · conv => whnf
    refine call (note_S bx items p pr _ hd hg s t h) (fun v t' hv => ?_)
    obtain ⟨rfl, h4⟩ := hv
    conv => whnf
    have h3' : half ship pr.rate > 0 := h3
    rw [if_pos h3']
    refine ⟨?_, h4⟩
    show AV.int .i64 (IntKind.i64.wrap (ship - half ship pr.rate)) = _
    rw [w]
  · conv => whnf
    have h3' : ¬ half ship pr.rate > 0 := h3
    rw [if_neg h3']
    refine ⟨?_, h⟩
    show AV.int .i64 (IntKind.i64.wrap (ship - half ship pr.rate)) = _
    rw [w]
def feeB (s : Ab.Ship) (units net : Int) : Int := if units = 0 ∨ (s.free > 0 ∧ net ≥ s.free) then 0 else s.fee
theorem fee_S (s : Ab.Ship) (units net : Int) (t : St) : S P 69 [eShip s, eI units, eI net] t fun v t' => v = eI (feeB s units net) ∧ t' = t := by
  refine S_of_X [3] good mixed Tryz.func69 (by rfl) rfl rfl rfl ?_; conv => whnf
  refine fork (fun h1 => ?_) (fun h1 => ?_) <;> rw [h1] <;> simp only [beq_iff_eq, beq_eq_false_iff_ne] at h1
  · conv => whnf
    exact ⟨by unfold feeB; rw [if_pos (.inl h1)]; rfl, rfl⟩
  conv => whnf
  refine fork (fun h2 => ?_) (fun h2 => ?_) <;> rw [h2] <;> simp only [decide_eq_true_eq, decide_eq_false_iff_not] at h2
  · conv => whnf
    refine fork (fun h3 => ?_) (fun h3 => ?_) <;> rw [h3] <;> simp only [decide_eq_true_eq, decide_eq_false_iff_not] at h3
    · conv => whnf
      exact ⟨by unfold feeB; rw [if_pos (.inr ⟨h2, h3⟩)]; rfl, rfl⟩
    · conv => whnf
      exact ⟨by unfold feeB; rw [if_neg (by rintro (e | ⟨_, e⟩) <;> contradiction)]; rfl, rfl⟩
  · conv => whnf
    exact ⟨by unfold feeB; rw [if_neg (by rintro (e | ⟨e, _⟩) <;> contradiction)]; rfl, rfl⟩
theorem isShip_S (pr : Promo) (t : St) : S P 65 [ePromo pr] t fun v t' => v = .bool (pr.kind == 7) ∧ t' = t := by
  refine S_of_X [1] good mixed Tryz.func65 (by rfl) rfl rfl rfl ?_; conv => whnf
  exact ⟨rfl, rfl⟩
theorem noShip_S (pr : Promo) (t : St) : S P 67 [ePromo pr, .fptr (.fn (.func 65) [] []) 0] t fun v t' => v = .bool (!(pr.kind == 7)) ∧ t' = t := by
  refine S_of_X [2] good mixed Tryz.func67 (by rfl) rfl rfl rfl ?_; conv => whnf
  refine call1 (isShip_S pr t) ?_; conv => whnf
  exact ⟨rfl, rfl⟩
theorem queue_under {R R' : St → St → Prop} (hR : Beside R) (hm : ∀ s t t', R s t → Sup t t' → R s t') (hR' : Beside R') {f : FuncId} {args : List AV} {w : AV} {s t0 t : St} {q : Nat} {fl : Bool} {es : List QE} (h : R s t0) (hq : QSt t0 q fl es t)
    (hS : ∀ u, R u t → S P f args t fun v t' => v = w ∧ R' u t') : S P f args t fun v t' => v = w ∧ ∃ t0', R' s t0' ∧ QSt t0' q fl es t' := by
  obtain ⟨bo, hF, hn⟩ := hq.foot
  obtain ⟨y1, hy1⟩ := hF.some (.inl rfl)
  have hq0 := hn q (.inl rfl)
  have hsq : s q = none := (hR.sup h).none hq0
  cases bo with
  | none =>
    have h1 : R (upd s q y1) t := hm _ _ _ (hR.begin (y := y1) h hq0) (fun c x hc => by
      by_cases e : c = q
      · subst e; rw [upd_same] at hc; rw [hy1]; exact hc
      · rw [upd_ne e] at hc; exact hq.sup c x hc)
    refine (hS _ h1).mono fun v t' hv => ⟨hv.1, del t' q, hR'.forget hv.2 hsq, ?_⟩
    have hF' : QF q none fl es t' := hF.frame fun c hc => by
      rcases hc with rfl | hc
      · rw [hR'.sup hv.2 c y1 (upd_same ..), hy1]
      · cases hc
    exact hF'.qst (fun c x hc => by
      by_cases e : c = q
      · subst e; rw [del_same] at hc; cases hc
      · rw [del_ne e] at hc; exact hc) (fun c hc => by
        rcases hc with rfl | hc
        · exact del_same ..
        · cases hc)
  | some b =>
    obtain ⟨y2, hy2⟩ := hF.some (c := b) (.inr rfl)
    have hb0 := hn b (.inr rfl)
    have hqb : q ≠ b := by
      obtain ⟨sv, _, h3⟩ := hF.has
      rcases h3 with ⟨_, _, e⟩ | ⟨b', l, n, e, hne, _⟩
      · cases e
      · cases e; exact hne
    have hsb : s b = none := (hR.sup h).none hb0
    have h1 : R (upd (upd s b y2) q y1) t := hm _ _ _ (hR.begin (y := y1) (hR.begin (y := y2) h hb0) (by rw [upd_ne hqb]; exact hq0)) (fun c x hc => by
      by_cases e : c = q
      · subst e; rw [upd_same] at hc; rw [hy1]; exact hc
      · rw [upd_ne e] at hc
        by_cases e2 : c = b
        · subst e2; rw [upd_same] at hc; rw [hy2]; exact hc
        · rw [upd_ne e2] at hc; exact hq.sup c x hc)
    refine (hS _ h1).mono fun v t' hv => ⟨hv.1, del (del t' q) b, hR'.forget (hR'.forget hv.2 (by rw [upd_ne hqb]; exact hsq)) hsb, ?_⟩
    have hs' := hR'.sup hv.2
    have hF' : QF q (some b) fl es t' := hF.frame fun c hc => by
      rcases hc with rfl | hc
      · rw [hs' c y1 (upd_same ..), hy1]
      · cases hc
        rw [hs' b y2 (by rw [upd_ne hqb.symm, upd_same]), hy2]
    exact hF'.qst (fun c x hc => by
      by_cases e : c = b
      · subst e; rw [del_same] at hc; cases hc
      · rw [del_ne e] at hc
        by_cases e2 : c = q
        · subst e2; rw [del_same] at hc; cases hc
        · rw [del_ne e2] at hc; exact hc) (fun c hc => by
        rcases hc with rfl | hc
        · rw [del_ne hqb]; exact del_same ..
        · cases hc; exact del_same ..)
theorem strsPlaceO_S (l : List Str) (hl : l.length ≤ 100000) (v : Str) (st : St) (b : Nat) (f : Nat → AV) (hb : st b = some ⟨9, 1, l.length, f⟩) (hf : ∀ k, k < l.length → f k = fStrs l k) :
    S P 153 [.own 1 b 0 l.length, eS v] st fun r st' => r = eI (idx (fun y : Str => v.toList == y.toList) l) ∧ st' = st := by
  refine S_of_X [] good mixed Tryz.func153 (by rfl) rfl rfl rfl ?_; conv => whnf
  refine ⟨[0, 1, 7, 8], fun m vs st' => ∃ i : Nat, i ≤ l.length ∧ (∀ k, k < i → (v.toList == (l.getD k default).toList) = false) ∧ m = l.length - i ∧ vs = [.own 1 b 0 l.length, eS v, eI l.length, eI i] ∧ st' = st, ?_, ?_⟩
  · conv => whnf
    exact ⟨_, 0, Nat.zero_le _, fun k hk => absurd hk (by omega), rfl, rfl, rfl⟩
  · rintro m vs st' ⟨i, hi, hok, rfl, rfl, rfl⟩
    conv => whnf
    cases h : decide ((i : Int) < (l.length : Int))
    · have := of_decide_eq_false h
      conv => whnf
      refine ⟨?_, rfl⟩
      rw [idx_none (p := fun y : Str => v.toList == y.toList) fun k hk => hok k (by omega)]; rfl
    · have hi' : i < l.length := by have := of_decide_eq_true h; omega
      conv => whnf
      refine ⟨rfl, ⟨by omega, by omega⟩, ?_⟩; conv => whnf
      refine ldV hb rfl (by omega) (v := eS (l.getD i default)) (by rw [show 0 + (i : Int).toNat = i by omega]; exact hf i hi') ?_; conv => whnf
      cases hp : (v.toList == (l.getD i default).toList)
      · conv => whnf
        refine ⟨rfl, ?_⟩; conv => whnf
        refine ⟨l.length - (i + 1), by omega, i + 1, by omega, fun k hk => ?_, rfl, by rw [wrapN (by omega)], rfl⟩
        rcases Nat.lt_succ_iff_lt_or_eq.1 hk with h' | h'
        · exact hok k h'
        · rw [h']; exact hp
      · conv => whnf
        refine ⟨?_, rfl⟩
        rw [idx_at (p := fun y : Str => v.toList == y.toList) hi' hok hp]; rfl
theorem strsInO_S (l : List Str) (hl : l.length ≤ 100000) (v : Str) (st : St) (b : Nat) (f : Nat → AV) (hb : st b = some ⟨9, 1, l.length, f⟩) (hf : ∀ k, k < l.length → f k = fStrs l k) :
    S P 107 [.own 1 b 0 l.length, eS v] st fun r st' => r = .bool (inB l v) ∧ st' = st := by
  refine S_of_X [] good mixed Tryz.func107 (by rfl) rfl rfl rfl ?_; conv => whnf
  refine call1 (strsPlaceO_S l hl v st b f hb hf) ?_; conv => whnf
  refine ⟨?_, rfl⟩
  unfold inB
  rw [← idx_any]; rfl
theorem strsPlace0_S (v : Str) (st : St) : S P 153 [.emp, eS v] st fun r st' => r = eI (-1) ∧ st' = st := by
  refine S_of_X [] good mixed Tryz.func153 (by rfl) rfl rfl rfl ?_; conv => whnf
  refine once [0, 1, 7, 8] ?_; conv => whnf
  intro I; conv => whnf
  exact ⟨rfl, rfl⟩
theorem strsIn0_S (v : Str) (st : St) : S P 107 [.emp, eS v] st fun r st' => r = .bool false ∧ st' = st := by
  refine S_of_X [] good mixed Tryz.func107 (by rfl) rfl rfl rfl ?_; conv => whnf
  refine call1 (strsPlace0_S v st) ?_; conv => whnf
  exact ⟨rfl, rfl⟩
theorem PxR.groups {bx : Nat} {items : List Ab.Item} {p : PSt} {s t : St} (h : PxR bx items p s t) (hg : p.groups.length ≤ 1000) : ∃ dv gv f, t bx = some ⟨131, 4, 1, f⟩ ∧ f 0 = .agg [arrOf 4 eItem items, eUnits p.us, dv, gv] ∧ (gv = .emp ∨ ∃ b, gv = .own 1 b 0 p.groups.length) ∧
    ∀ (g : Str), S P 107 [gv, eS g] t fun r t' => r = .bool (inB p.groups g) ∧ t' = t := by
  obtain ⟨⟨dv, gv⟩, h⟩ := h
  obtain ⟨y, ⟨f, rfl, hf⟩, hy⟩ := AddB.at (besideD _ _ _ _) h
  obtain ⟨_, _, _, hd⟩ := h
  obtain ⟨s0, hc, hg0⟩ := hd
  refine ⟨dv, gv, f, hy, hf, hg0.head, fun g => ?_⟩
  obtain ⟨s1, hc1, hs1⟩ := hg0
  rcases hc1 with ⟨h0, h1, rfl⟩ | ⟨h0, b, g0, hb, h1, rfl, hgg⟩
  · have : p.groups = [] := List.eq_nil_of_length_eq_zero h0
    subst h1
    rw [this]
    exact strsIn0_S g t
  · subst h1
    exact strsInO_S p.groups (by omega) g t b g0 (hs1 b _ (upd_same ..)) hgg
def goB {σ : Type} (px : σ → PSt) (step : σ → Promo → σ) (a : σ) (pr : Promo) : σ := if isNil pr.group || !inB (px a).groups pr.group then step a pr else a
def eachF {σ : Type} (px : σ → PSt) (step : σ → Promo → σ) (sm : Promo → Bool) (l : List Promo) (a : σ) (o : List Int) : σ := (o.filter fun x => sm (prAt l x)).foldl (fun a x => goB px step a (prAt l x)) a
def pushed (sm : Promo → Bool) (l : List Promo) (o : List Int) (i : Nat) : List QE := ((List.range i).filter fun k => sm (prAt l (gI o k))).map fun (k : Nat) => (-(k : Int), gI o k)
theorem pushed_succ (sm : Promo → Bool) (l : List Promo) (o : List Int) (i : Nat) : pushed sm l o (i + 1) = pushed sm l o i ++ (if sm (prAt l (gI o i)) = true then [(-(i : Int), gI o i)] else []) := by
  unfold pushed
  rw [List.range_succ, List.filter_append, List.map_append]
  congr 1
  by_cases h : sm (prAt l (gI o i)) = true
  · rw [if_pos h, List.filter_cons_of_pos (p := fun k => sm (prAt l (gI o k))) h]; rfl
  · rw [if_neg h, List.filter_cons_of_neg (p := fun k => sm (prAt l (gI o k))) h]; rfl
theorem pushed_len (sm : Promo → Bool) (l : List Promo) (o : List Int) (i : Nat) : (pushed sm l o i).length ≤ i := by
  unfold pushed
  rw [List.length_map]
  exact Nat.le_trans (List.length_filter_le ..) (by simp)
theorem pushed_snd (sm : Promo → Bool) (l : List Promo) (o : List Int) : ∀ i, i ≤ o.length → (pushed sm l o i).map (·.2) = (o.take i).filter fun x => sm (prAt l x)
  | 0, _ => by simp [pushed]
  | i + 1, h => by
    rw [pushed_succ, List.map_append, pushed_snd sm l o i (by omega), take_next (show i < o.length by omega), List.filter_append]
    congr 1
    show List.map (fun x => x.2) (if sm (prAt l (gI o i)) = true then [(-(i : Int), gI o i)] else []) = List.filter (fun x => sm (prAt l x)) [gI o i]
    by_cases hs : sm (prAt l (gI o i)) = true
    · rw [if_pos hs, List.filter_cons_of_pos (p := fun x => sm (prAt l x)) hs]; rfl
    · rw [if_neg hs, List.filter_cons_of_neg (p := fun x => sm (prAt l x)) hs]; rfl
theorem pushed_sorted (sm : Promo → Bool) (l : List Promo) (o : List Int) (i : Nat) : (pushed sm l o i).Pairwise fun a b => prior b a = false := by
  unfold pushed
  refine List.Pairwise.map _ (fun a b h => ?_) ((List.pairwise_lt_range (n := i)).filter _)
  rw [prior_no]
  show ¬ (-(b : Int) > -(a : Int) ∨ (-(b : Int) = -(a : Int) ∧ _))
  omega
theorem resO_mem {l : List Promo} {codes : List Str} {o : List Int} (ho : OrdP l codes o) {x : Int} (hx : x ∈ resO l o) : 0 ≤ x ∧ x.toNat < l.length := by
  obtain ⟨e, he, rfl⟩ := List.mem_map.1 hx
  have h := ranked_mem he
  exact places_lt (ho.1.subset (getD_mem h.2))
theorem peach_S {σ : Type} (bx : Nat) (items : List Ab.Item) (R : σ → St → St → Prop) (px : σ → PSt) (hR : ∀ a, Beside (R a)) (hmore : ∀ a s t t', R a s t → Sup t t' → R a s t') (hP : ∀ a s t, R a s t → ∃ s', PxR bx items (px a) s' t)
    (l : List Promo) (codes : List Str) (hl : l.length ≤ 60) (hc : codes.length ≤ 9223372036854775807) (h20 : (places l codes l.length).length ≤ 20)
    (g : FuncId) (cs : List AV) (sm : Promo → Bool) (hsome : ∀ (pr : Promo) (t : St), S P g (ePromo pr :: cs) t fun v t' => v = .bool (sm pr) ∧ t' = t)
    (f : FuncId) (fs ds : List AV) (step : σ → Promo → σ) (Inv : σ → Nat → Prop) (hgr : ∀ a n, Inv a n → (px a).groups.length ≤ 1000) (hle : ∀ a n, Inv a (n + 1) → Inv a n)
    (hdo : ∀ (a : σ) (n : Nat) (pr : Promo) (s t : St), pr ∈ l → sm pr = true → Inv a (n + 1) → R a s t → S P f (fs ++ [ePromo pr] ++ ds) t fun v t' => v = .tuple [] ∧ R (step a pr) s t')
    (hinv : ∀ (a : σ) (n : Nat) (pr : Promo), pr ∈ l → sm pr = true → Inv a (n + 1) → Inv (step a pr) n) (a0 : σ) (hI : Inv a0 60) (s t : St) (h : R a0 s t) :
    S P 66 [.optr 4 bx 0 0, arrOf 15 ePromo l, eStrs codes, .fn (.func g) [] cs, .fn (.func f) fs ds] t fun v t' => v = .tuple [] ∧ ∃ o, OrdP l codes o ∧ R (eachF px step sm l a0 (resO l o)) s t' := by
  refine S_of_X [] good mixed Tryz.func66 (by rfl) rfl rfl rfl ?_; conv => whnf
  refine call (qnew_S t) (fun v t1 hv => ?_)
  obtain ⟨q, rfl, hq⟩ := hv
  conv => whnf
  refine call (order_S l codes hl hc h20 t1) (fun v t2 hv => ?_)
  obtain ⟨⟨o, ho, rfl⟩, rfl⟩ := hv
  have hmem := fun {x : Int} (hx : x ∈ resO l o) => resO_mem ho hx
  have hrl : (resO l o).length ≤ 60 := by
    rw [List.length_map, ranked_len, ho.1.length_eq]
    have := places_len l codes l.length; omega
  obtain ⟨r, hr⟩ : ∃ r : List Int, r = resO l o := ⟨_, rfl⟩
  rw [← hr] at hrl
  have hmem' : ∀ x ∈ r, 0 ≤ x ∧ x.toNat < l.length := fun x hx => hmem (by rw [← hr]; exact hx)
  have hInvle : ∀ (a : σ) (n m : Nat), m ≤ n → Inv a n → Inv a m := fun a n m hmn h => by
    induction n with
    | zero => have : m = 0 := by omega
              subst this; exact h
    | succ n ih =>
      rcases Nat.lt_or_ge n m with h1 | h1
      · have : m = n + 1 := by omega
        subst this; exact h
      · exact ih h1 (hle a n h)
  have hfin : ∀ t', R (eachF px step sm l a0 r) s t' → ∃ o, OrdP l codes o ∧ R (eachF px step sm l a0 (resO l o)) s t' := fun t' h => ⟨o, ho, by rw [← hr]; exact h⟩
  have hv : eInts (resO l o) = eInts r := by rw [hr]
  rw [hv]
  clear hv
  conv => whnf
  refine ⟨[0, 1, 3, 4, 10, 19, 20, 21], fun m vs t' => ∃ i : Nat, i ≤ r.length ∧ m = r.length - i ∧ vs = [.optr 4 bx 0 0, arrOf 15 ePromo l, .fn (.func g) [] cs, .fn (.func f) fs ds, .optr 1 q 0 0, eInts r, eI r.length, eI i] ∧ QSt t q true (pushed sm l r i) t', ?_, ?_⟩
  · conv => whnf
    exact ⟨_, 0, Nat.zero_le _, rfl, rfl, hq⟩
  · clear hq
    rintro m vs t' ⟨i, hi, rfl, rfl, hq⟩
    have hpl := pushed_len sm l r i
    conv => whnf
    cases hd : decide ((i : Int) < (r.length : Int))
    · have := of_decide_eq_false hd
      obtain rfl : i = r.length := by omega
      have hsnd := pushed_snd sm l r r.length (Nat.le_refl _)
      rw [List.take_length] at hsnd; conv => whnf
      refine ⟨[0, 1, 4, 10], fun m vs t' => ∃ (a : σ) (rest : List QE) (fl : Bool) (t0 : St), m = rest.length ∧ vs = [.optr 4 bx 0 0, arrOf 15 ePromo l, .fn (.func f) fs ds, .optr 1 q 0 0] ∧ (rest.map (·.2)).foldl (fun a x => goB px step a (prAt l x)) a = eachF px step sm l a0 r ∧ (∀ e ∈ rest, (0 ≤ e.2 ∧ e.2.toNat < l.length) ∧ sm (prAt l e.2) = true) ∧ (rest.Pairwise fun a b => prior b a = false) ∧ Inv a rest.length ∧ R a s t0 ∧ QSt t0 q fl rest t', ?_, ?_⟩
      · conv => whnf
        refine ⟨_, a0, pushed sm l r r.length, true, t, rfl, rfl, by rw [hsnd]; rfl, fun e he => ?_, pushed_sorted sm l r r.length, hInvle a0 60 _ (by omega) hI, h, hq⟩
        have : e.2 ∈ (pushed sm l r r.length).map (·.2) := List.mem_map_of_mem he
        rw [hsnd] at this
        obtain ⟨h1, h2⟩ := List.mem_filter.1 this
        exact ⟨hmem' _ h1, h2⟩
      · clear hq
        rintro m vs t' ⟨a, rest, fl, t0, rfl, rfl, hF, hrm, hsort, hIa, hRa, hq⟩
        conv => whnf
        refine call1 (qlen_S _ _ _ _ _ hq) ?_; conv => whnf
        cases rest with
        | nil =>
          conv => whnf
          refine ⟨rfl, hfin t' ?_⟩
          rw [← hF]
          exact hmore _ _ _ _ hRa hq.sup
        | cons x rest =>
          rw [List.pairwise_cons] at hsort
          have hx := hrm x (List.mem_cons_self ..)
          have hlen0 : decide (((x :: rest).length : Int) > 0) = true := decide_eq_true (by rw [List.length_cons]; omega)
          rw [hlen0]; conv => whnf
          refine call (qpop_S _ _ _ _ _ _ hq hsort.1) (fun v t2 hv => ?_)
          obtain ⟨rfl, hq2⟩ := hv
          have hpr : prAt l x.2 ∈ l := getD_mem hx.1.2
          have hgl := hgr a _ hIa
          obtain ⟨s', hpx⟩ := hP a s t2 (hmore _ _ _ _ hRa hq2.sup)
          obtain ⟨dv, gv, fx, hbx, hfx, hgv, hcont⟩ := hpx.groups hgl
          conv => whnf
          -- what is behind the round
          have hgo : goB px step a (prAt l x.2) = if isNil (prAt l x.2).group || !inB (px a).groups (prAt l x.2).group then step a (prAt l x.2) else a := rfl
          have hF2 : (rest.map (·.2)).foldl (fun a x => goB px step a (prAt l x)) (goB px step a (prAt l x.2)) = eachF px step sm l a0 r := by rw [← hF]; rfl
          have round : ∀ (b : σ) (t3 : St), b = goB px step a (prAt l x.2) → Inv b rest.length → (∃ t0', R b s t0' ∧ QSt t0' q false rest t3) → ∃ m', m' < rest.length + 1 ∧ ∃ (a : σ) (rest_1 : List QE) (fl : Bool) (t0 : St), m' = rest_1.length ∧ [AV.optr 4 bx 0 0, arrOf 15 ePromo l, .fn (.func f) fs ds, .optr 1 q 0 0] = [AV.optr 4 bx 0 0, arrOf 15 ePromo l, .fn (.func f) fs ds, .optr 1 q 0 0] ∧ (rest_1.map (·.2)).foldl (fun a x => goB px step a (prAt l x)) a = eachF px step sm l a0 r ∧ (∀ e ∈ rest_1, (0 ≤ e.2 ∧ e.2.toNat < l.length) ∧ sm (prAt l e.2) = true) ∧ (rest_1.Pairwise fun a b => prior b a = false) ∧ Inv a rest_1.length ∧ R a s t0 ∧ QSt t0 q fl rest_1 t3 :=
            fun b t3 hb hib ⟨t0', h1, h2⟩ => ⟨rest.length, Nat.lt_succ_self _, b, rest, false, t0', rfl, rfl, by rw [hb]; exact hF2, fun e he => hrm e (List.mem_cons_of_mem _ he), hsort.2, hib, h1, h2⟩
          -- the call itself
          have doit : ∀ K : KK, (∀ t3, (∃ t0', R (step a (prAt l x.2)) s t0' ∧ QSt t0' q false rest t3) → K (.tuple []) t3) → xCall P f (fs ++ [ePromo (prAt l x.2)] ++ ds) t2 K := fun K hK => by
            refine call (queue_under (hR a) (hmore a) (hR _) hRa hq2 (fun u hu => hdo a rest.length (prAt l x.2) u t2 hpr hx.2 (by simpa using hIa) hu)) (fun v t3 hv => ?_)
            rw [hv.1]; exact hK t3 hv.2
          refine ⟨[], [], [0, 1, 2, 3, 4, 5, 6, 7, 8, 9, 10, 11, 12, 13, 14, 15, 16, 17, 18], by kernel_rfl, ?_⟩; conv => whnf
          refine ⟨rfl, ⟨by omega, by omega⟩, ?_⟩; conv => whnf
          have hnil : (ByteArray.toList (l.getD x.2.toNat default).group == ByteArray.toList ⟨#[]⟩) = isNil (prAt l x.2).group := rfl
          have hyes : (isNil (prAt l x.2).group || !inB (px a).groups (prAt l x.2).group) = true → ∀ K : KK, (∀ t3, (∃ (b : σ), b = goB px step a (prAt l x.2) ∧ Inv b rest.length ∧ ∃ t0', R b s t0' ∧ QSt t0' q false rest t3) → K (.tuple []) t3) → xCall P f (fs ++ [ePromo (prAt l x.2)] ++ ds) t2 K := fun hy K hK =>
            doit K fun t3 h3 => hK t3 ⟨_, by rw [hgo, if_pos hy], hinv a _ _ hpr hx.2 (by simpa using hIa), h3⟩
          rw [hnil]
          cases hg : isNil (prAt l x.2).group with
          | true =>
            conv => whnf
            refine ⟨rfl, ⟨by omega, by omega⟩, ?_⟩; conv => whnf
            rw [appK_eq, appK_eq]
            refine hyes (by rw [hg]; rfl) _ (fun t3 h3 => ?_); conv => whnf
            refine ⟨rfl, ?_⟩; conv => whnf
            obtain ⟨b, h4, h5, h6⟩ := h3
            exact round b t3 h4 h5 h6
          | false =>
            rcases hgv with rfl | ⟨bg, rfl⟩
            all_goals
              conv => whnf
              refine ldV hbx rfl (by omega) hfx ?_; conv => whnf
              refine ⟨rfl, ⟨by omega, by omega⟩, ?_⟩; conv => whnf
              refine ⟨_, callQ (hcont (prAt l x.2).group), ?_⟩; conv => whnf
              cases hi : inB (px a).groups (prAt l x.2).group with
              | false =>
                conv => whnf
                refine ⟨rfl, ⟨by omega, by omega⟩, ?_⟩; conv => whnf
                rw [appK_eq, appK_eq]
                refine hyes (by rw [hi]; simp) _ (fun t3 h3 => ?_); conv => whnf
                refine ⟨rfl, ?_⟩; conv => whnf
                obtain ⟨b, h4, h5, h6⟩ := h3
                exact round b t3 h4 h5 h6
              | true =>
                conv => whnf
                refine ⟨rfl, ?_⟩; conv => whnf
                refine round a t2 (by rw [hgo, if_neg (by rw [hg, hi]; simp)]) (hle a _ (by simpa using hIa)) ⟨t0, hRa, hq2⟩
    · have hi' : i < r.length := by have := of_decide_eq_true hd; omega
      have hm := hmem' _ (getD_mem hi')
      have es := pushed_succ sm l r i
      conv => whnf
      refine ⟨rfl, ⟨by omega, by omega⟩, ?_⟩; conv => whnf
      refine ⟨rfl, ⟨by show 0 ≤ gI r i; exact hm.1, by show gI r i < (l.length : Int); have h1 := hm.1; have h2 := hm.2; show gI r i < _; have : (gI r i).toNat < l.length := h2; have : 0 ≤ gI r i := h1; omega⟩, ?_⟩; conv => whnf
      refine call1 (hsome (prAt l (gI r i)) t') ?_; conv => whnf
      refine fork (fun h3 => ?_) (fun h3 => ?_) <;> rw [h3]
      · rw [if_pos h3] at es
        have w : IntKind.i64.wrap (0 - (i : Int)) = -(i : Int) := by rw [show 0 - (i : Int) = -(i : Int) by omega]; exact wrap64_of (by omega) (by omega)
        conv => whnf
        rw [w]
        refine call (qpush_S t q _ (-(i : Int)) (gI r i) _ hq (by omega)) (fun v t2 hv => ?_)
        obtain ⟨rfl, hq'⟩ := hv
        conv => whnf
        refine ⟨rfl, ?_⟩; conv => whnf
        exact ⟨r.length - (i + 1), by omega, i + 1, by omega, rfl, by rw [wrapN (by omega)], by rw [es]; exact hq'⟩
      · have h3' : ¬ sm (prAt l (gI r i)) = true := by rw [h3]; simp
        rw [if_neg h3', List.append_nil] at es; conv => whnf
        refine ⟨rfl, ?_⟩; conv => whnf
        exact ⟨r.length - (i + 1), by omega, i + 1, by omega, rfl, by rw [wrapN (by omega)], by rw [es]; exact hq⟩
def priceCheck (r : Rules) (codes : List Str) (l : List Line) : Int :=
  if rulesC r = false then 10 else if codesC codes = false then 2 else checkE (known r.items) l
theorem pcheck_S (r : Rules) (codes : List Str) (l : List Line) (hf : RulesFit r) (hc : codes.length ≤ Big) (hi : r.items.length ≤ 4611686018427387904) (st : St) :
    S P 63 [eRules r, eStrs codes, arrOf 3 eLine l] st fun v st' => v = eI (priceCheck r codes l) ∧ st' = st := by
  refine S_of_X [3] good mixed Tryz.func63 (by rfl) rfl rfl rfl ?_; conv => whnf
  refine call1 (rules_S r hf st) ?_; conv => whnf
  have hP : priceCheck r codes l = if rulesC r = false then 10 else if codesC codes = false then 2 else checkE (known r.items) l := rfl
  cases h1 : rulesC r
  · rw [if_pos h1] at hP; conv => whnf
    exact ⟨by rw [hP]; rfl, rfl⟩
  · rw [if_neg (by rw [h1]; simp)] at hP; conv => whnf
    refine call1 (codes_S codes hc st) ?_; conv => whnf
    cases h2 : codesC codes
    · rw [if_pos h2] at hP; conv => whnf
      exact ⟨by rw [hP]; rfl, rfl⟩
    · rw [if_neg (by rw [h2]; simp)] at hP; conv => whnf
      refine call1 (Check_S r.items l hi st) ?_; conv => whnf
      exact ⟨by rw [hP]; rfl, rfl⟩
abbrev usOf (l : List Line) : List AUnit := unitsUp l l.length
structure LinesOk (items : List Ab.Item) (l : List Line) : Prop where
  len : l.length ≤ 1000
  line : ∀ x ∈ l, lineC x = true
  known : ∀ x ∈ l, known items x.sku = true
  units : unitsN l ≤ 100000
  gross : grossN l ≤ 10000000000000
theorem linesOk {items : List Ab.Item} {l : List Line} (h : checkE (known items) l = 0) : LinesOk items l := by
  unfold checkE at h
  split at h
  · cases h
  · rename_i hl
    split at h
    · rename_i x hx
      split at h <;> cases h
    · rename_i hf
      have hall : ∀ x ∈ l, badLine (Go.Proofs.YtfajkgonocpddaaGreat.known items) x = false := fun x hx => Bool.eq_false_iff.2 (List.find?_eq_none.1 hf x hx)
      have hb : ∀ x ∈ l, Go.Proofs.YtfajkgonocpddaaGreat.known items x.sku = true ∧ lineC x = true := fun x hx => by
        have := hall x hx
        unfold badLine at this
        simpa using this
      split at h
      · cases h
      · rename_i hg
        simp only [Bool.or_eq_true, decide_eq_true_eq, not_or] at hg
        exact ⟨by omega, fun x hx => (hb x hx).2, fun x hx => (hb x hx).1, by omega, by omega⟩
theorem LinesOk.may {items : List Ab.Item} {l : List Line} (h : LinesOk items l) : (checkE (fun _ => true) l == 0) = true := by
  have : checkE (fun _ => true) l = 0 := by
    unfold checkE
    rw [if_neg (by have := h.len; omega)]
    have hf : l.find? (badLine fun _ => true) = none := List.find?_eq_none.2 fun x hx => by
      unfold badLine; rw [h.line x hx]; simp
    rw [hf]
    simp only
    rw [if_neg]
    have := h.units
    have := h.gross
    simp only [Bool.or_eq_true, decide_eq_true_eq, not_or]
    omega
  rw [this]; rfl
theorem unitsUp_net (l : List Line) (hl : ∀ x ∈ l, lineC x = true) : ∀ k, k ≤ l.length → ((unitsUp l k).length : Int) = unitsN (l.take k) ∧ sumI (netsOf (unitsUp l k)) = grossN (l.take k) ∧ (∀ u ∈ unitsUp l k, 0 ≤ u.net ∧ 0 ≤ u.line ∧ u.line.toNat < k ∧ u.opn = true)
  | 0, _ => ⟨rfl, rfl, fun u hu => by simp [unitsUp] at hu⟩
  | k + 1, h => by
    obtain ⟨h1, h2, h3⟩ := unitsUp_net l hl k (by omega)
    have hx := (lineC_iff _).1 (hl _ (getD_mem (show k < l.length by omega)))
    have eN : unitsN (l.take (k + 1)) = unitsN (l.take k) + (l.getD k default).qty := foldl_next (by omega) _ _
    have eG : grossN (l.take (k + 1)) = grossN (l.take k) + (l.getD k default).qty * (l.getD k default).price := foldl_next (by omega) _ _
    have hup : unitsUp l (k + 1) = unitsUp l k ++ List.replicate (l.getD k default).qty.toNat (lnU l k) := rfl
    have hsr : ∀ (n : Nat) (c : Int), sumI (List.replicate n c) = n * c := fun n c => by
      induction n with
      | zero => simp [sumI]
      | succ n ih => rw [List.replicate_succ, sumI_cons, ih, show ((n + 1 : Nat) : Int) = (n : Int) + 1 by omega, Int.add_mul, Int.one_mul]; omega
    refine ⟨?_, ?_, fun u hu => ?_⟩
    · rw [hup, List.length_append, List.length_replicate, eN, ← h1]; omega
    · unfold netsOf at h2 ⊢
      rw [hup, List.map_append, sumI_append, h2, List.map_replicate, hsr, eG]
      show _ + ((l.getD k default).qty.toNat : Int) * (l.getD k default).price = _
      rw [Int.toNat_of_nonneg hx.1.1]
    · rw [hup] at hu
      rcases List.mem_append.1 hu with hu | hu
      · have := h3 u hu; exact ⟨this.1, this.2.1, by omega, this.2.2.2⟩
      · rw [List.eq_of_mem_replicate hu]
        refine ⟨hx.2.1, ?_, ?_, rfl⟩
        · show (0 : Int) ≤ (k : Int); omega
        · show ((k : Int)).toNat < k + 1; omega
theorem usOf_ok {items : List Ab.Item} {l : List Line} (h : LinesOk items l) : UsOk (itemsOf items l) (usOf l) := by
  obtain ⟨h1, h2, h3⟩ := unitsUp_net l h.line l.length (Nat.le_refl _)
  rw [List.take_length] at h1 h2
  have hN := h.units
  have hG := h.gross
  have hlen : (itemsOf items l).length = l.length := List.length_map ..
  exact ⟨⟨by show (unitsUp l l.length).length ≤ 100000; omega, fun u hu => (h3 u hu).1, by show sumI (netsOf (unitsUp l l.length)) ≤ _; omega⟩, by rw [hlen]; have := h.len; omega, fun u hu => ⟨(h3 u hu).2.1, by rw [hlen]; exact (h3 u hu).2.2.1⟩⟩
def IsPr (bn n : Nat) (net ship : Int) (y : Blk) : Prop := ∃ f, y = ⟨92, 4, 1, f⟩ ∧ f 0 = .agg [.own 1 bn 0 n, eI net, eI ship, .emp]
def R2 (bx bp bn n : Nat) (items : List Ab.Item) (net : Int) (a : PSt × Int) : St → St → Prop := AddB bp (IsPr bn n net a.2) (PxR bx items a.1)
theorem besideR2 (bx bp bn n : Nat) (items : List Ab.Item) (net : Int) (a : PSt × Int) : Beside (R2 bx bp bn n items net a) := besideB (besideP _ _ _)
theorem R2.more {bx bp bn n : Nat} {items : List Ab.Item} {net : Int} {a : PSt × Int} {s t t' : St} (h : R2 bx bp bn n items net a s t) (hs : Sup t t') : R2 bx bp bn n items net a s t' := by
  obtain ⟨h1, y, h2, h3⟩ := h
  exact ⟨h1, y, h2, h3.more hs⟩
def shipStep (net : Int) (a : PSt × Int) (pr : Promo) : PSt × Int := ((shipB a.1 pr net a.2).2, (shipB a.1 pr net a.2).1)
theorem ship_closure_S (bx bp bn n : Nat) (items : List Ab.Item) (net : Int) (a : PSt × Int) (pr : Promo) (h0 : 0 ≤ a.2) (h1 : a.2 ≤ 10000000000000) (hd : a.1.deals.length ≤ 1000) (hg : a.1.groups.length ≤ 1000) (s t : St) (h : R2 bx bp bn n items net a s t) :
    S P 70 [ePromo pr, .fptr (.optr 4 bx 0 0) 0, .optr 4 bp 0 0] t fun v t' => v = .tuple [] ∧ R2 bx bp bn n items net (shipStep net a pr) s t' := by
  obtain ⟨hbp, y, ⟨f, rfl, hf⟩, hP⟩ := h
  have hat : t bp = some ⟨92, 4, 1, f⟩ := (besideP _ _ _).sup hP bp _ (upd_same ..)
  refine S_of_X [3] good mixed Tryz.func70 (by rfl) rfl rfl rfl ?_; conv => whnf
  refine ldV hat rfl (by omega) hf ?_; conv => whnf
  refine ldV hat rfl (by omega) hf ?_; conv => whnf
  refine call (shipping_S bx items a.1 pr net a.2 h0 h1 hd hg _ t hP) (fun v t2 hv => ?_)
  obtain ⟨rfl, hP2⟩ := hv
  have hat2 : t2 bp = some ⟨92, 4, 1, f⟩ := (besideP _ _ _).sup hP2 bp _ (upd_same ..)
  conv => whnf
  refine stV hat2 rfl (by omega) hf (by rfl) ?_; conv => whnf
  refine ⟨rfl, ?_⟩
  exact AddB.set (besideP _ _ _) (Q := fun y => y = ⟨92, 4, 1, f⟩) ⟨hbp, _, rfl, hP2⟩ ⟨_, rfl, by rw [fset_same]; rfl⟩
def lineNet (us : List AUnit) (j : Nat) : Int := sumI ((us.filter fun u => u.line.toNat == j).map AUnit.net)
def lineNets (n : Nat) (us : List AUnit) : List Int := (List.range n).map (lineNet us)
theorem lineNet_next {us : List AUnit} {k : Nat} (hk : k < us.length) (j : Nat) : lineNet (us.take (k + 1)) j = if (gU us k).line.toNat = j then lineNet (us.take k) j + (gU us k).net else lineNet (us.take k) j := by
  unfold lineNet
  rw [take_next hk, List.filter_append, List.map_append, sumI_append]
  by_cases h : (gU us k).line.toNat = j
  · rw [if_pos h, List.filter_cons_of_pos (by show ((gU us k).line.toNat == j) = true; rw [h]; simp)]
    simp [sumI]
  · rw [if_neg h, List.filter_cons_of_neg (by show ¬ ((gU us k).line.toNat == j) = true; simpa using h)]
    simp [sumI]
theorem lineNet_bound {us : List AUnit} (h : UnitsOk us) (k j : Nat) : 0 ≤ lineNet (us.take k) j ∧ lineNet (us.take k) j ≤ sumI (netsOf us) := by
  have hsub : ((us.take k).filter fun u => u.line.toNat == j).Sublist us := List.filter_sublist.trans (List.take_sublist _ _)
  have hgen : ∀ {a b : List AUnit}, a.Sublist b → (∀ u ∈ b, 0 ≤ u.net) → 0 ≤ sumI (a.map AUnit.net) ∧ sumI (a.map AUnit.net) ≤ sumI (b.map AUnit.net) := fun {a b} hs => by
    induction hs with
    | slnil => intro _; exact ⟨Int.le_refl _, Int.le_refl _⟩
    | cons x _ ih =>
      intro hb
      have h1 := ih fun u hu => hb u (List.mem_cons_of_mem _ hu)
      have h2 := hb x (List.mem_cons_self ..)
      rw [List.map_cons, sumI_cons]; omega
    | cons_cons x _ ih =>
      intro hb
      have h1 := ih fun u hu => hb u (List.mem_cons_of_mem _ hu)
      have h2 := hb x (List.mem_cons_self ..)
      rw [List.map_cons, List.map_cons, sumI_cons, sumI_cons]; omega
  exact hgen hsub h.pos
def notShip (pr : Promo) : Bool := !(pr.kind == 7)
def isShip (pr : Promo) : Bool := pr.kind == 7
def p1B (r : Rules) (l : List Line) (o : List Int) : PSt := eachF (fun p => p) (askB (itemsOf r.items l)) notShip r.promos ⟨usOf l, [], []⟩ o
def netB (p : PSt) : Int := sumI (netsOf p.us)
def p2B (r : Rules) (l : List Line) (p1 : PSt) (o : List Int) : PSt × Int := eachF (fun a => a.1) (shipStep (netB p1)) isShip r.promos (p1, feeB r.ship (usOf l).length (netB p1)) o
def priceB (r : Rules) (l : List Line) (o1 o2 : List Int) : Priced := ⟨lineNets l.length (p1B r l o1).us, netB (p1B r l o1), (p2B r l (p1B r l o1) o2).2, (p2B r l (p1B r l o1) o2).1.deals⟩
theorem eachF_inv {σ : Type} {px : σ → PSt} {step : σ → Promo → σ} {sm : Promo → Bool} {l : List Promo} {Inv : σ → Nat → Prop} (hle : ∀ a n, Inv a (n + 1) → Inv a n) (hinv : ∀ (a : σ) (n : Nat) (pr : Promo), pr ∈ l → sm pr = true → Inv a (n + 1) → Inv (step a pr) n) :
    ∀ (o : List Int) (a : σ) (n : Nat), (∀ x ∈ o, x.toNat < l.length) → Inv a (n + o.length) → Inv (eachF px step sm l a o) n := by
  intro o
  unfold eachF
  induction o with
  | nil => intro a n _ h; exact h
  | cons x o ih =>
    intro a n hm h
    have hm' : ∀ y ∈ o, y.toNat < l.length := fun y hy => hm y (List.mem_cons_of_mem _ hy)
    have hx : prAt l x ∈ l := getD_mem (hm x (List.mem_cons_self ..))
    have h' : Inv a ((n + o.length) + 1) := by rw [List.length_cons] at h; exact h
    by_cases hs : sm (prAt l x) = true
    · rw [List.filter_cons_of_pos (p := fun x => sm (prAt l x)) hs, List.foldl_cons]
      refine ih _ _ hm' ?_
      unfold goB
      split
      · exact hinv a _ _ hx hs h'
      · exact hle _ _ h'
    · rw [List.filter_cons_of_neg (p := fun x => sm (prAt l x)) hs]
      exact ih _ _ hm' (hle _ _ h')
def Inv1 (items : List Ab.Item) (us0 : List AUnit) (p : PSt) (n : Nat) : Prop := UsOk items p.us ∧ p.deals.length + n ≤ 100 ∧ p.groups.length + n ≤ 100 ∧ ∃ x, Off us0 p.us x
def Inv2 (a : PSt × Int) (n : Nat) : Prop := a.1.deals.length + n ≤ 200 ∧ a.1.groups.length + n ≤ 200 ∧ 0 ≤ a.2 ∧ a.2 ≤ 10000000000000
theorem inv1_step {items : List Ab.Item} {us0 : List AUnit} {a : PSt} {n : Nat} {pr : Promo} (hfit : PromoFit pr) (hright : promoC pr = true) (hk : notShip pr = true) (h : Inv1 items us0 a (n + 1)) : Inv1 items us0 (askB items a pr) n := by
  obtain ⟨h1, h2, h3, x, h4⟩ := h
  obtain ⟨y, h5⟩ := askB_off h1 hfit hright (by simpa [notShip] using hk)
  refine ⟨h1.off h5, ?_, ?_, x + y, h4.trans h5⟩
  · unfold askB; split
    · simp only [noteF, List.length_append, List.length_cons, List.length_nil]; omega
    · omega
  · unfold askB; split
    · simp only [noteF, List.length_append]
      split <;> simp <;> omega
    · omega
theorem inv2_step {net : Int} {a : PSt × Int} {n : Nat} {pr : Promo} (hright : promoC pr = true) (hk : isShip pr = true) (h : Inv2 a (n + 1)) : Inv2 (shipStep net a pr) n := by
  obtain ⟨h1, h2, h3, h4⟩ := h
  have hk7 : pr.kind = 7 := by simpa [isShip] using hk
  have hr := (promoOk hright).ship hk7
  have hb := half_bound a.2 pr.rate
  have hle := rate_le h3 (show 0 ≤ pr.rate by omega) hr.2
  unfold shipStep shipB
  split
  · exact ⟨by show a.1.deals.length + n ≤ 200; omega, by show a.1.groups.length + n ≤ 200; omega, h3, h4⟩
  · refine ⟨?_, ?_, by show 0 ≤ a.2 - half a.2 pr.rate; omega, by show a.2 - half a.2 pr.rate ≤ _; omega⟩
    · show (if half a.2 pr.rate > 0 then noteF a.1 pr (half a.2 pr.rate) else a.1).deals.length + n ≤ 200
      split
      · simp only [noteF, List.length_append, List.length_cons, List.length_nil]; omega
      · omega
    · show (if half a.2 pr.rate > 0 then noteF a.1 pr (half a.2 pr.rate) else a.1).groups.length + n ≤ 200
      split
      · simp only [noteF, List.length_append]
        split <;> simp <;> omega
      · omega
theorem PxR.deals' {bx : Nat} {items : List Ab.Item} {p : PSt} {s t : St} (h : PxR bx items p s t) : ∃ dv gv f, t bx = some ⟨131, 4, 1, f⟩ ∧ f 0 = .agg [arrOf 4 eItem items, eUnits p.us, dv, gv] ∧
    ((p.deals = [] ∧ dv = .emp) ∨ ∃ bd g, dv = .own 2 bd 0 p.deals.length ∧ s bd = none ∧ t bd = some ⟨70, 2, p.deals.length, g⟩ ∧ ∀ k, k < p.deals.length → g k = fDeals p.deals k) := by
  obtain ⟨⟨dv, gv⟩, h⟩ := h
  obtain ⟨y, ⟨f, rfl, hf⟩, hy⟩ := AddB.at (besideD _ _ _ _) h
  obtain ⟨hbx, _, _, hd⟩ := h
  obtain ⟨s0, hc, hg0⟩ := hd
  refine ⟨dv, gv, f, hy, hf, ?_⟩
  rcases hc with ⟨h0, h1, rfl⟩ | ⟨h0, b, g0, hb, h1, rfl, hgg⟩
  · exact .inl ⟨List.eq_nil_of_length_eq_zero h0, h1⟩
  · refine .inr ⟨b, g0, h1, ?_, (besideG _ _).sup hg0 b _ (upd_same ..), hgg⟩
    by_cases e : b = bx
    · subst e; rw [upd_same] at hb; cases hb
    · rw [upd_ne e] at hb; exact hb
structure CheckOk (r : Rules) (codes : List Str) (l : List Line) : Prop where
  rules : rulesC r = true
  codes : codesC codes = true
  lines : LinesOk r.items l
  few : r.promos.length ≤ 60
  promo : ∀ p ∈ r.promos, promoC p = true
  fee : 0 ≤ r.ship.fee ∧ r.ship.fee ≤ 1000000000
theorem checkOk {r : Rules} {codes : List Str} {l : List Line} (h : priceCheck r codes l = 0) : CheckOk r codes l := by
  unfold priceCheck at h
  split at h
  · cases h
  · rename_i h1
    split at h
    · cases h
    · rename_i h2
      have hr : rulesC r = true := by simpa using h1
      have hr' := hr
      unfold rulesC at hr'
      simp only [Bool.and_eq_true] at hr'
      obtain ⟨⟨⟨⟨_, hp⟩, _⟩, hs⟩, _⟩ := hr'
      unfold promosC at hp
      simp only [Bool.and_eq_true, decide_eq_true_eq] at hp
      have hs' : upB 0 1000000000 r.ship.fee = true := by
        unfold shipC at hs
        simp only [Bool.and_eq_true] at hs
        exact hs.1
      refine ⟨hr, by simpa using h2, linesOk h, by omega, fun p hm => ?_, upB_iff.1 hs'⟩
      obtain ⟨k, hk, rfl⟩ := mem_getD hm
      have := allAt_iff.1 hp.2 k hk
      unfold promoAt at this
      simp only [Bool.and_eq_true] at this
      exact this.1
def PriceV (r : Rules) (codes : List Str) (l : List Line) (v : AV) : Prop :=
  (priceCheck r codes l ≠ 0 ∧ v = .tuple [ePriced ⟨[], 0, 0, []⟩, eI (priceCheck r codes l)]) ∨
  (priceCheck r codes l = 0 ∧ ∃ o1 o2, OrdP r.promos codes o1 ∧ OrdP r.promos codes o2 ∧ v = .tuple [ePriced (priceB r l (resO r.promos o1) (resO r.promos o2)), eI 0])
theorem price_S (r : Rules) (codes : List Str) (l : List Line) (hf : RulesFit r) (hc : codes.length ≤ Big) (hi : r.items.length ≤ 4611686018427387904) (h20 : (places r.promos codes r.promos.length).length ≤ 20) (st : St) :
    S P 44 [eRules r, eStrs codes, arrOf 3 eLine l] st fun v st' => PriceV r codes l v ∧ st' = st := by
  refine S.post (post := fun v st' => (priceCheck r codes l ≠ 0 ∧ v = .tuple [.agg [.emp, eI 0, eI 0, .emp], eI (priceCheck r codes l)] ∧ Sup st st') ∨
      (priceCheck r codes l = 0 ∧ ∃ o1 o2 bn fn dv, OrdP r.promos codes o1 ∧ OrdP r.promos codes o2 ∧ v = .tuple [.agg [.own 1 bn 0 l.length, eI (priceB r l (resO r.promos o1) (resO r.promos o2)).net, eI (priceB r l (resO r.promos o1) (resO r.promos o2)).ship, dv], eI 0] ∧
        st bn = none ∧ st' bn = some ⟨2, 1, l.length, fn⟩ ∧ (∀ k, k < l.length → fn k = eI (gI (priceB r l (resO r.promos o1) (resO r.promos o2)).nets k)) ∧ Sup st st' ∧
        (((priceB r l (resO r.promos o1) (resO r.promos o2)).deals = [] ∧ dv = .emp) ∨ ∃ bd g, dv = .own 2 bd 0 (priceB r l (resO r.promos o1) (resO r.promos o2)).deals.length ∧ st bd = none ∧ bd ≠ bn ∧ st' bd = some ⟨70, 2, (priceB r l (resO r.promos o1) (resO r.promos o2)).deals.length, g⟩ ∧ ∀ k, k < (priceB r l (resO r.promos o1) (resO r.promos o2)).deals.length → g k = fDeals (priceB r l (resO r.promos o1) (resO r.promos o2)).deals k))) ?_
    (fun v st' hv => by
      rcases hv with ⟨h1, rfl, hs⟩ | ⟨h1, o1, o2, bn, fn, dv, h2, h3, rfl, h4, h5, h6, hs, h7⟩
      · refine ⟨_, st, ⟨.inl ⟨h1, rfl⟩, rfl⟩, (hs.shift _).trans (Shift.tuple (Shift.cons (Shift.agg ?_) (Shift.keep _ _)) rfl)⟩
        exact Shift.cons (shift_emp 1 _) (Shift.cons (Shift.keep [eI 0] _) (Shift.cons (Shift.keep [eI 0] _) (shift_emp 2 _)))
      · refine ⟨_, st, ⟨.inr ⟨h1, o1, o2, h2, h3, rfl⟩, rfl⟩, Shift.tuple (Shift.cons (Shift.agg ?_) (Shift.keep _ _)) rfl⟩
        have hnl : (priceB r l (resO r.promos o1) (resO r.promos o2)).nets.length = l.length := by show (lineNets _ _).length = _; unfold lineNets; rw [List.length_map, List.length_range]
        generalize priceB r l (resO r.promos o1) (resO r.promos o2) = X at *
        have e1 : eInts X.nets = .arr 1 l.length (fun k => eI (gI X.nets k)) := by unfold eInts arrOf; rw [hnl]
        refine Shift.cons (t := del st' bn) ?_ (Shift.cons (Shift.keep [eI X.net] _) (Shift.cons (Shift.keep [eI X.ship] _) ?_))
        · rw [e1]; exact shift_own h5 rfl (Nat.le_refl _) h6
        · rcases h7 with ⟨h8, rfl⟩ | ⟨bd, g, rfl, h8, h9, h10, h11⟩
          · rw [h8]
            exact ((Sup.del hs h4).shift _).trans (shift_emp 2 _)
          · refine (shift_own (b := bd) (y := ⟨70, 2, X.deals.length, g⟩) (f := fDeals X.deals) (by rw [del_ne h9]; exact h10) rfl (Nat.le_refl _) h11).trans ?_
            exact (Sup.del (Sup.del hs h4) h8).shift _)
  refine S_of_X [3, 9, 10, 13] good mixed Tryz.func44 (by rfl) rfl rfl rfl ?_; conv => whnf
  intro b6 hb6; conv => whnf
  refine call1 (pcheck_S r codes l hf hc hi _) ?_; conv => whnf
  have h6s : ∀ x : Blk, Sup st (upd st b6 x) := fun x => (Sup.refl st).upd hb6
  cases h1 : (priceCheck r codes l != 0)
  · have hk0 : priceCheck r codes l = 0 := by simpa using h1
    have hck := checkOk hk0
    have hln := hck.lines
    have hlen := hln.len
    have hus0 := usOf_ok hln
    obtain ⟨u1, u2, u3⟩ := unitsUp_net l hln.line l.length (Nat.le_refl _)
    have hitl : (itemsOf r.items l).length = l.length := List.length_map ..
    have hmo := fun {o : List Int} (ho : OrdP r.promos codes o) => (show (resO r.promos o).length ≤ 60 by
      rw [List.length_map, ranked_len, ho.1.length_eq]
      have := places_len r.promos codes r.promos.length
      have := hck.few; omega)
    conv => whnf
    refine call1 (itemsOf_S r.items l hi hlen hln.known _) ?_; conv => whnf
    refine call1 (units_S l hlen (fun x hx => ((lineC_iff x).1 (hln.line x hx)).1) hus0.ok.len hln.may _) ?_; conv => whnf
    generalize hs6 : (upd st b6 _) = s6 at *
    have h6 : s6 b6 = some ⟨92, 4, 1, fun _ => avOf r92.zero⟩ := by rw [← hs6]; exact upd_same ..
    have hBig : (Big : Nat) ≤ 9223372036854775807 := by decide
    have hst6 : Sup st s6 := by rw [← hs6]; exact h6s _
    intro bx hbx; conv => whnf
    have hP0 : PxR bx (itemsOf r.items l) ⟨usOf l, [], []⟩ s6 (upd s6 bx ⟨131, 4, 1, fun _ => .agg [arrOf 4 eItem (itemsOf r.items l), eUnits (usOf l), .emp, .emp]⟩) :=
      PxR.mk' hbx rfl (ROut.start (ROut.start (Sup.refl _) _ _ _) _ _ _)
    refine call (peach_S (σ := PSt) bx (itemsOf r.items l) (PxR bx (itemsOf r.items l)) (fun p => p) (besideP bx (itemsOf r.items l)) (fun a s t t' h hs => h.more hs) (fun a s t h => ⟨s, h⟩) r.promos codes hck.few (Nat.le_trans hc hBig) h20 67 [.fptr (.fn (.func 65) [] []) 0] notShip (fun pr t => noShip_S pr t)
      68 [.optr 4 bx 0 0] [] (askB (itemsOf r.items l)) (Inv1 (itemsOf r.items l) (usOf l)) (fun a n h => by have := h.2.2.1; omega) (fun a n h => ⟨h.1, by have := h.2.1; omega, by have := h.2.2.1; omega, h.2.2.2⟩)
      (fun a n pr s t hm hs hI h => ask_S bx (itemsOf r.items l) a pr (hf.fit pr hm) (hck.promo pr hm) (by simpa [notShip] using hs) hI.1 (by have := hI.2.1; omega) (by have := hI.2.2.1; omega) s t h)
      (fun a n pr hm hs hI => inv1_step (hf.fit pr hm) (hck.promo pr hm) hs hI) ⟨usOf l, [], []⟩ ⟨hus0, by simp, by simp, 0, Off.refl hus0.ok⟩ s6 _ hP0) (fun v t1 hv => ?_)
    obtain ⟨rfl, o1, ho1, hP1⟩ := hv
    have hp1 : eachF (fun p => p) (askB (itemsOf r.items l)) notShip r.promos ⟨usOf l, [], []⟩ (resO r.promos o1) = p1B r l (resO r.promos o1) := rfl
    have hI1 : Inv1 (itemsOf r.items l) (usOf l) (p1B r l (resO r.promos o1)) 40 := eachF_inv (fun a n h => ⟨h.1, by have := h.2.1; omega, by have := h.2.2.1; omega, h.2.2.2⟩) (fun a n pr hm hs hI => inv1_step (hf.fit pr hm) (hck.promo pr hm) hs hI) (resO r.promos o1) ⟨usOf l, [], []⟩ 40 (fun x hx => (resO_mem ho1 hx).2) ⟨hus0, by have := hmo ho1; show 0 + (40 + (resO r.promos o1).length) ≤ 100; omega, by have := hmo ho1; show 0 + (40 + (resO r.promos o1).length) ≤ 100; omega, 0, Off.refl hus0.ok⟩
    rw [hp1] at hP1
    have hQ : ∀ o2, priceB r l (resO r.promos o1) (resO r.promos o2) = ⟨lineNets l.length (p1B r l (resO r.promos o1)).us, netB (p1B r l (resO r.promos o1)), (p2B r l (p1B r l (resO r.promos o1)) (resO r.promos o2)).2, (p2B r l (p1B r l (resO r.promos o1)) (resO r.promos o2)).1.deals⟩ := fun _ => rfl
    generalize p1B r l (resO r.promos o1) = p1 at *
    obtain ⟨hus1, hd1, hg1, xoff, hoff⟩ := hI1
    have hul1 : p1.us.length = (usOf l).length := hoff.len
    have hu1 := hus1.ok
    have hul := hu1.len
    have hus := hu1.sum
    have hnet0 := sumI_nonneg hu1.nets0
    have hBP := besideP bx (itemsOf r.items l) p1
    conv => whnf
    refine mkO rfl rfl rfl (by show 8 * l.length ≤ _; omega) (by omega) (by rfl) (fun bn hbn => ?_); conv => whnf
    intro bp hbp
    have hnb : bn ≠ bp := fun e => by subst e; rw [upd_same] at hbp; cases hbp
    have hbp1 : t1 bp = none := by rw [upd_ne hnb.symm] at hbp; exact hbp
    have hbn6 : s6 bn = none := (hBP.sup hP1).none hbn
    have hbp6 : s6 bp = none := (hBP.sup hP1).none hbp1
    conv => whnf
    refine stV (upd_same ..) rfl (by omega) rfl (by rfl) ?_; conv => whnf
    -- the pricer, what the lines come to, what is made of it
    have hP2 := fun (Y Z : Blk) => hBP.begin (y := Z) (hBP.begin (y := Y) hP1 hbn) (by rw [upd_ne hnb.symm]; exact hbp1)
    have hload : ∀ {Y Z : Blk} {t : St}, PxR bx (itemsOf r.items l) p1 (upd (upd s6 bn Y) bp Z) t → t bn = some Y ∧ t bp = some Z := fun h => ⟨hBP.sup h bn _ (by rw [upd_ne hnb, upd_same]), hBP.sup h bp _ (upd_same ..)⟩
    have hwn : ∀ {Y Z Y' : Blk} {t : St}, PxR bx (itemsOf r.items l) p1 (upd (upd s6 bn Y) bp Z) t → PxR bx (itemsOf r.items l) p1 (upd (upd s6 bn Y') bp Z) (upd t bn Y') := fun {Y Z Y' t} h => by
      have := hBP.write (b := bn) (y' := Y') h (by rw [upd_ne hnb, upd_same])
      rw [upd_comm hnb.symm, upd_twice] at this; exact this
    have hwp : ∀ {Y Z Z' : Blk} {t : St}, PxR bx (itemsOf r.items l) p1 (upd (upd s6 bn Y) bp Z) t → PxR bx (itemsOf r.items l) p1 (upd (upd s6 bn Y) bp Z') (upd t bp Z') := fun {Y Z Z' t} h => by
      have := hBP.write (b := bp) (y' := Z') h (upd_same ..)
      rw [upd_twice] at this; exact this
    have hP3 := hP2 ⟨2, 1, l.length, fun _ => avOf r2.zero⟩ ⟨92, 4, 1, fun _ => avOf r92.zero⟩
    have hP4 := hwp (Z' := ⟨92, 4, 1, fset (fun _ => avOf r92.zero) 0 (.agg [.own 1 bn 0 l.length, eI 0, eI 0, .emp])⟩) hP3
    obtain ⟨dv1, gv1, fx1, hx1, hfx1, _, _⟩ := hP4.at
    refine ldV hx1 rfl (by omega) hfx1 ?_; conv => whnf
    have hline : ∀ k, k < p1.us.length → 0 ≤ (gU p1.us k).line ∧ (gU p1.us k).line.toNat < l.length := fun k hk => by
      have := hus1.line _ (getD_mem hk)
      rw [hitl] at this; exact this
    refine ⟨[1, 3, 6, 9, 10, 11, 45, 46, 47], fun m vs t => ∃ (k : Nat) (fn fp : Nat → AV), k ≤ p1.us.length ∧ m = p1.us.length - k ∧ vs = [eStrs codes, .fptr (eRules r) 0, .optr 4 b6 0 0, .fptr (.optr 4 bx 0 0) 0, .fptr (.fn (.func 65) [] []) 0, .optr 4 bp 0 0, eUnits p1.us, eI p1.us.length, eI k] ∧
      PxR bx (itemsOf r.items l) p1 (upd (upd s6 bn ⟨2, 1, l.length, fn⟩) bp ⟨92, 4, 1, fp⟩) t ∧ fp 0 = .agg [.own 1 bn 0 l.length, eI (sumI ((netsOf p1.us).take k)), eI 0, .emp] ∧ ∀ j, j < l.length → fn j = eI (lineNet (p1.us.take k) j), ?_, ?_⟩
    · conv => whnf
      exact ⟨_, 0, _, _, Nat.zero_le _, rfl, rfl, hP4, fset_same .., fun j _ => rfl⟩
    · clear hP4 hP3 hx1 hfx1 hP2
      rintro m vs t ⟨k, fn, fp, hk, rfl, rfl, hP, hfp, hfn⟩
      obtain ⟨htn, htp⟩ := hload hP
      conv => whnf
      cases hd : decide ((k : Int) < (p1.us.length : Int))
      · have := of_decide_eq_false hd
        obtain rfl : k = p1.us.length := by omega
        rw [List.take_length] at hfn
        have htk : (netsOf p1.us).take p1.us.length = netsOf p1.us := by rw [← List.length_map (f := AUnit.net), List.take_length]
        rw [htk] at hfp; conv => whnf
        obtain ⟨dv1, gv1, fx1, hx1, hfx1, _, _⟩ := hP.at
        refine ⟨[11], [], [0, 1, 2, 3, 4, 5, 6, 7, 8, 9, 10, 11], by kernel_rfl, ?_⟩; conv => whnf
        refine ldV hx1 rfl (by omega) hfx1 ?_; conv => whnf
        refine ldV htp rfl (by omega) hfp ?_; conv => whnf
        refine ⟨_, callQ (fee_S r.ship p1.us.length (netB p1) t), ?_⟩; conv => whnf
        refine stV htp rfl (by omega) hfp (by rfl) ?_; conv => whnf
        have hP5 := hwp (Z' := ⟨92, 4, 1, fset fp 0 (.agg [.own 1 bn 0 l.length, eI (netB p1), eI (feeB r.ship p1.us.length (netB p1)), .emp])⟩) hP
        have hfee : 0 ≤ feeB r.ship p1.us.length (netB p1) ∧ feeB r.ship p1.us.length (netB p1) ≤ 10000000000000 := by
          have := hck.fee
          unfold feeB; split <;> omega
        generalize hfe : feeB r.ship p1.us.length (netB p1) = fee at *
        have hR2 : R2 bx bp bn l.length (itemsOf r.items l) (netB p1) (p1, fee) (upd s6 bn ⟨2, 1, l.length, fn⟩) (upd t bp ⟨92, 4, 1, fset fp 0 (.agg [.own 1 bn 0 l.length, eI (netB p1), eI fee, .emp])⟩) := ⟨by rw [upd_ne hnb.symm]; exact hbp6, _, ⟨_, rfl, fset_same ..⟩, hP5⟩
        refine call (peach_S (σ := PSt × Int) bx (itemsOf r.items l) (R2 bx bp bn l.length (itemsOf r.items l) (netB p1)) (fun a => a.1) (besideR2 bx bp bn l.length (itemsOf r.items l) (netB p1)) (fun a s t t' h hs => h.more hs) (fun a s t h => ⟨_, h.2.choose_spec.2⟩) r.promos codes hck.few (Nat.le_trans hc hBig) h20 65 [] isShip (fun pr t => isShip_S pr t)
          70 [] [.fptr (.optr 4 bx 0 0) 0, .optr 4 bp 0 0] (shipStep (netB p1)) Inv2 (fun a n h => by have := h.2.1; omega) (fun a n h => ⟨by have := h.1; omega, by have := h.2.1; omega, h.2.2⟩)
          (fun a n pr s t hm hs hI h => ship_closure_S bx bp bn l.length (itemsOf r.items l) (netB p1) a pr hI.2.2.1 hI.2.2.2 (by have := hI.1; omega) (by have := hI.2.1; omega) s t h)
          (fun a n pr hm hs hI => inv2_step (hck.promo pr hm) hs hI) (p1, fee) ⟨by show p1.deals.length + 60 ≤ 200; omega, by show p1.groups.length + 60 ≤ 200; omega, hfee⟩ (upd s6 bn ⟨2, 1, l.length, fn⟩) _ hR2) (fun v t2 hv => ?_)
        obtain ⟨rfl, o2, ho2, hR3⟩ := hv
        have hp2 : eachF (fun a : PSt × Int => a.1) (shipStep (netB p1)) isShip r.promos (p1, fee) (resO r.promos o2) = p2B r l p1 (resO r.promos o2) := by
          unfold p2B; rw [← hfe, hul1]
        rw [hp2] at hR3
        have hQ2 := hQ o2
        generalize p2B r l p1 (resO r.promos o2) = a2 at *
        obtain ⟨hbp7, y, ⟨f7, rfl, hf7⟩, hP7⟩ := hR3
        have hBP7 := besideP bx (itemsOf r.items l) a2.1
        have h7p : t2 bp = some ⟨92, 4, 1, f7⟩ := hBP7.sup hP7 bp _ (upd_same ..)
        have h7n : t2 bn = some ⟨2, 1, l.length, fn⟩ := hBP7.sup hP7 bn _ (by rw [upd_ne hnb, upd_same])
        have h76 : Sup s6 t2 := fun c x hc => hBP7.sup hP7 c x (by
          have e1 : c ≠ bp := fun e => by subst e; rw [hbp6] at hc; cases hc
          have e2 : c ≠ bn := fun e => by subst e; rw [hbn6] at hc; cases hc
          rw [upd_ne e1, upd_ne e2]; exact hc)
        have h6b := h76 b6 _ h6
        have hb6p : b6 ≠ bp := fun e => by subst e; rw [h6] at hbp6; cases hbp6
        have hb6n : b6 ≠ bn := fun e => by subst e; rw [h6] at hbn6; cases hbn6
        have hstn : st bn = none := hst6.none hbn6
        have hstp : st bp = none := hst6.none hbp6
        obtain ⟨dv, gv, fx, hx2, hfx2, hdl⟩ := hP7.deals'
        have hS2 : Sup st t2 := hst6.trans h76
        conv => whnf
        refine ldV hx2 rfl (by omega) hfx2 ?_
        rcases hdl with ⟨hd0, rfl⟩ | ⟨bd, gd, rfl, hbd, hbt, hgd⟩
        · conv => whnf
          refine stV h7p rfl (by omega) hf7 (by rfl) ?_; conv => whnf
          refine ldV (upd_same ..) rfl (by omega) (fset_same ..) ?_; conv => whnf
          refine stV (by rw [upd_ne hb6p]; exact h6b) rfl (by omega) rfl (by rfl) ?_; conv => whnf
          refine ldV (upd_same ..) rfl (by omega) (fset_same ..) ?_; conv => whnf
          refine .inr ⟨hk0, o1, o2, bn, fn, .emp, ho1, ho2, ?_, hstn, ?_, ?_, ((hS2.over hstp).over hb6), .inl ⟨?_, rfl⟩⟩
          · rw [hQ2]; rfl
          · rw [upd_ne hb6n.symm, upd_ne hnb]; exact h7n
          · intro k hk
            rw [hQ2, hfn k hk]
            show eI _ = eI (gI (lineNets l.length p1.us) k)
            unfold lineNets
            rw [gI_map_range _ hk]
          · rw [hQ2]; exact hd0
        · have hbdp : bd ≠ bp := fun e => by subst e; rw [upd_same] at hbd; cases hbd
          rw [upd_ne hbdp] at hbd
          have hbdn : bd ≠ bn := fun e => by subst e; rw [upd_same] at hbd; cases hbd
          rw [upd_ne hbdn] at hbd
          have hbd6 : bd ≠ b6 := fun e => by subst e; rw [h6] at hbd; cases hbd
          conv => whnf
          refine stV h7p rfl (by omega) hf7 (by rfl) ?_; conv => whnf
          refine ldV (upd_same ..) rfl (by omega) (fset_same ..) ?_; conv => whnf
          refine stV (by rw [upd_ne hb6p]; exact h6b) rfl (by omega) rfl (by rfl) ?_; conv => whnf
          refine ldV (upd_same ..) rfl (by omega) (fset_same ..) ?_; conv => whnf
          refine .inr ⟨hk0, o1, o2, bn, fn, .own 2 bd 0 a2.1.deals.length, ho1, ho2, ?_, hstn, ?_, ?_, ((hS2.over hstp).over hb6), .inr ⟨bd, gd, ?_, hst6.none hbd, hbdn, ?_, ?_⟩⟩
          · rw [hQ2]; rfl
          · rw [upd_ne hb6n.symm, upd_ne hnb]; exact h7n
          · intro k hk
            rw [hQ2, hfn k hk]
            show eI _ = eI (gI (lineNets l.length p1.us) k)
            unfold lineNets
            rw [gI_map_range _ hk]
          · rw [hQ2]
          · rw [upd_ne hbd6, upd_ne hbdp, hQ2]; exact hbt
          · rw [hQ2]; exact hgd
      · have hk' : k < p1.us.length := by have := of_decide_eq_true hd; omega
        have hlk := hline k hk'
        have hn0 : 0 ≤ (gU p1.us k).net := hu1.at0 k
        have hn1 : (gU p1.us k).net ≤ 10000000000000 := hu1.le (getD_mem hk')
        have e1 := sumI_take (l := netsOf p1.us) (i := k) (by rw [List.length_map]; exact hk')
        have e4 : gI (netsOf p1.us) k = (gU p1.us k).net := getD_map AUnit.net p1.us hk'
        have e2 := sumI_le_take hu1.nets0 (k + 1)
        have e3 := sumI_nonneg (l := (netsOf p1.us).take k) (fun x hx => hu1.nets0 x (List.take_subset _ _ hx))
        have hlb := lineNet_bound hu1 k (gU p1.us k).line.toNat
        have hlb2 := lineNet_bound hu1 (k + 1) (gU p1.us k).line.toNat
        have hln1 := lineNet_next hk' (gU p1.us k).line.toNat
        rw [if_pos rfl] at hln1
        have hfl : fn (0 + (gU p1.us k).line.toNat) = eI (lineNet (p1.us.take k) (gU p1.us k).line.toNat) := by rw [Nat.zero_add]; exact hfn _ hlk.2
        have w1 : IntKind.i64.wrap (lineNet (p1.us.take k) (gU p1.us k).line.toNat + (gU p1.us k).net) = lineNet (p1.us.take (k + 1)) (gU p1.us k).line.toNat := by rw [hln1]; exact wrap64_of (by omega) (by omega)
        have w2 : IntKind.i64.wrap (sumI ((netsOf p1.us).take k) + (gU p1.us k).net) = sumI ((netsOf p1.us).take (k + 1)) := by rw [e1, e4]; exact wrap64_of (by omega) (by omega)
        conv => whnf
        refine ⟨rfl, ⟨by omega, by omega⟩, ?_⟩; conv => whnf
        refine ⟨[10], [], [0, 1, 2, 3, 4, 5, 6, 7, 8, 9, 10], by kernel_rfl, ?_⟩; conv => whnf
        refine ldV htp rfl (by omega) hfp ?_; conv => whnf
        refine ⟨rfl, ⟨by show 0 ≤ (gU p1.us k).line; exact hlk.1, by show (gU p1.us k).line < (l.length : Int); have := hlk.2; have := hlk.1; omega⟩, ?_⟩; conv => whnf
        refine ldV htn rfl (by show 0 + (gU p1.us k).line.toNat < _; have := hlk.2; omega) hfl ?_; conv => whnf
        refine ⟨rfl, ⟨by show 0 ≤ (gU p1.us k).line; exact hlk.1, by show (gU p1.us k).line < (l.length : Int); have := hlk.2; have := hlk.1; omega⟩, ?_⟩; conv => whnf
        refine stV htn rfl (by show 0 + (gU p1.us k).line.toNat < _; have := hlk.2; omega) hfl (by rfl) ?_
        have hP5 := hwn (Y' := ⟨2, 1, l.length, fset fn (0 + (gU p1.us k).line.toNat) (eI (lineNet (p1.us.take (k + 1)) (gU p1.us k).line.toNat))⟩) hP
        rw [← w1] at hP5
        obtain ⟨_, htp2⟩ := hload hP5
        conv => whnf
        refine ldV htp2 rfl (by omega) hfp ?_; conv => whnf
        refine stV htp2 rfl (by omega) hfp (by rfl) ?_; conv => whnf
        refine ⟨rfl, ?_⟩; conv => whnf
        refine ⟨p1.us.length - (k + 1), by omega, k + 1, _, _, by omega, rfl, by rw [wrapN (by omega)], hwp hP5, ?_, fun j hj => ?_⟩
        · rw [fset_same, ← w2]; rfl
        · show fset fn (0 + (gU p1.us k).line.toNat) _ j = _
          rw [Nat.zero_add]
          rw [lineNet_next hk' j]
          by_cases hj2 : j = (gU p1.us k).line.toNat
          · subst hj2
            rw [if_pos rfl, fset_same, w1, hln1]
          · rw [fset_ne hj2, if_neg (fun e => hj2 e.symm)]; exact hfn j hj
  · have hk0 : priceCheck r codes l ≠ 0 := by simpa using h1
    conv => whnf
    refine stV (upd_same ..) rfl (by omega) rfl (by rfl) ?_; conv => whnf
    refine ldV (upd_same ..) rfl (by omega) (fset_same ..) ?_; conv => whnf
    exact .inl ⟨hk0, rfl, (h6s _).over hb6⟩
end Go.Proofs.YtfajkgonocpddaaGreat
