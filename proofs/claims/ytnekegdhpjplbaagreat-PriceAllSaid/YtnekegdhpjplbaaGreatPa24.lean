/- Part 24 of the proof: contracts of the functions that the law reaches -/
import Derived.Test.YtnekegdhpjplbaaGreatPa23
set_option maxRecDepth 100000
set_option linter.unusedVariables false
set_option linter.unusedSimpArgs false
namespace Go.Proofs.YtnekegdhpjplbaaGreat
open Go Go.Ab
attribute [local irreducible] upd del
def groupN (n : Int) : Str := (⟨#[103]⟩ : Str) ++ byteS (48 + modB n 2)
def zoneN (k : Int) : Str := (⟨#[122]⟩ : Str) ++ byteS (48 + k)
def playPart (x : Part) : Part := ⟨playScope x.scope, 1 + modB x.count 2⟩
def playParts (l : List Part) : List Part := if l.length = 0 then [⟨⟨[], []⟩, 2⟩] else (l.take 3).map playPart
def playKind (p : Promo) : Int := 1 + modB (IntKind.i64.wrap (p.kind - 1)) 7
def playGroup (p : Promo) : Str := if modB (pickN p.group) 3 = 1 then groupN p.group.size else ⟨#[]⟩
def playCode (p : Promo) : Str := if modB (pickN p.code) 3 = 1 then codeN p.code.size else ⟨#[]⟩
def playLeast (p : Promo) : Int := if modB p.least 3 = 1 then modB p.least 9000 else 0
def playPromoK (p : Promo) (id K : Int) : Promo :=
 ⟨idN id, K, modB p.prio 5, playGroup p, playCode p, if K = 7 then false else p.closes, if K = 4 ∨ K = 7 then ⟨[], []⟩ else playScope p.scope, playLeast p,
  if K = 1 ∨ K = 3 ∨ K = 7 then 1 + modB p.rate 10000 else 0, if K = 2 then 1 + modB p.amount 900 else if K = 4 then modB p.amount 3000 else 0,
  if K = 3 then 1 + modB p.buy 3 else 0, if K = 3 then 1 + modB p.get 2 else 0, if K = 4 then playParts p.parts else [], if K = 5 then playTiers p.tiers 5000 else if K = 6 then playTiers p.tiers 5 else []⟩
def playPromo (p : Promo) (id : Int) : Promo := playPromoK p id (playKind p)
def idAt (i : Nat) : Int := ((i : Int) * 7 + 3) % 10
def playPromoAt (l : List Promo) (i : Nat) : Promo := playPromo (l.getD i default) (idAt i)
def playPromos (l : List Promo) : List Promo := (List.range (min l.length 6)).map (playPromoAt l)
def playRate (l : List CatRate) (c : Nat) : CatRate := ⟨catN c, modB (l.getD c default).rate 3000⟩
def playRates (l : List CatRate) : List CatRate := (List.range (min 3 l.length)).map (playRate l)
def playZone (l : List Zone) (k : Nat) : Zone :=
 if k < l.length then ⟨zoneN k, playRates (l.getD k default).rates, modB (l.getD k default).rest 3000, modB (l.getD k default).ship 3000⟩ else ⟨zoneN k, [], 1000 * k, 500 * k⟩
def playTax (t : Tax) : Tax := ⟨t.incl, t.byOrder, modB t.round 3, (List.range 3).map (playZone t.zones)⟩
def playShip (s : Ab.Ship) : Ab.Ship := ⟨modB s.fee 900, modB s.free 3 * 4000⟩
def playPolicy (p : Policy) : Policy := ⟨20 + modB p.window 60, modB p.grace 40, 1 + modB p.mode 3, modB p.restock 3 * modB p.restock 2500, playKinds p.order, playKinds p.credit⟩
def playRules (r : Rules) : Rules := ⟨playItems r.items, playPromos r.promos, playTax r.tax, playShip r.ship, playPolicy r.policy⟩
theorem modC2 (n : Int) : modB n 2 = 0 ∨ modB n 2 = 1 := by
 have := modB_lt n (n := 2) (by decide); omega
theorem modC3 (n : Int) : modB n 3 = 0 ∨ modB n 3 = 1 ∨ modB n 3 = 2 := by
 have := modB_lt n (n := 3) (by decide); omega
theorem modC10 (n : Int) : modB n 10 = 0 ∨ modB n 10 = 1 ∨ modB n 10 = 2 ∨ modB n 10 = 3 ∨ modB n 10 = 4 ∨ modB n 10 = 5 ∨ modB n 10 = 6 ∨ modB n 10 = 7 ∨ modB n 10 = 8 ∨ modB n 10 = 9 := by
 have := modB_lt n (n := 10) (by decide); omega
theorem le3 {n : Nat} (h : n ≤ 3) : n = 0 ∨ n = 1 ∨ n = 2 ∨ n = 3 := by omega
theorem lt3 {n : Nat} (h : n < 3) : n = 0 ∨ n = 1 ∨ n = 2 := by omega
theorem nameB_size {s : Str} (h : nameB s = true) : s.size ≤ 12 := by
 unfold nameB at h
 simp only [Bool.and_eq_true, decide_eq_true_eq] at h
 exact h.1.2
theorem sku_nameB (n : Int) : nameB (skuN n) = true := by
 unfold skuN
 rcases mod8 n with h | h | h | h | h | h | h | h <;> rw [h] <;> kernel_rfl
theorem cat_nameB (n : Int) : nameB (catN n) = true := by
 unfold catN
 rcases modC3 n with h | h | h <;> rw [h] <;> kernel_rfl
theorem code_nameB (n : Int) : nameB (codeN n) = true := by
 unfold codeN
 rcases modC3 n with h | h | h <;> rw [h] <;> kernel_rfl
theorem group_nameB (n : Int) : nameB (groupN n) = true := by
 unfold groupN
 rcases modC2 n with h | h <;> rw [h] <;> kernel_rfl
theorem id_nameB (n : Int) : nameB (idN n) = true := by
 unfold idN
 rcases modC10 n with h | h | h | h | h | h | h | h | h | h <;> rw [h] <;> kernel_rfl
theorem named_nil : namedC ⟨#[]⟩ = true := by kernel_rfl
theorem named_of {s : Str} (h : nameB s = true) : namedC s = true := by unfold namedC; rw [h, Bool.or_true]
theorem group_named (p : Promo) : namedC (playGroup p) = true ∧ (playGroup p).size ≤ 12 := by
 unfold playGroup; split
 · exact ⟨named_of (group_nameB _), nameB_size (group_nameB _)⟩
 · exact ⟨named_nil, by decide⟩
theorem code_named (p : Promo) : namedC (playCode p) = true ∧ (playCode p).size ≤ 12 := by
 unfold playCode; split
 · exact ⟨named_of (code_nameB _), nameB_size (code_nameB _)⟩
 · exact ⟨named_nil, by decide⟩
theorem least_ok (p : Promo) : 0 ≤ playLeast p ∧ playLeast p < 9000 := by
 have := modB_lt p.least (n := 9000) (by decide)
 unfold playLeast; split <;> omega
theorem empty_ok : scopeB ⟨[], []⟩ = true ∧ ScopeSm ⟨[], []⟩ := ⟨by kernel_rfl, ⟨by decide, by decide, fun x hx => (by cases hx), fun x hx => (by cases hx)⟩⟩
theorem playParts_ok (l : List Part) : (1 ≤ (playParts l).length ∧ (playParts l).length ≤ 3) ∧ ∀ x ∈ playParts l, partC x = true ∧ ScopeSm x.scope := by
 unfold playParts
 split
 · refine ⟨⟨Nat.le_refl _, by show 1 ≤ 3; decide⟩, fun x hx => ?_⟩
   rw [List.mem_singleton.1 hx]
   exact ⟨by kernel_rfl, empty_ok.2⟩
 · rename_i h
   refine ⟨by rw [List.length_map, List.length_take]; omega, fun x hx => ?_⟩
   obtain ⟨y, _, rfl⟩ := List.mem_map.1 hx
   obtain ⟨h1, h2⟩ := playScope_ok y.scope
   have := modB_lt y.count (n := 2) (by decide)
   refine ⟨?_, h2⟩
   unfold partC
   rw [show (playPart y).scope = playScope y.scope from rfl, h1, show (playPart y).count = 1 + modB y.count 2 from rfl, decide_eq_false (by omega), decide_eq_false (by omega)]; rfl
theorem tierUp_get (l : List Tier) (step : Int) (i k : Nat) (hk : k < i) : (tierUp l step i).1.getD k default = playTier (l.getD k default) ((tierUp l step k).2 + modB (l.getD k default).least step) := by
 induction i with
 | zero => omega
 | succ i ih =>
   have hl := tierUp_len l step i
   show ((tierUp l step i).1 ++ [_]).getD k default = _
   by_cases e : k = i
   · subst e
     rw [List.getD_eq_getElem?_getD, List.getElem?_append_right (by omega), hl, Nat.sub_self]; rfl
   · rw [List.getD_eq_getElem?_getD, List.getElem?_append_left (by omega), ← List.getD_eq_getElem?_getD]
     exact ih (by omega)
theorem playTiers_ok (l : List Tier) (step : Int) (h : step = 5000 ∨ step = 5) : tiersC (playTiers l step) = true ∧ (playTiers l step).length ≤ 3 := by
 unfold playTiers
 split
 · rcases h with rfl | rfl
   · exact ⟨by kernel_rfl, by show 1 ≤ 3; decide⟩
   · exact ⟨by kernel_rfl, by show 1 ≤ 3; decide⟩
 · rename_i h0
   have hs : 0 < step ∧ step ≤ 5000 := by omega
   have hl := tierUp_len l step (min l.length 3)
   refine ⟨?_, by omega⟩
   unfold tiersC
   rw [hl, decide_eq_false (by omega), decide_eq_false (by omega)]
   show allAt _ _ = true
   refine allAt_yes fun k hk => ?_
   rw [hl] at hk
   have hg := tierUp_get l step (min l.length 3) k hk
   have hm := modB_lt (l.getD k default).least hs.1
   have hr := modB_lt (l.getD k default).rate (n := 4000) (by decide)
   have ha := modB_lt (l.getD k default).amount (n := 300) (by decide)
   have hlo := tierUp_least l hs.1 k
   have hip : (k : Int) * step ≤ 3 * 5000 := Int.mul_le_mul (by omega) hs.2 (by omega) (by omega)
   unfold tierAt
   rw [hg]
   have hprev : (if k = 0 then -1 else ((tierUp l step (min l.length 3)).1.getD (k - 1) default).least) < (tierUp l step k).2 + modB (l.getD k default).least step := by
     by_cases e : k = 0
     · rw [if_pos e]; omega
     · rw [if_neg e, tierUp_get l step (min l.length 3) (k - 1) (by omega)]
       obtain ⟨j, rfl⟩ : ∃ j, k = j + 1 := ⟨k - 1, by omega⟩
       rw [Nat.add_sub_cancel]
       show (tierUp l step j).2 + modB (l.getD j default).least step < (tierUp l step j).2 + modB (l.getD j default).least step + 1 + modB (l.getD (j + 1) default).least step
       omega
   show (!(decide ((tierUp l step k).2 + modB (l.getD k default).least step ≤ _) || decide ((tierUp l step k).2 + modB (l.getD k default).least step > 10000000000000) || decide (modB (l.getD k default).rate 4000 < 0) || decide (modB (l.getD k default).rate 4000 > 10000) || decide (1 + modB (l.getD k default).amount 300 < 0) || decide (1 + modB (l.getD k default).amount 300 > 10000000000000) || (modB (l.getD k default).rate 4000 == 0 && 1 + modB (l.getD k default).amount 300 == 0))) = true
   rw [decide_eq_false (by omega), decide_eq_false (by omega), decide_eq_false (by omega), decide_eq_false (by omega), decide_eq_false (by omega), decide_eq_false (by omega), show (1 + modB (l.getD k default).amount 300 == 0) = false from by rw [beq_eq_false_iff_ne]; omega, Bool.and_false]; rfl
theorem kindUp_ok (l : List Int) (n : Nat) : (∀ x ∈ kindUp l n, 1 ≤ x ∧ x ≤ 5) ∧ (kindUp l n).Nodup := by
 induction n with
 | zero => exact ⟨fun x hx => absurd hx List.not_mem_nil, List.nodup_nil⟩
 | succ n ih =>
   rw [kindUp_succ]; unfold kindStep
   split
   · exact ih
   · rename_i h
     have hm := modB_lt (gI l n) (n := 5) (by decide)
     have hno : 1 + modB (gI l n) 5 ∉ kindUp l n := fun hx => h (List.any_eq_true.2 ⟨_, hx, beq_self_eq_true _⟩)
     refine ⟨fun x hx => ?_, List.nodup_append.2 ⟨ih.2, List.nodup_cons.2 ⟨List.not_mem_nil, List.nodup_nil⟩, fun a ha b hb => ?_⟩⟩
     · rcases List.mem_append.1 hx with h' | h'
       · exact ih.1 x h'
       · rw [List.mem_singleton.1 h']; omega
     · rw [List.mem_singleton.1 hb]; intro e; exact hno (e ▸ ha)
theorem kinds_right {l : List Int} (h1 : ∀ x ∈ l, 1 ≤ x ∧ x ≤ 5) (h2 : l.Nodup) : kindsC l = true := by
 refine allAt_yes fun k hk => ?_
 have hx := h1 _ (getD_mem hk)
 unfold kindAt
 rw [show upB 1 9 (l.getD k default) = true from upB_iff.2 (by omega)]
 have : ((l.take k).any fun y => l.getD k default == y) = false := by
   rw [List.any_eq_false]
   intro y hy
   obtain ⟨j, hj, rfl⟩ := List.getElem_of_mem hy
   rw [List.length_take] at hj
   rw [beq_iff_eq, List.getD_eq_getElem?_getD, List.getElem?_eq_getElem hk, Option.getD_some, List.getElem_take]
   intro e
   have := (List.nodup_iff_pairwise_ne.1 h2)
   exact absurd e.symm (List.pairwise_iff_getElem.1 this j k (by omega) hk (by omega))
 rw [this]; rfl
theorem playKinds_ok (l : List Int) : kindsC (playKinds l) = true ∧ (playKinds l).length ≤ 6 := by
 have h := kindUp_ok l (min l.length 6)
 have := kindUp_len l (min l.length 6)
 exact ⟨kinds_right h.1 h.2, by show (kindUp l _).length ≤ 6; omega⟩
theorem promoC_of (q : Promo) (h1 : 1 ≤ q.kind ∧ q.kind < 8) (hh : pHead q = true) (hp : pPlain q = true) (hk : pKind q = true) : promoC q = true := by
 unfold promoC; rw [decide_eq_true (show q.kind ≥ 1 from h1.1), decide_eq_true h1.2, hh, hp, hk]; rfl
theorem pHead_of (q : Promo) (h1 : nameB q.id = true) (h2 : 0 ≤ q.prio ∧ q.prio ≤ 1000) (h3 : namedC q.group = true) (h4 : namedC q.code = true) (h5 : scopeB q.scope = true) (h6 : 0 ≤ q.least ∧ q.least ≤ 10000000000000) : pHead q = true := by
 unfold pHead; rw [h1, upB_iff.2 h2, h3, h4, h5, upB_iff.2 h6]; rfl
theorem playKind_ok (p : Promo) : 1 ≤ playKind p ∧ playKind p ≤ 7 := by
 have := modB_lt (IntKind.i64.wrap (p.kind - 1)) (n := 7) (by decide)
 unfold playKind; omega
theorem playPromoK_right (p : Promo) (id K : Int) (hK : 1 ≤ K ∧ K ≤ 7) : promoC (playPromoK p id K) = true := by
 have h1 := id_nameB id
 have h2 := modB_lt p.prio (n := 5) (by decide)
 have h3 := (group_named p).1
 have h4 := (code_named p).1
 have h5 := (playScope_ok p.scope).1
 have h6 := least_ok p
 have r := modB_lt p.rate (n := 10000) (by decide)
 have a9 := modB_lt p.amount (n := 900) (by decide)
 have a3 := modB_lt p.amount (n := 3000) (by decide)
 have b3 := modB_lt p.buy (n := 3) (by decide)
 have g2 := modB_lt p.get (n := 2) (by decide)
 have hpt := playParts_ok p.parts
 have ht5 := (playTiers_ok p.tiers 5000 (.inl rfl)).1
 have ht6 := (playTiers_ok p.tiers 5 (.inr rfl)).1
 unfold playPromoK
 generalize idN id = I at h1 ⊢
 generalize modB p.prio 5 = pr at h2 ⊢
 generalize playGroup p = G at h3 ⊢
 generalize playCode p = C at h4 ⊢
 generalize playScope p.scope = S at h5 ⊢
 generalize playLeast p = L at h6 ⊢
 generalize modB p.rate 10000 = R at r ⊢
 generalize modB p.amount 900 = A at a9 ⊢
 generalize modB p.amount 3000 = A3 at a3 ⊢
 generalize modB p.buy 3 = B at b3 ⊢
 generalize modB p.get 2 = Gt at g2 ⊢
 generalize playParts p.parts = PT at hpt ⊢
 generalize playTiers p.tiers 5000 = T5 at ht5 ⊢
 generalize playTiers p.tiers 5 = T6 at ht6 ⊢
 generalize p.closes = cl
 rcases (by omega : K = 1 ∨ K = 2 ∨ K = 3 ∨ K = 4 ∨ K = 5 ∨ K = 6 ∨ K = 7) with rfl | rfl | rfl | rfl | rfl | rfl | rfl
 · exact promoC_of ⟨I, 1, pr, G, C, cl, S, L, 1 + R, 0, 0, 0, [], []⟩ ⟨(by decide : (1 : Int) ≤ 1), (by decide : (1 : Int) < 8)⟩ (pHead_of _ h1 ⟨h2.1, by show pr ≤ 1000; omega⟩ h3 h4 h5 ⟨h6.1, by show L ≤ _; omega⟩) rfl (show upB 1 10000 (1 + R) = true from upB_iff.2 (by omega))
 · exact promoC_of ⟨I, 2, pr, G, C, cl, S, L, 0, 1 + A, 0, 0, [], []⟩ ⟨(by decide : (1 : Int) ≤ 2), (by decide : (2 : Int) < 8)⟩ (pHead_of _ h1 ⟨h2.1, by show pr ≤ 1000; omega⟩ h3 h4 h5 ⟨h6.1, by show L ≤ _; omega⟩) rfl (show upB 1 1000000000 (1 + A) = true from upB_iff.2 (by omega))
 · refine promoC_of ⟨I, 3, pr, G, C, cl, S, L, 1 + R, 0, 1 + B, 1 + Gt, [], []⟩ ⟨(by decide : (1 : Int) ≤ 3), (by decide : (3 : Int) < 8)⟩ (pHead_of _ h1 ⟨h2.1, by show pr ≤ 1000; omega⟩ h3 h4 h5 ⟨h6.1, by show L ≤ _; omega⟩) rfl ?_
   show (upB 1 10000 (1 + R) && (upB 1 100 (1 + B) && upB 1 100 (1 + Gt))) = true
   rw [upB_iff.2 (show 1 ≤ 1 + R ∧ 1 + R ≤ 10000 by omega), upB_iff.2 (show 1 ≤ 1 + B ∧ 1 + B ≤ 100 by omega), upB_iff.2 (show 1 ≤ 1 + Gt ∧ 1 + Gt ≤ 100 by omega)]; rfl
 · refine promoC_of ⟨I, 4, pr, G, C, cl, ⟨[], []⟩, L, 0, A3, 0, 0, PT, []⟩ ⟨(by decide : (1 : Int) ≤ 4), (by decide : (4 : Int) < 8)⟩ (pHead_of _ h1 ⟨h2.1, by show pr ≤ 1000; omega⟩ h3 h4 empty_ok.1 ⟨h6.1, by show L ≤ _; omega⟩) rfl ?_
   show (!(decide ((PT.length : Int) < 1) || decide ((PT.length : Int) > 3) || decide (A3 < 0) || decide (A3 > 10000000000000)) && !(PT.any fun x => !partC x)) = true
   rw [decide_eq_false (by omega), decide_eq_false (by omega), decide_eq_false (by omega), decide_eq_false (by omega), show (PT.any fun x => !partC x) = false from by
     rw [List.any_eq_false]; intro x hx; rw [(hpt.2 x hx).1]; simp]; rfl
 · exact promoC_of ⟨I, 5, pr, G, C, cl, S, L, 0, 0, 0, 0, [], T5⟩ ⟨(by decide : (1 : Int) ≤ 5), (by decide : (5 : Int) < 8)⟩ (pHead_of _ h1 ⟨h2.1, by show pr ≤ 1000; omega⟩ h3 h4 h5 ⟨h6.1, by show L ≤ _; omega⟩) rfl ht5
 · exact promoC_of ⟨I, 6, pr, G, C, cl, S, L, 0, 0, 0, 0, [], T6⟩ ⟨(by decide : (1 : Int) ≤ 6), (by decide : (6 : Int) < 8)⟩ (pHead_of _ h1 ⟨h2.1, by show pr ≤ 1000; omega⟩ h3 h4 h5 ⟨h6.1, by show L ≤ _; omega⟩) rfl ht6
 · exact promoC_of ⟨I, 7, pr, G, C, false, ⟨[], []⟩, L, 1 + R, 0, 0, 0, [], []⟩ ⟨(by decide : (1 : Int) ≤ 7), (by decide : (7 : Int) < 8)⟩ (pHead_of _ h1 ⟨h2.1, by show pr ≤ 1000; omega⟩ h3 h4 empty_ok.1 ⟨h6.1, by show L ≤ _; omega⟩) rfl (show upB 1 10000 (1 + R) = true from upB_iff.2 (by omega))
theorem ScopeSm.fit {s : Scope} (h : ScopeSm s) : ScopeFit s := ⟨by have := h.n1; show _ ≤ 9223372036854775807; omega, by have := h.n2; show _ ≤ 9223372036854775807; omega⟩
theorem playPromoK_fit (p : Promo) (id K : Int) : PromoFit (playPromoK p id K) := by
 have hs := (playScope_ok p.scope).2
 have hp := playParts_ok p.parts
 refine ⟨?_, ?_, ?_⟩
 · show ScopeFit (if K = 4 ∨ K = 7 then ⟨[], []⟩ else playScope p.scope)
   split
   · exact empty_ok.2.fit
   · exact hs.fit
 · show (if K = 4 then playParts p.parts else []).length ≤ 9223372036854775807
   split
   · omega
   · exact Nat.zero_le _
 · show ∀ x ∈ (if K = 4 then playParts p.parts else []), _
   split
   · exact fun x hx => ⟨(hp.2 x hx).2.fit.skus, (hp.2 x hx).2.fit.cats⟩
   · exact fun x hx => absurd hx List.not_mem_nil
theorem playPromos_len (l : List Promo) : (playPromos l).length = min l.length 6 := by unfold playPromos; rw [List.length_map, List.length_range]
theorem playPromos_get {l : List Promo} {k : Nat} (hk : k < (playPromos l).length) : (playPromos l).getD k default = playPromoAt l k := by
 rw [playPromos_len] at hk
 unfold playPromos
 rw [List.getD_eq_getElem?_getD, List.getElem?_map, List.getElem?_range hk]; rfl
theorem playPromos_mem {l : List Promo} {p : Promo} (h : p ∈ playPromos l) : ∃ (q : Promo) (id K : Int), (1 ≤ K ∧ K ≤ 7) ∧ p = playPromoK q id K := by
 obtain ⟨k, hk, rfl⟩ := List.mem_map.1 h
 exact ⟨_, _, _, playKind_ok _, rfl⟩
theorem ids_unlike : ((List.range 6).all fun j => (List.range j).all fun i => !((idN (idAt i)).toList == (idN (idAt j)).toList)) = true := by kernel_rfl
theorem playPromos_right (l : List Promo) : promosC (playPromos l) = true := by
 have hl := playPromos_len l
 unfold promosC
 rw [decide_eq_true (by omega), Bool.true_and]
 refine allAt_yes fun k hk => ?_
 unfold promoAt
 rw [playPromos_get hk, show promoC (playPromoAt l k) = true from playPromoK_right _ _ _ (playKind_ok _), Bool.true_and, Bool.not_eq_true', List.any_eq_false]
 intro x hx
 obtain ⟨j, hj, rfl⟩ := mem_getD hx
 rw [List.length_take] at hj
 rw [show ((playPromos l).take k).getD j default = playPromoAt l j by rw [List.getD_eq_getElem?_getD, List.getElem?_take_of_lt (by omega), ← List.getD_eq_getElem?_getD, playPromos_get (by omega)]]
 have := List.all_eq_true.1 (List.all_eq_true.1 ids_unlike k (List.mem_range.2 (by omega))) j (List.mem_range.2 (by omega))
 rw [Bool.not_eq_true'] at this
 show ¬ ((idN (idAt j)).toList == (idN (idAt k)).toList) = true
 rw [this]; simp
theorem cats_rise (n : Nat) (h : n ≤ 3) : riseB ((List.range n).map fun c : Nat => catN c) = true := by
 rcases le3 h with rfl | rfl | rfl | rfl <;> kernel_rfl
theorem playRates_ok (l : List CatRate) : (playRates l).length ≤ 3 ∧ (∀ x ∈ playRates l, rateC x = true ∧ x.cat.size ≤ 12) ∧ riseB ((playRates l).map CatRate.cat) = true := by
 unfold playRates
 refine ⟨by rw [List.length_map, List.length_range]; omega, fun x hx => ?_, ?_⟩
 · obtain ⟨c, _, rfl⟩ := List.mem_map.1 hx
   have := modB_lt (l.getD c default).rate (n := 3000) (by decide)
   refine ⟨?_, nameB_size (cat_nameB _)⟩
   unfold rateC
   rw [show (playRate l c).cat = catN c from rfl, cat_nameB, show upB 0 10000 (playRate l c).rate = true from upB_iff.2 ⟨this.1, by show modB _ 3000 ≤ _; omega⟩]; rfl
 · rw [List.map_map]
   exact cats_rise _ (by omega)
theorem zone_names : ((List.range 3).all fun k : Nat => nameB (zoneN k)) = true := by kernel_rfl
theorem playZone_ok (l : List Zone) (k : Nat) (hk : k < 3) : zoneC (playZone l k) = true := by
 have hn := List.all_eq_true.1 zone_names k (List.mem_range.2 hk)
 have hz := nameB_size hn
 unfold playZone
 split
 · obtain ⟨h1, h2, h3⟩ := playRates_ok (l.getD k default).rates
   have m1 := modB_lt (l.getD k default).rest (n := 3000) (by decide)
   have m2 := modB_lt (l.getD k default).ship (n := 3000) (by decide)
   generalize playRates (l.getD k default).rates = R at h1 h2 h3 ⊢
   unfold zoneC
   show (!(!nameB (zoneN k) || !upB 0 10000 (modB _ 3000) || !upB 0 10000 (modB _ 3000) || decide ((R.length : Int) > 40)) && (allAt R (fun _ x => rateC x) && riseB (R.map CatRate.cat))) = true
   rw [hn, upB_iff.2 (show 0 ≤ modB (l.getD k default).rest 3000 ∧ _ ≤ 10000 by omega), upB_iff.2 (show 0 ≤ modB (l.getD k default).ship 3000 ∧ _ ≤ 10000 by omega), decide_eq_false (by omega), h3, show allAt R (fun _ x => rateC x) = true from allAt_yes fun j hj => (h2 _ (getD_mem hj)).1]; rfl
 · rcases lt3 hk with rfl | rfl | rfl
   · exact (by kernel_rfl : zoneC ⟨zoneN (0 : Nat), [], 1000 * ((0 : Nat) : Int), 500 * ((0 : Nat) : Int)⟩ = true)
   · exact (by kernel_rfl : zoneC ⟨zoneN (1 : Nat), [], 1000 * ((1 : Nat) : Int), 500 * ((1 : Nat) : Int)⟩ = true)
   · exact (by kernel_rfl : zoneC ⟨zoneN (2 : Nat), [], 1000 * ((2 : Nat) : Int), 500 * ((2 : Nat) : Int)⟩ = true)
theorem zone_rise (l : List Zone) : (((List.range 3).map (playZone l)).map Zone.name) = [zoneN 0, zoneN 1, zoneN 2] := by
 have e : ∀ k, (playZone l k).name = zoneN k := fun k => by unfold playZone; split <;> rfl
 show [(playZone l 0).name, (playZone l 1).name, (playZone l 2).name] = _
 rw [e, e, e]; rfl
theorem playTax_ok (t : Tax) : taxC (playTax t) = true := by
 have hr := modB_lt t.round (n := 3) (by decide)
 have hz : ∀ z ∈ (playTax t).zones, zoneC z = true := fun z hz => by
   obtain ⟨k, hk, rfl⟩ := List.mem_map.1 hz
   exact playZone_ok _ k (List.mem_range.1 hk)
 have hn : (playTax t).zones.length = 3 := by show ((List.range 3).map _).length = 3; rw [List.length_map, List.length_range]
 unfold taxC
 rw [show (playTax t).round = modB t.round 3 from rfl, hn, decide_eq_false (show ¬ modB t.round 3 < 0 by omega), decide_eq_false (show ¬ modB t.round 3 > 2 by omega), show (playTax t).zones.map Zone.name = [zoneN 0, zoneN 1, zoneN 2] from zone_rise _,
   show riseB [zoneN 0, zoneN 1, zoneN 2] = true by kernel_rfl, show allAt (playTax t).zones (fun _ z => zoneC z) = true from allAt_yes fun j hj => hz _ (getD_mem hj)]; rfl
theorem playItem_ok (l : List Ab.Item) (k : Nat) : itemC (playItem l k) = true ∧ (playItem l k).sku.size ≤ 12 ∧ (playItem l k).cat.size ≤ 12 ∨ 8 ≤ k := by
 by_cases h8 : 8 ≤ k
 · exact .inr h8
 refine .inl ?_
 have e : ∀ (c : Str) (pr : Int) (f : Bool), nameB c = true → 0 ≤ pr ∧ pr ≤ 1000000000 → itemC ⟨skuN k, c, pr, f⟩ = true ∧ (skuN k).size ≤ 12 ∧ c.size ≤ 12 := fun c pr f hc hp => by
   refine ⟨?_, nameB_size (sku_nameB _), nameB_size hc⟩
   unfold itemC
   rw [show nameB (Ab.Item.mk (skuN k) c pr f).sku = true from sku_nameB _, show nameB (Ab.Item.mk (skuN k) c pr f).cat = true from hc, decide_eq_false (show ¬ (Ab.Item.mk (skuN k) c pr f).price < 0 from by show ¬ pr < 0; omega), decide_eq_false (show ¬ (Ab.Item.mk (skuN k) c pr f).price > 1000000000 from by show ¬ pr > _; omega)]; rfl
 have hm := modB_lt (l.getD k default).price (n := 4000) (by decide)
 unfold playItem
 split
 · exact e _ _ _ (cat_nameB _) (by omega)
 · exact e _ _ _ (cat_nameB _) (by omega)
theorem playItems_mem {l : List Ab.Item} {x : Ab.Item} (h : x ∈ playItems l) : itemC x = true ∧ x.sku.size ≤ 12 ∧ x.cat.size ≤ 12 := by
 obtain ⟨k, hk, rfl⟩ := List.mem_map.1 h
 have := List.mem_range.1 hk
 rcases playItem_ok l k with h | h
 · exact h
 · omega
theorem playItems_right (l : List Ab.Item) : itemsC (playItems l) = true := by
 unfold itemsC
 rw [playItems_len, skus_play, show riseB [byteS 97, byteS 98, byteS 99, byteS 100, byteS 101, byteS 102, byteS 103, byteS 104] = true by kernel_rfl, show allAt (playItems l) (fun _ x => itemC x) = true from allAt_yes fun j hj => (playItems_mem (getD_mem hj)).1]; rfl
theorem playRules_right (r : Rules) : rulesC (playRules r) = true := by
 have h1 := modB_lt r.ship.fee (n := 900) (by decide)
 have h2 := modB_lt r.ship.free (n := 3) (by decide)
 have h3 := modB_lt r.policy.window (n := 60) (by decide)
 have h4 := modB_lt r.policy.grace (n := 40) (by decide)
 have h5 := modB_lt r.policy.mode (n := 3) (by decide)
 have h6 := modB_lt r.policy.restock (n := 3) (by decide)
 have h7 := modB_lt r.policy.restock (n := 2500) (by decide)
 have h8 : modB r.policy.restock 3 * modB r.policy.restock 2500 ≤ 2 * 2499 := Int.mul_le_mul (by omega) (by omega) (by omega) (by omega)
 have h9 : 0 ≤ modB r.policy.restock 3 * modB r.policy.restock 2500 := Int.mul_nonneg h6.1 h7.1
 show (itemsC (playItems r.items) && promosC (playPromos r.promos) && taxC (playTax r.tax) && shipC (playShip r.ship) && policyC (playPolicy r.policy)) = true
 rw [playItems_right, playPromos_right, playTax_ok r.tax]
 have e1 : shipC (playShip r.ship) = true := by
   show (upB 0 1000000000 (modB r.ship.fee 900) && upB 0 10000000000000 (modB r.ship.free 3 * 4000)) = true
   rw [upB_iff.2 (by omega), upB_iff.2 (by omega)]; rfl
 have e2 : policyC (playPolicy r.policy) = true := by
   show (upB 0 100000 (20 + modB r.policy.window 60) && upB 0 100000 (modB r.policy.grace 40) && decide (1 + modB r.policy.mode 3 ≥ 1) && decide (1 + modB r.policy.mode 3 ≤ 3) && upB 0 10000 (modB r.policy.restock 3 * modB r.policy.restock 2500) && kindsC (playKinds r.policy.order) && kindsC (playKinds r.policy.credit)) = true
   rw [upB_iff.2 (by omega), upB_iff.2 (by omega), decide_eq_true (by omega), decide_eq_true (by omega), upB_iff.2 (by omega), (playKinds_ok _).1, (playKinds_ok _).1]; rfl
 rw [e1, e2]; rfl
theorem playRules_fit (r : Rules) : RulesFit (playRules r) := by
 have h1 := playPromos_len r.promos
 have h2 := (playKinds_ok r.policy.order).2
 have h3 := (playKinds_ok r.policy.credit).2
 refine ⟨by show (playPromos r.promos).length ≤ 9223372036854775807; omega, fun p hp => ?_, by show (playKinds r.policy.order).length < _; omega, by show (playKinds r.policy.credit).length < _; omega⟩
 obtain ⟨q, id, K, _, rfl⟩ := playPromos_mem hp
 exact playPromoK_fit q id K
theorem rparts_S (l : List Part) (hl : Sm l.length) (hs : ∀ x ∈ l, ScopeSm x.scope) (st : St) : S P 228 [arrOf 3 ePart l] st fun v st' => v = .bool (allAt l (fun _ x => partC x) && (decide ((l.length : Int) ≥ 1) && decide ((l.length : Int) ≤ 3))) ∧ st' = st := by
 refine S_of_X [] good mixed Tryz.func228 (by rfl) rfl rfl rfl ?_; conv => whnf
 refine lp l.length [0, 3] (fun i vs st' => (∀ k, k < i → partC (l.getD k default) = true) ∧ vs = [arrOf 3 ePart l, eI i] ∧ st' = st) ?_ ?_
 · conv => whnf
   exact ⟨fun k hk => absurd hk (by omega), rfl, rfl⟩
 · rintro i vs st' hi ⟨hok, rfl, rfl⟩
   conv => whnf
   cases h : decide ((i : Int) < (l.length : Int))
   · obtain rfl := stop_at h hi
     rw [allAt_yes hok, Bool.true_and]; conv => whnf
     refine fork (fun h => ?_) (fun h => ?_) <;> rw [h] <;> (conv => whnf) <;> exact ⟨rfl, rfl⟩
   · have hi' := go_on h
     have yes : partC (l.getD (i : Int).toNat default) = true → ∀ k, k < i + 1 → partC (l.getD k default) = true := fun h => lt_next hok h
     have no : partC (l.getD (i : Int).toNat default) = false → allAt l (fun _ x => partC x) = false := fun h => allAt_no (p := fun _ x => partC x) hi' h
     have n1 := rScope_S (l.getD (i : Int).toNat default).scope (hs _ (getD_mem hi')) st'
     rw [show partC (l.getD (i : Int).toNat default) = (scopeB (l.getD (i : Int).toNat default).scope && !(decide ((l.getD (i : Int).toNat default).count < 1) || decide ((l.getD (i : Int).toNat default).count > 100))) from rfl] at yes no
     generalize scopeB (l.getD (i : Int).toNat default).scope = b1 at n1 yes no
     repeat' ((conv => whnf); first | refine ⟨rfl, ⟨by omega, by omega⟩, ?_⟩ | refine call1 n1 ?_ | cases b1 | (refine fork (fun h => ?_) (fun h => ?_) <;> rw [h]))
     all_goals (conv => whnf)
     all_goals first
       | (rw [no (by simp only [*, Bool.true_or, Bool.or_true, Bool.not_true, Bool.and_false, Bool.false_and])]; exact ⟨rfl, rfl⟩)
       | (refine ⟨rfl, ?_⟩; conv => whnf
          exact nx hi' ⟨yes (by simp only [*, Bool.or_false, Bool.not_false, Bool.and_true]), by rw [wrapN (by omega)], rfl⟩)
theorem rkinds_S (l : List Int) (hl : Sm l.length) (st : St) : S P 110 [eInts l] st fun v st' => v = .bool (kindsC l) ∧ st' = st := by
 refine S_of_X [] good mixed Tryz.func110 (by rfl) rfl rfl rfl ?_; conv => whnf
 refine lp l.length [0, 3] (fun i vs st' => (∀ k, k < i → kindAt l k (l.getD k default) = true) ∧ vs = [eInts l, eI i] ∧ st' = st) ?_ ?_
 · conv => whnf
   exact ⟨fun k hk => absurd hk (by omega), rfl, rfl⟩
 · rintro i vs st' hi ⟨hok, rfl, rfl⟩
   conv => whnf
   cases h : decide ((i : Int) < (l.length : Int))
   · obtain rfl := stop_at h hi
     conv => whnf
     exact ⟨by rw [show kindsC l = true from allAt_yes hok]; rfl, rfl⟩
   · have hi' := go_on h
     have yes : kindAt l i (l.getD (i : Int).toNat default) = true → ∀ k, k < i + 1 → kindAt l k (l.getD k default) = true := fun h => lt_next hok h
     have no : kindAt l i (l.getD (i : Int).toNat default) = false → kindsC l = false := fun h => allAt_no hi' h
     rw [show kindAt l i (l.getD (i : Int).toNat default) = !(!(decide ((l.getD (i : Int).toNat default) ≥ 1) && decide ((l.getD (i : Int).toNat default) ≤ 9)) || (l.take i).any fun y => l.getD (i : Int).toNat default == y) from rfl] at yes no
     have no' : (decide ((l.getD (i : Int).toNat default) ≥ 1) && decide ((l.getD (i : Int).toNat default) ≤ 9)) = false → kindsC l = false := fun h => no (by rw [h]; rfl)
     repeat' ((conv => whnf); first | refine ⟨rfl, ⟨by omega, by omega⟩, ?_⟩ | (refine fork (fun h => ?_) (fun h => ?_) <;> rw [h]))
     all_goals (conv => whnf)
     · rw [no' (by rw [Bool.and_eq_false_iff, decide_eq_false_iff_not, decide_eq_false_iff_not]; simp only [decide_eq_true_eq, decide_eq_false_iff_not] at *; omega)]; exact ⟨rfl, rfl⟩
     · rw [no' (by rw [Bool.and_eq_false_iff, decide_eq_false_iff_not, decide_eq_false_iff_not]; simp only [decide_eq_true_eq, decide_eq_false_iff_not] at *; omega)]; exact ⟨rfl, rfl⟩
     have hk : (decide ((l.getD (i : Int).toNat default) ≥ 1) && decide ((l.getD (i : Int).toNat default) ≤ 9)) = true := by rw [Bool.and_eq_true, decide_eq_true_eq, decide_eq_true_eq]; simp only [decide_eq_true_eq, decide_eq_false_iff_not] at *; omega
     rw [hk] at yes no
     refine lp i [0, 3, 4] (fun j vs s => (∀ k, k < j → (l.getD k default == l.getD i default) = false) ∧ vs = [eInts l, eI i, eI j] ∧ s = st') ?_ ?_
     · conv => whnf
       exact ⟨fun k hk => absurd hk (by omega), rfl, rfl⟩
     · rintro j vs s hj ⟨hokj, rfl, rfl⟩
       conv => whnf
       cases h : decide ((j : Int) < (i : Int))
       · obtain rfl := stop_at h hj
         conv => whnf
         refine ⟨rfl, ?_⟩; conv => whnf
         refine nx hi' ⟨yes ?_, by rw [wrapN (by omega)], rfl⟩
         rw [List.any_eq_false.2 fun x hx => ?_]; rfl
         obtain ⟨k, hk2, rfl⟩ := mem_getD hx
         rw [List.length_take] at hk2
         have h4 := hokj k (by omega)
         rw [Int.toNat_natCast, show (l.take j).getD k default = l.getD k default by rw [List.getD_eq_getElem?_getD, List.getD_eq_getElem?_getD, List.getElem?_take_of_lt (by omega)], Bool.beq_comm, h4]; simp
       · have hj' := go_on h
         conv => whnf
         refine ⟨[], [], List.range 9, by kernel_rfl, ?_⟩; conv => whnf
         refine ⟨rfl, ⟨by omega, by omega⟩, ?_⟩; conv => whnf
         refine ⟨rfl, ⟨by omega, by omega⟩, ?_⟩; conv => whnf
         refine fork (fun h1 => ?_) (fun h1 => ?_) <;> rw [h1]
         · conv => whnf
           refine ⟨?_, rfl⟩
           rw [no ?_]; rfl
           rw [List.any_eq_true.2 ⟨l.getD j default, ?_, ?_⟩]; rfl
           · rw [List.mem_take_iff_getElem]
             exact ⟨j, by omega, by simp [show j < l.length by omega]⟩
           · rw [Bool.beq_comm]; exact h1
         · conv => whnf
           refine ⟨rfl, ?_⟩; conv => whnf
           exact nx hj' ⟨lt_next hokj h1, by rw [wrapN (by omega)], rfl⟩
structure ZoneSm (z : Zone) : Prop where
 n : Sm z.rates.length
 s : Sm z.name.size
 r : ∀ x ∈ z.rates, Sm x.cat.size
def rateAt (l : List CatRate) (k : Nat) (x : CatRate) : Bool := nameB x.cat && upB 0 10000 x.rate && riseAt (l.map CatRate.cat) k
def zoneR (z : Zone) : Bool := allAt z.rates (rateAt z.rates) && (decide ((z.rates.length : Int) ≤ 40) && upB 0 10000 z.rest && upB 0 10000 z.ship)
theorem rrates_S (z : Zone) (hz : ZoneSm z) (st : St) : S P 173 [eZone z] st fun v st' => v = .bool (zoneR z) ∧ st' = st := by
 rw [show zoneR z = (allAt z.rates (rateAt z.rates) && (decide ((z.rates.length : Int) ≤ 40) && upB 0 10000 z.rest && upB 0 10000 z.ship)) from rfl]
 refine S_of_X [1] good mixed Tryz.func173 (by rfl) rfl rfl rfl ?_; conv => whnf
 refine lp z.rates.length [1, 3] (fun i vs st' => (∀ k, k < i → rateAt z.rates k (z.rates.getD k default) = true) ∧ vs = [.fptr (eZone z) 0, eI i] ∧ st' = st) ?_ ?_
 · conv => whnf
   exact ⟨fun k hk => absurd hk (by omega), rfl, rfl⟩
 · rintro i vs st' hi ⟨hok, rfl, rfl⟩
   conv => whnf
   cases h : decide ((i : Int) < (z.rates.length : Int))
   · obtain rfl := stop_at h hi
     rw [show allAt z.rates (rateAt z.rates) = true from allAt_yes hok, Bool.true_and]; conv => whnf
     cases hd : decide ((z.rates.length : Int) ≤ 40)
     · conv => whnf
       exact ⟨rfl, rfl⟩
     · conv => whnf
       refine call1 (rin_S z.rest 10000 _) ?_; conv => whnf
       cases upB 0 10000 z.rest
       · conv => whnf
         exact ⟨rfl, rfl⟩
       · conv => whnf
         refine call1 (rin_S z.ship 10000 _) ?_; conv => whnf
         exact ⟨rfl, rfl⟩
   · have hi' := go_on h
     have yes : rateAt z.rates i (z.rates.getD (i : Int).toNat default) = true → ∀ k, k < i + 1 → rateAt z.rates k (z.rates.getD k default) = true := fun h => lt_next hok h
     have no : rateAt z.rates i (z.rates.getD (i : Int).toNat default) = false → allAt z.rates (rateAt z.rates) = false := fun h => allAt_no hi' h
     have hl := hz.n
     have hm := hz.r _ (getD_mem hi')
     have n1 := rName_S (z.rates.getD (i : Int).toNat default).cat hm st'
     have n2 := rin_S (z.rates.getD (i : Int).toNat default).rate 10000 st'
     have e : 0 < i → riseAt (z.rates.map CatRate.cat) i = !(Op.bytesLess (z.rates.getD i default).cat.toList (z.rates.getD (i - 1) default).cat.toList || (z.rates.getD i default).cat.toList == (z.rates.getD (i - 1) default).cat.toList) := fun hp => by
       rw [rise_le hp]
       have e1 : (z.rates.map CatRate.cat).getD i default = (z.rates.getD i default).cat := getD_map CatRate.cat z.rates hi'
       have e2 : (z.rates.map CatRate.cat).getD (i - 1) default = (z.rates.getD (i - 1) default).cat := getD_map CatRate.cat z.rates (by omega)
       rw [e1, e2]
     have e0 : i = 0 → riseAt (z.rates.map CatRate.cat) i = true := fun h => by rw [h]; rfl
     rw [show rateAt z.rates i (z.rates.getD (i : Int).toNat default) = (nameB (z.rates.getD (i : Int).toNat default).cat && upB 0 10000 (z.rates.getD (i : Int).toNat default).rate && riseAt (z.rates.map CatRate.cat) i) from rfl] at yes no
     generalize nameB (z.rates.getD (i : Int).toNat default).cat = b1 at n1 yes no
     generalize upB 0 10000 (z.rates.getD (i : Int).toNat default).rate = b2 at n2 yes no
     conv => whnf
     refine ⟨[], [], List.range 38, by kernel_rfl, ?_⟩
     cases h0 : decide ((i : Int) > 0)
     · replace e := e0 (by have := of_decide_eq_false h0; omega)
       repeat' ((conv => whnf); first | refine ⟨rfl, ⟨by omega, by omega⟩, ?_⟩ | refine ⟨_, callQ n1, ?_⟩ | refine ⟨_, callQ n2, ?_⟩ | rw [h0] | cases b1 | cases b2)
       all_goals (conv => whnf)
       all_goals first
         | (rw [no (by rfl)]; exact ⟨rfl, rfl⟩)
         | (refine ⟨rfl, ?_⟩; conv => whnf
            exact nx hi' ⟨yes (by rw [e]; rfl), by rw [wrapN (by omega)], rfl⟩)
     · have h0' : 0 < i := by have := of_decide_eq_true h0; omega
       replace e := e h0'
       have hw := wrapP h0' (by omega)
       repeat' ((conv => whnf); first | refine ⟨rfl, ⟨by omega, by omega⟩, ?_⟩ | refine ⟨rfl, ⟨by rw [hw]; omega, by rw [hw]; omega⟩, ?_⟩ | refine ⟨_, callQ n1, ?_⟩ | refine ⟨_, callQ n2, ?_⟩ | rw [h0] | cases b1 | cases b2 | refine fork (fun h => ?_) (fun h => ?_))
       all_goals (conv => whnf)
       all_goals first
         | (rw [no (by rfl)]; exact ⟨rfl, rfl⟩)
         | (rw [hw] at h; rw [no (by rw [e]; exact congrArg not h)]; exact ⟨rfl, rfl⟩)
         | (rw [hw] at h; refine ⟨rfl, ?_⟩; conv => whnf
            exact nx hi' ⟨yes (by rw [e]; exact congrArg not h), by rw [wrapN (by omega)], rfl⟩)
def zoneAt (l : List Zone) (k : Nat) (x : Zone) : Bool := nameB x.name && zoneR x && riseAt (l.map Zone.name) k
structure TaxSm (x : Tax) : Prop where
 n : Sm x.zones.length
 z : ∀ z ∈ x.zones, ZoneSm z
def taxR (x : Tax) : Bool := allAt x.zones (zoneAt x.zones) && (decide ((x.zones.length : Int) ≤ 20) && decide (x.round ≥ 0) && decide (x.round ≤ 2))
theorem rTaxR_S (x : Tax) (hx : TaxSm x) (st : St) : S P 108 [eTax x] st fun v st' => v = .bool (taxR x) ∧ st' = st := by
 rw [show taxR x = (allAt x.zones (zoneAt x.zones) && (decide ((x.zones.length : Int) ≤ 20) && decide (x.round ≥ 0) && decide (x.round ≤ 2))) from rfl]
 refine S_of_X [1] good mixed Tryz.func108 (by rfl) rfl rfl rfl ?_; conv => whnf
 refine lp x.zones.length [1, 3] (fun i vs st' => (∀ k, k < i → zoneAt x.zones k (x.zones.getD k default) = true) ∧ vs = [.fptr (eTax x) 0, eI i] ∧ st' = st) ?_ ?_
 · conv => whnf
   exact ⟨fun k hk => absurd hk (by omega), rfl, rfl⟩
 · rintro i vs st' hi ⟨hok, rfl, rfl⟩
   conv => whnf
   cases h : decide ((i : Int) < (x.zones.length : Int))
   · obtain rfl := stop_at h hi
     rw [show allAt x.zones (zoneAt x.zones) = true from allAt_yes hok, Bool.true_and]; conv => whnf
     refine fork (fun h => ?_) (fun h => ?_) <;> rw [h]
     · conv => whnf
       refine fork (fun h => ?_) (fun h => ?_) <;> rw [h] <;> (conv => whnf) <;> exact ⟨rfl, rfl⟩
     · conv => whnf
       exact ⟨rfl, rfl⟩
   · have hi' := go_on h
     have yes : zoneAt x.zones i (x.zones.getD (i : Int).toNat default) = true → ∀ k, k < i + 1 → zoneAt x.zones k (x.zones.getD k default) = true := fun h => lt_next hok h
     have no : zoneAt x.zones i (x.zones.getD (i : Int).toNat default) = false → allAt x.zones (zoneAt x.zones) = false := fun h => allAt_no hi' h
     have hl := hx.n
     have hm := hx.z _ (getD_mem hi')
     have n1 := rName_S (x.zones.getD (i : Int).toNat default).name hm.s st'
     have n2 := rrates_S (x.zones.getD (i : Int).toNat default) hm st'
     have e : 0 < i → riseAt (x.zones.map Zone.name) i = !(Op.bytesLess (x.zones.getD i default).name.toList (x.zones.getD (i - 1) default).name.toList || (x.zones.getD i default).name.toList == (x.zones.getD (i - 1) default).name.toList) := fun hp => by
       rw [rise_le hp]
       have e1 : (x.zones.map Zone.name).getD i default = (x.zones.getD i default).name := getD_map Zone.name x.zones hi'
       have e2 : (x.zones.map Zone.name).getD (i - 1) default = (x.zones.getD (i - 1) default).name := getD_map Zone.name x.zones (by omega)
       rw [e1, e2]
     have e0 : i = 0 → riseAt (x.zones.map Zone.name) i = true := fun h => by rw [h]; rfl
     rw [show zoneAt x.zones i (x.zones.getD (i : Int).toNat default) = (nameB (x.zones.getD (i : Int).toNat default).name && zoneR (x.zones.getD (i : Int).toNat default) && riseAt (x.zones.map Zone.name) i) from rfl] at yes no
     generalize nameB (x.zones.getD (i : Int).toNat default).name = b1 at n1 yes no
     generalize zoneR (x.zones.getD (i : Int).toNat default) = b2 at n2 yes no
     conv => whnf
     refine ⟨[], [], List.range 37, by kernel_rfl, ?_⟩
     cases h0 : decide ((i : Int) > 0)
     · replace e := e0 (by have := of_decide_eq_false h0; omega)
       repeat' ((conv => whnf); first | refine ⟨rfl, ⟨by omega, by omega⟩, ?_⟩ | refine ⟨_, callQ n1, ?_⟩ | refine ⟨_, callQ n2, ?_⟩ | rw [h0] | cases b1 | cases b2)
       all_goals (conv => whnf)
       all_goals first
         | (rw [no (by rfl)]; exact ⟨rfl, rfl⟩)
         | (refine ⟨rfl, ?_⟩; conv => whnf
            exact nx hi' ⟨yes (by rw [e]; rfl), by rw [wrapN (by omega)], rfl⟩)
     · have h0' : 0 < i := by have := of_decide_eq_true h0; omega
       replace e := e h0'
       have hw := wrapP h0' (by omega)
       repeat' ((conv => whnf); first | refine ⟨rfl, ⟨by omega, by omega⟩, ?_⟩ | refine ⟨rfl, ⟨by rw [hw]; omega, by rw [hw]; omega⟩, ?_⟩ | refine ⟨_, callQ n1, ?_⟩ | refine ⟨_, callQ n2, ?_⟩ | rw [h0] | cases b1 | cases b2 | refine fork (fun h => ?_) (fun h => ?_))
       all_goals (conv => whnf)
       all_goals first
         | (rw [no (by rfl)]; exact ⟨rfl, rfl⟩)
         | (rw [hw] at h; rw [no (by rw [e]; exact congrArg not h)]; exact ⟨rfl, rfl⟩)
         | (rw [hw] at h; refine ⟨rfl, ?_⟩; conv => whnf
            exact nx hi' ⟨yes (by rw [e]; exact congrArg not h), by rw [wrapN (by omega)], rfl⟩)
theorem zoneR_eq (z : Zone) : (nameB z.name && zoneR z) = zoneC z := by
 unfold zoneR zoneC allAt riseB rateAt rateC upB
 rw [List.length_map, ← Bool.coe_iff_coe]
 simp only [Bool.and_eq_true, List.all_eq_true, List.mem_range, Bool.not_eq_true', Bool.or_eq_false_iff, Bool.not_eq_false', decide_eq_true_eq, decide_eq_false_iff_not]
 constructor
 · rintro ⟨h0, h1, ⟨h2, h3⟩, h4⟩
   exact ⟨⟨⟨⟨h0, h3⟩, h4⟩, by omega⟩, fun k hk => (h1 k hk).1, fun k hk => (h1 k hk).2⟩
 · rintro ⟨⟨⟨⟨h0, h3⟩, h4⟩, h2⟩, h1, h5⟩
   exact ⟨h0, fun k hk => ⟨h1 k hk, h5 k hk⟩, ⟨by omega, h3⟩, h4⟩
theorem taxR_eq (x : Tax) : taxR x = taxC x := by
 unfold taxR taxC
 rw [← Bool.coe_iff_coe]
 unfold allAt riseB zoneAt
 rw [List.length_map]
 simp only [zoneR_eq, Bool.and_eq_true, List.all_eq_true, List.mem_range, Bool.not_eq_true', Bool.or_eq_false_iff, Bool.not_eq_false', decide_eq_true_eq, decide_eq_false_iff_not]
 constructor
 · rintro ⟨h1, ⟨h2, h3⟩, h4⟩
   exact ⟨⟨⟨by omega, by omega⟩, by omega⟩, fun k hk => (h1 k hk).1, fun k hk => (h1 k hk).2⟩
 · rintro ⟨⟨⟨h3, h4⟩, h2⟩, h1, h5⟩
   exact ⟨fun k hk => ⟨h1 k hk, h5 k hk⟩, ⟨by omega, by omega⟩, by omega⟩
theorem rTax_S (x : Tax) (hx : TaxSm x) (st : St) : S P 108 [eTax x] st fun v st' => v = .bool (taxC x) ∧ st' = st := by
 rw [← taxR_eq]; exact rTaxR_S x hx st
def rtierAt (l : List Tier) (k : Nat) (x : Tier) : Bool := upB 0 10000000000000 x.least && upB 0 10000 x.rate && upB 0 10000000000000 x.amount && !(x.rate == 0 && x.amount == 0) && (k == 0 || !decide (x.least ≤ (l.getD (k - 1) default).least))
theorem rtiers_S (l : List Tier) (hl : Sm l.length) (st : St) : S P 229 [arrOf 3 eTier l] st fun v st' => v = .bool (allAt l (rtierAt l) && (decide ((l.length : Int) ≥ 1) && decide ((l.length : Int) ≤ 6))) ∧ st' = st := by
 refine S_of_X [4] good mixed Tryz.func229 (by rfl) rfl rfl rfl ?_; conv => whnf
 refine lp l.length [0, 3] (fun i vs st' => (∀ k, k < i → rtierAt l k (l.getD k default) = true) ∧ vs = [arrOf 3 eTier l, eI i] ∧ st' = st) ?_ ?_
 · conv => whnf
   exact ⟨fun k hk => absurd hk (by omega), rfl, rfl⟩
 · rintro i vs st' hi ⟨hok, rfl, rfl⟩
   conv => whnf
   cases h : decide ((i : Int) < (l.length : Int))
   · obtain rfl := stop_at h hi
     rw [allAt_yes hok, Bool.true_and]; conv => whnf
     refine fork (fun h => ?_) (fun h => ?_) <;> rw [h] <;> (conv => whnf) <;> exact ⟨rfl, rfl⟩
   · have hi' := go_on h
     have yes : rtierAt l i (l.getD (i : Int).toNat default) = true → ∀ k, k < i + 1 → rtierAt l k (l.getD k default) = true := fun h => lt_next hok h
     have no : rtierAt l i (l.getD (i : Int).toNat default) = false → allAt l (rtierAt l) = false := fun h => allAt_no hi' h
     have n1 := rin_S (l.getD (i : Int).toNat default).least 10000000000000 st'
     have n2 := rin_S (l.getD (i : Int).toNat default).rate 10000 st'
     have n3 := rin_S (l.getD (i : Int).toNat default).amount 10000000000000 st'
     have hw := fun h => wrapP (i := i) h (by omega)
     rw [show rtierAt l i (l.getD (i : Int).toNat default) = (upB 0 10000000000000 (l.getD (i : Int).toNat default).least && upB 0 10000 (l.getD (i : Int).toNat default).rate && upB 0 10000000000000 (l.getD (i : Int).toNat default).amount && !((l.getD (i : Int).toNat default).rate == 0 && (l.getD (i : Int).toNat default).amount == 0) && (i == 0 || !decide ((l.getD (i : Int).toNat default).least ≤ (l.getD (i - 1) default).least))) from rfl] at yes no
     generalize upB 0 10000000000000 (l.getD (i : Int).toNat default).least = b1 at n1 yes no
     generalize upB 0 10000 (l.getD (i : Int).toNat default).rate = b2 at n2 yes no
     generalize upB 0 10000000000000 (l.getD (i : Int).toNat default).amount = b3 at n3 yes no
     conv => whnf
     refine ⟨rfl, ⟨by omega, by omega⟩, ?_⟩; conv => whnf
     refine ⟨[], [], List.range 41, by kernel_rfl, ?_⟩
     have step : ∀ b4 : Bool, b4 = ((l.getD (i : Int).toNat default).rate == 0 && (l.getD (i : Int).toNat default).amount == 0) → True := fun _ _ => trivial
     rcases Nat.eq_zero_or_pos i with h0 | h0
     · have h1 : decide ((i : Int) > 0) = false := decide_eq_false (by omega)
       rw [show (i == 0) = true from by rw [h0]; rfl, Bool.true_or, Bool.and_true] at yes no
       repeat' ((conv => whnf); first | refine ⟨rfl, ⟨by omega, by omega⟩, ?_⟩ | refine ⟨_, callQ n1, ?_⟩ | refine ⟨_, callQ n2, ?_⟩ | refine ⟨_, callQ n3, ?_⟩ | rw [h1] | cases b1 | cases b2 | cases b3 | (refine fork (fun h => ?_) (fun h => ?_) <;> rw [h] at yes no ⊢))
       all_goals (conv => whnf)
       all_goals first
         | (rw [no (by rfl)]; exact ⟨rfl, rfl⟩)
         | (refine ⟨rfl, ?_⟩; conv => whnf
            exact nx hi' ⟨yes (by rfl), by rw [wrapN (by omega)], rfl⟩)
     · have h1 : decide ((i : Int) > 0) = true := decide_eq_true (by omega)
       rw [show (i == 0) = false from beq_false_of_ne (by omega), Bool.false_or] at yes no
       have hw := hw h0
       repeat' ((conv => whnf); first | refine ⟨rfl, ⟨by omega, by omega⟩, ?_⟩ | refine ⟨rfl, ⟨by rw [hw]; omega, by rw [hw]; omega⟩, ?_⟩ | refine ⟨_, callQ n1, ?_⟩ | refine ⟨_, callQ n2, ?_⟩ | refine ⟨_, callQ n3, ?_⟩ | rw [h1] | cases b1 | cases b2 | cases b3 | (refine fork (fun h => ?_) (fun h => ?_) <;> rw [h] at yes no ⊢) | (rw [hw]; refine fork (fun h => ?_) (fun h => ?_)))
       all_goals (conv => whnf)
       all_goals first
         | (rw [no (by rfl)]; exact ⟨rfl, rfl⟩)
         | (rw [no (congrArg not h)]; exact ⟨rfl, rfl⟩)
         | (refine ⟨rfl, ?_⟩; conv => whnf
            exact nx hi' ⟨yes (congrArg not h), by rw [wrapN (by omega)], rfl⟩)
theorem tiersR_eq (l : List Tier) : (allAt l (rtierAt l) && (decide ((l.length : Int) ≥ 1) && decide ((l.length : Int) ≤ 6))) = tiersC l := by
 unfold tiersC
 rw [Bool.and_comm]
 congr 1
 · rw [Bool.not_or]; congr 1 <;> (rw [← decide_not]; exact decide_eq_decide.2 (by omega))
 · rw [← Bool.coe_iff_coe]
   unfold allAt rtierAt tierAt upB
   simp only [Bool.and_eq_true, List.all_eq_true, List.mem_range, Bool.not_eq_true', Bool.or_eq_false_iff, Bool.not_eq_false', decide_eq_true_eq, decide_eq_false_iff_not, Bool.or_eq_true, beq_iff_eq]
   constructor
   · intro h k hk
     obtain ⟨⟨⟨⟨h1, h2⟩, h3⟩, h4⟩, h5⟩ := h k hk
     refine ⟨⟨⟨⟨⟨⟨?_, by omega⟩, by omega⟩, by omega⟩, by omega⟩, by omega⟩, h4⟩
     split
     · omega
     · rcases h5 with h5 | h5 <;> omega
   · intro h
     have pos : ∀ k, k < l.length → 0 ≤ (l.getD k default).least := fun k => by
       induction k with
       | zero => intro hk; have := (h 0 hk).1.1.1.1.1.1; rw [if_pos rfl] at this; omega
       | succ k ih => intro hk; have := (h (k + 1) hk).1.1.1.1.1.1; rw [if_neg (by omega), Nat.add_sub_cancel] at this; have := ih (by omega); omega
     intro k hk
     obtain ⟨⟨⟨⟨⟨⟨h1, h2⟩, h3⟩, h4⟩, h5⟩, h6⟩, h7⟩ := h k hk
     have := pos k hk
     refine ⟨⟨⟨⟨⟨by omega, by omega⟩, by omega, by omega⟩, by omega, by omega⟩, h7⟩, ?_⟩
     by_cases h0 : k = 0
     · exact .inl h0
     · rw [if_neg h0] at h1; exact .inr h1
structure PromoSm (p : Promo) : Prop where
 id : Sm p.id.size
 group : Sm p.group.size
 code : Sm p.code.size
 scope : ScopeSm p.scope
 parts : Sm p.parts.length
 part : ∀ x ∈ p.parts, ScopeSm x.scope
 tiers : Sm p.tiers.length
def partsR (l : List Part) : Bool := allAt l (fun _ x => partC x) && (decide ((l.length : Int) ≥ 1) && decide ((l.length : Int) ≤ 3))
def promoT (p : Promo) : Bool :=
 if p.kind = 1 then (decide (p.rate ≥ 1) && decide (p.rate ≤ 10000)) && p.amount == 0 && (p.buy == 0 && p.get == 0) && (p.parts.length : Int) == 0 && (p.tiers.length : Int) == 0
 else if p.kind = 2 then p.rate == 0 && decide (p.amount ≥ 1) && decide (p.amount ≤ 1000000000) && (p.buy == 0 && p.get == 0) && (p.parts.length : Int) == 0 && (p.tiers.length : Int) == 0
 else if p.kind = 3 then (decide (p.rate ≥ 1) && decide (p.rate ≤ 10000)) && p.amount == 0 && decide (p.buy ≥ 1) && decide (p.buy ≤ 100) && decide (p.get ≥ 1) && decide (p.get ≤ 100) && (p.parts.length : Int) == 0 && (p.tiers.length : Int) == 0
 else if p.kind = 4 then p.rate == 0 && upB 0 10000000000000 p.amount && (p.buy == 0 && p.get == 0) && partsR p.parts && (p.tiers.length : Int) == 0 && ((p.scope.skus.length : Int) == 0 && (p.scope.cats.length : Int) == 0)
 else if p.kind = 7 then (decide (p.rate ≥ 1) && decide (p.rate ≤ 10000)) && p.amount == 0 && (p.buy == 0 && p.get == 0) && (p.parts.length : Int) == 0 && (p.tiers.length : Int) == 0 && ((p.scope.skus.length : Int) == 0 && (p.scope.cats.length : Int) == 0) && !p.closes
 else p.rate == 0 && p.amount == 0 && (p.buy == 0 && p.get == 0) && (p.parts.length : Int) == 0 && tiersC p.tiers
theorem partsR_eq (p : Promo) : (partsR p.parts && upB 0 10000000000000 p.amount) = pBundle p := by
 unfold partsR pBundle allAt upB
 rw [← Bool.coe_iff_coe]
 simp only [Bool.and_eq_true, List.all_eq_true, List.mem_range, Bool.not_eq_true', Bool.or_eq_false_iff, decide_eq_true_eq, decide_eq_false_iff_not, List.any_eq_false, Bool.not_eq_false']
 constructor
 · rintro ⟨⟨h1, h2⟩, h3⟩
   exact ⟨⟨⟨⟨by omega, by omega⟩, by omega⟩, by omega⟩, fun x hx => by obtain ⟨k, hk, rfl⟩ := mem_getD hx; rw [h1 k hk]; simp⟩
 · rintro ⟨h1, h2⟩
   exact ⟨⟨fun k hk => by have := h2 _ (getD_mem hk); simpa using this, by omega⟩, by omega⟩
theorem promoT_eq (p : Promo) (hk : 1 ≤ p.kind ∧ p.kind ≤ 7) : promoT p = (pPlain p && pKind p) := by
 have hb := partsR_eq p
 unfold promoT pPlain pKind pAmount pBuyGet pRate
 rw [← hb]
 rw [nat_eq0, nat_eq0, nat_eq0, nat_eq0]
 have e : (p.scope.skus.length + p.scope.cats.length == 0) = (p.scope.skus.length == 0 && p.scope.cats.length == 0) := by
   rw [← Bool.coe_iff_coe]; simp only [Bool.and_eq_true, beq_iff_eq]; omega
 have u : ∀ m x, upB 1 m x = true → (x == 0) = false := fun m x h => by simp only [upB, Bool.and_eq_true, decide_eq_true_eq] at h; exact beq_false_of_ne (by omega)
 have e4 : partsR p.parts = true → (p.parts.length == 0) = false := fun h => by
   simp only [partsR, Bool.and_eq_true, decide_eq_true_eq] at h; exact beq_false_of_ne (by omega)
 have e5 : tiersC p.tiers = true → (p.tiers.length == 0) = false := fun h => by
   simp only [tiersC, Bool.and_eq_true, Bool.not_eq_true', Bool.or_eq_false_iff, decide_eq_false_iff_not] at h; exact beq_false_of_ne (by omega)
 rw [e]
 rcases (by omega : p.kind = 1 ∨ p.kind = 2 ∨ p.kind = 3 ∨ p.kind = 4 ∨ p.kind = 5 ∨ p.kind = 6 ∨ p.kind = 7) with h | h | h | h | h | h | h
 all_goals (rw [h]; simp only [show ∀ a b : Int, (if a = b then _ else _) = _ from fun _ _ => rfl, upB, if_true, if_false, Int.reduceEq, Int.reduceBEq, Bool.true_or, Bool.or_true, Bool.true_and, Bool.and_true, Bool.false_or, Bool.or_false, bne, Bool.not_true, Bool.not_false])
 all_goals (generalize tiersC p.tiers = b1 at *; generalize partsR p.parts = b2 at *; generalize (p.parts.length == 0) = b3 at *; generalize (p.tiers.length == 0) = b4 at *; generalize (p.scope.skus.length == 0 && p.scope.cats.length == 0) = b5; generalize (p.buy == 0 && p.get == 0) = b6; generalize (p.rate == 0) = b7; generalize (p.amount == 0) = b8; generalize decide (p.rate ≥ 1) = b9; generalize decide (p.rate ≤ 10000) = b10)
 all_goals first | done | ac_rfl
set_option maxHeartbeats 8000000 in
theorem rPromoOk_S (p : Promo) (hp : PromoSm p) (hC : promoC p = true) (st : St) : S P 172 [ePromo p] st fun v st' => v = .bool true ∧ st' = st := by
 have n1 := rName_S p.id hp.id st
 have n2 := rName_S p.group hp.group st
 have n3 := rName_S p.code hp.code st
 have n4 := rScope_S p.scope hp.scope st
 have n5 := rin_S p.least 10000000000000 st
 have n6 := rin_S p.amount 10000000000000 st
 have n7 := rparts_S p.parts hp.parts hp.part st
 have n8 := rtiers_S p.tiers hp.tiers st
 rw [tiersR_eq] at n8
 rw [show (allAt p.parts (fun _ x => partC x) && (decide ((p.parts.length : Int) ≥ 1) && decide ((p.parts.length : Int) ≤ 3))) = partsR p.parts from rfl] at n7
 unfold promoC pHead namedC isNil at hC
 simp only [Bool.and_eq_true] at hC
 obtain ⟨⟨⟨⟨k1, k2⟩, ⟨⟨⟨⟨⟨h1, h2⟩, h3⟩, h4⟩, h5⟩, h6⟩⟩, hP⟩, hQ⟩ := hC
 have hk : 1 ≤ p.kind ∧ p.kind ≤ 7 := by simp only [decide_eq_true_eq] at k1 k2; omega
 have hT : promoT p = true := by rw [promoT_eq p hk, hP, hQ]; rfl
 have g1 : decide (p.prio < 0) = false := decide_eq_false (by simp only [upB, Bool.and_eq_true, decide_eq_true_eq] at h2; omega)
 have g2 : decide (p.prio > 1000) = false := decide_eq_false (by simp only [upB, Bool.and_eq_true, decide_eq_true_eq] at h2; omega)
 have g3 : (!(p.group.toList == (⟨#[]⟩ : Str).toList)) = true → nameB p.group = true := fun h => by
   rw [Bool.not_eq_true'] at h; rw [h] at h3; exact h3
 have g4 : (!(p.code.toList == (⟨#[]⟩ : Str).toList)) = true → nameB p.code = true := fun h => by
   rw [Bool.not_eq_true'] at h; rw [h] at h4; exact h4
 unfold promoT at hT
 rw [h1] at n1
 rw [h5] at n4
 rw [h6] at n5
 clear h1 h2 h3 h4 h5 h6 hP hQ k1 k2 hp
 generalize partsR p.parts = b7 at *
 generalize tiersC p.tiers = b8 at *
 generalize upB 0 10000000000000 p.amount = b6 at *
 obtain ⟨id, kind, prio, group, code, closes, scope, least, rate, amount, buy, get, parts, tiers⟩ := p
 simp only at *
 generalize nameB group = b2 at *
 generalize nameB code = b3 at *
 refine S_of_X [1] good mixed Tryz.func172 (by rfl) rfl rfl rfl ?_
 rcases (by omega : kind = 1 ∨ kind = 2 ∨ kind = 3 ∨ kind = 4 ∨ kind = 5 ∨ kind = 6 ∨ kind = 7) with rfl | rfl | rfl | rfl | rfl | rfl | rfl
 all_goals (clear hk; simp only [if_true, if_false, Int.reduceEq, Bool.and_eq_true] at hT)
 · obtain ⟨⟨⟨⟨⟨f1, f2⟩, f3⟩, f4, f5⟩, f6⟩, f7⟩ := hT
   repeat' ((conv => whnf); first | refine call1 n1 ?_ | (refine call1 n2 ?_; rw [g3 h]) | (refine call1 n3 ?_; rw [g4 h]) | refine call1 n4 ?_ | refine call1 n5 ?_ | refine call1 n6 ?_ | refine call1 n7 ?_ | refine call1 n8 ?_ | refine ⟨[], [], List.range 27, by kernel_rfl, ?_⟩ | rw [g1] | rw [g2] | rw [f1] | rw [f2] | rw [f3] | rw [f4] | rw [f5] | rw [f6] | rw [f7] | (refine fork (fun h => ?_) (fun h => ?_) <;> rw [h]))
   all_goals (conv => whnf)
   all_goals exact ⟨rfl, rfl⟩
 · obtain ⟨⟨⟨⟨⟨f1, f2⟩, f3⟩, f4, f5⟩, f6⟩, f7⟩ := hT
   repeat' ((conv => whnf); first | refine call1 n1 ?_ | (refine call1 n2 ?_; rw [g3 h]) | (refine call1 n3 ?_; rw [g4 h]) | refine call1 n4 ?_ | refine call1 n5 ?_ | refine call1 n6 ?_ | refine call1 n7 ?_ | refine call1 n8 ?_ | refine ⟨[], [], List.range 27, by kernel_rfl, ?_⟩ | rw [g1] | rw [g2] | rw [f1] | rw [f2] | rw [f3] | rw [f4] | rw [f5] | rw [f6] | rw [f7] | (refine fork (fun h => ?_) (fun h => ?_) <;> rw [h]))
   all_goals (conv => whnf)
   all_goals exact ⟨rfl, rfl⟩
 · obtain ⟨⟨⟨⟨⟨⟨⟨⟨f1, f2⟩, f3⟩, f4⟩, f5⟩, f6⟩, f7⟩, f8⟩, f9⟩ := hT
   repeat' ((conv => whnf); first | refine call1 n1 ?_ | (refine call1 n2 ?_; rw [g3 h]) | (refine call1 n3 ?_; rw [g4 h]) | refine call1 n4 ?_ | refine call1 n5 ?_ | refine call1 n6 ?_ | refine call1 n7 ?_ | refine call1 n8 ?_ | refine ⟨[], [], List.range 27, by kernel_rfl, ?_⟩ | rw [g1] | rw [g2] | rw [f1] | rw [f2] | rw [f3] | rw [f4] | rw [f5] | rw [f6] | rw [f7] | rw [f8] | rw [f9] | (refine fork (fun h => ?_) (fun h => ?_) <;> rw [h]))
   all_goals (conv => whnf)
   all_goals exact ⟨rfl, rfl⟩
 · obtain ⟨⟨⟨⟨⟨f1, f2⟩, f3, f4⟩, f5⟩, f6⟩, f7, f8⟩ := hT
   subst f2
   subst f5
   repeat' ((conv => whnf); first | refine call1 n1 ?_ | (refine call1 n2 ?_; rw [g3 h]) | (refine call1 n3 ?_; rw [g4 h]) | refine call1 n4 ?_ | refine call1 n5 ?_ | refine call1 n6 ?_ | refine call1 n7 ?_ | refine call1 n8 ?_ | refine ⟨[], [], List.range 27, by kernel_rfl, ?_⟩ | rw [g1] | rw [g2] | rw [f1] | rw [f3] | rw [f4] | rw [f6] | rw [f7] | rw [f8] | (refine fork (fun h => ?_) (fun h => ?_) <;> rw [h]))
   all_goals (conv => whnf)
   all_goals exact ⟨rfl, rfl⟩
 · obtain ⟨⟨⟨⟨f1, f2⟩, f3, f4⟩, f5⟩, f6⟩ := hT
   subst f6
   repeat' ((conv => whnf); first | refine call1 n1 ?_ | (refine call1 n2 ?_; rw [g3 h]) | (refine call1 n3 ?_; rw [g4 h]) | refine call1 n4 ?_ | refine call1 n5 ?_ | refine call1 n6 ?_ | refine call1 n7 ?_ | refine call1 n8 ?_ | refine ⟨[], [], List.range 27, by kernel_rfl, ?_⟩ | rw [g1] | rw [g2] | rw [f1] | rw [f2] | rw [f3] | rw [f4] | rw [f5] | (refine fork (fun h => ?_) (fun h => ?_) <;> rw [h]))
   all_goals (conv => whnf)
   all_goals exact ⟨rfl, rfl⟩
 · obtain ⟨⟨⟨⟨f1, f2⟩, f3, f4⟩, f5⟩, f6⟩ := hT
   subst f6
   repeat' ((conv => whnf); first | refine call1 n1 ?_ | (refine call1 n2 ?_; rw [g3 h]) | (refine call1 n3 ?_; rw [g4 h]) | refine call1 n4 ?_ | refine call1 n5 ?_ | refine call1 n6 ?_ | refine call1 n7 ?_ | refine call1 n8 ?_ | refine ⟨[], [], List.range 27, by kernel_rfl, ?_⟩ | rw [g1] | rw [g2] | rw [f1] | rw [f2] | rw [f3] | rw [f4] | rw [f5] | (refine fork (fun h => ?_) (fun h => ?_) <;> rw [h]))
   all_goals (conv => whnf)
   all_goals exact ⟨rfl, rfl⟩
 · obtain ⟨⟨⟨⟨⟨⟨⟨f1, f2⟩, f3⟩, f4, f5⟩, f6⟩, f7⟩, f8, f9⟩, f10⟩ := hT
   rw [Bool.not_eq_true'] at f10
   subst f10
   repeat' ((conv => whnf); first | refine call1 n1 ?_ | (refine call1 n2 ?_; rw [g3 h]) | (refine call1 n3 ?_; rw [g4 h]) | refine call1 n4 ?_ | refine call1 n5 ?_ | refine call1 n6 ?_ | refine call1 n7 ?_ | refine call1 n8 ?_ | refine ⟨[], [], List.range 27, by kernel_rfl, ?_⟩ | rw [g1] | rw [g2] | rw [f1] | rw [f2] | rw [f3] | rw [f4] | rw [f5] | rw [f6] | rw [f7] | rw [f8] | rw [f9] | (refine fork (fun h => ?_) (fun h => ?_) <;> rw [h]))
   all_goals (conv => whnf)
   all_goals exact ⟨rfl, rfl⟩
def insAt (o : List Int) (a : Nat) (x : Int) : List Int := o.take a ++ x :: o.drop a
theorem insAt_len {o : List Int} {a : Nat} {x : Int} (h : a ≤ o.length) : (insAt o a x).length = o.length + 1 := by
 unfold insAt; simp; omega
theorem insAt_get {o : List Int} {a : Nat} {x : Int} (h : a ≤ o.length) {j : Nat} (hj : j < o.length + 1) : gI (insAt o a x) j = if j < a then gI o j else if j = a then x else gI o (j - 1) := by
 unfold insAt gI
 simp only [List.getD_eq_getElem?_getD]
 by_cases h1 : j < a
 · rw [if_pos h1, List.getElem?_append_left (by rw [List.length_take]; omega), List.getElem?_take_of_lt h1]
 · rw [if_neg h1, List.getElem?_append_right (by rw [List.length_take]; omega), List.length_take, Nat.min_eq_left h]
   by_cases h2 : j = a
   · rw [if_pos h2, h2, Nat.sub_self]; rfl
   · rw [if_neg h2, show j - a = (j - 1 - a) + 1 by omega, List.getElem?_cons_succ, List.getElem?_drop, show a + (j - 1 - a) = j - 1 by omega]
theorem insAt_perm (o : List Int) (a : Nat) (x : Int) : (insAt o a x).Perm (o ++ [x]) := by
 unfold insAt
 refine List.perm_middle.trans ?_
 rw [List.take_append_drop]
 exact (List.perm_append_comm (l₁ := [x]) (l₂ := o))
theorem insAt_sorted {R : Int → Int → Prop} {o : List Int} {a : Nat} {x : Int} (hs : o.Pairwise R) (h1 : ∀ k, k < a → k < o.length → R (gI o k) x) (h2 : ∀ k, a ≤ k → k < o.length → R x (gI o k)) : (insAt o a x).Pairwise R := by
 unfold insAt
 rw [List.pairwise_append, List.pairwise_cons]
 refine ⟨hs.sublist (List.take_sublist ..), ⟨fun y hy => ?_, hs.sublist (List.drop_sublist ..)⟩, fun y hy z hz => ?_⟩
 · obtain ⟨k, hk, rfl⟩ := List.getElem_of_mem hy
   rw [List.length_drop] at hk
   have := h2 (a + k) (by omega) (by omega)
   rw [List.getElem_drop]; simpa [gI, show a + k < o.length by omega] using this
 · obtain ⟨k, hk, rfl⟩ := List.getElem_of_mem hy
   rw [List.length_take] at hk
   rcases List.mem_cons.1 hz with rfl | hz
   · have := h1 k (by omega) (by omega)
     rw [List.getElem_take]; simpa [gI, show k < o.length by omega] using this
   · obtain ⟨j, hj, rfl⟩ := List.getElem_of_mem hz
     rw [List.length_drop] at hj
     rw [List.getElem_take, List.getElem_drop]
     exact List.pairwise_iff_getElem.1 hs k (a + j) (by omega) (by omega) (by omega)
theorem pw_at {R : Int → Int → Prop} {o : List Int} (hs : o.Pairwise R) {i j : Nat} (hij : i < j) (hj : j < o.length) : R (gI o i) (gI o j) := by
 have := List.pairwise_iff_getElem.1 hs i j (by omega) hj hij
 simpa [gI, show i < o.length by omega, hj] using this
theorem perm_get {o p : List Int} (h : o.Perm p) {P : Int → Prop} (hp : ∀ x ∈ p, P x) {k : Nat} (hk : k < o.length) : P (gI o k) := hp _ (h.subset (getD_mem hk))
def rankO (ranks : List Int) (x : Int) : QE := (gI ranks x.toNat, x)
def ROrd (ranks : List Int) (x y : Int) : Prop := prior (rankO ranks y) (rankO ranks x) = false
def natsI (n : Nat) : List Int := (List.range n).map Int.ofNat
theorem natsI_succ (n : Nat) : natsI (n + 1) = natsI n ++ [(n : Int)] := by unfold natsI; rw [List.range_succ, List.map_append]; rfl
theorem natsI_mem {n : Nat} {x : Int} (h : x ∈ natsI n) : 0 ≤ x ∧ x.toNat < n := by
 obtain ⟨k, hk, rfl⟩ := List.mem_map.1 h
 have := List.mem_range.1 hk
 show 0 ≤ (k : Int) ∧ (k : Int).toNat < n
 omega
theorem natsI_len (n : Nat) : (natsI n).length = n := by unfold natsI; simp
theorem rOrder_S (ranks : List Int) (hl : ranks.length ≤ 1000000) (st : St) : S P 230 [eInts ranks] st fun v st' => (∃ o : List Int, o.Perm (natsI ranks.length) ∧ o.Pairwise (ROrd ranks) ∧ v = eInts o) ∧ st' = st := by
 refine S.post (post := fun v st' => ∃ o : List Int, o.Perm (natsI ranks.length) ∧ o.Pairwise (ROrd ranks) ∧ ColL 3 1 eI o st v st') ?_ (fun v st' ⟨o, h1, h2, h3⟩ => ⟨_, st, ⟨⟨o, h1, h2, rfl⟩, rfl⟩, h3.shift⟩)
 refine S_of_X [] good mixed Tryz.func230 (by rfl) rfl rfl rfl ?_; conv => whnf
 refine lp ranks.length [0, 3, 4] (fun i vs s => ∃ o sv, o.Perm (natsI i) ∧ o.Pairwise (ROrd ranks) ∧ vs = [eInts ranks, sv, eI i] ∧ ColL 3 1 eI o st sv s) ?_ ?_
 · conv => whnf
   exact ⟨[], .emp, .refl _, .nil, rfl, ColL.start _ _ _ _⟩
 · rintro i vs st' hi ⟨o, sv, hp, hs, rfl, hc0⟩
   conv => whnf
   cases h : decide ((i : Int) < (ranks.length : Int))
   · obtain rfl := stop_at h hi
     conv => whnf
     exact ⟨o, hp, hs, hc0⟩
   · have hi' := go_on h
     have hol : o.length = i := by rw [hp.length_eq, natsI_len]
     have hom : ∀ {k : Nat}, k < o.length → 0 ≤ gI o k ∧ (gI o k).toNat < i := fun hk => perm_get hp (fun x hx => natsI_mem hx) hk
     conv => whnf
     refine lp o.length [0, 3, 4, 5] (fun a vs s => (∀ k, k < a → gI ranks (gI o k).toNat ≥ gI ranks i) ∧ vs = [eInts ranks, sv, eI i, eI a] ∧ s = st') ?_ ?_
     · conv => whnf
       exact ⟨fun k hk => absurd hk (by omega), rfl, rfl⟩
     · rintro a vs s ha ⟨hok, rfl, rfl⟩
       conv => whnf
       refine ⟨[], [], List.range 18, by kernel_rfl, ?_⟩
       have hc1 := hc0
       have hB : (a = o.length ∨ gI ranks (gI o a).toNat < gI ranks i) → (insAt o a (i : Int)).Perm (natsI (i + 1)) ∧ (insAt o a (i : Int)).Pairwise (ROrd ranks) := fun hB => by
         refine ⟨by rw [natsI_succ]; exact (insAt_perm o a i).trans (hp.append_right _), insAt_sorted hs (fun k hk hk2 => ?_) (fun k hk hk2 => ?_)⟩
         · have := hok k hk
           have := hom hk2
           unfold ROrd rankO; rw [prior_no]; simp only [Int.toNat_natCast]; omega
         · rcases hB with hB | hB
           · omega
           · have h6 : gI ranks (gI o k).toNat ≤ gI ranks (gI o a).toNat := by
               rcases Nat.eq_or_lt_of_le hk with e | e
               · rw [e]; exact Int.le_refl _
               · have := pw_at hs e hk2
                 unfold ROrd rankO at this; rw [prior_no] at this; simp only at this; omega
             unfold ROrd rankO; rw [prior_no]; simp only [Int.toNat_natCast]; omega
       rcases hc1 with ⟨h0, rfl, hst⟩ | ⟨h0, b, g, hb, rfl, rfl, hg⟩
       case' inl =>
         have hst' := hst.symm
         subst hst'
         have hS := hB (.inl (by omega))
         have hd : decide ((a : Int) < 0) = false := decide_eq_false (by omega)
         conv => whnf
         rw [hd]; conv => whnf
       case' inr =>
         conv => whnf
         cases hd : decide ((a : Int) < (o.length : Int))
         case' false =>
           have hS := hB (.inl (by have := of_decide_eq_false hd; omega))
           conv => whnf
         case' true =>
           have hao := go_on hd
           have hoa := hom hao
           have hga : g (0 + (a : Int).toNat) = eI (gI o a) := by rw [show 0 + (a : Int).toNat = a by omega]; exact hg a hao
           conv => whnf
           refine ⟨rfl, ⟨by omega, by omega⟩, ?_⟩; conv => whnf
           refine ldV (upd_same ..) rfl (by omega) hga ?_; conv => whnf
           refine ⟨rfl, ⟨by omega, by omega⟩, ?_⟩; conv => whnf
           refine ⟨rfl, ⟨by omega, by omega⟩, ?_⟩; conv => whnf
           refine fork (fun h2 => ?_) (fun h2 => ?_) <;> rw [h2]
           case' refine_1 =>
             conv => whnf
             refine ⟨rfl, ?_⟩; conv => whnf
             refine nx hao ⟨lt_next hok (of_decide_eq_true h2), by rw [wrapN (by omega)], rfl⟩
           case' refine_2 =>
             have hS := hB (.inr (by have h7 := of_decide_eq_false h2; rw [Int.toNat_natCast] at h7; exact Int.not_le.1 h7))
             conv => whnf
       all_goals
         refine ColL.app (q := r3) (y := 0) (enc := eI) rfl rfl rfl rfl rfl rfl (by show (_ + 1) * 8 ≤ 140737488355328; omega) hc0 (fun sv' s' hc' => ?_)
         have hln : (o ++ [0]).length = o.length + 1 := by simp
         rcases hc' with ⟨h1, _⟩ | ⟨h1, b', g', hb', rfl, rfl, hg'⟩
         · omega
         generalize (o ++ [0]).length = N at *
         subst hln; conv => whnf
         have hw0 : IntKind.i64.wrap (((o.length + 1 : Nat) : Int) - 1) = ((o.length - 0 : Nat) : Int) := by rw [wrap64_of (by omega) (by omega)]; omega
         rw [hw0]
         refine lp (o.length - a) [0, 3, 4, 5, 6] (fun r vs s => vs = [eInts ranks, .own 1 b' 0 (o.length + 1), eI i, eI a, eI (o.length - r : Nat)] ∧ ∃ f, s = upd st b' ⟨3, 1, o.length + 1, f⟩ ∧ ∀ j, j < o.length + 1 → f j = eI (if o.length - r < j then gI o (j - 1) else gI (o ++ [0]) j)) ?_ ?_
         · conv => whnf
           exact ⟨rfl, g', rfl, fun j hj => by rw [if_neg (by omega)]; exact hg' j hj⟩
         · clear hg' hc0
           rintro r vs s hr ⟨rfl, f, rfl, hf⟩
           conv => whnf
           cases hk : decide (((o.length - r : Nat) : Int) > (a : Int))
           · have hra : r = o.length - a := by have := of_decide_eq_false hk; omega
             conv => whnf
             refine ⟨rfl, ⟨by omega, by omega⟩, ?_⟩; conv => whnf
             refine stV (upd_same ..) rfl (by omega) (hf _ (by omega)) (by rfl) ?_; conv => whnf
             refine ⟨rfl, ?_⟩; conv => whnf
             rw [upd_upd]
             refine nx hi' ⟨insAt o a (i : Int), .own 1 b' 0 (o.length + 1), hS.1, hS.2, by rw [wrapN (by omega)], ?_⟩
             refine .inr ⟨by rw [insAt_len ha]; omega, b', _, hb', by rw [insAt_len ha], by rw [insAt_len ha], fun j hj => ?_⟩
             rw [insAt_len ha] at hj
             show fset f (0 + (a : Int).toNat) _ j = eI (gI (insAt o a (i : Int)) j)
             rw [insAt_get ha hj]
             by_cases hja : j = a
             · subst hja
               rw [show 0 + ((j : Nat) : Int).toNat = j by omega, fset_same]; show eI (i : Int) = _; rw [if_neg (by omega), if_pos rfl]
             · rw [fset_ne (by omega), hf j hj]
               congr 1
               by_cases hj2 : j < a
               · rw [if_neg (by omega), if_pos hj2, gI_append (by omega)]
               · rw [if_pos (by omega), if_neg hj2, if_neg hja]
           · have hra : a < o.length - r := by have := of_decide_eq_true hk; omega
             have hw1 := wrapP (i := o.length - r) (by omega) (by omega)
             conv => whnf
             rw [hw1]
             refine ⟨rfl, ⟨by omega, by omega⟩, ?_⟩; conv => whnf
             refine ldV (v := eI (gI o (o.length - r - 1))) (upd_same ..) rfl (by omega) (by rw [hf _ (by omega), if_neg (by omega), gI_append (by omega)]; congr 2; omega) ?_; conv => whnf
             refine ⟨rfl, ⟨by omega, by omega⟩, ?_⟩; conv => whnf
             refine stV (upd_same ..) rfl (by omega) (hf _ (by omega)) (by rfl) ?_; conv => whnf
             refine ⟨rfl, ?_⟩; conv => whnf
             rw [upd_upd, hw1]
             refine nx (by omega) ⟨by rw [show o.length - (r + 1) = o.length - r - 1 by omega], _, rfl, fun j hj => ?_⟩
             by_cases hj2 : j = o.length - r
             · subst hj2
               rw [show 0 + ((o.length - r : Nat) : Int).toNat = o.length - r by omega, fset_same]; show eI (gI o (o.length - r - 1)) = _; rw [if_pos (by omega)]
             · rw [fset_ne (by omega), hf j hj]
               congr 1
               by_cases hj3 : o.length - r < j
               · rw [if_pos hj3, if_pos (by omega)]
               · rw [if_neg hj3, if_neg (by omega)]
def aheadB (a b : Promo) : Bool := if (a.prio != b.prio) = true then decide (a.prio > b.prio) else slt a.id b.id
theorem rahead_S (a b : Promo) (st : St) : S P 113 [ePromo a, ePromo b] st fun v st' => v = .bool (aheadB a b) ∧ st' = st := by
 refine S_of_X [2, 3] good mixed Tryz.func113 (by rfl) rfl rfl rfl ?_; conv => whnf
 unfold aheadB
 refine fork (fun h => ?_) (fun h => ?_) <;> rw [h] <;> (conv => whnf) <;> exact ⟨rfl, rfl⟩
theorem aheadB_iff (a b : Promo) : aheadB a b = true ↔ a.prio > b.prio ∨ (a.prio = b.prio ∧ slt a.id b.id = true) := by
 unfold aheadB
 split
 · rename_i h; simp only [bne_iff_ne, ne_eq] at h; rw [decide_eq_true_eq]; omega
 · rename_i h; simp only [bne_iff_ne, ne_eq, Classical.not_not] at h; constructor
   · exact fun h2 => .inr ⟨h, h2⟩
   · rintro (h2 | h2)
     · omega
     · exact h2.2
theorem ahead_asymm {a b : Promo} (h : aheadB a b = true) : aheadB b a = false := by
 rw [← Bool.not_eq_true, aheadB_iff]
 rw [aheadB_iff] at h
 rcases h with h | ⟨h1, h2⟩
 · rintro (h3 | h3) <;> omega
 · rintro (h3 | h3)
   · omega
   · rw [slt_asymm h2] at h3; cases h3.2
theorem nahead_trans {a b c : Promo} (h : aheadB b a = false) (k : aheadB c b = false) : aheadB c a = false := by
 rw [← Bool.not_eq_true, aheadB_iff] at *
 rintro (h3 | ⟨h3, h4⟩)
 · by_cases e : b.prio > a.prio
   · exact h (.inl e)
   · exact k (.inl (by omega))
 · by_cases e : b.prio = a.prio
   · have h5 : slt b.id a.id = false := by rw [← Bool.not_eq_true]; exact fun e2 => h (.inr ⟨e, e2⟩)
     have h6 : slt c.id b.id = false := by rw [← Bool.not_eq_true]; exact fun e2 => k (.inr ⟨by omega, e2⟩)
     rw [sle_trans h5 h6] at h4; cases h4
   · by_cases e2 : b.prio > a.prio
     · exact h (.inl e2)
     · exact k (.inl (by omega))
def PrOrd (l : List Promo) (x y : Int) : Prop := aheadB (prAt l y) (prAt l x) = false
theorem sortI_le (l : List Int) : (sortI l).Pairwise (· ≤ ·) := by
 have := List.pairwise_mergeSort (le := fun a b : Int => decide (a ≤ b)) (fun a b c h1 h2 => by simp only [decide_eq_true_eq] at *; omega) (fun a b => by simp only [Bool.or_eq_true, decide_eq_true_eq]; omega) l
 exact this.imp (fun h => by simpa using h)
theorem rrising_S (l : List Int) (hl : l.length ≤ 1000000) (st : St) : S P 232 [eInts l] st fun v st' => v = eInts (sortI l) ∧ st' = st := by
 refine S_colL (ty := 3) ?_
 refine S_of_X [] good mixed Tryz.func232 (by rfl) rfl rfl rfl ?_; conv => whnf
 refine lp l.length [0, 3, 4] (fun i vs s => ∃ o sv, o.Perm (l.take i) ∧ o.Pairwise (· ≤ ·) ∧ vs = [eInts l, sv, eI i] ∧ ColL 3 1 eI o st sv s) ?_ ?_
 · conv => whnf
   exact ⟨[], .emp, .refl _, .nil, rfl, ColL.start _ _ _ _⟩
 · rintro i vs st' hi ⟨o, sv, hp, hs, rfl, hc0⟩
   conv => whnf
   cases h : decide ((i : Int) < (l.length : Int))
   · obtain rfl := stop_at h hi
     conv => whnf
     rw [List.take_length] at hp
     have e : o = sortI l := List.Perm.eq_of_pairwise (le := fun a b : Int => a ≤ b) (fun a b _ _ h1 h2 => Int.le_antisymm h1 h2) hs (sortI_le l) (hp.trans (sortI_perm l).symm)
     rw [← e]
     exact hc0
   · have hi' := go_on h
     have hol : o.length = i := by rw [hp.length_eq, List.length_take]; omega
     have hom : ∀ {k : Nat}, k < o.length → True := fun hk => trivial
     have hB : ∀ a, a ≤ o.length → (∀ k, a ≤ k → k < o.length → gI o k > gI l i) → (a = 0 ∨ gI o (a - 1) ≤ gI l i) → (insAt o a (gI l i)).Perm (l.take (i + 1)) ∧ (insAt o a (gI l i)).Pairwise (· ≤ ·) := fun a ha hok hB => by
       refine ⟨by rw [take_next hi']; exact (insAt_perm o a _).trans (hp.append_right _), insAt_sorted hs (fun k hk hk2 => ?_) (fun k hk hk2 => ?_)⟩
       · rcases hB with hB | hB
         · omega
         · rcases Nat.lt_or_ge k (a - 1) with e | e
           · exact Int.le_trans (pw_at hs e (by omega)) hB
           · rw [show k = a - 1 by omega]; exact hB
       · have := hok k hk hk2; omega
     have hc1 := hc0
     rcases hc1 with ⟨h0, hsv, hst⟩ | ⟨h0, b, g, hb, hsv, hst, hg⟩
     all_goals rw [hsv]
     all_goals (conv => whnf)
     all_goals refine lp o.length [0, 3, 4, 5] (fun r vs s => (∀ k, o.length - r ≤ k → k < o.length → gI o k > gI l i) ∧ vs = [eInts l, sv, eI i, eI (o.length - r : Nat)] ∧ s = st') ?_ ?_
     all_goals first
       | (conv => whnf
          exact ⟨fun k h1 h2 => absurd h2 (by omega), by first | (rw [hsv]; rfl) | (rw [hsv, h0]; rfl), rfl⟩)
       | skip
     all_goals
       rintro r vs s hr ⟨hok, rfl, rfl⟩
       conv => whnf
       refine ⟨[], [], List.range 14, by kernel_rfl, ?_⟩
       cases hd : decide (((o.length - r : Nat) : Int) > 0)
       case' false =>
         have ha := Nat.sub_le o.length r
         have hS := hB (o.length - r) ha hok (.inl (by have := of_decide_eq_false hd; omega))
         generalize o.length - r = a at *
         conv => whnf
         rw [hd]; conv => whnf
       case' true =>
         have hpos : 0 < o.length - r := by have := of_decide_eq_true hd; omega
         have hw2 := wrapP hpos (by omega)
         have hoa := hom (k := o.length - r - 1) (by omega)
         first
           | (exfalso; omega)
           | (conv => whnf
              rw [hd]; conv => whnf
              rw [hsv] at hc0
              rw [hsv, hw2]
              refine ⟨rfl, ⟨by omega, by omega⟩, ?_⟩; conv => whnf
              refine ldV (v := eI (gI o (o.length - r - 1))) (by rw [hst]; exact upd_same ..) rfl (by omega) (by rw [hg _ (by omega)]; congr 2; omega) ?_; conv => whnf
              refine ⟨rfl, ⟨by omega, by omega⟩, ?_⟩; conv => whnf
              refine fork (fun h2 => ?_) (fun h2 => ?_) <;> rw [h2]
              · conv => whnf
                refine ⟨rfl, ?_⟩; conv => whnf
                refine nx (by omega) ⟨fun k h3 h4 => ?_, by rw [hw2, show o.length - (r + 1) = o.length - r - 1 by omega], rfl⟩
                rcases Nat.eq_or_lt_of_le h3 with h5 | h5
                · rw [← h5, show o.length - (r + 1) = o.length - r - 1 by omega]; exact of_decide_eq_true h2
                · exact hok k (by omega) h4
              have ha := Nat.sub_le o.length r
              have hS := hB (o.length - r) ha hok (.inr (by have h7 := of_decide_eq_false h2; rw [Int.toNat_natCast] at h7; exact Int.not_lt.1 h7))
              clear hw2 hoa
              generalize o.length - r = a at *
              conv => whnf)
       all_goals
         refine ColL.app (q := r3) (y := 0) (enc := eI) rfl rfl rfl rfl rfl rfl (by show (_ + 1) * 8 ≤ 140737488355328; omega) hc0 (fun sv' s' hc' => ?_)
         have hln : (o ++ [0]).length = o.length + 1 := by simp
         rcases hc' with ⟨h1, _⟩ | ⟨h1, b', g', hb', rfl, rfl, hg'⟩
         · omega
         generalize (o ++ [0]).length = N at *
         subst hln; conv => whnf
         have hw0 : IntKind.i64.wrap (((o.length + 1 : Nat) : Int) - 1) = ((o.length - 0 : Nat) : Int) := by rw [wrap64_of (by omega) (by omega)]; omega
         rw [hw0]
         refine lp (o.length - a) [0, 3, 4, 5, 6] (fun r vs s => vs = [eInts l, .own 1 b' 0 (o.length + 1), eI i, eI a, eI (o.length - r : Nat)] ∧ ∃ f, s = upd st b' ⟨3, 1, o.length + 1, f⟩ ∧ ∀ j, j < o.length + 1 → f j = eI (if o.length - r < j then gI o (j - 1) else gI (o ++ [0]) j)) ?_ ?_
         · conv => whnf
           exact ⟨rfl, g', rfl, fun j hj => by rw [if_neg (by omega)]; exact hg' j hj⟩
         · clear hg' hc0
           rintro r vs s hr ⟨rfl, f, rfl, hf⟩
           conv => whnf
           cases hk : decide (((o.length - r : Nat) : Int) > (a : Int))
           · have hra : r = o.length - a := by have := of_decide_eq_false hk; omega
             conv => whnf
             refine ⟨rfl, ⟨by omega, by omega⟩, ?_⟩; conv => whnf
             refine ⟨rfl, ⟨by omega, by omega⟩, ?_⟩; conv => whnf
             refine stV (upd_same ..) rfl (by omega) (hf _ (by omega)) (by rfl) ?_; conv => whnf
             refine ⟨rfl, ?_⟩; conv => whnf
             rw [upd_upd]
             refine nx hi' ⟨insAt o a (gI l i), .own 1 b' 0 (o.length + 1), hS.1, hS.2, by rw [wrapN (by omega)], ?_⟩
             refine .inr ⟨by rw [insAt_len ha]; omega, b', _, hb', by rw [insAt_len ha], by rw [insAt_len ha], fun j hj => ?_⟩
             rw [insAt_len ha] at hj
             show fset f (0 + (a : Int).toNat) _ j = eI (gI (insAt o a (gI l i)) j)
             rw [insAt_get ha hj]
             by_cases hja : j = a
             · subst hja
               rw [show 0 + ((j : Nat) : Int).toNat = j by omega, fset_same]; show eI (gI l i) = _; rw [if_neg (by omega), if_pos rfl]
             · rw [fset_ne (by omega), hf j hj]
               congr 1
               by_cases hj2 : j < a
               · rw [if_neg (by omega), if_pos hj2, gI_append (by omega)]
               · rw [if_pos (by omega), if_neg hj2, if_neg hja]
           · have hra : a < o.length - r := by have := of_decide_eq_true hk; omega
             have hw1 := wrapP (i := o.length - r) (by omega) (by omega)
             conv => whnf
             rw [hw1]
             refine ⟨rfl, ⟨by omega, by omega⟩, ?_⟩; conv => whnf
             refine ldV (v := eI (gI o (o.length - r - 1))) (upd_same ..) rfl (by omega) (by rw [hf _ (by omega), if_neg (by omega), gI_append (by omega)]; congr 2; omega) ?_; conv => whnf
             refine ⟨rfl, ⟨by omega, by omega⟩, ?_⟩; conv => whnf
             refine stV (upd_same ..) rfl (by omega) (hf _ (by omega)) (by rfl) ?_; conv => whnf
             refine ⟨rfl, ?_⟩; conv => whnf
             rw [upd_upd, hw1]
             refine nx (by omega) ⟨by rw [show o.length - (r + 1) = o.length - r - 1 by omega], _, rfl, fun j hj => ?_⟩
             by_cases hj2 : j = o.length - r
             · subst hj2
               rw [show 0 + ((o.length - r : Nat) : Int).toNat = o.length - r by omega, fset_same]; show eI (gI o (o.length - r - 1)) = _; rw [if_pos (by omega)]
             · rw [fset_ne (by omega), hf j hj]
               congr 1
               by_cases hj3 : o.length - r < j
               · rw [if_pos hj3, if_pos (by omega)]
               · rw [if_neg hj3, if_neg (by omega)]
set_option maxHeartbeats 1000000 in
theorem rorder_S (l : List Promo) (codes : List Str) (hl : l.length ≤ 1000) (hc : Sm codes.length) (st : St) : S P 68 [arrOf 15 ePromo l, eStrs codes] st fun v st' => (∃ o : List Int, o.Perm (places l codes l.length) ∧ o.Pairwise (PrOrd l) ∧ v = eInts o) ∧ st' = st := by
 refine S.post (post := fun v st' => ∃ o : List Int, o.Perm (places l codes l.length) ∧ o.Pairwise (PrOrd l) ∧ ColL 3 1 eI o st v st') ?_ (fun v st' ⟨o, h1, h2, h3⟩ => ⟨_, st, ⟨⟨o, h1, h2, rfl⟩, rfl⟩, h3.shift⟩)
 refine S_of_X [] good mixed Tryz.func68 (by rfl) rfl rfl rfl ?_; conv => whnf
 refine lp l.length [0, 1, 5, 6] (fun i vs s => ∃ o sv, o.Perm (places l codes i) ∧ o.Pairwise (PrOrd l) ∧ vs = [arrOf 15 ePromo l, eStrs codes, sv, eI i] ∧ ColL 3 1 eI o st sv s) ?_ ?_
 · conv => whnf
   exact ⟨[], .emp, .refl _, .nil, rfl, ColL.start _ _ _ _⟩
 · rintro i vs st' hi ⟨o, sv, hp, hs, rfl, hc0⟩
   conv => whnf
   cases h : decide ((i : Int) < (l.length : Int))
   · obtain rfl := stop_at h hi
     conv => whnf
     exact ⟨o, hp, hs, hc0⟩
   · have hi' := go_on h
     have hol : o.length ≤ i := by rw [hp.length_eq]; exact places_len ..
     have hom : ∀ {k : Nat}, k < o.length → 0 ≤ gI o k ∧ (gI o k).toNat < i := fun hk => perm_get hp (fun x hx => places_lt hx) hk
     have hps := places_succ l codes i
     have n1 := rhas_S codes (l.getD (i : Int).toNat default).code hc st'
     have ea : asked codes (l.getD i default) = (!(!((l.getD (i : Int).toNat default).code.toList == (⟨#[]⟩ : Str).toList)) || codes.any fun y => y.toList == (l.getD (i : Int).toNat default).code.toList) := by
       rw [Bool.not_not]; unfold asked isNil; congr 1; congr 1; funext c; exact Bool.beq_comm
     have skip : asked codes (l.getD i default) = false → o.Perm (places l codes (i + 1)) := fun h => by rw [hps, if_neg (by rw [h]; simp), List.append_nil]; exact hp
     have hB : asked codes (l.getD i default) = true → ∀ a, a ≤ o.length → (∀ k, a ≤ k → k < o.length → aheadB (prAt l i) (prAt l (gI o k)) = true) → (a = 0 ∨ aheadB (prAt l i) (prAt l (gI o (a - 1))) = false) → (insAt o a (i : Int)).Perm (places l codes (i + 1)) ∧ (insAt o a (i : Int)).Pairwise (PrOrd l) := fun hask a ha hok hB => by
       refine ⟨by rw [hps, if_pos hask]; exact (insAt_perm o a _).trans (hp.append_right _), insAt_sorted hs (fun k hk hk2 => ?_) (fun k hk hk2 => ?_)⟩
       · rcases hB with hB | hB
         · omega
         · rcases Nat.lt_or_ge k (a - 1) with e | e
           · exact nahead_trans (pw_at hs e (by omega)) hB
           · rw [show k = a - 1 by omega]; exact hB
       · exact ahead_asymm (hok k hk hk2)
     rw [ea] at hB skip
     generalize (codes.any fun y => y.toList == (l.getD (i : Int).toNat default).code.toList) = b1 at n1 hB skip
     clear ea hps
     conv => whnf
     refine ⟨rfl, ⟨by omega, by omega⟩, ?_⟩; conv => whnf
     cases hn : (!((l.getD (i : Int).toNat default).code.toList == (⟨#[]⟩ : Str).toList))
     case' true =>
       rw [hn] at hB skip; conv => whnf
       refine ⟨rfl, ⟨by omega, by omega⟩, ?_⟩; conv => whnf
       refine call1 n1 ?_
       cases b1
       · conv => whnf
         refine ⟨rfl, ?_⟩; conv => whnf
         exact nx hi' ⟨o, sv, skip rfl, hs, by rw [wrapN (by omega)], hc0⟩
       replace hB := hB rfl
     case' false =>
       rw [hn] at hB
       replace hB := hB rfl
     all_goals clear skip n1
     all_goals (conv => whnf)
     all_goals
       have hc1 := hc0
       rcases hc1 with ⟨h0, hsv, hst⟩ | ⟨h0, b, g, hb, hsv, hst, hg⟩
       all_goals rw [hsv]
       all_goals (conv => whnf)
       all_goals refine lp o.length [0, 1, 5, 6, 7] (fun r vs s => (∀ k, o.length - r ≤ k → k < o.length → aheadB (prAt l i) (prAt l (gI o k)) = true) ∧ vs = [arrOf 15 ePromo l, eStrs codes, sv, eI i, eI (o.length - r : Nat)] ∧ s = st') ?_ ?_
       all_goals first
         | (conv => whnf
            exact ⟨fun k h1 h2 => absurd h2 (by omega), by first | (rw [hsv]; rfl) | (rw [hsv, h0]; rfl), rfl⟩)
         | skip
       all_goals
         rintro r vs s hr ⟨hok, rfl, rfl⟩
         conv => whnf
         refine ⟨[], [], List.range 17, by kernel_rfl, ?_⟩
         cases hd : decide (((o.length - r : Nat) : Int) > 0)
         case' false =>
           have ha := Nat.sub_le o.length r
           have hS := hB (o.length - r) ha hok (.inl (by have := of_decide_eq_false hd; omega))
           generalize o.length - r = a at *
           conv => whnf
           rw [hd]; conv => whnf
         case' true =>
           have hpos : 0 < o.length - r := by have := of_decide_eq_true hd; omega
           have hw2 := wrapP hpos (by omega)
           have hoa := hom (k := o.length - r - 1) (by omega)
           first
             | (exfalso; omega)
             | (conv => whnf
                rw [hd]; conv => whnf
                refine ⟨rfl, ⟨by omega, by omega⟩, ?_⟩; conv => whnf
                rw [hsv] at hc0
                rw [hsv, hw2]
                refine ⟨rfl, ⟨by omega, by omega⟩, ?_⟩; conv => whnf
                refine ldV (v := eI (gI o (o.length - r - 1))) (by rw [hst]; exact upd_same ..) rfl (by omega) (by rw [hg _ (by omega)]; congr 2; omega) ?_; conv => whnf
                refine ⟨rfl, ⟨by omega, by omega⟩, ?_⟩; conv => whnf
                refine ⟨_, callQ (rahead_S (prAt l i) (prAt l (gI o (o.length - r - 1))) _), ?_⟩; conv => whnf
                refine fork (fun h2 => ?_) (fun h2 => ?_) <;> rw [h2]
                · conv => whnf
                  refine ⟨rfl, ?_⟩; conv => whnf
                  refine nx (by omega) ⟨fun k h3 h4 => ?_, by rw [hw2, show o.length - (r + 1) = o.length - r - 1 by omega], rfl⟩
                  rcases Nat.eq_or_lt_of_le h3 with h5 | h5
                  · rw [← h5, show o.length - (r + 1) = o.length - r - 1 by omega]; exact h2
                  · exact hok k (by omega) h4
                have ha := Nat.sub_le o.length r
                have hS := hB (o.length - r) ha hok (.inr h2)
                clear hw2 hoa
                generalize o.length - r = a at *
                conv => whnf)
         all_goals
           refine ColL.app (q := r3) (y := 0) (enc := eI) rfl rfl rfl rfl rfl rfl (by show (_ + 1) * 8 ≤ 140737488355328; omega) hc0 (fun sv' s' hc' => ?_)
           have hln : (o ++ [0]).length = o.length + 1 := by simp
           rcases hc' with ⟨h1, _⟩ | ⟨h1, b', g', hb', rfl, rfl, hg'⟩
           · omega
           generalize (o ++ [0]).length = N at *
           subst hln; conv => whnf
           have hw0 : IntKind.i64.wrap (((o.length + 1 : Nat) : Int) - 1) = ((o.length - 0 : Nat) : Int) := by rw [wrap64_of (by omega) (by omega)]; omega
           rw [hw0]
           refine lp (o.length - a) [0, 1, 5, 6, 7, 8] (fun r vs s => vs = [arrOf 15 ePromo l, eStrs codes, .own 1 b' 0 (o.length + 1), eI i, eI a, eI (o.length - r : Nat)] ∧ ∃ f, s = upd st b' ⟨3, 1, o.length + 1, f⟩ ∧ ∀ j, j < o.length + 1 → f j = eI (if o.length - r < j then gI o (j - 1) else gI (o ++ [0]) j)) ?_ ?_
           · conv => whnf
             exact ⟨rfl, g', rfl, fun j hj => by rw [if_neg (by omega)]; exact hg' j hj⟩
           · clear hg' hc0
             rintro r vs s hr ⟨rfl, f, rfl, hf⟩
             conv => whnf
             cases hk : decide (((o.length - r : Nat) : Int) > (a : Int))
             · have hra : r = o.length - a := by have := of_decide_eq_false hk; omega
               conv => whnf
               refine ⟨rfl, ⟨by omega, by omega⟩, ?_⟩; conv => whnf
               refine stV (upd_same ..) rfl (by omega) (hf _ (by omega)) (by rfl) ?_; conv => whnf
               refine ⟨rfl, ?_⟩; conv => whnf
               rw [upd_upd]
               refine nx hi' ⟨insAt o a (i : Int), .own 1 b' 0 (o.length + 1), hS.1, hS.2, by rw [wrapN (by omega)], ?_⟩
               refine .inr ⟨by rw [insAt_len ha]; omega, b', _, hb', by rw [insAt_len ha], by rw [insAt_len ha], fun j hj => ?_⟩
               rw [insAt_len ha] at hj
               show fset f (0 + (a : Int).toNat) _ j = eI (gI (insAt o a (i : Int)) j)
               rw [insAt_get ha hj]
               by_cases hja : j = a
               · subst hja
                 rw [show 0 + ((j : Nat) : Int).toNat = j by omega, fset_same]; show eI (i : Int) = _; rw [if_neg (by omega), if_pos rfl]
               · rw [fset_ne (by omega), hf j hj]
                 congr 1
                 by_cases hj2 : j < a
                 · rw [if_neg (by omega), if_pos hj2, gI_append (by omega)]
                 · rw [if_pos (by omega), if_neg hj2, if_neg hja]
             · have hra : a < o.length - r := by have := of_decide_eq_true hk; omega
               have hw1 := wrapP (i := o.length - r) (by omega) (by omega)
               conv => whnf
               rw [hw1]
               refine ⟨rfl, ⟨by omega, by omega⟩, ?_⟩; conv => whnf
               refine ldV (v := eI (gI o (o.length - r - 1))) (upd_same ..) rfl (by omega) (by rw [hf _ (by omega), if_neg (by omega), gI_append (by omega)]; congr 2; omega) ?_; conv => whnf
               refine ⟨rfl, ⟨by omega, by omega⟩, ?_⟩; conv => whnf
               refine stV (upd_same ..) rfl (by omega) (hf _ (by omega)) (by rfl) ?_; conv => whnf
               refine ⟨rfl, ?_⟩; conv => whnf
               rw [upd_upd, hw1]
               refine nx (by omega) ⟨by rw [show o.length - (r + 1) = o.length - r - 1 by omega], _, rfl, fun j hj => ?_⟩
               by_cases hj2 : j = o.length - r
               · subst hj2
                 rw [show 0 + ((o.length - r : Nat) : Int).toNat = o.length - r by omega, fset_same]; show eI (gI o (o.length - r - 1)) = _; rw [if_pos (by omega)]
               · rw [fset_ne (by omega), hf j hj]
                 congr 1
                 by_cases hj3 : o.length - r < j
                 · rw [if_pos hj3, if_pos (by omega)]
                 · rw [if_neg hj3, if_neg (by omega)]
theorem rright_S (x : Int) (st : St) : S P 233 [eI x] st fun v st' => v = .bool (rightB x) ∧ st' = st := by
 refine S_of_X [] good mixed Tryz.func233 (by rfl) rfl rfl rfl ?_; conv => whnf
 unfold rightB
 cases h : decide (0 ≤ x)
 · conv => whnf
   exact ⟨rfl, rfl⟩
 · conv => whnf
   exact ⟨rfl, rfl⟩
theorem and1 {v : Int} (h0 : 0 ≤ v) (h1 : v ≤ 9223372036854775807) : IntKind.i64.wrap ((BitVec.ofInt IntKind.i64.bits v &&& BitVec.ofInt IntKind.i64.bits 1).toNat : Int) = v % 2 := by
 show IntKind.i64.wrap ((BitVec.ofInt 64 v &&& BitVec.ofInt 64 1).toNat : Int) = v % 2
 obtain ⟨n, rfl⟩ := Int.eq_ofNat_of_zero_le h0
 have e1 : (BitVec.ofInt 64 ((n : Nat) : Int)).toNat = n := by rw [BitVec.ofInt_natCast, BitVec.toNat_ofNat, Nat.mod_eq_of_lt (by omega)]
 have e2 : (BitVec.ofInt 64 1).toNat = 1 := by decide
 rw [BitVec.toNat_and, e1, e2, Nat.and_one_is_mod, wrap64_of (by omega) (by omega)]; omega
theorem ediv_of {d q r Y : Int} (h : Y = d * q + r) (h0 : 0 ≤ r) (h1 : r < d) : Y / d = q ∧ Y % d = r := by
 have := (Int.ediv_emod_unique (a := Y) (b := d) (r := r) (q := q) (by omega)).2 ⟨by omega, h0, h1⟩
 exact this
def topN (num : Int) (j : Nat) : Int := num / 2 ^ (63 - j)
theorem topN_step {num : Int} (h : 0 ≤ num) {j : Nat} (hj : j < 63) : topN num (j + 1) = 2 * topN num j + topN num (j + 1) % 2 := by
 have e : topN num j = topN num (j + 1) / 2 := by
   unfold topN
   rw [show 63 - j = (63 - (j + 1)) + 1 by omega, Int.pow_succ, Int.ediv_ediv_of_nonneg (Int.pow_nonneg (by omega))]
 omega
theorem topN_nonneg {num : Int} (h : 0 ≤ num) (j : Nat) : 0 ≤ topN num j := Int.ediv_nonneg h (Int.pow_nonneg (by omega))
theorem topN_le {num : Int} (h : 0 ≤ num) (j : Nat) : topN num j ≤ num := Int.ediv_le_self _ h
theorem topN_0 {num : Int} (h : 0 ≤ num) (h1 : num ≤ 100000000000000) : topN num 0 = 0 := Int.ediv_eq_zero_of_lt h (by show num < 2 ^ 63; omega)
theorem topN_63 (num : Int) : topN num 63 = num := by unfold topN; simp
def partsV (x num den : Int) : AV := if x * num / den > 100000000000000 then .tuple [eI 0, eI 0, .bool false] else .tuple [eI (x * num / den), eI (x * num % den), .bool true]
set_option maxHeartbeats 1000000 in
theorem rparts01_S (x num den : Int) (hx : 0 ≤ x) (hx1 : x ≤ 100000000000000) (hn : 0 ≤ num) (hn1 : num ≤ 100000000000000) (hd : 0 < den) (hd1 : den ≤ 100000000000000) (st : St) :
   S P 234 [eI x, eI num, eI den] st fun v st' => v = partsV x num den ∧ st' = st := by
 refine S_of_X [] good mixed Tryz.func234 (by rfl) rfl rfl rfl ?_; conv => whnf
 refine lp 63 [0, 1, 2, 9, 10, 11] (fun j vs s => (x * topN num j / den ≤ 100000000000000) ∧ vs = [eI x, eI num, eI den, eI (x * topN num j / den), eI (x * topN num j % den), eI (62 - (j : Int))] ∧ s = st) ?_ ?_
 · conv => whnf
   refine ⟨?_, ?_, rfl⟩
   · rw [topN_0 hn hn1, Int.mul_zero, Int.zero_ediv]; omega
   · rw [topN_0 hn hn1, Int.mul_zero, Int.zero_ediv, Int.zero_emod]; rfl
 · rintro j vs s hj ⟨hq, rfl, rfl⟩
   conv => whnf
   have hY0 : 0 ≤ x * topN num j := Int.mul_nonneg hx (topN_nonneg hn j)
   have hA0 : 0 ≤ x * topN num j / den := Int.ediv_nonneg hY0 (by omega)
   have hB0 := Int.emod_nonneg (x * topN num j) (show den ≠ 0 by omega)
   have hB1 := Int.emod_lt_of_pos (x * topN num j) hd
   have hY := Int.mul_ediv_add_emod (x * topN num j) den
   cases h : decide (62 - (j : Int) ≥ 0)
   · have hj63 : j = 63 := by have := of_decide_eq_false h; omega
     subst hj63
     rw [topN_63] at hq; conv => whnf
     refine ⟨?_, rfl⟩
     unfold partsV
     rw [if_neg (by omega), topN_63]; rfl
   · have hj' : j < 63 := by have := of_decide_eq_true h; omega
     have hC0 : 0 ≤ x / den := Int.ediv_nonneg hx (by omega)
     have hC1 : x / den ≤ x := Int.ediv_le_self _ hx
     have hD0 := Int.emod_nonneg x (show den ≠ 0 by omega)
     have hD1 := Int.emod_lt_of_pos x hd
     have hX := Int.mul_ediv_add_emod x den
     have hst := topN_step hn hj'
     have hN0 := topN_nonneg hn (j + 1)
     have hN1 := topN_le hn (j + 1)
     have hbit : x * topN num (j + 1) = 2 * (x * topN num j) + x * (topN num (j + 1) % 2) := by
       conv => lhs; rw [hst]
       rw [Int.mul_add, Int.mul_left_comm]
     have hshr : Int.fdiv num (2 ^ (min (IntKind.u64.wrap (62 - (j : Int))).toNat IntKind.i64.bits)) = topN num (j + 1) := by
       show Int.fdiv num (2 ^ (min (IntKind.u64.wrap (62 - (j : Int))).toNat 64)) = _
       rw [wrapU_of (by omega) (by omega)]
       unfold topN
       rw [show min (62 - (j : Int)).toNat 64 = 63 - (j + 1) by omega, Int.fdiv_eq_ediv_of_nonneg _ (Int.pow_nonneg (by omega))]
     have hbig : x * topN num (j + 1) / den > 100000000000000 → partsV x num den = .tuple [eI 0, eI 0, .bool false] := fun hb => by
       unfold partsV
       refine if_pos ?_
       have : x * topN num (j + 1) / den ≤ x * num / den := Int.ediv_le_ediv hd (Int.mul_le_mul_of_nonneg_left hN1 hx)
       omega
     have hand := and1 (v := topN num (j + 1)) hN0 (by omega)
     have htd : x.tdiv den = x / den := Int.tdiv_eq_ediv_of_nonneg hx
     have htm : x.tmod den = x % den := Int.tmod_eq_emod_of_nonneg hx
     generalize hAe : x * topN num j / den = A at *
     generalize hBe : x * topN num j % den = B at *
     generalize hYe : x * topN num j = Y at *
     generalize hCe : x / den = C at *
     generalize hDe : x % den = D at *
     have w1 : IntKind.i64.wrap (2 * A) = 2 * A := wrap64_of (by omega) (by omega)
     have w2 : IntKind.i64.wrap (2 * B) = 2 * B := wrap64_of (by omega) (by omega)
     conv => whnf
     rw [w1, w2]
     -- doubled
     refine fork (fun h1 => ?_) (fun h1 => ?_) <;> rw [h1]
     case' refine_1 =>
       have := of_decide_eq_true h1
       have w3 : IntKind.i64.wrap (2 * A + 1) = 2 * A + 1 := wrap64_of (by omega) (by omega)
       have w4 : IntKind.i64.wrap (2 * B - den) = 2 * B - den := wrap64_of (by omega) (by omega)
       have hq1 : 2 * Y = den * (2 * A + 1) + (2 * B - den) := by rw [Int.mul_add, Int.mul_left_comm, Int.mul_one]; omega
       have hq2 : 0 ≤ 2 * A + 1 ∧ 2 * A + 1 ≤ 200000000000001 := by omega
       have hr1 : 0 ≤ 2 * B - den ∧ 2 * B - den < den := by omega
       conv => whnf
       rw [w3, w4]
       generalize 2 * A + 1 = q1 at *
       generalize 2 * B - den = r1 at *
     case' refine_2 =>
       have := of_decide_eq_false h1
       have hq1 : 2 * Y = den * (2 * A) + (2 * B) := by rw [Int.mul_left_comm]; omega
       have hq2 : 0 ≤ 2 * A ∧ 2 * A ≤ 200000000000001 := by omega
       have hr1 : 0 ≤ 2 * B ∧ 2 * B < den := by omega
       conv => whnf
       generalize 2 * A = q1 at *
       generalize 2 * B = r1 at *
     all_goals clear w1 w2 hY hA0 hB0 hB1 hq hAe hBe
     all_goals (rw [decide_eq_false (show ¬ IntKind.u64.wrap (62 - (j : Int)) < 0 by rw [wrapU_of (by omega) (by omega)]; omega)])
     all_goals (conv => whnf)
     all_goals rw [hshr, hand]
     all_goals refine fork (fun h2 => ?_) (fun h2 => ?_) <;> rw [h2]
     -- a bit of num
     case' refine_2.true.refine_1.refine_1 | refine_2.true.refine_2.refine_1 =>
       have hb1 : topN num (j + 1) % 2 = 1 := eq_of_beq h2
       have w5 : IntKind.i64.wrap C = C := wrap64_of (by omega) (by omega)
       have w6 : IntKind.i64.wrap (q1 + C) = q1 + C := wrap64_of (by omega) (by omega)
       have w7 : IntKind.i64.wrap (r1 + D) = r1 + D := wrap64_of (by omega) (by omega)
       have hd0 : decide (den = 0) = false := decide_eq_false (by omega)
       rw [hb1, Int.mul_one] at hbit; conv => whnf
       refine ⟨[], [], List.range 12, by kernel_rfl, ?_⟩; conv => whnf
       rw [hd0]; conv => whnf
       rw [hd0]; conv => whnf
       rw [htd, htm, w5, w6, w7]
       refine fork (fun h3 => ?_) (fun h3 => ?_) <;> rw [h3]
       case' refine_1 =>
         have := of_decide_eq_true h3
         have w8 : IntKind.i64.wrap (q1 + C + 1) = q1 + C + 1 := wrap64_of (by omega) (by omega)
         have w9 : IntKind.i64.wrap (r1 + D - den) = r1 + D - den := wrap64_of (by omega) (by omega)
         obtain ⟨e1, e2⟩ := ediv_of (Y := x * topN num (j + 1)) (d := den) (q := q1 + C + 1) (r := r1 + D - den) (by rw [hbit, Int.mul_add, Int.mul_add, Int.mul_one]; omega) (by omega) (by omega)
         conv => whnf
         rw [w8, w9, ← e1, ← e2]
       case' refine_2 =>
         have := of_decide_eq_false h3
         obtain ⟨e1, e2⟩ := ediv_of (Y := x * topN num (j + 1)) (d := den) (q := q1 + C) (r := r1 + D) (by rw [hbit, Int.mul_add]; omega) (by omega) (by omega)
         conv => whnf
         rw [← e1, ← e2]
     case' refine_2.true.refine_1.refine_2 | refine_2.true.refine_2.refine_2 =>
       have hb1 : topN num (j + 1) % 2 = 0 := by have := ne_of_beq_false h2; omega
       rw [hb1, Int.mul_zero, Int.add_zero] at hbit
       obtain ⟨e1, e2⟩ := ediv_of (Y := x * topN num (j + 1)) (d := den) (q := q1) (r := r1) (by rw [hbit]; omega) (by omega) (by omega)
       conv => whnf
       rw [← e1, ← e2]
     all_goals refine fork (fun h4 => ?_) (fun h4 => ?_) <;> rw [h4]
     all_goals (conv => whnf)
     all_goals first
       | exact ⟨by rw [hbig (of_decide_eq_true h4)]; rfl, rfl⟩
       | (refine ⟨rfl, ?_⟩; conv => whnf
          have w10 : IntKind.i64.wrap (62 - (j : Int) - 1) = 62 - ((j + 1 : Nat) : Int) := by rw [wrap64_of (by omega) (by omega)]; omega
          exact nx hj' ⟨by have := of_decide_eq_false h4; omega, by rw [w10], rfl⟩)
theorem rtimes_S (x num den round : Int) (st : St) : S P 180 [eI x, eI num, eI den, eI round] st fun v st' => v = .tuple [eI (times x num den round).1, eI (times x num den round).2] ∧ st' = st := by
 refine S_of_X [] good mixed Tryz.func180 (by rfl) rfl rfl rfl ?_
 by_cases hok : (rightB x && rightB num && rightB den && den != 0 && decide (0 ≤ round) && decide (round < 3)) = false
 · rw [show times x num den round = (0, 2) from if_pos hok]
   have n1 := rright_S x st
   have n2 := rright_S num st
   have hok' : ¬ (rightB x = true ∧ rightB num = true ∧ 1 ≤ den ∧ den ≤ 100000000000000 ∧ 0 ≤ round ∧ round ≤ 2) := fun ⟨h1, h2, h3, h4, h5, h6⟩ => by
     rw [h1, h2, (rightB_iff den).2 ⟨by omega, h4⟩, decide_eq_true h5, decide_eq_true (show round < 3 by omega), bne_iff_ne.2 (show den ≠ 0 by omega)] at hok; cases hok
   repeat' ((conv => whnf); first | refine call1 n1 ?_ | refine call1 n2 ?_ | (refine fork (fun h => ?_) (fun h => ?_) <;> rw [h]))
   all_goals (conv => whnf)
   all_goals first
     | exact ⟨rfl, rfl⟩
     | (exfalso
        simp only [Bool.not_eq_false', decide_eq_false_iff_not] at *
        exact hok' ⟨by assumption, by assumption, by omega, by omega, by omega, by omega⟩)
 · rw [Bool.not_eq_false] at hok
   have ht : times x num den round = if x * num / den > 100000000000000 then (0, 5) else if roundQ (x * num / den) (x * num % den) den round > 100000000000000 then (0, 5) else (roundQ (x * num / den) (x * num % den) den round, 0) := if_neg (by rw [hok]; simp)
   simp only [Bool.and_eq_true, bne_iff_ne, ne_eq, decide_eq_true_eq] at hok
   obtain ⟨⟨⟨⟨⟨x0, n0⟩, d0⟩, d2⟩, r0⟩, r1⟩ := hok
   have x1 := (rightB_iff x).1 x0
   have n1 := (rightB_iff num).1 n0
   have d1 := (rightB_iff den).1 d0
   have e1 : decide (den < 1) = false := decide_eq_false (by omega)
   have e2 : decide (den > 100000000000000) = false := decide_eq_false (by omega)
   have e3 : decide (round < 0) = false := decide_eq_false (by omega)
   have e4 : decide (round > 2) = false := decide_eq_false (by omega)
   have hp := rparts01_S x num den (by omega) (by omega) (by omega) (by omega) (by omega) (by omega) st
   have hN : 0 ≤ x * num := Int.mul_nonneg x1.1 n1.1
   have hq0 : 0 ≤ x * num / den := Int.ediv_nonneg hN (by omega)
   have hm0 := Int.emod_nonneg (x * num) d2
   have hm1 := Int.emod_lt_of_pos (x * num) (show 0 < den by omega)
   have m1 := rright_S x st
   have m2 := rright_S num st
   rw [x0] at m1
   rw [n0] at m2
   unfold partsV at hp
   rw [ht]
   clear ht
   generalize x * num / den = q at *
   generalize x * num % den = r at *
   have bq : 0 ≤ roundQ q r den round := by unfold roundQ; repeat' split <;> omega
   by_cases hbig : q > 100000000000000
   · rw [if_pos hbig] at hp ⊢
     repeat' ((conv => whnf); first | refine call1 m1 ?_ | refine call1 m2 ?_ | refine call1 hp ?_ | rw [e1] | rw [e2] | rw [e3] | rw [e4])
     conv => whnf
     exact ⟨rfl, rfl⟩
   · rw [if_neg hbig] at hp ⊢
     have w1 : IntKind.i64.wrap (2 * r) = 2 * r := wrap64_of (by omega) (by omega)
     have w2 : IntKind.i64.wrap (q + 1) = q + 1 := wrap64_of (by omega) (by omega)
     have w3 : q.tmod 2 = q % 2 := Int.tmod_eq_emod_of_nonneg hq0
     have m3 := rright_S q st
     have m4 := rright_S (q + 1) st
     rcases (by omega : round = 0 ∨ round = 1 ∨ round = 2) with rfl | rfl | rfl
     all_goals repeat' ((conv => whnf); first | refine call1 m1 ?_ | refine call1 m2 ?_ | refine call1 m3 ?_ | refine call1 m4 ?_ | refine call1 hp ?_ | rw [e1] | rw [e2] | rw [e3] | rw [e4] | rw [w1] | rw [w2] | rw [w3] | (refine fork (fun h => ?_) (fun h => ?_) <;> rw [h]))
     all_goals (conv => whnf)
     all_goals (refine ⟨?_, rfl⟩; show AV.tuple [AV.int .i64 _, AV.int .i64 _] = AV.tuple [AV.int .i64 _, AV.int .i64 _])
     all_goals (simp only [roundQ, Bool.not_eq_true', Bool.not_eq_false', decide_eq_true_eq, decide_eq_false_iff_not, beq_iff_eq, beq_eq_false_iff_ne, ne_eq, rightB, Bool.and_eq_true, Bool.and_eq_false_iff, if_true, if_false, Int.reduceEq] at *)
     all_goals (repeat' split)
     all_goals first | rfl | (exfalso; omega)
end Go.Proofs.YtnekegdhpjplbaaGreat
