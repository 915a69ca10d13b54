/- Part 25 of the proof: contracts of the functions that the law reaches -/
import Derived.Test.YtnekegdhpjplbaaGreatPa24
set_option maxRecDepth 100000
set_option linter.unusedVariables false
set_option linter.unusedSimpArgs false
namespace Go.Proofs.YtnekegdhpjplbaaGreat
open Go Go.Ab
attribute [local irreducible] upd del
theorem rrate01_S (x rate round : Int) (st : St) : S P 120 [eI x, eI rate, eI round] st fun v st' => v = .tuple [eI (if 0 ≤ rate ∧ rate ≤ 10000 then times x rate 10000 round else (0, 2)).1, eI (if 0 ≤ rate ∧ rate ≤ 10000 then times x rate 10000 round else (0, 2)).2] ∧ st' = st := by
 refine S_of_X [] good mixed Tryz.func120 (by rfl) rfl rfl rfl ?_
 repeat' ((conv => whnf); first | refine call1 (rtimes_S _ _ _ _ st) ?_ | (refine fork (fun h => ?_) (fun h => ?_) <;> rw [h]))
 all_goals (conv => whnf)
 all_goals (refine ⟨?_, rfl⟩; simp only [decide_eq_true_eq, decide_eq_false_iff_not] at *)
 · rw [if_neg (by omega)]; rfl
 · rw [if_neg (by omega)]; rfl
 · rw [if_pos (by omega)]; rfl
theorem rhalf_S (x rate : Int) (st : St) : S P 71 [eI x, eI rate] st fun v st' => v = eI (half x rate) ∧ st' = st := by
 refine S_of_X [] good mixed Tryz.func71 (by rfl) rfl rfl rfl ?_; conv => whnf
 refine call1 (rrate01_S x rate 1 st) ?_; conv => whnf
 exact ⟨rfl, rfl⟩
theorem rsum_S (l : List Int) (hl : l.length ≤ 1000000) (h0 : ∀ x ∈ l, 0 ≤ x) (hs : sumI l ≤ 100000000000000000) (st : St) : S P 115 [eInts l] st fun v st' => v = eI (sumI l) ∧ st' = st := by
 refine S_of_X [] good mixed Tryz.func115 (by rfl) rfl rfl rfl ?_; conv => whnf
 refine lp l.length [0, 3, 4] (fun i vs s => vs = [eInts l, eI (sumI (l.take i)), eI i] ∧ s = st) ?_ ?_
 · conv => whnf
   exact ⟨rfl, rfl⟩
 · rintro i vs st' hi ⟨rfl, rfl⟩
   conv => whnf
   cases h : decide ((i : Int) < (l.length : Int))
   · obtain rfl := stop_at h hi
     conv => whnf
     exact ⟨by rw [List.take_length]; rfl, rfl⟩
   · have hi' := go_on h
     have e := sumI_take hi'
     have h1 := sumI_nonneg (l := l.take i) (fun x hx => h0 x (List.take_subset _ _ hx))
     have h2 := sumI_le_take h0 (i + 1)
     have h3 := h0 _ (getD_mem hi')
     have h4 : gI l i = l.getD i default := rfl
     have w : IntKind.i64.wrap (sumI (l.take i) + l.getD (i : Int).toNat default) = sumI (l.take (i + 1)) := by rw [e]; exact wrap64_of (by rw [Int.toNat_natCast]; omega) (by rw [Int.toNat_natCast]; omega)
     conv => whnf
     refine ⟨rfl, ⟨by omega, by omega⟩, ?_⟩; conv => whnf
     rw [w]
     refine ⟨rfl, ?_⟩; conv => whnf
     exact nx hi' ⟨by rw [wrapN (by omega)], rfl⟩
theorem rnets_S (us : List AUnit) (mine : List Int) (hl : mine.length ≤ 1000000) (hm : ∀ k, k < mine.length → 0 ≤ gI mine k ∧ (gI mine k).toNat < us.length) (st : St) : S P 116 [eUnits us, eInts mine] st fun v st' => v = eInts (netsAt us mine) ∧ st' = st := by
 refine S_colL (ty := 2) ?_
 refine S_of_X [] good mixed Tryz.func116 (by rfl) rfl rfl rfl ?_; conv => whnf
 refine lp mine.length [0, 1, 5, 6] (fun i vs s => ∃ sv, vs = [eUnits us, eInts mine, sv, eI i] ∧ ColL 2 1 eI (netsAt us (mine.take i)) st sv s) ?_ ?_
 · conv => whnf
   exact ⟨.emp, rfl, ColL.start _ _ _ _⟩
 · rintro i vs st' hi ⟨sv, rfl, hc⟩
   conv => whnf
   cases h : decide ((i : Int) < (mine.length : Int))
   · obtain rfl := stop_at h hi
     rw [List.take_length] at hc; conv => whnf
     exact hc
   · have hi' := go_on h
     have hx := hm i hi'
     have hlen : (netsAt us (mine.take i)).length = i := by unfold netsAt; rw [List.length_map, List.length_take]; omega
     conv => whnf
     refine ⟨rfl, ⟨by omega, by omega⟩, ?_⟩; conv => whnf
     refine ⟨rfl, ⟨by show 0 ≤ gI mine i; omega, by show gI mine i < (us.length : Int); omega⟩, ?_⟩; conv => whnf
     refine ColL.app (q := r2) (y := (gU us (gI mine i).toNat).net) rfl rfl rfl rfl rfl rfl (by show (_ + 1) * 8 ≤ 140737488355328; omega) hc (fun sv' s' hc' => ?_); conv => whnf
     refine ⟨rfl, ?_⟩; conv => whnf
     refine nx hi' ⟨sv', by rw [wrapN (by omega)], ?_⟩
     unfold netsAt at hc' ⊢
     rw [take_map hi']; exact hc'
def restL (total : Int) (ws : List Int) : List Int := (List.range ws.length).map fun k => total * gI ws k % sumI ws
theorem ord_shR {total : Int} {ws : List Int} {o : List Int} (hp : o.Perm (natsI ws.length)) (hs : o.Pairwise (ROrd (restL total ws))) : o = (shR total (sumI ws) ws).map (·.2) := by
 have e : o.map (rankO (restL total ws)) = shR total (sumI ws) ws := by
   refine List.Perm.eq_of_pairwise (le := fun a b => prior b a = false) (fun a b _ _ h1 h2 => prior_tri h2 h1) (List.pairwise_map.2 hs) (shR_sorted ..) (((hp.map _).trans ?_).trans (shR_perm ..).symm)
   unfold natsI
   rw [List.map_map]
   refine List.Perm.of_eq (List.map_congr_left fun k hk => ?_)
   have := List.mem_range.1 hk
   show (gI (restL total ws) ((k : Int).toNat), (k : Int)) = shE total (sumI ws) ws k
   unfold restL
   rw [Int.toNat_natCast, gI_map_range _ this]; rfl
 rw [← e, List.map_map]
 conv => lhs; rw [← List.map_id o]
 rfl
theorem largestR {total : Int} {ws : List Int} (h : Weights total ws) : largestB total ws = bumped ((List.range ws.length).map (shQ total (sumI ws) ws)) ((shR total (sumI ws) ws).take (shLeft total (sumI ws) ws ws.length).toNat) ∧ 0 ≤ shLeft total (sumI ws) ws ws.length ∧ shLeft total (sumI ws) ws ws.length ≤ ws.length := by
 by_cases hS : sumI ws = 0
 · have ht := h.none hS
   have hq : ∀ k, shQ total (sumI ws) ws k = 0 := fun k => by unfold shQ; rw [ht, Int.zero_mul, Int.zero_ediv]
   have hl : shLeft total (sumI ws) ws ws.length = 0 := by
     unfold shLeft
     rw [show (List.range ws.length).map (shQ total (sumI ws) ws) = List.replicate ws.length 0 from by
       rw [List.eq_replicate_iff]
       exact ⟨by simp, fun b hb => by obtain ⟨k, _, rfl⟩ := List.mem_map.1 hb; exact hq k⟩, ht]
     have : ∀ n, sumI (List.replicate n 0) = 0 := fun n => by
       induction n with
       | zero => rfl
       | succ n ih => rw [List.replicate_succ', sumI_append, ih]; rfl
     rw [this]; rfl
   refine ⟨?_, by omega, by omega⟩
   rw [hl]
   unfold largestB
   rw [if_pos hS]
   show ws.map (fun _ => 0) = bumped _ []
   unfold bumped
   refine List.ext_getElem (by simp) fun k h1 h2 => ?_
   simp [hq]
 · have hS' : 0 < sumI ws := by have := sumI_nonneg h.w0; omega
   refine ⟨?_, left_range h hS'⟩
   unfold largestB; rw [if_neg hS]
set_option maxHeartbeats 1000000 in
theorem rlargest_S (total : Int) (ws : List Int) (h : Weights total ws) (st : St) : S P 179 [eI total, eInts ws] st fun v st' => v = .tuple [eInts (largestB total ws), eI 0] ∧ st' = st := by
 obtain ⟨hR, hl0, hl1⟩ := largestR h
 have hlen := h.len
 have hS0 := sumI_nonneg h.w0
 have hSm := h.sum
 have ht0 := h.t0
 have ht1 := h.t1
 refine S.post (post := fun v st' => ∃ (bo : Nat) (f : Nat → AV), st bo = none ∧ v = .tuple [.own 1 bo 0 ws.length, eI 0] ∧ st' = upd st bo ⟨2, 1, ws.length, f⟩ ∧ ∀ k, k < ws.length → f k = eI (gI (largestB total ws) k)) ?_
   (fun v st' ⟨bo, f, hb, hv, hs, hf⟩ => ⟨_, st, ⟨rfl, rfl⟩, by
     subst hv; subst hs
     have hL : (largestB total ws).length = ws.length := by rw [hR, bumped_len]; simp
     have e : eInts (largestB total ws) = .arr 1 ws.length (fun k => eI (gI (largestB total ws) k)) := by unfold eInts arrOf; rw [hL]
     rw [e]
     have h2 := shift_own (st := upd st bo ⟨2, 1, ws.length, f⟩) (e := 1) (b := bo) (n := ws.length) (f := fun k => eI (gI (largestB total ws) k)) (upd_same ..) rfl (Nat.le_refl _) hf
     rw [del_upd hb] at h2
     exact Shift.tuple (Shift.cons h2 (Shift.keep _ _)) rfl⟩)
 refine S_of_X [] good mixed Tryz.func179 (by rfl) rfl rfl rfl ?_; conv => whnf
 refine call1 (rright_S total st) ?_
 rw [(rightB_iff total).2 ⟨ht0, ht1⟩]; conv => whnf
 rw [decide_eq_false (show ¬ (ws.length : Int) > 100000 by omega)]; conv => whnf
 refine lp ws.length [0, 1, 6] (fun i vs s => vs = [eI total, eInts ws, eI i] ∧ s = st) ?_ ?_
 · conv => whnf
   exact ⟨rfl, rfl⟩
 · rintro i vs st' hi ⟨rfl, rfl⟩
   conv => whnf
   cases hd : decide ((i : Int) < (ws.length : Int))
   case true =>
     have hi' := go_on hd
     have hm := getD_mem hi'
     conv => whnf
     refine ⟨rfl, ⟨by omega, by omega⟩, ?_⟩; conv => whnf
     refine call1 (rright_S _ _) ?_
     rw [(rightB_iff (ws.getD (i : Int).toNat default)).2 ⟨h.w0 _ hm, Int.le_trans (sumI_mem_le h.w0 hm) hSm⟩]; conv => whnf
     refine ⟨rfl, ?_⟩; conv => whnf
     exact nx hi' ⟨by rw [wrapN (by omega)], rfl⟩
   clear hd
   conv => whnf
   refine lp ws.length [0, 1, 7, 8] (fun i vs s => vs = [eI total, eInts ws, eI (sumI (ws.take i)), eI i] ∧ s = st') ?_ ?_
   · conv => whnf
     exact ⟨rfl, rfl⟩
   · clear hi
     rintro i vs st hi ⟨rfl, rfl⟩
     conv => whnf
     cases hd : decide ((i : Int) < (ws.length : Int))
     case true =>
       have hi' := go_on hd
       have e := sumI_take hi'
       have h1 := sumI_nonneg (l := ws.take i) (fun x hx => h.w0 x (List.take_subset _ _ hx))
       have h2 := sumI_le_take h.w0 (i + 1)
       have h3 := h.w0 _ (getD_mem hi')
       have w : IntKind.i64.wrap (sumI (ws.take i) + ws.getD (i : Int).toNat default) = sumI (ws.take (i + 1)) := by rw [e]; exact wrap64_of (by rw [Int.toNat_natCast]; omega) (by rw [Int.toNat_natCast]; show sumI (ws.take i) + gI ws i ≤ _; omega)
       conv => whnf
       refine ⟨rfl, ⟨by omega, by omega⟩, ?_⟩; conv => whnf
       rw [w, decide_eq_false (show ¬ sumI (ws.take (i + 1)) > 100000000000000 by omega)]; conv => whnf
       refine ⟨rfl, ?_⟩; conv => whnf
       exact nx hi' ⟨by rw [wrapN (by omega)], rfl⟩
     obtain rfl := stop_at hd hi
     rw [List.take_length]
     have hz : (sumI ws == 0) = true → (total != 0) = false := fun e => by rw [h.none (eq_of_beq e)]; rfl
     cases h0 : (sumI ws == 0)
     case' true =>
       conv => whnf
       rw [h0]; conv => whnf
       rw [hz h0]
     case' false =>
       conv => whnf
       rw [h0]
     all_goals (conv => whnf)
     all_goals refine mkO rfl rfl rfl (by show 8 * ws.length ≤ _; omega) (by omega) (by rfl) (fun b1 hb1 => ?_)
     all_goals (conv => whnf)
     all_goals refine mkO rfl rfl rfl (by show 8 * ws.length ≤ _; omega) (by omega) (by rfl) (fun b2 hb2 => ?_)
     all_goals (conv => whnf)
     all_goals
       have hne : b1 ≠ b2 := fun e => by subst e; rw [upd_same] at hb2; cases hb2
       have hb2' : st b2 = none := by rw [upd_ne hne.symm] at hb2; exact hb2
       refine lp ws.length [0, 1, 7, 9, 10, 11, 12] (fun i vs s => vs = [eI total, eInts ws, eI (sumI ws), .own 1 b1 0 ws.length, .own 1 b2 0 ws.length, eI (shLeft total (sumI ws) ws i), eI i] ∧ (sumI ws = 0 → i = 0) ∧ ∃ f1 f2, s = upd (upd st b1 ⟨2, 1, ws.length, f1⟩) b2 ⟨2, 1, ws.length, f2⟩ ∧ ∀ k, k < ws.length → f1 k = eI (if k < i then shQ total (sumI ws) ws k else 0) ∧ f2 k = eI (if k < i then total * gI ws k % sumI ws else 0)) ?_ ?_
       · conv => whnf
         exact ⟨by rw [show shLeft total (sumI ws) ws 0 = total from by unfold shLeft; simp [sumI]]; rfl, fun _ => rfl, _, _, rfl, fun k hk => ⟨by rw [if_neg (by omega)]; rfl, by rw [if_neg (by omega)]; rfl⟩⟩
       · rintro i vs s hi ⟨rfl, hSi, f1, f2, rfl, hf⟩
         conv => whnf
         have fin : (∀ k, k < ws.length → f1 k = eI (shQ total (sumI ws) ws k) ∧ f2 k = eI (total * gI ws k % sumI ws)) → shLeft total (sumI ws) ws i = shLeft total (sumI ws) ws ws.length → True := fun _ _ => trivial
         have hend : (i = ws.length ∨ sumI ws = 0) → (∀ k, k < ws.length → f1 k = eI (shQ total (sumI ws) ws k) ∧ f2 k = eI (total * gI ws k % sumI ws)) ∧ shLeft total (sumI ws) ws i = shLeft total (sumI ws) ws ws.length := fun hE => by
           rcases hE with hE | hE
           · subst hE
             exact ⟨fun k hk => by have := hf k hk; rwa [if_pos hk, if_pos hk] at this, rfl⟩
           · have hi0 := hSi hE
             have ht := h.none hE
             have hq : ∀ k, shQ total (sumI ws) ws k = 0 := fun k => by unfold shQ; rw [ht, Int.zero_mul, Int.zero_ediv]
             have hz : ∀ n, sumI ((List.range n).map (shQ total (sumI ws) ws)) = 0 := fun n => by
               induction n with
               | zero => rfl
               | succ n ih => rw [sumI_map_range, ih, hq]; rfl
             refine ⟨fun k hk => ?_, ?_⟩
             · have := hf k hk
               rw [if_neg (by omega), if_neg (by omega)] at this
               rw [hq, ht, Int.zero_mul, Int.zero_emod]; exact this
             · unfold shLeft; rw [hz, hz]
         cases hd : decide ((i : Int) < (ws.length : Int))
         case' false =>
           have hE := hend (.inl (stop_at hd hi))
           conv => whnf
         case' true =>
           have hi' := go_on hd
           conv => whnf
           cases hp : decide (sumI ws > 0)
           case' false =>
             have hE := hend (.inr (by have := of_decide_eq_false hp; omega))
             conv => whnf
           case' true =>
             have hS : 0 < sumI ws := of_decide_eq_true hp
             have hm : gI ws i ∈ ws := getD_mem hi'
             have hqb := sumQ_bound h hS (show i ≤ ws.length by omega)
             have hqb' := sumQ_bound h hS (show i + 1 ≤ ws.length by omega)
             have hsr := sumI_map_range (shQ total (sumI ws) ws) i
             have hq := shQ_bound h hS hi'
             have hpt := rparts01_S total (gI ws i) (sumI ws) ht0 ht1 (h.w0 _ hm) (Int.le_trans (sumI_mem_le h.w0 hm) hSm) hS hSm (upd (upd st b1 ⟨2, 1, ws.length, f1⟩) b2 ⟨2, 1, ws.length, f2⟩)
             unfold partsV at hpt
             rw [if_neg (by have : total * gI ws i / sumI ws ≤ total := hq.2; omega)] at hpt; conv => whnf
             refine ⟨rfl, ⟨by omega, by omega⟩, ?_⟩; conv => whnf
             refine call1 hpt ?_; conv => whnf
             refine ⟨rfl, ⟨by omega, by omega⟩, ?_⟩; conv => whnf
             refine stV (by rw [upd_ne hne]; exact upd_same ..) rfl (by omega) (hf _ (by omega)).1 (by rfl) ?_
             rw [upd_comm hne.symm, upd_twice]; conv => whnf
             refine ⟨rfl, ⟨by omega, by omega⟩, ?_⟩; conv => whnf
             refine stV (upd_same ..) rfl (by omega) (hf _ (by omega)).2 (by rfl) ?_
             rw [upd_twice]; conv => whnf
             refine ⟨rfl, ⟨by omega, by omega⟩, ?_⟩; conv => whnf
             refine ldV (by rw [upd_ne hne]; exact upd_same ..) rfl (by omega) (fset_same ..) ?_; conv => whnf
             refine ⟨rfl, ?_⟩; conv => whnf
             have e : IntKind.i64.wrap (shLeft total (sumI ws) ws i - total * gI ws i / sumI ws) = shLeft total (sumI ws) ws (i + 1) := by
               unfold shLeft
               have : total * gI ws i / sumI ws = shQ total (sumI ws) ws i := rfl
               rw [this, wrap64_of (by omega) (by omega)]; omega
             refine nx hi' ⟨by rw [wrapN (by omega), e], fun e => by omega, _, _, rfl, fun k hk => ?_⟩
             rw [show 0 + (i : Int).toNat = i by omega]
             by_cases e1 : k = i
             · subst e1; rw [fset_same, fset_same]
               refine ⟨?_, ?_⟩
               · show eI (shQ total (sumI ws) ws k) = _; rw [if_pos (by omega)]
               · show eI (total * gI ws k % sumI ws) = _; rw [if_pos (by omega)]
             · have h7 := hf k hk
               rw [fset_ne e1, fset_ne e1]
               by_cases h8 : k < i
               · rw [if_pos h8, if_pos h8] at h7; rw [if_pos (by omega), if_pos (by omega)]; exact h7
               · rw [if_neg h8, if_neg h8] at h7; rw [if_neg (by omega), if_neg (by omega)]; exact h7
         all_goals
           obtain ⟨hE1, hE2⟩ := hE
           clear hend hf fin hSi
           rw [hE2]
           have hres : restL total ws = restL total ws := rfl
           have hrl : (restL total ws).length = ws.length := by unfold restL; simp
           have eA : eInts (restL total ws) = .arr 1 ws.length (fun k => eI (gI (restL total ws) k)) := by unfold eInts arrOf; rw [hrl]
           refine call_shift (args' := [eInts (restL total ws)]) (by
             rw [eA]
             exact shift_own (upd_same ..) rfl (Nat.le_refl _) (fun k hk => by show f2 k = _; rw [(hE1 k hk).2]; unfold restL; rw [gI_map_range _ hk])) (call (rOrder_S (restL total ws) (by omega) _) (fun v s2 hv => ?_))
           obtain ⟨⟨o, ho1, ho2, rfl⟩, rfl⟩ := hv
           rw [hrl] at ho1
           have hoS := ord_shR ho1 ho2
           have hol : o.length = ws.length := by rw [ho1.length_eq, natsI_len]
           have hog : ∀ k, k < ws.length → gI o k = (at_ (shR total (sumI ws) ws) k).2 := fun k hk => by
             rw [hoS]; exact getD_map (fun e : QE => e.2) _ (by rw [shR_len]; exact hk)
           have hdl : del (upd (upd st b1 ⟨2, 1, ws.length, f1⟩) b2 ⟨2, 1, ws.length, f2⟩) b2 = upd st b1 ⟨2, 1, ws.length, f1⟩ := del_upd (by rw [upd_ne hne.symm]; exact hb2') _
           rw [hdl]; conv => whnf
           refine lp (shLeft total (sumI ws) ws ws.length).toNat [9, 11, 13, 14] (fun i vs s => vs = [.own 1 b1 0 ws.length, eI (shLeft total (sumI ws) ws ws.length), eInts o, eI i] ∧ ∃ f, s = upd st b1 ⟨2, 1, ws.length, f⟩ ∧ ∀ k, k < ws.length → f k = eI (gI (bumped ((List.range ws.length).map (shQ total (sumI ws) ws)) ((shR total (sumI ws) ws).take i)) k)) ?_ ?_
           · conv => whnf
             exact ⟨rfl, f1, rfl, fun k hk => by rw [(hE1 k hk).1]; show _ = eI (gI ((List.range ws.length).map _) k); rw [gI_map_range _ hk]⟩
           · rintro t vs s ht ⟨rfl, f, rfl, hf⟩
             conv => whnf
             cases hd2 : decide ((t : Int) < shLeft total (sumI ws) ws ws.length)
             · have : t = (shLeft total (sumI ws) ws ws.length).toNat := by have := of_decide_eq_false hd2; omega
               subst this; conv => whnf
               exact ⟨b1, f, hb1, rfl, rfl, by rw [hR]; exact hf⟩
             · have ht' : (t : Int) < shLeft total (sumI ws) ws ws.length := of_decide_eq_true hd2
               have hx : 0 ≤ (at_ (shR total (sumI ws) ws) t).2 ∧ (at_ (shR total (sumI ws) ws) t).2.toNat < ws.length := shR_mem (total := total) (S := sumI ws) (ws := ws) (getD_mem (l := shR total (sumI ws) ws) (i := t) (by rw [shR_len]; omega))
               have hgo := hog t (by omega)
               have htk := take_next (l := shR total (sumI ws) ws) (i := t) (by rw [shR_len]; omega)
               have hb1 := bumped_bound ((List.range ws.length).map (shQ total (sumI ws) ws)) ((shR total (sumI ws) ws).take t) (at_ (shR total (sumI ws) ws) t).2.toNat
               rw [gI_map_range _ hx.2, List.length_take] at hb1
               have hqq : 0 ≤ shQ total (sumI ws) ws (at_ (shR total (sumI ws) ws) t).2.toNat ∧ shQ total (sumI ws) ws (at_ (shR total (sumI ws) ws) t).2.toNat ≤ 100000000000000 := by
                 by_cases hS : sumI ws = 0
                 · unfold shQ; rw [h.none hS, Int.zero_mul, Int.zero_ediv]; omega
                 · have := shQ_bound h (show 0 < sumI ws by omega) hx.2; omega
               have hx2 : 0 ≤ gI o t ∧ (gI o t).toNat < ws.length := by rw [hgo]; exact hx
               conv => whnf
               refine ⟨rfl, ⟨by omega, by omega⟩, ?_⟩; conv => whnf
               refine ⟨rfl, ⟨by show 0 ≤ gI o t; omega, by show gI o t < (ws.length : Int); omega⟩, ?_⟩; conv => whnf
               refine ldV (upd_same ..) rfl (by show 0 + (gI o t).toNat < _; omega) (hf _ (by show 0 + (gI o t).toNat < _; omega)) ?_; conv => whnf
               refine ⟨rfl, ⟨by show 0 ≤ gI o t; omega, by show gI o t < (ws.length : Int); omega⟩, ?_⟩; conv => whnf
               refine stV (upd_same ..) rfl (by show 0 + (gI o t).toNat < _; omega) (hf _ (by show 0 + (gI o t).toNat < _; omega)) (by rfl) ?_
               rw [upd_twice]; conv => whnf
               refine ⟨rfl, ?_⟩; conv => whnf
               refine nx (by omega) ⟨by rw [wrapN (by omega)], _, rfl, fun k hk => ?_⟩
               rw [htk, bumped_snoc, gI_set (by rw [bumped_len]; simpa using hx.2)]
               show fset f (0 + (gI o t).toNat) (eI (IntKind.i64.wrap (gI (bumped _ _) (0 + (gI o t).toNat) + 1))) k = _
               rw [Nat.zero_add, hgo]
               by_cases e1 : k = (at_ (shR total (sumI ws) ws) t).2.toNat
               · rw [if_pos e1, e1, fset_same, wrap64_of (by omega) (by omega)]
               · rw [if_neg e1, fset_ne e1]; exact hf k hk
theorem rMay_S (us : List AUnit) (mine : List Int) (h : UnitsOk us) (hm : MineOk us mine) (st : St) : S P 174 [eUnits us, eInts mine] st fun v st' => v = .bool true ∧ st' = st := by
 have hlen := h.len
 have hml := hm.len
 refine S_of_X [] good mixed Tryz.func174 (by rfl) rfl rfl rfl ?_; conv => whnf
 rw [decide_eq_false (show ¬ (us.length : Int) > 100000 by omega)]; conv => whnf
 refine lp us.length [0, 1, 5, 6] (fun i vs s => vs = [eUnits us, eInts mine, eI (sumI ((netsOf us).take i)), eI i] ∧ s = st) ?_ ?_
 · conv => whnf
   exact ⟨rfl, rfl⟩
 · rintro i vs st' hi ⟨rfl, rfl⟩
   conv => whnf
   cases hd : decide ((i : Int) < (us.length : Int))
   case true =>
     have hi' := go_on hd
     have e := sumI_take (l := netsOf us) (i := i) (by rw [List.length_map]; exact hi')
     have e4 : gI (netsOf us) i = (gU us i).net := getD_map AUnit.net us hi'
     have h1 := sumI_nonneg (l := (netsOf us).take i) (fun x hx => h.nets0 x (List.take_subset _ _ hx))
     have h2 := sumI_le_take h.nets0 (i + 1)
     have h3 := h.sum
     have h4 := h.at0 i
     have h5 := h.le (getD_mem hi')
     have w : IntKind.i64.wrap (sumI ((netsOf us).take i) + (us.getD (i : Int).toNat default).net) = sumI ((netsOf us).take (i + 1)) := by rw [e, e4]; exact wrap64_of (by rw [Int.toNat_natCast]; show _ ≤ sumI ((netsOf us).take i) + (gU us i).net; omega) (by rw [Int.toNat_natCast]; show sumI ((netsOf us).take i) + (gU us i).net ≤ _; omega)
     have f1 : decide ((us.getD (i : Int).toNat default).net < 0) = false := decide_eq_false (by rw [Int.toNat_natCast]; show ¬ (gU us i).net < 0; omega)
     have f2 : decide ((us.getD (i : Int).toNat default).net > 10000000000000) = false := decide_eq_false (by rw [Int.toNat_natCast]; omega)
     have f3 : decide (sumI ((netsOf us).take (i + 1)) > 10000000000000) = false := decide_eq_false (by omega)
     repeat' ((conv => whnf); first | refine ⟨rfl, ⟨by omega, by omega⟩, ?_⟩ | rw [f1] | rw [f2] | rw [w, f3])
     conv => whnf
     refine ⟨rfl, ?_⟩; conv => whnf
     exact nx hi' ⟨by rw [wrapN (by omega)], rfl⟩
   conv => whnf
   refine lp mine.length [0, 1, 7] (fun i vs s => vs = [eUnits us, eInts mine, eI i] ∧ s = st') ?_ ?_
   · conv => whnf
     exact ⟨rfl, rfl⟩
   · rintro k vs st hk ⟨rfl, rfl⟩
     conv => whnf
     cases hd2 : decide ((k : Int) < (mine.length : Int))
     · conv => whnf
       exact ⟨rfl, rfl⟩
     · have hk' := go_on hd2
       have hr : 0 ≤ mine.getD (k : Int).toNat default ∧ (mine.getD (k : Int).toNat default).toNat < us.length := hm.rng k hk'
       have f1 : decide (mine.getD (k : Int).toNat default < 0) = false := decide_eq_false (by omega)
       have f2 : decide (mine.getD (k : Int).toNat default ≥ (us.length : Int)) = false := decide_eq_false (by omega)
       have f3 : (!(us.getD (mine.getD (k : Int).toNat default).toNat default).opn) = false := by
         have := hm.opn k hk'
         rw [Bool.not_eq_false']; exact this
       conv => whnf
       refine ⟨[], [], List.range 41, by kernel_rfl, ?_⟩
       rcases Nat.eq_zero_or_pos k with h0 | h0
       · have f4 : decide ((k : Int) > 0) = false := decide_eq_false (by omega)
         repeat' ((conv => whnf); first | refine ⟨rfl, ⟨by omega, by omega⟩, ?_⟩ | rw [f1] | rw [f2] | rw [f3] | rw [f4])
         conv => whnf
         refine ⟨rfl, ?_⟩; conv => whnf
         exact nx hk' ⟨by rw [wrapN (by omega)], rfl⟩
       · have f4 : decide ((k : Int) > 0) = true := decide_eq_true (by omega)
         have hw := wrapP h0 (by omega)
         have f5 : decide (mine.getD (k : Int).toNat default ≤ mine.getD (IntKind.i64.wrap ((k : Int) - 1)).toNat default) = false := decide_eq_false (by
           rw [hw, Int.toNat_natCast, Int.toNat_natCast]
           have := hm.lt (k - 1) k (by omega) hk'
           exact Int.not_le.2 this)
         repeat' ((conv => whnf); first | refine ⟨rfl, ⟨by omega, by omega⟩, ?_⟩ | refine ⟨rfl, ⟨by rw [hw]; omega, by rw [hw]; omega⟩, ?_⟩ | rw [f1] | rw [f2] | rw [f3] | rw [f4] | rw [f5])
         conv => whnf
         refine ⟨rfl, ?_⟩; conv => whnf
         exact nx hk' ⟨by rw [wrapN (by omega)], rfl⟩
theorem rdear_S (us : List AUnit) (mine : List Int) (h : UnitsOk us) (hm : MineOk us mine) (st : St) : S P 175 [eUnits us, eInts mine] st fun v st' => v = eInts ((dearB us mine).map (·.2)) ∧ st' = st := by
 have hml := hm.len
 have hul := h.len
 have hnl : (netsAt us mine).length = mine.length := by unfold netsAt; rw [List.length_map]
 refine S_colL (ty := 3) ?_
 refine S_of_X [] good mixed Tryz.func175 (by rfl) rfl rfl rfl ?_; conv => whnf
 refine call1 (rnets_S us mine (by omega) hm.rng st) ?_; conv => whnf
 refine call (rOrder_S (netsAt us mine) (by omega) _) (fun v s hv => ?_)
 obtain ⟨⟨o, ho1, ho2, rfl⟩, rfl⟩ := hv
 rw [hnl] at ho1
 have hol : o.length = mine.length := by rw [ho1.length_eq, natsI_len]
 have hom : ∀ {k : Nat}, k < o.length → 0 ≤ gI o k ∧ (gI o k).toNat < mine.length := fun hk => perm_get ho1 (fun x hx => natsI_mem hx) hk
 have he : (dearB us mine).map (·.2) = o.map fun x => gI mine x.toNat := by
   have e : o.map (fun x => entU us (gI mine x.toNat)) = dearB us mine := by
     refine List.Perm.eq_of_pairwise (le := fun a b => prior b a = false) (fun a b _ _ h1 h2 => prior_tri h2 h1) (List.pairwise_map.2 ?_) (sortQ_sorted _) (((ho1.map _).trans ?_).trans (dearB_perm ..).symm)
     · refine List.Pairwise.imp_of_mem ?_ ho2
       intro a b ha hb hab
       obtain ⟨a0, a1⟩ := natsI_mem (ho1.subset ha)
       obtain ⟨b0, b1⟩ := natsI_mem (ho1.subset hb)
       unfold ROrd rankO at hab
       have ea : gI (netsAt us mine) a.toNat = (gU us (gI mine a.toNat).toNat).net := getD_map (fun i : Int => (gU us i.toNat).net) mine a1
       have eb : gI (netsAt us mine) b.toNat = (gU us (gI mine b.toNat).toNat).net := getD_map (fun i : Int => (gU us i.toNat).net) mine b1
       rw [ea, eb, prior_no] at hab
       unfold entU
       rw [prior_no]
       simp only at hab ⊢
       rintro (h1 | ⟨h1, h2⟩)
       · exact hab (.inl h1)
       · refine hab (.inr ⟨h1, ?_⟩)
         refine Int.lt_of_not_ge fun hge => ?_
         rcases Nat.eq_or_lt_of_le (show a.toNat ≤ b.toNat by omega) with e1 | e1
         · rw [e1] at h2; omega
         · have := hm.lt a.toNat b.toNat e1 b1; omega
     · unfold natsI
       rw [List.map_map]
       refine List.Perm.of_eq (List.ext_getElem (by simp) fun k h1 h2 => ?_)
       have : k < mine.length := by simpa using h1
       simp [gI, this]
   rw [← e, List.map_map]; rfl
 rw [he]; conv => whnf
 refine lp o.length [1, 5, 6, 7] (fun i vs s' => ∃ sv, vs = [eInts mine, eInts o, sv, eI i] ∧ ColL 3 1 eI ((o.take i).map fun x => gI mine x.toNat) s sv s') ?_ ?_
 · conv => whnf
   exact ⟨.emp, rfl, ColL.start _ _ _ _⟩
 · rintro i vs st' hi ⟨sv, rfl, hc⟩
   conv => whnf
   cases hd : decide ((i : Int) < (o.length : Int))
   · obtain rfl := stop_at hd hi
     rw [List.take_length] at hc; conv => whnf
     exact hc
   · have hi' := go_on hd
     have hx := hom hi'
     conv => whnf
     refine ⟨rfl, ⟨by omega, by omega⟩, ?_⟩; conv => whnf
     refine ⟨rfl, ⟨by show 0 ≤ gI o i; omega, by show gI o i < (mine.length : Int); omega⟩, ?_⟩; conv => whnf
     refine ColL.app (q := r3) (y := gI mine (gI o i).toNat) rfl rfl rfl rfl rfl rfl (by show (_ + 1) * 8 ≤ 140737488355328; rw [List.length_map, List.length_take]; omega) hc (fun sv' s' hc' => ?_); conv => whnf
     refine ⟨rfl, ?_⟩; conv => whnf
     refine nx hi' ⟨sv', by rw [wrapN (by omega)], ?_⟩
     rw [take_map hi']; exact hc'
theorem rmine_S (us : List AUnit) (items : List Ab.Item) (sc : Scope) (h1 : Sm sc.skus.length) (h2 : Sm sc.cats.length) (hu : us.length ≤ 100000) (hl : ∀ u ∈ us, 0 ≤ u.line ∧ u.line.toNat < items.length) (st : St) :
   S P 114 [eUnits us, arrOf 4 eItem items, eScope sc] st fun v st' => v = eInts (mineB sc items us us.length) ∧ st' = st := by
 refine S_colL (ty := 3) ?_
 refine S_of_X [5] good mixed Tryz.func114 (by rfl) rfl rfl rfl ?_; conv => whnf
 refine lp us.length [0, 1, 5, 7, 8] (fun i vs s => ∃ sv, vs = [eUnits us, arrOf 4 eItem items, .fptr (eScope sc) 0, sv, eI i] ∧ ColL 3 1 eI (mineB sc items us i) st sv s) ?_ ?_
 · conv => whnf
   exact ⟨.emp, rfl, ColL.start _ _ _ _⟩
 · rintro i vs st' hi ⟨sv, rfl, hc⟩
   conv => whnf
   cases hd : decide ((i : Int) < (us.length : Int))
   · obtain rfl := stop_at hd hi
     conv => whnf
     exact hc
   · have hi' := go_on hd
     have hlk : 0 ≤ (us.getD (i : Int).toNat default).line ∧ (us.getD (i : Int).toNat default).line.toNat < items.length := hl _ (getD_mem hi')
     have es := mineB_succ sc items us i
     have hpl := mineB_len sc items us i
     have eo : openIn sc items (gU us i) = ((us.getD (i : Int).toNat default).opn && hasB sc (items.getD (us.getD (i : Int).toNat default).line.toNat default)) := rfl
     rw [eo] at es
     have n1 := rHas_S sc (items.getD (us.getD (i : Int).toNat default).line.toNat default) h1 h2 st'
     generalize hasB sc (items.getD (us.getD (i : Int).toNat default).line.toNat default) = b1 at n1 es
     conv => whnf
     refine ⟨[], [], List.range 17, by kernel_rfl, ?_⟩; conv => whnf
     refine ⟨rfl, ⟨by omega, by omega⟩, ?_⟩; conv => whnf
     cases ho : (us.getD (i : Int).toNat default).opn
     case' true =>
       rw [ho, Bool.true_and] at es; conv => whnf
       refine ⟨rfl, ⟨by omega, by omega⟩, ?_⟩; conv => whnf
       refine ⟨rfl, ⟨by omega, by omega⟩, ?_⟩; conv => whnf
       refine ⟨_, callQ n1, ?_⟩
       cases b1
       case true =>
         rw [if_pos rfl] at es; conv => whnf
         refine ColL.app (q := r3) (y := (i : Int)) rfl rfl rfl rfl rfl rfl (by show (_ + 1) * 8 ≤ 140737488355328; omega) hc (fun sv' s' hc' => ?_); conv => whnf
         refine ⟨rfl, ?_⟩; conv => whnf
         exact nx hi' ⟨sv', by rw [wrapN (by omega)], by rw [es]; exact hc'⟩
       rw [if_neg (by simp), List.append_nil] at es
     case' false =>
       rw [ho, Bool.false_and, if_neg (by simp), List.append_nil] at es
     all_goals (conv => whnf)
     all_goals refine ⟨rfl, ?_⟩
     all_goals (conv => whnf)
     all_goals exact nx hi' ⟨sv, by rw [wrapN (by omega)], by rw [es]; exact hc⟩
theorem rReached_S (l : List Tier) (x : Int) (hl : l.length ≤ 100000) (st : St) : S P 231 [arrOf 3 eTier l, eI x] st fun v st' => v = .tuple [eTier ((reachedB l x).getD default), .bool (reachedB l x).isSome] ∧ st' = st := by
 refine S_sup ?_
 refine S_of_X [] good mixed Tryz.func231 (by rfl) rfl rfl rfl ?_; conv => whnf
 intro b hb; conv => whnf
 have w0 : IntKind.i64.wrap ((l.length : Int) - 1) = (l.length : Int) - 1 := wrap64_of (by omega) (by omega)
 refine ⟨[0, 1, 4, 6], fun m vs st' => ∃ (i : Int) (f : Nat → AV) (u : Tier), -1 ≤ i ∧ i < l.length ∧ (∀ k : Nat, i < k → k < l.length → decide ((l.getD k default).least ≤ x) = false) ∧ m = (i + 1).toNat ∧ vs = [arrOf 3 eTier l, eI x, .optr 3 b 0 0, eI i] ∧ st' = upd st b ⟨186, 3, 1, f⟩ ∧ f 0 = eTier u, ?_, ?_⟩
 · conv => whnf
   exact ⟨_, (l.length : Int) - 1, _, default, by omega, by omega, fun k h1 h2 => by omega, rfl, by rw [w0], rfl, rfl⟩
 · rintro m vs st' ⟨i, f, u, h0, hi, hno, rfl, rfl, rfl, hf⟩
   conv => whnf
   cases h : decide (i ≥ 0)
   · have := of_decide_eq_false h
     have hr : reachedB l x = none := reached_none fun k hk => hno k (by omega) hk
     conv => whnf
     refine stV (upd_same ..) rfl (by omega) hf (by rfl) ?_; conv => whnf
     refine ldV (upd_same ..) rfl (by omega) (fset_same ..) ?_; conv => whnf
     refine ⟨by rw [hr]; rfl, ((Sup.refl st).upd hb).over hb⟩
   · have hi0 := of_decide_eq_true h
     conv => whnf
     refine ⟨rfl, ⟨by omega, by omega⟩, ?_⟩; conv => whnf
     refine fork (fun h1 => ?_) (fun h1 => ?_)
     · have hr : reachedB l x = some (l.getD i.toNat default) := reached_some (by omega) (fun k h2 h3 => hno k (by omega) h3) h1
       rw [h1]; conv => whnf
       refine ⟨rfl, ⟨by omega, by omega⟩, ?_⟩; conv => whnf
       refine stV (upd_same ..) rfl (by omega) hf (by rfl) ?_; conv => whnf
       refine ldV (upd_same ..) rfl (by omega) (fset_same ..) ?_; conv => whnf
       refine ⟨by rw [hr]; rfl, ((Sup.refl st).upd hb).over hb⟩
     · have w : IntKind.i64.wrap (i - 1) = i - 1 := wrap64_of (by omega) (by omega)
       rw [h1]; conv => whnf
       refine ⟨rfl, ?_⟩; conv => whnf
       refine ⟨i.toNat, by omega, i - 1, f, u, by omega, by omega, fun k h2 h3 => ?_, by omega, by rw [w], rfl, hf⟩
       rcases (by omega : k = i.toNat ∨ i < k) with e | e
       · rw [e]; exact h1
       · exact hno k e h3
def lessR (us : List AUnit) (mine offs : List Int) (closes : Bool) : List AUnit × Int :=
 if sumI offs = 0 then (us, 0) else (if closes = true then closeB (takeOff us mine offs offs.length) mine else takeOff us mine offs offs.length, sumI offs)
theorem takeOff_zero {us : List AUnit} {mine offs : List Int} (h : ∀ k, k < offs.length → gI offs k = 0) : ∀ k, k ≤ offs.length → takeOff us mine offs k = us
 | 0, _ => rfl
 | k + 1, hk => by
   unfold takeOff
   rw [takeOff_zero h k (by omega), h k (by omega)]
   unfold less1
   refine List.ext_getElem (by simp) fun j h1 h2 => ?_
   rw [List.getElem_set]
   split
   · rename_i e; subst e
     have e : gU us (gI mine k).toNat = us[(gI mine k).toNat] := by unfold gU; rw [List.getD_eq_getElem?_getD, List.getElem?_eq_getElem h2]; rfl
     rw [e, Int.sub_zero]
   · rfl
theorem zero_of_sum {l : List Int} (h0 : ∀ x ∈ l, 0 ≤ x) (hs : sumI l = 0) : ∀ k, k < l.length → gI l k = 0 := fun k hk => by
 have h1 := h0 _ (getD_mem hk)
 have h2 := sumI_mem_le h0 (getD_mem hk)
 show l.getD k default = 0
 omega
theorem rless_S (us : List AUnit) (mine offs : List Int) (closes : Bool) (hu : UnitsOk us) (hm : Places us mine) (hml : mine.length ≤ 1000000) (hol : offs.length ≤ mine.length) (ho : ∀ k, k < offs.length → 0 ≤ gI offs k ∧ gI offs k ≤ (gU us (gI mine k).toNat).net) (hs : sumI offs ≤ 1000000000000000) (st : St) :
   S P 176 [eUnits us, eInts mine, eInts offs, eB closes] st fun v st' => v = .tuple [eUnits (lessR us mine offs closes).1, eI (lessR us mine offs closes).2] ∧ st' = st := by
 have hul := hu.len
 have ho0 : ∀ x ∈ offs, 0 ≤ x := fun x hx => by obtain ⟨k, hk, rfl⟩ := mem_getD hx; exact (ho k hk).1
 refine S.post (post := fun v st' => ∃ sv, v = .tuple [sv, eI (lessR us mine offs closes).2] ∧ ResU st (lessR us mine offs closes).1 sv st') ?_
   (fun v st' ⟨sv, hv, h⟩ => ⟨_, st, ⟨rfl, rfl⟩, by rw [hv]; exact Shift.tuple (Shift.cons h.shift (Shift.keep _ _)) rfl⟩)
 refine S_of_X [] good mixed Tryz.func176 (by rfl) rfl rfl rfl ?_
 have nsum := fun s => rsum_S offs (by omega) ho0 (by omega) s
 have hS : lessR us mine offs closes = if sumI offs = 0 then (us, 0) else (if closes = true then closeB (takeOff us mine offs offs.length) mine else takeOff us mine offs offs.length, sumI offs) := rfl
 conv => whnf
 refine apE (q := r114) rfl rfl rfl rfl (srcArr _ _ _ _) (by show us.length * 24 ≤ _; omega) (fun h0 => ?_) (fun h0 b hb => ?_)
 · have hus : us = [] := List.eq_nil_of_length_eq_zero h0
   have hmi : mine.length = 0 := by
     rcases Nat.eq_zero_or_pos mine.length with e | e
     · exact e
     · have := (hm.rng 0 e).2; omega
   have hof : offs = [] := List.eq_nil_of_length_eq_zero (by omega)
   have hz : sumI offs = 0 := by rw [hof]; rfl
   rw [if_pos hz] at hS; conv => whnf
   refine call1 (nsum _) ?_
   rw [hz]; conv => whnf
   exact ⟨_, by rw [hS]; rfl, by rw [hS]; exact ⟨Sup.refl _, .inl ⟨hus, rfl⟩⟩⟩
 · conv => whnf
   refine call1 (nsum _) ?_; conv => whnf
   cases hz : (sumI offs == 0)
   case true =>
     rw [if_pos (eq_of_beq hz)] at hS; conv => whnf
     exact ⟨_, by rw [hS]; rfl, by rw [hS]; exact ⟨(Sup.refl _).upd hb, .inr ⟨b, hb, rfl, _, upd_same .., fun k hk => rfl⟩⟩⟩
   rw [if_neg (ne_of_beq_false hz)] at hS; conv => whnf
   refine lp offs.length [1, 2, 3, 10, 11] (fun i vs s => vs = [eInts mine, eInts offs, eB closes, .own 3 b 0 us.length, eI i] ∧ ∃ f, s = upd st b ⟨114, 3, us.length, f⟩ ∧ ∀ j, j < us.length → f j = eUnit (gU (takeOff us mine offs i) j)) ?_ ?_
   · conv => whnf
     exact ⟨rfl, _, rfl, fun j hj => rfl⟩
   · rintro i vs s hi ⟨rfl, f, rfl, hf⟩
     conv => whnf
     cases hd : decide ((i : Int) < (offs.length : Int))
     · obtain rfl := stop_at hd hi
       have hlt := takeOff_len us mine offs offs.length
       conv => whnf
       refine lp mine.length [1, 2, 3, 10, 12] (fun i vs s => (closes = false → i = 0) ∧ vs = [eInts mine, eInts offs, eB closes, .own 3 b 0 us.length, eI i] ∧ ∃ f, s = upd st b ⟨114, 3, us.length, f⟩ ∧ ∀ j, j < us.length → f j = eUnit (gU (closeB (takeOff us mine offs offs.length) (mine.take i)) j)) ?_ ?_
       · conv => whnf
         exact ⟨fun _ => rfl, rfl, _, rfl, hf⟩
       · clear hf
         rintro i vs s hi ⟨hci, rfl, f, rfl, hf⟩
         conv => whnf
         have hend : (i = mine.length ∨ closes = false) → ∀ j, j < us.length → f j = eUnit (gU (lessR us mine offs closes).1 j) := fun hE => by
           intro j hj
           have h7 := hf j hj
           have e1 : (lessR us mine offs closes).1 = if closes = true then closeB (takeOff us mine offs offs.length) mine else takeOff us mine offs offs.length := by rw [hS]
           rw [e1]
           cases hc : closes
           · rw [hci hc, List.take_zero] at h7; rw [if_neg (by simp)]; exact h7
           · rcases hE with hE | hE
             · rw [hE, List.take_length] at h7; rw [if_pos rfl]; exact h7
             · rw [hE] at hc; cases hc
         have hlen : (lessR us mine offs closes).1.length = us.length := by
           rw [hS]; show (if closes = true then _ else _ : List AUnit).length = _
           split
           · rw [closeB_len, hlt]
           · exact hlt
         cases hd : decide ((i : Int) < (mine.length : Int))
         case' false =>
           have hE := hend (.inl (stop_at hd hi))
           conv => whnf
         case' true =>
           have hi' := go_on hd
           conv => whnf
           cases hc : closes
           case' false =>
             have hE := hend (.inr hc)
             rw [hc] at hS hlen hE; conv => whnf
           case' true =>
             have hr := hm.rng i hi'
             conv => whnf
             refine ⟨rfl, ⟨by omega, by omega⟩, ?_⟩; conv => whnf
             refine ⟨rfl, ⟨by show 0 ≤ gI mine i; omega, by show gI mine i < (us.length : Int); omega⟩, ?_⟩; conv => whnf
             refine stV (upd_same ..) rfl (by show 0 + (gI mine i).toNat < _; omega) (v := eUnit (gU (closeB (takeOff us mine offs offs.length) (mine.take i)) (gI mine i).toNat)) (by rw [Nat.zero_add]; exact hf _ hr.2) (by rfl) ?_
             rw [upd_twice]; conv => whnf
             refine ⟨rfl, ?_⟩; conv => whnf
             have e : closeB (takeOff us mine offs offs.length) (mine.take (i + 1)) = close1 (closeB (takeOff us mine offs offs.length) (mine.take i)) (gI mine i).toNat := foldl_next hi' _ _
             refine ⟨mine.length - (i + 1), by omega, i + 1, by omega, rfl, fun e => Bool.noConfusion e, by rw [wrapN (by omega)], _, rfl, fun j hj => ?_⟩
             rw [e, Nat.zero_add, show (mine.getD (i : Int).toNat default).toNat = (gI mine i).toNat from rfl]
             unfold close1
             rw [gU_set (by rw [closeB_len, hlt]; exact hr.2)]
             by_cases hj2 : j = (gI mine i).toNat
             · rw [if_pos hj2, hj2, fset_same]; rfl
             · rw [if_neg hj2, fset_ne hj2]; exact hf j hj
         all_goals
           refine call1 (nsum _) ?_; conv => whnf
           refine ⟨.own 3 b 0 us.length, by rw [hS]; rfl, (Sup.refl st).upd hb, .inr ⟨b, hb, by rw [hlen], f, by rw [hlen]; exact upd_same .., fun k hk => ?_⟩⟩
           rw [hlen] at hk
           exact hE k hk
     · have hi' := go_on hd
       have hr := hm.rng i (by omega)
       have hat := takeOffP_at (offs := offs) hm (show i < mine.length by omega)
       have hx := ho i hi'
       have hnet1 : (gU us (gI mine i).toNat).net ≤ 10000000000000 := hu.le (getD_mem hr.2)
       have hfm : f (0 + (gI mine i).toNat) = eUnit (gU (takeOff us mine offs i) (gI mine i).toNat) := by rw [Nat.zero_add]; exact hf _ hr.2
       conv => whnf
       refine ⟨[20], [], List.range 21, by kernel_rfl, ?_⟩; conv => whnf
       refine ⟨rfl, ⟨by omega, by omega⟩, ?_⟩; conv => whnf
       refine ⟨rfl, ⟨by omega, by omega⟩, ?_⟩; conv => whnf
       refine ⟨rfl, ⟨by show 0 ≤ gI mine i; omega, by show gI mine i < (us.length : Int); omega⟩, ?_⟩; conv => whnf
       refine ldV (upd_same ..) rfl (by show 0 + (gI mine i).toNat < _; omega) hfm ?_; conv => whnf
       refine ⟨rfl, ⟨by omega, by omega⟩, ?_⟩; conv => whnf
       refine ⟨rfl, ⟨by show 0 ≤ gI mine i; omega, by show gI mine i < (us.length : Int); omega⟩, ?_⟩; conv => whnf
       refine stV (upd_same ..) rfl (by show 0 + (gI mine i).toNat < _; omega) hfm (by rfl) ?_
       rw [upd_twice]; conv => whnf
       refine ⟨rfl, ?_⟩; conv => whnf
       have w : IntKind.i64.wrap ((gU (takeOff us mine offs i) (gI mine i).toNat).net - gI offs i) = (gU (takeOff us mine offs i) (gI mine i).toNat).net - gI offs i := by
         rw [hat]; exact wrap64_of (by omega) (by omega)
       refine nx hi' ⟨by rw [wrapN (by omega)], _, rfl, fun j hj => ?_⟩
       show _ = eUnit (gU (less1 (takeOff us mine offs i) (gI mine i).toNat (gI offs i)) j)
       unfold less1
       rw [gU_set (by rw [takeOff_len]; exact hr.2)]
       by_cases hj2 : j = (gI mine i).toNat
       · rw [if_pos hj2, hj2, ← w]
         show fset f (0 + (gI mine i).toNat) _ _ = _
         rw [Nat.zero_add, fset_same]; rfl
       · rw [if_neg hj2]
         show fset f (0 + (gI mine i).toNat) _ _ = _
         rw [Nat.zero_add, fset_ne hj2]; exact hf j hj
def tierR (p : Promo) (x : Int) : Tier := (reachedB p.tiers x).getD default
def offsR (p : Promo) (nets : List Int) : List Int :=
 if p.kind = 1 then nets.map fun x => half x p.rate else if p.kind = 2 then nets.map fun x => offC x 0 p.amount
 else if p.kind = 6 then nets.map fun x => offC x (tierR p nets.length).rate (tierR p nets.length).amount
 else largestB (offC (sumI nets) (tierR p (sumI nets)).rate (tierR p (sumI nets)).amount) nets
theorem half_zero {x : Int} (h0 : 0 ≤ x) (h1 : x ≤ 100000000000000) : half x 0 = 0 := by
 unfold half
 rw [if_pos ⟨by omega, by omega⟩]
 unfold times
 rw [if_neg (by rw [(rightB_iff x).2 ⟨h0, h1⟩]; decide), Int.mul_zero]
 rfl
theorem min_offC {x rate amount : Int} : (if half x rate + amount < x then half x rate + amount else x) = offC x rate amount := by
 unfold offC; split <;> split <;> omega
theorem roffs_S (p : Promo) (nets : List Int) (hp : AskOk p) (hl : nets.length ≤ 100000) (h0 : ∀ x ∈ nets, 0 ≤ x) (hs : sumI nets ≤ 10000000000000) (st : St) :
   S P 177 [ePromo p, eInts nets] st fun v st' => v = eInts (offsR p nets) ∧ st' = st := by
 refine S.post (post := fun v st' => (∃ st1, Sup st st1 ∧ ColL 2 1 eI (offsR p nets) st1 v st') ∨ (v = eInts (offsR p nets) ∧ Sup st st')) ?_
   (fun v st' h => ⟨_, st, ⟨rfl, rfl⟩, by
     rcases h with ⟨st1, h1, h2⟩ | ⟨rfl, h1⟩
     · exact h2.shift.trans (h1.shift _)
     · exact h1.shift _⟩)
 have hx1 : ∀ x ∈ nets, x ≤ 10000000000000 := fun x hx => Int.le_trans (sumI_mem_le h0 hx) hs
 have hsn := sumI_nonneg h0
 refine S_of_X [2] good mixed Tryz.func177 (by rfl) rfl rfl rfl ?_; conv => whnf
 rcases hp.kind with hk | hk | hk | hk
 · have hL : offsR p nets = nets.map fun x => half x p.rate := by unfold offsR; rw [if_pos hk]
   rw [show (p.kind == 1) = true from by rw [hk]; rfl, hL]; conv => whnf
   refine lp nets.length [1, 2, 5, 6] (fun i vs s => ∃ sv, vs = [eInts nets, .fptr (ePromo p) 0, sv, eI i] ∧ ColL 2 1 eI ((nets.take i).map fun x => half x p.rate) st sv s) ?_ ?_
   · conv => whnf
     exact ⟨.emp, rfl, ColL.start _ _ _ _⟩
   · rintro i vs s hi ⟨sv, rfl, hc⟩
     conv => whnf
     cases hd : decide ((i : Int) < (nets.length : Int))
     · obtain rfl := stop_at hd hi
       rw [List.take_length] at hc; conv => whnf
       exact .inl ⟨st, Sup.refl _, hc⟩
     · have hi' := go_on hd
       conv => whnf
       refine ⟨[8, 9], [], List.range 11, by kernel_rfl, ?_⟩; conv => whnf
       refine ⟨rfl, ⟨by omega, by omega⟩, ?_⟩; conv => whnf
       refine ⟨_, callQ (rhalf_S (nets.getD (i : Int).toNat default) p.rate _), ?_⟩; conv => whnf
       refine ColL.app (q := r2) (y := half (nets.getD (i : Int).toNat default) p.rate) rfl rfl rfl rfl rfl rfl (by show (_ + 1) * 8 ≤ 140737488355328; rw [List.length_map, List.length_take]; omega) hc (fun sv' s' hc' => ?_); conv => whnf
       refine ⟨rfl, ?_⟩; conv => whnf
       exact nx hi' ⟨sv', by rw [wrapN (by omega)], by rw [take_map hi']; exact hc'⟩
 · have hL : offsR p nets = nets.map fun x => offC x 0 p.amount := by unfold offsR; rw [if_neg (by omega), if_pos hk]
   have ha := hp.amount hk
   rw [show (p.kind == 1) = false from by rw [hk]; rfl, hL]; conv => whnf
   rw [show (p.kind == 2) = true from by rw [hk]; rfl]; conv => whnf
   refine lp nets.length [1, 2, 5, 7] (fun i vs s => ∃ sv, vs = [eInts nets, .fptr (ePromo p) 0, sv, eI i] ∧ ColL 2 1 eI ((nets.take i).map fun x => offC x 0 p.amount) st sv s) ?_ ?_
   · conv => whnf
     exact ⟨.emp, rfl, ColL.start _ _ _ _⟩
   · rintro i vs s hi ⟨sv, rfl, hc⟩
     conv => whnf
     cases hd : decide ((i : Int) < (nets.length : Int))
     · obtain rfl := stop_at hd hi
       rw [List.take_length] at hc; conv => whnf
       exact .inl ⟨st, Sup.refl _, hc⟩
     · have hi' := go_on hd
       have hz : half (nets.getD (i : Int).toNat default) 0 = 0 := half_zero (h0 _ (getD_mem hi')) (Int.le_trans (hx1 _ (getD_mem hi')) (by decide))
       have hm := min_offC (x := nets.getD (i : Int).toNat default) (rate := 0) (amount := p.amount)
       rw [hz, Int.zero_add] at hm; conv => whnf
       refine ⟨[8, 9], [], List.range 11, by kernel_rfl, ?_⟩; conv => whnf
       refine ⟨rfl, ⟨by omega, by omega⟩, ?_⟩; conv => whnf
       refine ColL.app (q := r2) (y := offC (nets.getD (i : Int).toNat default) 0 p.amount) rfl rfl rfl rfl rfl (by rw [← hm]; rfl) (by show (_ + 1) * 8 ≤ 140737488355328; rw [List.length_map, List.length_take]; omega) hc (fun sv' s' hc' => ?_); conv => whnf
       refine ⟨rfl, ?_⟩; conv => whnf
       exact nx hi' ⟨sv', by rw [wrapN (by omega)], by rw [take_map hi']; exact hc'⟩
 · have hL : offsR p nets = largestB (offC (sumI nets) (tierR p (sumI nets)).rate (tierR p (sumI nets)).amount) nets := by unfold offsR; rw [if_neg (by omega), if_neg (by omega), if_neg (by omega)]
   have ht := hp.tiers (.inl hk)
   have hok : 0 ≤ (tierR p (sumI nets)).amount ∧ (tierR p (sumI nets)).amount ≤ 10000000000000 := reached_ok ht (sumI nets)
   have hob : 0 ≤ offC (sumI nets) (tierR p (sumI nets)).rate (tierR p (sumI nets)).amount ∧ offC (sumI nets) (tierR p (sumI nets)).rate (tierR p (sumI nets)).amount ≤ sumI nets := offC_bound hsn hok.1
   have hW : Weights (offC (sumI nets) (tierR p (sumI nets)).rate (tierR p (sumI nets)).amount) nets := ⟨hob.1, by omega, hl, h0, by omega, fun e => by omega⟩
   have hb := half_bound (sumI nets) (tierR p (sumI nets)).rate
   have w : IntKind.i64.wrap (half (sumI nets) (tierR p (sumI nets)).rate + (tierR p (sumI nets)).amount) = half (sumI nets) (tierR p (sumI nets)).rate + (tierR p (sumI nets)).amount := wrap64_of (by omega) (by omega)
   rw [show (p.kind == 1) = false from by rw [hk]; rfl, hL]; conv => whnf
   rw [show (p.kind == 2) = false from by rw [hk]; rfl]; conv => whnf
   rw [show (p.kind == 6) = false from by rw [hk]; rfl]; conv => whnf
   rw [show (p.kind == 5) = true from by rw [hk]; rfl]; conv => whnf
   refine call1 (rsum_S nets (by omega) h0 (by omega) _) ?_; conv => whnf
   refine call1 (rReached_S p.tiers (sumI nets) (by have := ht.1; omega) _) ?_; conv => whnf
   intro b hbn; conv => whnf
   refine stV (upd_same ..) rfl (by omega) rfl (by rfl) ?_; conv => whnf
   refine ⟨[], [], List.range 15, by kernel_rfl, ?_⟩; conv => whnf
   refine ldV (upd_same ..) rfl (by omega) (v := eTier (tierR p (sumI nets))) (by rw [fset_same]; rfl) ?_; conv => whnf
   refine ⟨_, callQ (rhalf_S (sumI nets) (tierR p (sumI nets)).rate _), ?_⟩; conv => whnf
   refine ldV (upd_same ..) rfl (by omega) (v := eTier (tierR p (sumI nets))) (by rw [fset_same]; rfl) ?_; conv => whnf
   rw [w, min_offC]
   refine ⟨_, callQ (rlargest_S _ nets hW _), ?_⟩; conv => whnf
   exact .inr ⟨rfl, ((Sup.refl st).upd hbn).over hbn⟩
 · have hL : offsR p nets = nets.map fun x => offC x (tierR p nets.length).rate (tierR p nets.length).amount := by unfold offsR; rw [if_neg (by omega), if_neg (by omega), if_pos hk]
   have ht := hp.tiers (.inr hk)
   have hok : 0 ≤ (tierR p nets.length).amount ∧ (tierR p nets.length).amount ≤ 10000000000000 := reached_ok ht nets.length
   rw [show (p.kind == 1) = false from by rw [hk]; rfl, hL]; conv => whnf
   rw [show (p.kind == 2) = false from by rw [hk]; rfl]; conv => whnf
   rw [show (p.kind == 6) = true from by rw [hk]; rfl]; conv => whnf
   refine call1 (rReached_S p.tiers nets.length (by have := ht.1; omega) _) ?_; conv => whnf
   intro b hbn; conv => whnf
   refine stV (upd_same ..) rfl (by omega) rfl (by rfl) ?_
   rw [upd_twice]; conv => whnf
   generalize hst1 : upd st b _ = st1
   obtain ⟨f1, hs1, hf1⟩ : ∃ f, st1 b = some ⟨186, 3, 1, f⟩ ∧ f 0 = eTier (tierR p nets.length) := ⟨_, by rw [← hst1]; exact upd_same .., by rw [fset_same]; rfl⟩
   have hsup : Sup st st1 := by rw [← hst1]; exact (Sup.refl st).upd hbn
   clear hst1
   refine lp nets.length [1, 5, 8, 10] (fun i vs s => ∃ sv, vs = [eInts nets, sv, .optr 3 b 0 0, eI i] ∧ ColL 2 1 eI ((nets.take i).map fun x => offC x (tierR p nets.length).rate (tierR p nets.length).amount) st1 sv s) ?_ ?_
   · conv => whnf
     exact ⟨.emp, rfl, ColL.start _ _ _ _⟩
   · rintro i vs s hi ⟨sv, rfl, hc⟩
     have hb2 := hc.sup b _ hs1
     conv => whnf
     cases hd : decide ((i : Int) < (nets.length : Int))
     · obtain rfl := stop_at hd hi
       rw [List.take_length] at hc; conv => whnf
       exact .inl ⟨st1, hsup, hc⟩
     · have hi' := go_on hd
       have hb := half_bound (nets.getD (i : Int).toNat default) (tierR p nets.length).rate
       have w : IntKind.i64.wrap (half (nets.getD (i : Int).toNat default) (tierR p nets.length).rate + (tierR p nets.length).amount) = half (nets.getD (i : Int).toNat default) (tierR p nets.length).rate + (tierR p nets.length).amount := wrap64_of (by omega) (by omega)
       have hm := min_offC (x := nets.getD (i : Int).toNat default) (rate := (tierR p nets.length).rate) (amount := (tierR p nets.length).amount)
       rw [← w] at hm; conv => whnf
       refine ⟨[16, 17], [], List.range 19, by kernel_rfl, ?_⟩; conv => whnf
       refine ⟨rfl, ⟨by omega, by omega⟩, ?_⟩; conv => whnf
       refine ⟨rfl, ⟨by omega, by omega⟩, ?_⟩; conv => whnf
       refine ldV hb2 rfl (by omega) hf1 ?_; conv => whnf
       refine ⟨_, callQ (rhalf_S (nets.getD (i : Int).toNat default) (tierR p nets.length).rate _), ?_⟩; conv => whnf
       refine ldV hb2 rfl (by omega) hf1 ?_; conv => whnf
       refine ColL.app (q := r2) (y := offC (nets.getD (i : Int).toNat default) (tierR p nets.length).rate (tierR p nets.length).amount) rfl rfl rfl rfl rfl (by rw [← hm]; rfl) (by show (_ + 1) * 8 ≤ 140737488355328; rw [List.length_map, List.length_take]; omega) hc (fun sv' s' hc' => ?_); conv => whnf
       refine ⟨rfl, ?_⟩; conv => whnf
       exact nx hi' ⟨sv', by rw [wrapN (by omega)], by rw [take_map hi']; exact hc'⟩
theorem sum_zero {α : Type} (l : List α) : sumI (l.map fun _ => (0 : Int)) = 0 := by
 induction l with
 | nil => rfl
 | cons x l ih => rw [List.map_cons, show (0 : Int) :: l.map (fun _ => (0 : Int)) = [0] ++ l.map (fun _ => (0 : Int)) from rfl, sumI_append, ih]; rfl
theorem offsR_eq {p : Promo} (hp : AskOk p) {nets : List Int} (h0 : ∀ x ∈ nets, 0 ≤ x) (hs : sumI nets ≤ 10000000000000) (hl : nets.length ≤ 100000) :
   offsR p nets = offsOf p nets ∨ (offsOf p nets = [] ∧ sumI (offsR p nets) = 0 ∧ (offsR p nets).length = nets.length ∧ ∀ k, k < (offsR p nets).length → gI (offsR p nets) k = 0) := by
 have hx1 : ∀ x ∈ nets, x ≤ 10000000000000 := fun x hx => Int.le_trans (sumI_mem_le h0 hx) hs
 have ok := promoOk hp.right
 rcases hp.kind with hk | hk | hk | hk
 · refine .inl ?_
   unfold offsR offsOf offsP
   rw [if_pos hk, if_pos hk]
   refine List.map_congr_left fun x hx => ?_
   have hr : 1 ≤ p.rate ∧ p.rate ≤ 10000 := by
     have := hp.right
     unfold promoC pKind pRate at this
     rw [if_pos hk] at this
     simp only [Bool.and_eq_true, upB_iff] at this
     exact this.2
   have := rate_le (h0 x hx) (show 0 ≤ p.rate by omega) hr.2
   unfold offC
   rw [Int.add_zero]; split <;> omega
 · refine .inl ?_
   unfold offsR offsOf offsA
   rw [if_neg (by omega), if_pos hk, if_neg (by omega), if_pos hk]
 · unfold offsR offsOf offsS
   rw [if_neg (by omega), if_neg (by omega), if_neg (by omega), if_neg (by omega), if_neg (by omega), if_pos hk]
   cases hr : reachedB p.tiers (sumI nets) with
   | some t => refine .inl ?_; unfold tierR; rw [hr]; rfl
   | none =>
     have hsn := sumI_nonneg h0
     have e : offC (sumI nets) (tierR p (sumI nets)).rate (tierR p (sumI nets)).amount = 0 := by
       unfold tierR; rw [hr]
       show offC (sumI nets) 0 0 = 0
       unfold offC
       rw [half_zero hsn (by omega), Int.add_zero]; split <;> omega
     rw [e]
     have hW : Weights 0 nets := ⟨by omega, by omega, hl, h0, by omega, fun _ => rfl⟩
     obtain ⟨a, b, c⟩ := largest_sum hW
     exact .inr ⟨rfl, a, b, zero_of_sum c a⟩
 · unfold offsR offsOf offsC
   rw [if_neg (by omega), if_neg (by omega), if_pos hk, if_neg (by omega), if_neg (by omega), if_neg (by omega)]
   cases hr : reachedB p.tiers nets.length with
   | some t => refine .inl ?_; unfold tierR; rw [hr]; rfl
   | none =>
     have e : (nets.map fun x => offC x (tierR p nets.length).rate (tierR p nets.length).amount) = nets.map fun _ => (0 : Int) := by
       refine List.map_congr_left fun x hx => ?_
       unfold tierR; rw [hr]
       show offC x 0 0 = 0
       unfold offC
       rw [half_zero (h0 x hx) (Int.le_trans (hx1 x hx) (by decide)), Int.add_zero]
       have := h0 x hx
       split <;> omega
     rw [e]
     exact .inr ⟨rfl, sum_zero nets, by simp, fun k hk => by rw [List.length_map] at hk; exact getD_map (fun _ : Int => (0 : Int)) nets hk⟩
theorem netsAt_len (us : List AUnit) (mine : List Int) : (netsAt us mine).length = mine.length := List.length_map ..
theorem netsAt_pos {us : List AUnit} (hu : UnitsOk us) {mine : List Int} (hm : MineOk us mine) : (∀ x ∈ netsAt us mine, 0 ≤ x) ∧ sumI (netsAt us mine) ≤ 10000000000000 := by
 have hwl := weigh_le hu hm.places
 have hus := hu.sum
 exact ⟨fun x hx => by obtain ⟨i, hi, rfl⟩ := List.mem_map.1 hx; exact hu.at0 _, by rw [netsAt_weigh]; omega⟩
theorem lessR_apply {p : Promo} {us : List AUnit} {mine : List Int} (h0 : ∀ x ∈ offsOf p (netsAt us mine), 0 ≤ x) : lessR us mine (offsOf p (netsAt us mine)) p.closes = applyB p us mine := by
 have hn := sumI_nonneg h0
 unfold lessR applyB
 by_cases hz : sumI (offsOf p (netsAt us mine)) = 0
 · rw [if_pos hz]
   simp only
   rw [hz, takeOff_zero (zero_of_sum h0 hz) _ (Nat.le_refl _)]; rfl
 · rw [if_neg hz]
   simp only
   rw [decide_eq_true (show sumI (offsOf p (netsAt us mine)) > 0 by omega), Bool.true_and]
theorem rApply_S (p : Promo) (us : List AUnit) (mine : List Int) (hp : AskOk p) (hps : PromoSm p) (hu : UnitsOk us) (hm : MineOk us mine) (st : St) :
   S P 118 [ePromo p, eUnits us, eInts mine] st fun v st' => v = .tuple [eUnits (applyB p us mine).1, eI (applyB p us mine).2] ∧ st' = st := by
 have hml := hm.len
 have hul := hu.len
 obtain ⟨hn0, hns⟩ := netsAt_pos hu hm
 have hnl := netsAt_len us mine
 have hob := offs_bound hp hn0 hns (by omega)
 obtain ⟨ob1, ob2, ob3⟩ := hob
 have hle := offs_le hp hn0 hns (by omega)
 have hcz := offsR_eq hp hn0 hns (by omega)
 have hlen : (offsR p (netsAt us mine)).length ≤ mine.length := by
   rcases hcz with e | ⟨_, _, e, _⟩
   · rw [e]; omega
   · omega
 have hc : ∀ k, k < (offsR p (netsAt us mine)).length → 0 ≤ gI (offsR p (netsAt us mine)) k ∧ gI (offsR p (netsAt us mine)) k ≤ (gU us (gI mine k).toNat).net := fun k hk => by
   rcases hcz with e | ⟨_, _, _, e⟩
   · rw [e] at hk ⊢
     have h1 := hle k hk
     rw [show gI (netsAt us mine) k = (gU us (gI mine k).toNat).net from getD_map (fun i : Int => (gU us i.toNat).net) mine (by omega)] at h1
     exact ⟨ob3 _ (getD_mem hk), h1⟩
   · rw [e k hk]; exact ⟨Int.le_refl _, hu.at0 _⟩
 have hsum : sumI (offsR p (netsAt us mine)) ≤ 1000000000000000 := by
   rcases hcz with e | ⟨_, e, _⟩ <;> rw [e] <;> omega
 have hE : lessR us mine (offsR p (netsAt us mine)) p.closes = applyB p us mine := by
   rcases hcz with e | ⟨e1, e2, _⟩
   · rw [e]; exact lessR_apply ob3
   · unfold lessR applyB
     rw [if_pos e2, e1]; rfl
 rw [← hE]
 refine S_of_X [3] good mixed Tryz.func118 (by rfl) rfl rfl rfl ?_; conv => whnf
 refine call1 (rPromoOk_S p hps hp.right st) ?_; conv => whnf
 refine call1 (rMay_S us mine hu hm st) ?_; conv => whnf
 refine ⟨[], [], List.range 14, by kernel_rfl, ?_⟩; conv => whnf
 refine ⟨_, callQ (rnets_S us mine (by omega) hm.rng st), ?_⟩; conv => whnf
 refine ⟨_, callQ (roffs_S p (netsAt us mine) hp (by omega) hn0 hns st), ?_⟩; conv => whnf
 refine ⟨_, callQ (rless_S us mine (offsR p (netsAt us mine)) p.closes hu hm.places (by omega) hlen hc hsum st), ?_⟩; conv => whnf
 exact ⟨rfl, rfl⟩
def bgOff (p : Promo) (us : List AUnit) (D : List Int) (m i : Nat) : Int := if ((i % m : Nat) : Int) ≥ p.buy then half (gU us (gI D i).toNat).net p.rate else 0
def bgOffs (p : Promo) (us : List AUnit) (D : List Int) (m n : Nat) : List Int := (List.range n).map (bgOff p us D m)
theorem less1_zero {us : List AUnit} {i : Nat} (h : i < us.length) : less1 us i 0 = us := by
 unfold less1
 refine List.ext_getElem (by simp) fun j h1 h2 => ?_
 rw [List.getElem_set]
 split
 · rename_i e; subst e
   have e : gU us i = us[i] := by unfold gU; rw [List.getD_eq_getElem?_getD, List.getElem?_eq_getElem h]; rfl
   rw [e, Int.sub_zero]
 · rfl
theorem gI_map2 (d : List QE) {k : Nat} (h : k < d.length) : gI (d.map (·.2)) k = (at_ d k).2 := getD_map (fun e : QE => e.2) d h
theorem row_take {p : Promo} {us : List AUnit} {d : List QE} {m : Nat} (hP : Places us (d.map (·.2))) {n : Nat} (hn : n ≤ d.length) {s : Nat} (hs : s % m = 0) (hsm : s + m ≤ n) : ∀ k, k ≤ m →
   rowF p (takeOff us (d.map (·.2)) (bgOffs p us (d.map (·.2)) m n) s) (d.drop s) k = (takeOff us (d.map (·.2)) (bgOffs p us (d.map (·.2)) m n) (s + k), sumI ((bgOffs p us (d.map (·.2)) m n).take (s + k)) - sumI ((bgOffs p us (d.map (·.2)) m n).take s))
 | 0, _ => by unfold rowF; rw [Nat.add_zero, Int.sub_self]
 | k + 1, hk => by
   have ih := row_take (p := p) hP hn hs hsm k (by omega)
   have hln : (bgOffs p us (d.map (·.2)) m n).length = n := by unfold bgOffs; simp
   have hml : (d.map (·.2)).length = d.length := List.length_map ..
   have hrg := hP.rng (s + k) (by omega)
   have hat := takeOffP_at (offs := bgOffs p us (d.map (·.2)) m n) hP (show s + k < (d.map (·.2)).length by omega)
   have he : gI (bgOffs p us (d.map (·.2)) m n) (s + k) = if (k : Int) < p.buy then 0 else half (gU us (gI (d.map (·.2)) (s + k)).toNat).net p.rate := by
     unfold bgOffs
     rw [gI_map_range _ (by omega)]
     unfold bgOff
     rw [show (s + k) % m = k by rw [Nat.add_mod, hs, Nat.zero_add, Nat.mod_mod, Nat.mod_eq_of_lt (by omega)]]
     split <;> split <;> first | rfl | omega
   have hdr : at_ (d.drop s) k = at_ d (s + k) := by unfold at_; rw [List.getD_eq_getElem?_getD, List.getD_eq_getElem?_getD, List.getElem?_drop]
   have hts := sumI_take (l := bgOffs p us (d.map (·.2)) m n) (i := s + k) (by omega)
   rw [← Nat.add_assoc]
   unfold rowF
   rw [ih, hts, he, hdr, ← gI_map2 d (by omega)]
   split
   · rw [Int.add_zero]
     show _ = (less1 _ _ _, _)
     rw [he, if_pos (by assumption), less1_zero (by rw [takeOff_len]; exact hrg.2)]
   · show _ = (less1 _ _ _, _)
     rw [he, if_neg (by assumption), hat]
     congr 1
     show _ - _ + _ = _
     omega
theorem bg_take {p : Promo} {us : List AUnit} {d : List QE} {m : Nat} (hP : Places us (d.map (·.2))) {q : Nat} (hn : q * m ≤ d.length) : ∀ r, r ≤ q →
   bgF p us d m r = (takeOff us (d.map (·.2)) (bgOffs p us (d.map (·.2)) m (q * m)) (r * m), sumI ((bgOffs p us (d.map (·.2)) m (q * m)).take (r * m)))
 | 0, _ => by rw [Nat.zero_mul]; rfl
 | r + 1, hr => by
   have ih := bg_take (p := p) hP hn r (by omega)
   have e : (r + 1) * m = r * m + m := Nat.succ_mul r m
   have h1 : r * m + m ≤ q * m := by rw [← e]; exact Nat.mul_le_mul_right m hr
   have h2 := row_take (p := p) hP hn (s := r * m) (Nat.mul_mod_left ..) h1 m (Nat.le_refl _)
   unfold bgF
   rw [ih]
   simp only
   rw [h2, e]
   congr 1
   show _ + (_ - _) = _
   omega
theorem dear_places {us : List AUnit} {mine : List Int} (hm : MineOk us mine) : Places us ((dearB us mine).map (·.2)) := by
 have hp : ((dearB us mine).map (·.2)).Perm mine := by
   refine ((dearB_perm us mine).map _).trans (List.Perm.of_eq ?_)
   rw [List.map_map]
   exact (List.map_congr_left fun x _ => rfl).trans (List.map_id mine)
 have hnd : mine.Pairwise (· ≠ ·) := by
   rw [List.pairwise_iff_getElem]
   intro i j hi hj hij
   have := hm.lt i j hij hj
   simp only [gI, List.getD_eq_getElem?_getD, List.getElem?_eq_getElem hi, List.getElem?_eq_getElem hj, Option.getD_some] at this
   omega
 have hr : ∀ k, k < ((dearB us mine).map (·.2)).length → 0 ≤ gI ((dearB us mine).map (·.2)) k ∧ (gI ((dearB us mine).map (·.2)) k).toNat < us.length := fun k hk => perm_get (P := fun x => 0 ≤ x ∧ x.toNat < us.length) hp (fun x hx => by obtain ⟨j, hj, rfl⟩ := mem_getD hx; exact hm.rng j hj) hk
 refine ⟨hr, fun i k hik hk => ?_⟩
 have h1 := (hp.symm.pairwise hnd (fun h => h.symm))
 have := pw_at h1 hik hk
 have := hr i (by omega)
 have := hr k hk
 omega
theorem Places.take {us : List AUnit} {l : List Int} (h : Places us l) (n : Nat) : Places us (l.take n) := by
 have e : ∀ k, k < (l.take n).length → gI (l.take n) k = gI l k ∧ k < l.length := fun k hk => by
   rw [List.length_take] at hk
   unfold gI
   rw [List.getD_eq_getElem?_getD, List.getD_eq_getElem?_getD, List.getElem?_take_of_lt (by omega)]
   exact ⟨rfl, by omega⟩
 exact ⟨fun k hk => by rw [(e k hk).1]; exact h.rng k (e k hk).2, fun i k hik hk => by rw [(e k hk).1, (e i (by omega)).1]; exact h.ne i k hik (e k hk).2⟩
theorem takeOff_take {us : List AUnit} {l offs : List Int} {n : Nat} : ∀ k, k ≤ n → takeOff us (l.take n) offs k = takeOff us l offs k
 | 0, _ => rfl
 | k + 1, hk => by
   unfold takeOff
   rw [takeOff_take k (by omega)]
   congr 1
   unfold gI; rw [List.getD_eq_getElem?_getD, List.getD_eq_getElem?_getD, List.getElem?_take_of_lt (by omega)]
set_option maxHeartbeats 400000 in
theorem rBuyGet_S (p : Promo) (us : List AUnit) (mine : List Int) (hps : PromoSm p) (hright : promoC p = true) (hk : p.kind = 3) (hp : BuyOk p) (hu : UnitsOk us) (hm : MineOk us mine) (st : St) :
   S P 117 [ePromo p, eUnits us, eInts mine] st fun v st' => v = .tuple [eUnits (buyGetB p us mine).1, eI (buyGetB p us mine).2] ∧ st' = st := by
 have hB := hp.buy
 have hG := hp.get
 have hml := hm.len
 have hul := hu.len
 have hdl : ((dearB us mine).map (·.2)).length = mine.length := by rw [List.length_map, dearB_len]
 have hP := dear_places hm
 obtain ⟨m, hm1⟩ : ∃ m : Nat, (m : Int) = p.buy + p.get := ⟨(p.buy + p.get).toNat, by omega⟩
 have w1 : IntKind.i64.wrap (p.buy + p.get) = (m : Int) := by rw [wrap64_of (by omega) (by omega)]; omega
 have hq0 : mine.length / m * m ≤ mine.length := Nat.div_mul_le_self ..
 have hbg := bg_take (p := p) (m := m) hP (q := mine.length / m) (by rw [dearB_len]; exact hq0) _ (Nat.le_refl _)
 have hout : buyGetB p us mine = (if (decide (sumI (bgOffs p us ((dearB us mine).map (·.2)) m (mine.length / m * m)) > 0) && p.closes) = true then closeB (takeOff us ((dearB us mine).map (·.2)) (bgOffs p us ((dearB us mine).map (·.2)) m (mine.length / m * m)) (mine.length / m * m)) (((dearB us mine).map (·.2)).take (mine.length / m * m)) else takeOff us ((dearB us mine).map (·.2)) (bgOffs p us ((dearB us mine).map (·.2)) m (mine.length / m * m)) (mine.length / m * m), sumI (bgOffs p us ((dearB us mine).map (·.2)) m (mine.length / m * m))) := by
   have hl : (bgOffs p us ((dearB us mine).map (·.2)) m (mine.length / m * m)).length = mine.length / m * m := by unfold bgOffs; simp
   unfold buyGetB
   simp only
   rw [show (p.buy + p.get).toNat = m by omega, dearB_len, hbg]
   simp only
   rw [show (bgOffs p us ((dearB us mine).map (·.2)) m (mine.length / m * m)).take (mine.length / m * m) = bgOffs p us ((dearB us mine).map (·.2)) m (mine.length / m * m) from List.take_of_length_le (by omega), List.map_take]
 refine S_of_X [3] good mixed Tryz.func117 (by rfl) rfl rfl rfl ?_; conv => whnf
 refine call1 (rPromoOk_S p hps hright st) ?_; conv => whnf
 rw [show (p.kind != 3) = false from by rw [hk]; rfl]; conv => whnf
 refine call1 (rMay_S us mine hu hm st) ?_; conv => whnf
 refine call1 (rdear_S us mine hu hm st) ?_
 clear hbg
 generalize (dearB us mine).map (·.2) = D at *
 conv => whnf
 rw [w1, decide_eq_false (show ¬ (m : Int) = 0 by omega)]; conv => whnf
 have hN : IntKind.i64.wrap ((D.length : Int) - (D.length : Int).tmod (m : Int)) = ((mine.length / m * m : Nat) : Int) := by
   rw [hdl, Int.tmod_eq_emod_of_nonneg (by omega), ← Int.natCast_emod]
   have := Nat.div_add_mod mine.length m
   rw [Nat.mul_comm] at this
   rw [wrap64_of (by omega) (by omega)]; omega
 rw [hN]
 generalize hNe : mine.length / m * m = N at *
 refine ⟨rfl, ⟨by omega, by omega, by omega⟩, ?_⟩; conv => whnf
 refine lp N [1, 3, 8, 9, 10, 11] (fun i vs s => ∃ sv, vs = [eUnits us, .fptr (ePromo p) 0, .arr 1 N (fun i => eI (D.getD ((0 : Int).toNat + i) default)), eI m, sv, eI i] ∧ ColL 2 1 eI (bgOffs p us D m i) st sv s) ?_ ?_
 · conv => whnf
   exact ⟨.emp, rfl, ColL.start _ _ _ _⟩
 · rintro i vs s hi ⟨sv, rfl, hc⟩
   conv => whnf
   cases hd : decide ((i : Int) < (N : Int))
   · obtain rfl := stop_at hd hi
     have hln : (bgOffs p us D m i).length = i := by unfold bgOffs; simp
     have hb0 : ∀ k, k < (bgOffs p us D m i).length → 0 ≤ gI (bgOffs p us D m i) k ∧ gI (bgOffs p us D m i) k ≤ (gU us (gI (D.take i) k).toNat).net := fun k hk => by
       have e : gI (D.take i) k = gI D k := by unfold gI; rw [List.getD_eq_getElem?_getD, List.getD_eq_getElem?_getD, List.getElem?_take_of_lt (by omega)]
       rw [e]
       unfold bgOffs
       rw [gI_map_range _ (by omega)]
       unfold bgOff
       have h9 := hu.at0 (gI D k).toNat
       split
       · exact ⟨(half_bound _ _).1, rate_le h9 hp.rate.1 hp.rate.2⟩
       · exact ⟨Int.le_refl _, h9⟩
     have h0s : ∀ x ∈ bgOffs p us D m i, 0 ≤ x := fun x hx => by obtain ⟨k, hk, rfl⟩ := mem_getD hx; exact (hb0 k hk).1
     have hsum : sumI (bgOffs p us D m i) ≤ 1000000000000000 := by
       have h5 := takeOff_off hu (hP.take i) (offs := bgOffs p us D m i) (by rw [hln, List.length_take]; omega) hb0 (bgOffs p us D m i).length (Nat.le_refl _)
       rw [List.take_length] at h5
       have := h5.sum
       have := hu.sum
       have := sumI_nonneg (h5.ok hu).nets0
       omega
     have hE : lessR us (D.take i) (bgOffs p us D m i) p.closes = buyGetB p us mine := by
       rw [hout]
       unfold lessR
       rw [hln, takeOff_take i (Nat.le_refl _)]
       have hn := sumI_nonneg h0s
       by_cases hz : sumI (bgOffs p us D m i) = 0
       · rw [if_pos hz, hz, takeOff_zero (zero_of_sum h0s hz) i (by omega)]; rfl
       · rw [if_neg hz, decide_eq_true (show sumI (bgOffs p us D m i) > 0 by omega), Bool.true_and]
     rw [← hE]; conv => whnf
     have hsh : Shift [eUnits us, .arr 1 i (fun i => eI (D.getD ((0 : Int).toNat + i) default)), sv, eB p.closes] s [eUnits us, eInts (D.take i), eInts (bgOffs p us D m i), eB p.closes] st := by
       refine Shift.cons (t := s) (Shift.keep _ _) (Shift.cons (t := s) ?_ (Shift.cons hc.shift (Shift.keep _ _)))
       have e : eInts (D.take i) = .arr 1 i (fun k => eI (gI (D.take i) k)) := by unfold eInts arrOf; rw [List.length_take, Nat.min_eq_left (by omega)]
       rw [e]
       refine Shift.arr fun k hk => ?_
       show eI (D.getD ((0 : Int).toNat + k) default) = eI ((D.take i).getD k default)
       rw [show (0 : Int).toNat + k = k by simp, List.getD_eq_getElem?_getD, List.getD_eq_getElem?_getD, List.getElem?_take_of_lt hk]
     refine call_shift hsh (call1 (rless_S us (D.take i) (bgOffs p us D m i) p.closes hu (hP.take i) (by rw [List.length_take]; omega) (by rw [hln, List.length_take]; omega) hb0 hsum st) ?_); conv => whnf
     exact ⟨rfl, rfl⟩
   · have hi' := go_on hd
     have hr := hP.rng i (by omega)
     have hrem : (i : Int).tmod (m : Int) = ((i % m : Nat) : Int) := by rw [Int.tmod_eq_emod_of_nonneg (by omega), Int.natCast_emod]
     have hln : (bgOffs p us D m i).length = i := by unfold bgOffs; simp
     have hsn : bgOffs p us D m (i + 1) = bgOffs p us D m i ++ [bgOff p us D m i] := by unfold bgOffs; rw [List.range_succ, List.map_append]; rfl
     have hbo : bgOff p us D m i = if ((i % m : Nat) : Int) ≥ p.buy then half (gU us (gI D i).toNat).net p.rate else 0 := rfl
     conv => whnf
     refine ⟨[], [], List.range 6, by kernel_rfl, ?_⟩; conv => whnf
     rw [decide_eq_false (show ¬ (m : Int) = 0 by omega)]; conv => whnf
     rw [hrem]
     refine fork (fun h1 => ?_) (fun h1 => ?_) <;> rw [h1]
     case' refine_1 =>
       rw [if_pos (of_decide_eq_true h1)] at hbo; conv => whnf
       refine ⟨[], [], List.range 12, by kernel_rfl, ?_⟩; conv => whnf
       refine ⟨rfl, ⟨by omega, by omega⟩, ?_⟩; conv => whnf
       rw [show (0 : Int).toNat + (i : Int).toNat = i by simp]
       refine ⟨rfl, ⟨by show 0 ≤ gI D i; omega, by show gI D i < (us.length : Int); omega⟩, ?_⟩; conv => whnf
       refine ⟨_, callQ (rhalf_S (gU us (gI D i).toNat).net p.rate _), ?_⟩
       rw [← hbo]
     case' refine_2 =>
       rw [if_neg (of_decide_eq_false h1)] at hbo
     all_goals (conv => whnf)
     all_goals refine ColL.app (q := r2) (y := bgOff p us D m i) rfl rfl rfl rfl rfl (by first | rfl | (rw [hbo]; rfl)) (by show (_ + 1) * 8 ≤ 140737488355328; omega) hc (fun sv' s' hc' => ?_)
     all_goals (conv => whnf)
     all_goals refine ⟨rfl, ?_⟩
     all_goals (conv => whnf)
     all_goals exact nx hi' ⟨sv', by rw [wrapN (by omega)], by rw [hsn]; exact hc'⟩
theorem takeR_pre (used : List Bool) (l : List QE) : ∃ pre, l = pre ++ (takeR used l).2 ∧ ∀ e ∈ pre, used.getD e.2.toNat default = true ∨ (takeR used l).1 = some e.2 := by
 induction l with
 | nil => exact ⟨[], rfl, fun e h => by cases h⟩
 | cons e l ih =>
   by_cases hu : used.getD e.2.toNat default = true
   · have ht : takeR used (e :: l) = takeR used l := by
       show (if used.getD e.2.toNat default = true then takeR used l else (some e.2, l)) = _
       rw [if_pos hu]
     obtain ⟨pre, h1, h2⟩ := ih
     rw [ht]
     exact ⟨e :: pre, by rw [List.cons_append, ← h1], fun x hx => by
       rcases List.mem_cons.1 hx with rfl | hx
       · exact .inl hu
       · exact h2 x hx⟩
   · have ht : takeR used (e :: l) = (some e.2, l) := by
       show (if used.getD e.2.toNat default = true then takeR used l else (some e.2, l)) = _
       rw [if_neg hu]
     rw [ht]
     exact ⟨[e], rfl, fun x hx => by rw [List.mem_singleton] at hx; subst hx; exact .inr rfl⟩
theorem takeR_skip {used : List Bool} {pre : List QE} (h : ∀ e ∈ pre, used.getD e.2.toNat default = true) (l : List QE) : takeR used (pre ++ l) = takeR used l := by
 induction pre with
 | nil => rfl
 | cons e pre ih =>
   show (if used.getD e.2.toNat default = true then takeR used (pre ++ l) else (some e.2, pre ++ l)) = _
   rw [if_pos (h e (List.mem_cons_self ..))]
   exact ih fun x hx => h x (List.mem_cons_of_mem _ hx)
def PreOk (E : Nat → List QE) (n : Nat) (s : MSt) : Prop := ∀ k, k < n → ∃ pre, E k = pre ++ s.es k ∧ ∀ e ∈ pre, s.used.getD e.2.toNat default = true
theorem set_true {used : List Bool} {i : Nat} (hi : i < used.length) (j : Nat) : (used.set i true).getD j default = if j = i then true else used.getD j default := by
 simp only [List.getD_eq_getElem?_getD, List.getElem?_set]
 by_cases h : j = i
 · subst h; simp [hi]
 · rw [if_neg (fun e => h e.symm), if_neg h]
theorem PreOk.take {E : Nat → List QE} {us : List AUnit} {n : Nat} {s s' : MSt} (h : PreOk E n s) (hok : MOk us n s) {k : Nat} (hk : k < n) (ht : takeF k s = some s') : PreOk E n s' := by
 obtain ⟨pre0, p1, p2⟩ := takeR_pre s.used (s.es k)
 obtain ⟨_, t2, _, _⟩ := takeR_spec s.used (s.es k)
 unfold takeF at ht
 split at ht
 · cases ht
 · rename_i i hi
   cases ht
   obtain ⟨e0, he0, rfl, _⟩ := t2 i hi
   have hlt : e0.2.toNat < s.used.length := by rw [hok.len]; exact (hok.rng k hk e0 he0).2
   intro j hj
   obtain ⟨pre, h1, h2⟩ := h j hj
   have hmono : ∀ e : QE, s.used.getD e.2.toNat default = true → (s.used.set e0.2.toNat true).getD e.2.toNat default = true := fun e he => by
     rw [set_true hlt]; split
     · rfl
     · exact he
   by_cases ej : j = k
   · subst ej
     refine ⟨pre ++ pre0, ?_, fun e he => ?_⟩
     · show E j = _ ++ fupd s.es j _ j
       rw [fupd_same, List.append_assoc, ← p1]; exact h1
     · rcases List.mem_append.1 he with he | he
       · exact hmono e (h2 e he)
       · rcases p2 e he with he | he
         · exact hmono e he
         · rw [hi] at he
           have he := Option.some.inj he
           show (s.used.set _ true).getD _ default = true
           rw [set_true hlt, if_pos (by rw [he])]
   · refine ⟨pre, ?_, fun e he => hmono e (h2 e he)⟩
     show E j = _ ++ fupd s.es k _ j
     rw [fupd_ne ej]; exact h1
theorem PreOk.takes {E : Nat → List QE} {us : List AUnit} {n : Nat} {s : MSt} (h : PreOk E n s) (hok : MOk us n s) {k : Nat} (hk : k < n) : ∀ {c : Nat} {s' : MSt}, takesF k c s = some s' → PreOk E n s'
 | 0, s', e => by cases e; exact h
 | c + 1, s', e => by
   unfold takesF at e
   obtain ⟨s1, h1, h2⟩ := Option.bind_eq_some_iff.1 e
   exact (PreOk.takes h hok hk h1).take (hok.takes hk h1) hk h2
theorem PreOk.parts {E : Nat → List QE} {us : List AUnit} {p : Promo} {s : MSt} (h : PreOk E p.parts.length s) (hok : MOk us p.parts.length s) : ∀ {k : Nat} {s' : MSt}, k ≤ p.parts.length → partsF p.parts k s = some s' → PreOk E p.parts.length s'
 | 0, s', _, e => by cases e; exact h
 | k + 1, s', hk, e => by
   unfold partsF at e
   obtain ⟨s1, h1, h2⟩ := Option.bind_eq_some_iff.1 e
   exact (PreOk.parts h hok (by omega) h1).takes (MOk.parts hok (by omega) h1) (by omega) h2
def oneR (p : Promo) (ms : MSt) : List Int := match partsF p.parts p.parts.length ms with | none => [] | some s => sortI s.l
theorem rone_S (p : Promo) (hp : BunOk p) (us : List AUnit) (hul : us.length ≤ 100000) (E : Nat → List QE) (L : List (List Int)) (hL : L.length = p.parts.length) (hLE : ∀ k, k < p.parts.length → L.getD k default = (E k).map (·.2)) (hE : ∀ k, k < p.parts.length → (E k).length ≤ 100000 ∧ ∀ e ∈ E k, 0 ≤ e.2 ∧ e.2.toNat < us.length)
   (ms : MSt) (hl0 : ms.l = []) (hm : MOk us p.parts.length ms) (hpre : PreOk E p.parts.length ms) (bu : Nat) (gu : Nat → AV) (st : St) (bl : Nat) (gl : Nat → AV) (hbl : st bl = some ⟨29, 1, L.length, gl⟩) (hgl : ∀ k, k < L.length → gl k = eInts (L.getD k default)) (hbu : st bu = some ⟨4, 1, us.length, gu⟩) (hgu : ∀ k, k < us.length → gu k = eB (ms.used.getD k default)) :
   S P 178 [ePromo p, eUnits us, .own 1 bl 0 L.length, .own 1 bu 0 us.length] st fun v st' => v = eInts (oneR p ms) ∧ st' = st := by
 refine S.post (post := fun v st' => ((v = .emp ∧ oneR p ms = []) ∨ v = eInts (oneR p ms)) ∧ Sup st st') ?_
   (fun v st' ⟨h, hs⟩ => ⟨_, st, ⟨rfl, rfl⟩, by
     rcases h with ⟨rfl, h⟩ | rfl
     · rw [h]; exact (hs.shift _).trans (shift_emp 1 _)
     · exact hs.shift _⟩)
 have hn8 := hp.n8
 refine S_of_X [4] good mixed Tryz.func178 (by rfl) rfl rfl rfl ?_
 have main : ∀ (tv : AV) (s0 : St) , Col 4 1 (fun k => eB (ms.used.getD k default)) st us.length tv s0 → True := fun _ _ _ => trivial
 conv => whnf
 refine Col.apps (q := r4) (f := fun k => eB (ms.used.getD k default)) rfl rfl rfl rfl (srcOwn hbu rfl (by show 0 + us.length ≤ us.length; omega)) (fun i hi => by show gu (0 + i) = eB (ms.used.getD (0 + i) default); rw [Nat.zero_add]; exact hgu i hi) (by show (0 + us.length) * 1 ≤ _; omega) (Col.start _ _ _ st) (fun tv s0 hc0 => ?_)
 rw [Nat.zero_add] at hc0
 clear main
 conv => whnf
 refine lp p.parts.length [2, 4, 9, 10, 11] (fun i vs s => ∃ sv tv s0 si, vs = [.own 1 bl 0 L.length, .fptr (ePromo p) 0, sv, tv, eI i] ∧ partsF p.parts i ms = some si ∧ Col 4 1 (fun k => eB (si.used.getD k default)) st us.length tv s0 ∧ ColL 3 1 eI si.l s0 sv s) ?_ ?_
 · conv => whnf
   exact ⟨.emp, tv, s0, ms, rfl, rfl, hc0, by rw [hl0]; exact ColL.start _ _ _ _⟩
 · clear hc0
   rintro i vs s hi ⟨sv, tv, s0, si, rfl, hsi, hc0, hc1⟩
   have hmi := MOk.parts hm hi hsi
   have hpi := hpre.parts hm hi hsi
   have hleni := partsF_len hp hi hsi
   rw [hl0, List.length_nil] at hleni; conv => whnf
   cases hd : decide ((i : Int) < (p.parts.length : Int))
   · obtain rfl := stop_at hd hi
     have hone : oneR p ms = sortI si.l := by unfold oneR; rw [hsi]
     conv => whnf
     refine call_shift hc1.shift (call1 (rrising_S si.l (by omega) _) ?_); conv => whnf
     exact ⟨.inr (by rw [hone]; rfl), hc0.sup⟩
   · have hi' := go_on hd
     have hLi : L.getD (i : Int).toNat default = (E i).map (·.2) := by rw [Int.toNat_natCast]; exact hLE i hi'
     obtain ⟨hEl, hEr⟩ := hE i hi'
     have hct := hp.at hi'
     obtain ⟨pre, hpr1, hpr2⟩ := hpi i hi'
     have hcn : (p.parts.getD (i : Int).toNat default).count = (((p.parts.getD i default).count.toNat : Nat) : Int) := by rw [Int.toNat_natCast]; omega
     have hfin : partsF p.parts (i + 1) ms = takesF i (p.parts.getD i default).count.toNat si := by
       conv => lhs; unfold partsF
       rw [hsi]; rfl
     have hnone : ∀ n, n ≤ (p.parts.getD i default).count.toNat → takesF i n si = none → oneR p ms = [] := fun n hn hnn => by
       have h1 := takesF_none hnn hn
       rw [← hfin] at h1
       unfold oneR; rw [partsF_none h1 hi']
     have hC100 : (p.parts.getD i default).count.toNat ≤ 100 := by omega
     generalize (p.parts.getD i default).count.toNat = C at *
     conv => whnf
     refine lp (E i).length [2, 4, 9, 10, 11, 12, 13] (fun k vs s => ∃ (sv tv : AV) (s0 : St) (n : Nat) (si2 : MSt), vs = [.own 1 bl 0 L.length, .fptr (ePromo p) 0, sv, tv, eI i, eI n, eI k] ∧ n ≤ C ∧ takesF i n si = some si2 ∧ takeR si2.used (si2.es i) = takeR si2.used ((E i).drop k) ∧ Col 4 1 (fun k => eB (si2.used.getD k default)) st us.length tv s0 ∧ ColL 3 1 eI si2.l s0 sv s) ?_ ?_
     · conv => whnf
       exact ⟨sv, tv, s0, 0, si, rfl, Nat.zero_le _, rfl, by rw [List.drop_zero, hpr1, takeR_skip hpr2], hc0, hc1⟩
     · clear hc0 hc1
       rintro k vs s hk ⟨sv, tv, s0, n, si2, rfl, hn, hs2, htk, hc0, hc1⟩
       have hm2 := hmi.takes hi' hs2
       have hlen2 := takesF_len hs2
       have hlv := hc1.sup bl _ (hc0.sup bl _ hbl)
       have hgi : gl (0 + (i : Int).toNat) = eInts (L.getD (i : Int).toNat default) := by rw [Nat.zero_add]; exact hgl _ (by omega)
       conv => whnf
       refine ⟨rfl, ⟨by omega, by omega⟩, ?_⟩; conv => whnf
       refine ldV hlv rfl (by omega) hgi ?_; conv => whnf
       rw [hLi]
       have hml : ((E i).map (·.2)).length = (E i).length := List.length_map ..
       generalize hMe : (E i).map (·.2) = Mi at *
       rw [hml]
       cases hd1 : decide ((k : Int) < ((E i).length : Int))
       case' false =>
         have hbad : n < C → oneR p ms = [] := fun hlt => by
           obtain rfl := stop_at hd1 hk
           refine hnone (n + 1) hlt ?_
           unfold takesF
           rw [hs2]
           show takeF i si2 = none
           unfold takeF
           rw [htk, List.drop_length]; rfl
         conv => whnf
       case' true =>
         have hk' := go_on hd1
         conv => whnf
         refine ⟨rfl, ⟨by omega, by omega⟩, ?_⟩; conv => whnf
         rw [hcn]
         cases hd2 : decide ((n : Int) < (C : Int))
         case' false =>
           have hbad : n < C → oneR p ms = [] := fun hlt => absurd hd2 (by rw [decide_eq_true (by omega)]; simp)
           conv => whnf
         case' true =>
           have hnC := go_on hd2
           have hMk : Mi.getD (k : Int).toNat default = (at_ (E i) k).2 := by rw [← hMe, Int.toNat_natCast]; exact getD_map (fun e : QE => e.2) _ hk'
           have hu : 0 ≤ (at_ (E i) k).2 ∧ (at_ (E i) k).2.toNat < us.length := hEr _ (getD_mem hk')
           have hdrop : (E i).drop k = at_ (E i) k :: (E i).drop (k + 1) := by
             rw [List.drop_eq_getElem_cons hk']; simp [at_, hk']
           have hul2 : us.length = si2.used.length := hm2.len.symm
           rcases hc0 with ⟨h0, rfl, rfl⟩ | ⟨h0, bt, g, hbt, rfl, rfl, hg⟩
           · omega
           have hbs := hc1.sup bt _ (upd_same ..)
           conv => whnf
           refine ⟨rfl, ⟨by omega, by omega⟩, ?_⟩; conv => whnf
           refine ldV hlv rfl (by omega) hgi ?_; conv => whnf
           rw [hLi]
           refine ⟨rfl, ⟨by omega, by omega⟩, ?_⟩; conv => whnf
           rw [← hMk] at hu
           refine ⟨rfl, ⟨by omega, by omega⟩, ?_⟩; conv => whnf
           refine ldV hbs rfl (by omega) (v := eB (si2.used.getD (Mi.getD (k : Int).toNat default).toNat default)) (by rw [Nat.zero_add]; exact hg _ hu.2) ?_; conv => whnf
           refine fork (fun h5 => ?_) (fun h5 => ?_) <;> rw [h5]
           · have hfr : si2.used.getD (Mi.getD (k : Int).toNat default).toNat default = false := by simpa using h5
             have htk2 : takeR si2.used (si2.es i) = (some (Mi.getD (k : Int).toNat default), (E i).drop (k + 1)) := by
               rw [htk, hdrop, hMk]
               show (if si2.used.getD (at_ (E i) k).2.toNat default = true then _ else _) = _
               rw [if_neg (by rw [← hMk, hfr]; simp)]
             have hs3 : takesF i (n + 1) si = some ⟨si2.used.set (Mi.getD (k : Int).toNat default).toNat true, fupd si2.es i ((E i).drop (k + 1)), si2.l ++ [(Mi.getD (k : Int).toNat default)]⟩ := by
               unfold takesF
               rw [hs2]
               show takeF i si2 = _
               unfold takeF
               rw [htk2]
             conv => whnf
             refine ⟨rfl, ⟨by omega, by omega⟩, ?_⟩; conv => whnf
             refine stV hbs rfl (by omega) (v := eB (si2.used.getD (Mi.getD (k : Int).toNat default).toNat default)) (by rw [Nat.zero_add]; exact hg _ hu.2) (by rfl) ?_
             have hc2 := Col.write hc1 (y' := ⟨4, 1, us.length, fset g (0 + (Mi.getD (k : Int).toNat default).toNat) (eB true)⟩) (upd_same ..)
             rw [upd_twice] at hc2; conv => whnf
             refine ColL.app (q := r3) (y := (Mi.getD (k : Int).toNat default)) (L := si2.l) rfl rfl rfl rfl rfl rfl (by show (_ + 1) * 8 ≤ 140737488355328; omega) hc2 (fun sv' s' hc' => ?_); conv => whnf
             refine ⟨rfl, ?_⟩; conv => whnf
             refine nx hk' ⟨sv', .own 1 bt 0 us.length, _, n + 1, _, by rw [wrapN (by omega), wrapN (by omega)], hnC, hs3, ?_, .inr ⟨h0, bt, _, hbt, rfl, rfl, fun j hj => ?_⟩, hc'⟩
             · show takeR _ (fupd si2.es i _ i) = _
               rw [fupd_same]
             · show fset g (0 + (Mi.getD (k : Int).toNat default).toNat) (eB true) j = eB ((si2.used.set (Mi.getD (k : Int).toNat default).toNat true).getD j default)
               rw [Nat.zero_add, set_true (by omega)]
               by_cases ej : j = (Mi.getD (k : Int).toNat default).toNat
               · rw [if_pos ej, ej, fset_same]
               · rw [if_neg ej, fset_ne ej]; exact hg j hj
           · have hfr : si2.used.getD (Mi.getD (k : Int).toNat default).toNat default = true := by simpa using h5
             conv => whnf
             refine ⟨rfl, ?_⟩; conv => whnf
             refine nx hk' ⟨sv, .own 1 bt 0 us.length, _, n, si2, by rw [wrapN (by omega)], hn, hs2, ?_, .inr ⟨h0, bt, g, hbt, rfl, rfl, hg⟩, hc1⟩
             rw [htk, hdrop]
             show (if si2.used.getD (at_ (E i) k).2.toNat default = true then takeR si2.used ((E i).drop (k + 1)) else _) = _
             rw [if_pos (by rw [← hMk]; exact hfr)]
       all_goals
         refine ⟨rfl, ⟨by omega, by omega⟩, ?_⟩; conv => whnf
         rw [hcn]
         cases hd3 : decide ((n : Int) < (C : Int))
         · obtain rfl : n = C := by have := of_decide_eq_false hd3; omega
           conv => whnf
           refine ⟨rfl, ?_⟩; conv => whnf
           exact nx hi' ⟨sv, tv, s0, si2, by rw [wrapN (by omega)], by rw [hfin]; exact hs2, hc0, hc1⟩
         · have hb := hbad (go_on hd3)
           conv => whnf
           exact ⟨.inl ⟨rfl, hb⟩, hc0.sup.trans hc1.sup⟩
end Go.Proofs.YtnekegdhpjplbaaGreat
