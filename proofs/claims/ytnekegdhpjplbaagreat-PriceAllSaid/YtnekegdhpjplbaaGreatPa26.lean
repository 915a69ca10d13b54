/- Part 26 of the proof: contracts of the functions that the law reaches -/
import Derived.Test.YtnekegdhpjplbaaGreatPa25
set_option maxRecDepth 100000
set_option linter.unusedVariables false
set_option linter.unusedSimpArgs false
namespace Go.Proofs.YtnekegdhpjplbaaGreat
open Go Go.Ab
attribute [local irreducible] upd del
abbrev RL (ls : List Int) (svl : AV) : St → St → Prop := fun s t => ROut Sup 2 1 (fun k => eI (gI ls k)) ls.length s svl t
abbrev RA (all ls : List Int) (sva svl : AV) : St → St → Prop := fun s t => ROut (RL ls svl) 3 1 (fun k => eI (gI all k)) all.length s sva t
theorem besideL (ls : List Int) (svl : AV) : Beside (RL ls svl) := besideOut besideSup _ _ _ _ _
theorem besideA (all ls : List Int) (sva svl : AV) : Beside (RA all ls sva svl) := besideOut (besideL ls svl) _ _ _ _ _
theorem RA.appA {all ls : List Int} {sva svl : AV} {s t : St} {y : Int} {x : AV} {k : KK} {g : Nat → AV} (h : RA all ls sva svl s t) (hs : srcOf 1 t x = some (1, g)) (hg : g 0 = eI y) (hb : (all.length + 1) * 8 ≤ 140737488355328)
   (hk : ∀ sva' t', RA (all ++ [y]) ls sva' svl s t' → k sva' t') : xApp T 29 sva x t k :=
 ROut.app (q := r3) (f := fun k => eI (gI (all ++ [y]) k)) (besideL ls svl) rfl rfl rfl rfl hs (by rw [hg]; show eI y = eI (gI _ _); rw [gI_last]) hb (ROut.congr h fun k hk => by show eI _ = eI _; rw [gI_append hk]) (fun sv' t' h' => hk sv' t' (by
   show ROut _ _ _ _ (all ++ [y]).length _ _ _
   rw [List.length_append]; exact h'))
theorem RA.appL {all ls : List Int} {sva svl : AV} {s t : St} {y : Int} {x : AV} {k : KK} {g : Nat → AV} (h : RA all ls sva svl s t) (hs : srcOf 1 t x = some (1, g)) (hg : g 0 = eI y) (hb : (ls.length + 1) * 8 ≤ 140737488355328)
   (hk : ∀ svl' t', RA all (ls ++ [y]) sva svl' s t' → k svl' t') : xApp T 41 svl x t k := by
 obtain ⟨s0, hc, h⟩ := h
 refine ROut.app (q := r2) (f := fun k => eI (gI (ls ++ [y]) k)) besideSup rfl rfl rfl rfl hs (by rw [hg]; show eI y = eI (gI _ _); rw [gI_last]) hb (ROut.congr h fun k hk => by show eI _ = eI _; rw [gI_append hk]) (fun sv' t' h' => hk sv' t' ⟨s0, hc, ?_⟩)
 show ROut _ _ _ _ (ls ++ [y]).length _ _ _
 rw [List.length_append]; exact h'
theorem RA.start (s : St) : RA [] [] .emp .emp s s := ROut.start (ROut.start (Sup.refl s) _ _ _) _ _ _
theorem RA.shift {all ls : List Int} {sva svl : AV} {s t : St} (h : RA all ls sva svl s t) (a b : AV) : ∃ t2, Shift [a, sva, svl, b] t [a, eInts all, eInts ls, b] t2 ∧ Sup s t2 := by
 obtain ⟨t1, h1, h2⟩ := ROut.shift (besideL ls svl) h
 obtain ⟨t2, h3, h4⟩ := ROut.shift besideSup h2
 exact ⟨t2, Shift.cons (Shift.keep _ _) (Shift.cons h1 (Shift.cons h3 (Shift.keep _ _))), h4⟩
def setAll (u : List Bool) (l : List Int) : List Bool := l.foldl (fun u x => u.set x.toNat true) u
theorem setAll_len (u : List Bool) (l : List Int) : (setAll u l).length = u.length := by
 unfold setAll
 induction l generalizing u with
 | nil => rfl
 | cons x l ih => rw [List.foldl_cons, ih, List.length_set]
theorem setAll_get {u : List Bool} {l : List Int} (hl : ∀ x ∈ l, x.toNat < u.length) (j : Nat) : (setAll u l).getD j default = true ↔ u.getD j default = true ∨ j ∈ l.map Int.toNat := by
 unfold setAll
 induction l generalizing u with
 | nil => simp
 | cons x l ih =>
   rw [List.foldl_cons, ih (fun y hy => by rw [List.length_set]; exact hl y (List.mem_cons_of_mem _ hy)), set_true (hl x (List.mem_cons_self ..)), List.map_cons, List.mem_cons]
   by_cases h : j = x.toNat
   · simp [h]
   · rw [if_neg h]; simp [h]
theorem takeOff_app {us : List AUnit} {l offs l' offs' : List Int} (h : l.length = offs.length) : ∀ k, k ≤ offs'.length → k ≤ l'.length → takeOff us (l ++ l') (offs ++ offs') (offs.length + k) = takeOff (takeOff us l offs offs.length) l' offs' k
 | 0, _, _ => by
   rw [Nat.add_zero]
   have : ∀ n, n ≤ offs.length → takeOff us (l ++ l') (offs ++ offs') n = takeOff us l offs n := fun n => by
     induction n with
     | zero => intro _; rfl
     | succ n ih =>
       intro hn
       unfold takeOff
       rw [ih (by omega), gI_append (by omega), gI_append (by omega)]
   exact this _ (Nat.le_refl _)
 | k + 1, h1, h2 => by
   have ih := takeOff_app (us := us) (l' := l') (offs' := offs') h k (by omega) (by omega)
   have e : ∀ (a b : List Int), a.length = offs.length → gI (a ++ b) (offs.length + k) = gI b k := fun a b ha => by
     unfold gI
     rw [List.getD_eq_getElem?_getD, List.getD_eq_getElem?_getD, List.getElem?_append_right (by omega), ha, Nat.add_sub_cancel_left]
   rw [← Nat.add_assoc]
   unfold takeOff
   rw [ih, e l l' h, e offs offs' rfl]
structure RInv (p : Promo) (us : List AUnit) (E : Nat → List QE) (D : Nat) (b : BSt) (ls : List Int) : Prop where
 ok : BOk p us D b
 pre : PreOk E p.parts.length ⟨b.ms.used, b.ms.es, []⟩
 len : ls.length = b.taken.length
 out : b.out = takeOff us b.taken ls ls.length
 sum : sumI ls = b.all
 pos : b.taken = [] ∨ 0 < b.all
 bnd : ∀ k, k < ls.length → 0 ≤ gI ls k ∧ gI ls k ≤ (gU us (gI b.taken k).toNat).net
 nd : (b.taken.map Int.toNat).Nodup
 used : ∀ x ∈ b.taken, b.ms.used.getD x.toNat default = true
theorem RInv.step {p : Promo} (hp : BunOk p) {us : List AUnit} (hu : UnitsOk us) {E : Nat → List QE} {D : Nat} {b : BSt} {ls : List Int} (h : RInv p us E D b ls) {s : MSt} (hs : partsF p.parts p.parts.length ⟨b.ms.used, b.ms.es, []⟩ = some s) (hc : costL us s.l > p.amount) :
   netsAt us (sortI s.l) = weighF b.out (sortI s.l) ∧ RInv p us E D ⟨lessF b.out (sortI s.l) (costL us s.l - p.amount), s, b.taken ++ sortI s.l, b.all + (costL us s.l - p.amount)⟩ (ls ++ largestB (costL us s.l - p.amount) (netsAt us (sortI s.l))) := by
 obtain ⟨k1, k2, k3⟩ := h.ok.step hp hu hs hc
 have hok0 : MOk us p.parts.length ⟨b.ms.used, b.ms.es, []⟩ := ⟨h.ok.ok.len, h.ok.ok.rng, h.ok.ok.srt, fun x hx => by simp at hx⟩
 have hok := MOk.parts hok0 (Nat.le_refl _) hs
 have htr := MTrack.parts (MTrack.start b.ms.used b.ms.es) hok0 (Nat.le_refl _) hs
 have hpre := h.pre.parts hok0 (Nat.le_refl _) hs
 have hN : netsAt us (sortI s.l) = weighF b.out (sortI s.l) := by
   unfold netsAt weighF
   exact List.map_congr_left fun x hx => by rw [h.ok.same _ (htr.free x (sortI_mem.1 hx))]
 have hW := k1.weights
 rw [← hN] at hW
 obtain ⟨a1, a2, a3⟩ := largest_sum hW
 have hle := fun {k} (hk : k < (netsAt us (sortI s.l)).length) => largest_le hW (by have := k1.le; rw [← hN] at this; exact this) hk
 have hnl := netsAt_len us (sortI s.l)
 have hlf : lessF b.out (sortI s.l) (costL us s.l - p.amount) = takeOff b.out (sortI s.l) (largestB (costL us s.l - p.amount) (netsAt us (sortI s.l))) (largestB (costL us s.l - p.amount) (netsAt us (sortI s.l))).length := by
   unfold lessF; rw [← hN, a2, hnl]
 have hlen := h.len
 generalize largestB (costL us s.l - p.amount) (netsAt us (sortI s.l)) = X at *
 refine ⟨hN, ⟨k2, hpre, ?_, ?_, ?_, ?_, ?_, ?_, ?_⟩⟩
 · show (ls ++ X).length = (b.taken ++ sortI s.l).length
   rw [List.length_append, List.length_append]; omega
 · show lessF _ _ _ = takeOff us (b.taken ++ sortI s.l) (ls ++ X) (ls ++ X).length
   rw [hlf, h.out, List.length_append, takeOff_app h.len.symm X.length (Nat.le_refl _) (by omega)]
 · show sumI (ls ++ X) = _
   rw [sumI_append, h.sum, a1]
 · refine .inr ?_
   show 0 < b.all + (costL us s.l - p.amount)
   have := h.ok.off.pos
   omega
 · intro k hk
   show 0 ≤ gI (ls ++ X) k ∧ gI (ls ++ X) k ≤ (gU us (gI (b.taken ++ sortI s.l) k).toNat).net
   by_cases hkl : k < ls.length
   · rw [gI_append hkl, gI_append (by omega)]; exact h.bnd k hkl
   · have e : ∀ (a b : List Int), a.length = ls.length → gI (a ++ b) k = gI b (k - ls.length) := fun a b ha => by
       unfold gI
       rw [List.getD_eq_getElem?_getD, List.getD_eq_getElem?_getD, List.getElem?_append_right (by omega), ha]
     rw [List.length_append] at hk
     rw [e ls X rfl, e b.taken _ hlen.symm]
     refine ⟨a3 _ (getD_mem (by omega)), ?_⟩
     have h9 := hle (k := k - ls.length) (by omega)
     rw [show gI (netsAt us (sortI s.l)) (k - ls.length) = (gU us (gI (sortI s.l) (k - ls.length)).toNat).net from getD_map (fun i : Int => (gU us i.toNat).net) _ (by omega)] at h9
     exact h9
 · show ((b.taken ++ sortI s.l).map Int.toNat).Nodup
   rw [List.map_append]
   refine List.nodup_append.2 ⟨h.nd, ((sortI_perm s.l).map Int.toNat).nodup_iff.2 htr.nd, fun x hx y hy e => ?_⟩
   subst e
   obtain ⟨u, hu1, rfl⟩ := List.mem_map.1 hx
   obtain ⟨w, hw1, hw2⟩ := List.mem_map.1 hy
   have f1 := h.used u hu1
   have f2 := htr.free w (sortI_mem.1 hw1)
   rw [hw2, f1] at f2; cases f2
 · intro x hx
   show s.used.getD x.toNat default = true
   rw [htr.used]
   rcases List.mem_append.1 hx with hx | hx
   · exact .inl (h.used x hx)
   · exact .inr (List.mem_map_of_mem (sortI_mem.1 hx))
set_option maxHeartbeats 1000000 in
theorem rBundle_S (p : Promo) (us : List AUnit) (parts : List (List Int)) (hps : PromoSm p) (hright : promoC p = true) (hk : p.kind = 4) (hp : BunOk p) (hu : UnitsOk us) (hl : parts.length = p.parts.length) (hm : ∀ x ∈ parts, MineOk us x) (st : St) :
   S P 119 [ePromo p, eUnits us, arrOf 1 eInts parts] st fun v st' => v = .tuple [eUnits (bundleB p us parts).1, eI (bundleB p us parts).2] ∧ st' = st := by
 have hul := hu.len
 have hn1 := hp.n1
 have hn8 := hp.n8
 have ha := hp.amt
 have hme : ∀ k, k < parts.length → MineOk us (parts.getD k default) := fun k hk => hm _ (getD_mem hk)
 have hst0 := bunStart_ok hu hl (fun k hk => hme k hk)
 have hD : tot p.parts.length (bunStart us parts).ms.es ≤ 800000 := by
   have := tot_le (n := p.parts.length) (B := 100000) (es := (bunStart us parts).ms.es) (fun i hi => by
     show (dearB us (parts.getD i [])).length ≤ 100000
     rw [dearB_len]
     exact Nat.le_trans (hme i (by omega)).len hul)
   have h8 : p.parts.length * 100000 ≤ 8 * 100000 := Nat.mul_le_mul_right _ hn8
   omega
 refine S_sup ?_
 refine S_of_X [3] good mixed Tryz.func119 (by rfl) rfl rfl rfl ?_; conv => whnf
 refine Col.apps (q := r114) (f := fun k => eUnit (gU us k)) rfl rfl rfl rfl (srcArr _ _ _ _) (fun i hi => by rw [Nat.zero_add]) (by show (0 + us.length) * 24 ≤ _; omega) (Col.start _ _ _ st) (fun svS st1 hcS => ?_)
 have hsupS := hcS.sup
 clear hcS
 conv => whnf
 refine call1 (rPromoOk_S p hps hright _) ?_; conv => whnf
 rw [show (p.kind != 4) = false from by rw [hk]; rfl]; conv => whnf
 rw [show ((parts.length : Int) != (p.parts.length : Int)) = false from by rw [hl]; simp]; conv => whnf
 refine lp parts.length [1, 2, 3, 8, 9, 10] (fun i vs s => ∃ sv, vs = [eUnits us, arrOf 1 eInts parts, .fptr (ePromo p) 0, svS, sv, eI i] ∧ ColL 29 1 eInts ((parts.take i).map fun m => (dearB us m).map (·.2)) st1 sv s) ?_ ?_
 · conv => whnf
   exact ⟨.emp, rfl, ColL.start _ _ _ _⟩
 · rintro i vs s hi ⟨sv, rfl, hc⟩
   conv => whnf
   cases hd : decide ((i : Int) < (parts.length : Int))
   case true =>
     have hi' := go_on hd
     have hmi : MineOk us (parts.getD (i : Int).toNat default) := by rw [Int.toNat_natCast]; exact hme i hi'
     conv => whnf
     refine ⟨rfl, ⟨by omega, by omega⟩, ?_⟩; conv => whnf
     refine call1 (rMay_S us _ hu hmi _) ?_; conv => whnf
     refine ⟨rfl, ⟨by omega, by omega⟩, ?_⟩; conv => whnf
     refine call1 (rdear_S us _ hu hmi _) ?_; conv => whnf
     refine ColL.app (q := r29) (y := (dearB us (parts.getD (i : Int).toNat default)).map (·.2)) rfl rfl rfl rfl rfl rfl (by show (_ + 1) * 24 ≤ 140737488355328; rw [List.length_map, List.length_take]; omega) hc (fun sv' s' hc' => ?_); conv => whnf
     refine ⟨rfl, ?_⟩; conv => whnf
     exact nx hi' ⟨sv', by rw [wrapN (by omega)], by rw [take_map hi']; exact hc'⟩
   obtain rfl := stop_at hd hi
   rw [List.take_length] at hc
   have hLl : (parts.map fun m => (dearB us m).map (·.2)).length = parts.length := List.length_map ..
   have hLg : ∀ k, k < parts.length → (parts.map fun m => (dearB us m).map (·.2)).getD k default = (dearB us (parts.getD k default)).map (·.2) := fun k hk => getD_map (fun m => (dearB us m).map (·.2)) parts hk
   generalize (parts.map fun m => (dearB us m).map (·.2)) = L at *
   rcases hc with ⟨h0, _⟩ | ⟨h0, bl, gl, hbl, rfl, rfl, hgl⟩
   · omega
   conv => whnf
   refine mkO rfl rfl rfl (by show 1 * us.length ≤ _; omega) (by omega) (by rfl) (fun bu hbu => ?_)
   have hnlu : bl ≠ bu := fun e => by subst e; rw [upd_same] at hbu; cases hbu
   have hblS : (upd st1 bl ⟨29, 1, L.length, gl⟩) bl = some ⟨29, 1, L.length, gl⟩ := upd_same ..
   have hsup2 : Sup st (upd st1 bl ⟨29, 1, L.length, gl⟩) := hsupS.upd hbl
   generalize upd st1 bl ⟨29, 1, L.length, gl⟩ = st2 at *
   conv => whnf
   have hwb : ∀ Y : Blk, (upd st2 bu Y) bl = some ⟨29, 1, L.length, gl⟩ := fun Y => by rw [upd_ne hnlu]; exact hblS
   refine ⟨[1, 3, 9, 11, 12, 13], fun m vs s => ∃ (b : BSt) (ls : List Int) (sva svl : AV) (gu : Nat → AV) (f : Nat), m = tot p.parts.length b.ms.es ∧ vs = [eUnits us, .fptr (ePromo p) 0, .own 1 bl 0 L.length, .own 1 bu 0 us.length, sva, svl] ∧
     RInv p us (fun k => dearB us (parts.getD k default)) (tot p.parts.length (bunStart us parts).ms.es) b ls ∧ (tot p.parts.length b.ms.es < f ∧ bunF p us (tot p.parts.length (bunStart us parts).ms.es + 1) (bunStart us parts) = bunF p us f b) ∧
     RA b.taken ls sva svl (upd st2 bu ⟨4, 1, us.length, gu⟩) s ∧ ∀ k, k < us.length → gu k = eB (b.ms.used.getD k default), ?_, ?_⟩
   · conv => whnf
     refine ⟨_, bunStart us parts, [], .emp, .emp, _, _, rfl, rfl, ?_, ⟨Nat.lt_succ_self _, rfl⟩, RA.start _, fun k hk => ?_⟩
     · refine ⟨hst0, fun k hk => ⟨[], rfl, fun e he => by cases he⟩, rfl, rfl, rfl, .inl rfl, fun k hk => absurd hk (by simp), List.nodup_nil, fun x hx => by simp [bunStart] at hx⟩
     · show eB false = eB ((List.replicate us.length false).getD k default)
       simp [List.getD_eq_getElem?_getD, hk]
   · rintro m vs s ⟨b, ls, sva, svl, gu, f, rfl, rfl, hI, ⟨hf1, hF⟩, hR, hgu⟩
     have hok0 : MOk us p.parts.length ⟨b.ms.used, b.ms.es, []⟩ := ⟨hI.ok.ok.len, hI.ok.ok.rng, hI.ok.ok.srt, fun x hx => by simp at hx⟩
     have hBA := besideA b.taken ls sva svl
     have hsu := hBA.sup hR
     have hsu1 := hsu bu _ (upd_same ..)
     have hsl1 := hsu bl _ (hwb _)
     have hbl2 := hI.ok.len
     obtain ⟨f, rfl⟩ : ∃ g, f = g + 1 := ⟨f - 1, by omega⟩
     conv => whnf
     refine call1 (rone_S p hp us hul (fun k => dearB us (parts.getD k default)) L (by omega) (fun k hk => hLg k (by omega)) (fun k hk => ⟨by show (dearB _ _).length ≤ _; rw [dearB_len]; exact Nat.le_trans (hme k (by omega)).len hul, fun e he => dearB_mem (hme k (by omega)).rng he⟩) ⟨b.ms.used, b.ms.es, []⟩ rfl hok0 hI.pre bu gu s bl gl hsl1 hgl hsu1 hgu) ?_
     have fin : bunStep p us b = none → ∀ t, RA b.taken ls sva svl (upd st2 bu ⟨4, 1, us.length, gu⟩) t → ∃ t2, Shift [eUnits us, sva, svl, eB p.closes] t [eUnits us, eInts b.taken, eInts ls, eB p.closes] t2 ∧ Sup st t2 ∧
         S P 176 [eUnits us, eInts b.taken, eInts ls, eB p.closes] t2 fun v st' => v = .tuple [eUnits (bundleB p us parts).1, eI (bundleB p us parts).2] ∧ st' = t2 := fun hno t ht => by
       obtain ⟨t2, h1, h2⟩ := ht.shift (eUnits us) (eB p.closes)
       have hPl : Places us b.taken := places_of hI.ok.mem hI.nd
       have hout : bunF p us (tot p.parts.length (bunStart us parts).ms.es + 1) (bunStart us parts) = b := by
         rw [hF]; unfold bunF; rw [hno]
       have h0s : ∀ x ∈ ls, 0 ≤ x := fun x hx => by obtain ⟨k, hk, rfl⟩ := mem_getD hx; exact (hI.bnd k hk).1
       have hE : lessR us b.taken ls p.closes = bundleB p us parts := by
         unfold bundleB lessR
         simp only
         rw [hout, ← hI.sum, hI.out]
         by_cases hz : sumI ls = 0
         · have ht0 : b.taken = [] := by
             rcases hI.pos with e | e
             · exact e
             · rw [← hI.sum] at e; omega
           rw [if_pos hz, takeOff_zero (zero_of_sum h0s hz) _ (Nat.le_refl _), ht0, hz]
           show (us, (0 : Int)) = (if p.closes = true then us else us, 0)
           split <;> rfl
         · rw [if_neg hz]
       have hsum : sumI ls ≤ 10000000000000 := by
         have h5 := hI.ok.off.sum
         have := hu.sum
         have := sumI_nonneg (hI.ok.off.ok hu).nets0
         rw [hI.sum]; omega
       have hlen := hI.len
       have htl : b.taken.length ≤ 1000000 := by have := hI.ok.len; omega
       refine ⟨t2, h1, (hsup2.upd hbu).trans h2, ?_⟩
       rw [← hE]
       exact rless_S us b.taken ls p.closes hu hPl htl (by omega) hI.bnd (by omega) t2
     cases hs : partsF p.parts p.parts.length ⟨b.ms.used, b.ms.es, []⟩ with
     | none =>
       have hone : oneR p ⟨b.ms.used, b.ms.es, []⟩ = [] := by unfold oneR; rw [hs]
       obtain ⟨t2, g1, g2, g3⟩ := fin (by unfold bunStep; rw [hs]) s hR
       rw [hone]; conv => whnf
       refine call1 (rnets_S us [] (by simp) (fun k hk => absurd hk (by simp)) _) ?_; conv => whnf
       refine call1 (rsum_S [] (by simp) (fun x hx => by cases hx) (by decide) _) ?_; conv => whnf
       refine call_shift g1 (call1 g3 ?_); conv => whnf
       exact ⟨rfl, g2⟩
     | some s1 =>
       have hok := MOk.parts hok0 (Nat.le_refl _) hs
       have htr := MTrack.parts (MTrack.start b.ms.used b.ms.es) hok0 (Nat.le_refl _) hs
       have hlen1 := partsF_len hp (Nat.le_refl _) hs
       have hpos := partsF_some hp hs
       simp only [List.length_nil] at hlen1 hpos
       have hone : oneR p ⟨b.ms.used, b.ms.es, []⟩ = sortI s1.l := by unfold oneR; rw [hs]
       have hcost : sumI (netsAt us (sortI s1.l)) = costL us s1.l := sumI_perm ((sortI_perm s1.l).map fun i : Int => (gU us i.toNat).net)
       have hcb := costL_bound hu s1.l hok.mem
       have hSl : (sortI s1.l).length = s1.l.length := sortI_len _
       have hSr : ∀ k, k < (sortI s1.l).length → 0 ≤ gI (sortI s1.l) k ∧ (gI (sortI s1.l) k).toNat < us.length := fun k hk => hok.mem _ (sortI_mem.1 (getD_mem hk))
       have hnl := netsAt_len us (sortI s1.l)
       have hn0 : ∀ x ∈ netsAt us (sortI s1.l), 0 ≤ x := fun x hx => by obtain ⟨i, hi, rfl⟩ := List.mem_map.1 hx; exact hu.at0 _
       rw [hone]; conv => whnf
       refine call1 (rnets_S us (sortI s1.l) (by omega) hSr _) ?_; conv => whnf
       refine call1 (rsum_S _ (by omega) hn0 (by rw [hcost]; omega) _) ?_
       rw [hcost]; conv => whnf
       rw [show (((sortI s1.l).length : Int) == 0) = false from beq_false_of_ne (by omega)]; conv => whnf
       refine fork (fun hc => ?_) (fun hc => ?_) <;> rw [hc]
       · have hc' := of_decide_eq_true hc
         obtain ⟨t2, g1, g2, g3⟩ := fin (by unfold bunStep; rw [hs]; simp only; rw [if_neg (by omega)]) s hR
         conv => whnf
         refine call_shift g1 (call1 g3 ?_); conv => whnf
         exact ⟨rfl, g2⟩
       · have hc' : costL us s1.l > p.amount := by have := of_decide_eq_false hc; omega
         obtain ⟨hN, hI2⟩ := hI.step hp hu hs hc'
         obtain ⟨k1, k2, k3⟩ := hI.ok.step hp hu hs hc'
         have hW := k1.weights
         rw [← hN] at hW
         have hXl := (largest_sum hW).2.1
         have hstep : bunF p us (f + 1) b = bunF p us f ⟨lessF b.out (sortI s1.l) (costL us s1.l - p.amount), s1, b.taken ++ sortI s1.l, b.all + (costL us s1.l - p.amount)⟩ := by
           conv => lhs; unfold bunF bunStep
           rw [hs]; simp only; rw [if_pos hc']
         have w1 : IntKind.i64.wrap (costL us s1.l - p.amount) = costL us s1.l - p.amount := wrap64_of (by omega) (by omega)
         have hkl := k2.len
         simp only at hkl k3
         rw [List.length_append] at hkl
         have hll := hI.len
         conv => whnf
         refine ⟨[], [], List.range 13, by kernel_rfl, ?_⟩; conv => whnf
         refine ⟨_, callQ (rnets_S us (sortI s1.l) (by omega) hSr _), ?_⟩; conv => whnf
         rw [w1]
         refine ⟨_, callQ (rlargest_S _ (netsAt us (sortI s1.l)) hW _), ?_⟩
         generalize largestB (costL us s1.l - p.amount) (netsAt us (sortI s1.l)) = X at *
         conv => whnf
         refine lp (sortI s1.l).length [1, 3, 9, 11, 12, 13, 14, 16, 18] (fun i vs s => ∃ (sva svl : AV) (g : Nat → AV), vs = [eUnits us, .fptr (ePromo p) 0, .own 1 bl 0 L.length, .own 1 bu 0 us.length, sva, svl, eInts (sortI s1.l), eInts X, eI i] ∧
           RA (b.taken ++ (sortI s1.l).take i) (ls ++ X.take i) sva svl (upd st2 bu ⟨4, 1, us.length, g⟩) s ∧ ∀ k, k < us.length → g k = eB ((setAll b.ms.used ((sortI s1.l).take i)).getD k default)) ?_ ?_
         · conv => whnf
           exact ⟨sva, svl, gu, rfl, by rw [List.take_zero, List.take_zero, List.append_nil, List.append_nil]; exact hR, hgu⟩
         · clear hR hgu fin hsu hsu1 hsl1 hBA
           rintro i vs s hi ⟨sva, svl, g, rfl, hR, hg⟩
           have hBA := besideA (b.taken ++ (sortI s1.l).take i) (ls ++ X.take i) sva svl
           conv => whnf
           cases hd : decide ((i : Int) < ((sortI s1.l).length : Int))
           · obtain rfl := stop_at hd hi
             rw [List.take_length] at hR hg
             rw [List.take_of_length_le (show X.length ≤ (sortI s1.l).length by omega)] at hR; conv => whnf
             refine ⟨rfl, ?_⟩; conv => whnf
             refine ⟨tot p.parts.length s1.es, k3, _, _, sva, svl, g, f, rfl, rfl, hI2, ⟨by show tot p.parts.length s1.es < f; omega, by rw [← hstep]; exact hF⟩, hR, fun k hk => ?_⟩
             rw [hg k hk]
             congr 1
             show (setAll b.ms.used (sortI s1.l)).getD k default = s1.used.getD k default
             rw [← Bool.coe_iff_coe, setAll_get (fun x hx => by rw [hI.ok.ok.len]; exact (hok.mem x (sortI_mem.1 hx)).2), htr.used]
             constructor
             · rintro (h | h)
               · exact .inl h
               · obtain ⟨y, hy, rfl⟩ := List.mem_map.1 h; exact .inr (List.mem_map_of_mem (sortI_mem.1 hy))
             · rintro (h | h)
               · exact .inl h
               · obtain ⟨y, hy, rfl⟩ := List.mem_map.1 h; exact .inr (List.mem_map_of_mem (sortI_mem.2 hy))
           · have hi' := go_on hd
             have hr := hSr i hi'
             have hg2 := hBA.sup hR bu _ (upd_same ..)
             have tk : ∀ (l : List Int), i < l.length → l.take (i + 1) = l.take i ++ [gI l i] := fun l h => take_next h
             conv => whnf
             refine ⟨rfl, ⟨by omega, by omega⟩, ?_⟩; conv => whnf
             refine ⟨rfl, ⟨by show 0 ≤ gI (sortI s1.l) i; omega, by show gI (sortI s1.l) i < (us.length : Int); omega⟩, ?_⟩; conv => whnf
             refine stV hg2 rfl (by show 0 + (gI (sortI s1.l) i).toNat < us.length; omega) (v := eB ((setAll b.ms.used ((sortI s1.l).take i)).getD (gI (sortI s1.l) i).toNat default)) (by show g (0 + (gI (sortI s1.l) i).toNat) = _; rw [Nat.zero_add]; exact hg _ hr.2) (by rfl) ?_
             have hR2 := hBA.write (y' := ⟨4, 1, us.length, fset g (0 + (gI (sortI s1.l) i).toNat) (eB true)⟩) hR (upd_same ..)
             rw [upd_twice] at hR2
             have hgn : ∀ k, k < us.length → fset g (0 + (gI (sortI s1.l) i).toNat) (eB true) k = eB ((setAll b.ms.used ((sortI s1.l).take (i + 1))).getD k default) := fun k hk => by
               have e : setAll b.ms.used ((sortI s1.l).take (i + 1)) = (setAll b.ms.used ((sortI s1.l).take i)).set (gI (sortI s1.l) i).toNat true := foldl_next hi' _ _
               rw [e, Nat.zero_add, set_true (by rw [setAll_len, hI.ok.ok.len]; exact hr.2)]
               by_cases ej : k = (gI (sortI s1.l) i).toNat
               · rw [if_pos ej, ej, fset_same]
               · rw [if_neg ej, fset_ne ej]; exact hg k hk
             conv => whnf
             refine ⟨[4, 5, 6, 11, 12, 13], [], [], .qui 0 (.qui 1 (.qui 2 (.qui 3 (.qui 7 (.qui 8 (.qui 9 (.qui 10 (.two 4 11 (.two 5 11 (.two 6 11 (.gen 11 (.gen 12 (.gen 13 (.qui 14 (.qui 15 .done))))) (.two 6 12 (.gen 12 (.gen 13 (.qui 14 (.qui 15 .done)))) (.gen 6 (.gen 13 (.qui 14 (.qui 15 .done)))))) (.two 5 12 (.two 6 12 (.gen 12 (.gen 13 (.qui 14 (.qui 15 .done)))) (.gen 6 (.gen 13 (.qui 14 (.qui 15 .done))))) (.gen 5 (.gen 6 (.gen 13 (.qui 14 (.qui 15 .done))))))) (.two 4 12 (.two 5 12 (.two 6 12 (.gen 12 (.gen 13 (.qui 14 (.qui 15 .done)))) (.gen 6 (.gen 13 (.qui 14 (.qui 15 .done))))) (.gen 5 (.gen 6 (.gen 13 (.qui 14 (.qui 15 .done)))))) (.gen 4 (.gen 5 (.gen 6 (.gen 13 (.qui 14 (.qui 15 .done))))))))))))))), by kernel_rfl, ?_⟩; conv => whnf
             refine ⟨rfl, ⟨by omega, by omega⟩, ?_⟩; conv => whnf
             refine ⟨rfl, ⟨by omega, by omega⟩, ?_⟩; conv => whnf
             repeat' (refine And.intro ?_ ?_ <;> (conv => whnf))
             all_goals refine RA.appA (all := b.taken ++ (sortI s1.l).take i) (ls := ls ++ X.take i) (y := gI (sortI s1.l) i) hR2 rfl rfl (by rw [List.length_append, List.length_take]; omega) (fun sva' t' hR3 => ?_)
             all_goals (conv => whnf)
             all_goals refine RA.appL (all := b.taken ++ (sortI s1.l).take i ++ [gI (sortI s1.l) i]) (ls := ls ++ X.take i) (y := gI X i) hR3 rfl rfl (by rw [List.length_append, List.length_take]; omega) (fun svl' t'' hR4 => ?_)
             all_goals (conv => whnf)
             all_goals refine ⟨rfl, ?_⟩
             all_goals (conv => whnf)
             all_goals exact nx hi' ⟨sva', svl', fset g (0 + (gI (sortI s1.l) i).toNat) (eB true), by rw [wrapN (by omega)], by rw [tk _ hi', tk _ (by omega), ← List.append_assoc, ← List.append_assoc]; exact hR4, hgn⟩
def onceL (l : List Int) : List Int := l.foldl (fun a x => if x ∈ a then a else a ++ [x]) []
theorem onceL_snoc (l : List Int) (x : Int) : onceL (l ++ [x]) = if x ∈ onceL l then onceL l else onceL l ++ [x] := by
 unfold onceL; rw [List.foldl_append]; rfl
theorem onceL_spec (l : List Int) : (onceL l).Nodup ∧ ∀ x, x ∈ onceL l ↔ x ∈ l := by
 have : ∀ (l a : List Int), a.Nodup → (l.foldl (fun a x => if x ∈ a then a else a ++ [x]) a).Nodup ∧ ∀ x, x ∈ l.foldl (fun a x => if x ∈ a then a else a ++ [x]) a ↔ x ∈ a ∨ x ∈ l := by
   intro l
   induction l with
   | nil => intro a h; exact ⟨h, fun x => by simp⟩
   | cons y l ih =>
     intro a h
     rw [List.foldl_cons]
     split
     · rename_i hy
       obtain ⟨h1, h2⟩ := ih a h
       refine ⟨h1, fun x => ?_⟩
       rw [h2, List.mem_cons]
       constructor
       · rintro (h3 | h3)
         · exact .inl h3
         · exact .inr (.inr h3)
       · rintro (h3 | rfl | h3)
         · exact .inl h3
         · exact .inl hy
         · exact .inr h3
     · rename_i hy
       obtain ⟨h1, h2⟩ := ih (a ++ [y]) (List.nodup_append.2 ⟨h, by simp, fun p hp q hq e => by rw [List.mem_singleton] at hq; subst hq; subst e; exact hy hp⟩)
       refine ⟨h1, fun x => ?_⟩
       rw [h2, List.mem_append, List.mem_singleton, List.mem_cons, or_assoc]
 obtain ⟨h1, h2⟩ := this l [] List.nodup_nil
 exact ⟨h1, fun x => by rw [show x ∈ onceL l ↔ x ∈ ([] : List Int) ∨ x ∈ l from h2 x]; simp⟩
theorem compI_eq (l : List Int) : compI l = ((List.range l.length).filter fun k => k == 0 || gI l k != gI l (k - 1)).map (gI l) := by
 unfold compI Go.Lib.compactUpTo
 have hg : ∀ k, k < l.length → l.toArray[k]! = gI l k := fun k hk => by rw [getElem!_pos _ k (by simpa using hk)]; simp [gI, hk]
 have hf : (List.range l.length).filter (Go.Lib.keeps l.toArray) = (List.range l.length).filter fun k => k == 0 || gI l k != gI l (k - 1) := by
   refine List.filter_congr fun k hk => ?_
   have := List.mem_range.1 hk
   unfold Go.Lib.keeps
   rw [hg k this, hg (k - 1) (by omega)]
   rw [← Bool.coe_iff_coe, decide_eq_true_eq, Bool.or_eq_true, beq_iff_eq, bne_iff_ne]
 rw [hf]
 exact List.map_congr_left fun k hk => hg k (List.mem_range.1 (List.mem_filter.1 hk).1)
theorem compI_spec {l : List Int} (hs : l.Pairwise (· ≤ ·)) : (compI l).Nodup ∧ ∀ x, x ∈ compI l ↔ x ∈ l := by
 refine ⟨?_, fun x => ⟨compI_mem, fun hx => ?_⟩⟩
 · rw [compI_eq]
   refine List.Pairwise.map _ (fun a b h => h) ?_ 
   refine List.Pairwise.imp_of_mem (R := (· < ·)) ?_ ((List.pairwise_lt_range (n := l.length)).filter _)
   intro a b ha hb hab
   obtain ⟨h1, h2⟩ := List.mem_filter.1 hb
   have h3 := List.mem_range.1 h1
   rw [Bool.or_eq_true, beq_iff_eq, bne_iff_ne] at h2
   have h4 : gI l (b - 1) ≤ gI l b := pw_at hs (by omega) h3
   have h5 : gI l a ≤ gI l (b - 1) := by
     rcases Nat.eq_or_lt_of_le (show a ≤ b - 1 by omega) with e | e
     · rw [e]; exact Int.le_refl _
     · exact pw_at hs e (by omega)
   show gI l a ≠ gI l b
   rcases h2 with h2 | h2 <;> omega
 · rw [compI_eq, List.mem_map]
   obtain ⟨k, hk, rfl⟩ := mem_getD hx
   induction k with
   | zero => exact ⟨0, List.mem_filter.2 ⟨List.mem_range.2 hk, rfl⟩, rfl⟩
   | succ k ih =>
     by_cases e : gI l (k + 1) = gI l k
     · have := ih (by omega) (by rw [show l.getD k default = l.getD (k + 1) default from e.symm]; exact hx)
       obtain ⟨j, h1, h2⟩ := this
       exact ⟨j, h1, h2.trans e.symm⟩
     · exact ⟨k + 1, List.mem_filter.2 ⟨List.mem_range.2 hk, by rw [Bool.or_eq_true, bne_iff_ne]; exact .inr e⟩, rfl⟩
theorem net_once (us : List AUnit) (l : List Int) : netF us (compI (sortI l)) = netF us (onceL l) := by
 obtain ⟨h1, h2⟩ := compI_spec (sortI_le l)
 obtain ⟨h3, h4⟩ := onceL_spec l
 have hp : (compI (sortI l)).Perm (onceL l) := (List.perm_ext_iff_of_nodup h1 h3).2 fun x => by rw [h2, h4, sortI_mem]
 exact sumI_perm (hp.map _)
theorem onceL_len (l : List Int) : (onceL l).length ≤ l.length := by
 have : ∀ (l a : List Int), (l.foldl (fun a x => if x ∈ a then a else a ++ [x]) a).length ≤ a.length + l.length := by
   intro l
   induction l with
   | nil => intro a; simp
   | cons y l ih =>
     intro a
     rw [List.foldl_cons]
     split
     · have := ih a; rw [List.length_cons]; omega
     · have := ih (a ++ [y]); rw [List.length_append, List.length_cons, List.length_nil] at this; rw [List.length_cons]; omega
 have h := this l []
 rw [List.length_nil, Nat.zero_add] at h; exact h
structure PSm (p : Promo) : Prop where
 sm : PromoSm p
 right : promoC p = true
 fit : PromoFit p
set_option maxHeartbeats 400000 in
theorem rask_S (items : List Ab.Item) (us : List AUnit) (pr : Promo) (hp : PSm pr) (hk : pr.kind ≠ 7) (hu : UsOk items us) (st : St) :
   S P 70 [ePromo pr, eUnits us, arrOf 4 eItem items] st fun v st' => (∃ x, v = .tuple [eUnits x, eI (wayB items us pr).2] ∧ (0 < (wayB items us pr).2 → x = (wayB items us pr).1)) ∧ st' = st := by
 have ok := promoOk hp.right
 have hul := hu.ok.len
 have hB := ok.bun
 by_cases h4 : pr.kind = 4
 · have hW : wayB items us pr = bundleP items us pr := by unfold wayB; rw [if_pos h4]
   rw [hW]
   obtain ⟨hbn, hbs⟩ := hB h4
   have hn8 := hbn.n8
   have hpl : (partsM items us pr).length = pr.parts.length := List.length_map ..
   have hbP : bundleP items us pr = if netF us (onceL (allM items us pr pr.parts.length)) < pr.least then ([], 0) else bundleB pr us (partsM items us pr) := by unfold bundleP; rw [net_once]
   refine S_sup ?_
   refine S_of_X [3] good mixed Tryz.func70 (by rfl) rfl rfl rfl ?_; conv => whnf
   rw [show (pr.kind != 4) = false from by rw [h4]; rfl]; conv => whnf
   refine mkO rfl rfl rfl (by show 1 * us.length ≤ _; omega) (by omega) (by rfl) (fun bs hbs0 => ?_); conv => whnf
   refine lp pr.parts.length [1, 2, 3, 9, 10, 11, 12] (fun i vs s => ∃ sv g, vs = [eUnits us, arrOf 4 eItem items, .fptr (ePromo pr) 0, sv, .own 1 bs 0 us.length, eI (netF us (onceL (allM items us pr i))), eI i] ∧ ColL 29 1 eInts ((partsM items us pr).take i) (upd st bs ⟨4, 1, us.length, g⟩) sv s ∧ ∀ k, k < us.length → g k = eB (decide ((k : Int) ∈ allM items us pr i))) ?_ ?_
   · conv => whnf
     exact ⟨.emp, _, rfl, ColL.start _ _ _ _, fun k hk => by rw [show allM items us pr 0 = [] from rfl]; simp; rfl⟩
   · rintro i vs s hi ⟨sv, g, rfl, hc, hg⟩
     conv => whnf
     cases hd : decide ((i : Int) < (pr.parts.length : Int))
     · obtain rfl := stop_at hd hi
       rw [← hpl, List.take_length] at hc; conv => whnf
       refine fork (fun h1 => ?_) (fun h1 => ?_) <;> rw [h1]
       · have := of_decide_eq_true h1
         rw [if_pos (by omega)] at hbP; conv => whnf
         exact ⟨⟨us, by rw [hbP]; rfl, fun h => by rw [hbP] at h; exact absurd h (by decide)⟩, ((Sup.refl st).upd hbs0).trans hc.sup⟩
       · have := of_decide_eq_false h1
         rw [if_neg (by omega)] at hbP; conv => whnf
         refine call_shift (Shift.cons (t := s) (Shift.keep _ _) (Shift.cons (t := s) (Shift.keep _ _) hc.shift)) (call1 (rBundle_S pr us (partsM items us pr) hp.sm hp.right h4 hbn hu.ok hpl (fun x hx => by obtain ⟨q, _, rfl⟩ := List.mem_map.1 hx; exact mineB_ok _ _ _) _) ?_); conv => whnf
         exact ⟨⟨_, by rw [hbP]; rfl, fun _ => by rw [hbP]⟩, (Sup.refl st).upd hbs0⟩
     · have hi' := go_on hd
       have hsc : (pr.parts.getD (i : Int).toNat default).scope.skus.length ≤ 20 ∧ (pr.parts.getD (i : Int).toNat default).scope.cats.length ≤ 20 := hbs _ (getD_mem hi')
       have hsu := allM_succ items us pr hi'
       have hAl := allM_len items us pr i hi
       have hAm := fun {x} (hx : x ∈ allM items us pr i) => allM_mem hx
       have hml := mineB_len (pr.parts.getD (i : Int).toNat default).scope items us us.length
       have hmo := mineB_ok (pr.parts.getD (i : Int).toNat default).scope items us
       have hpt : (partsM items us pr).take (i + 1) = (partsM items us pr).take i ++ [mineB (pr.parts.getD (i : Int).toNat default).scope items us us.length] := by
         rw [take_next (by omega)]; congr 2
         exact getD_map (fun x : Part => mineB x.scope items us us.length) pr.parts hi'
       rw [show mineB (pr.parts.getD i default).scope items us us.length = mineB (pr.parts.getD (i : Int).toNat default).scope items us us.length from rfl] at hsu
       have h8 : i * us.length ≤ 7 * 100000 := Nat.mul_le_mul (by omega) hul
       conv => whnf
       refine ⟨rfl, ⟨by omega, by omega⟩, ?_⟩; conv => whnf
       refine call1 (rmine_S us items (pr.parts.getD (i : Int).toNat default).scope (by omega) (by omega) hul hu.line _) ?_
       generalize mineB (pr.parts.getD (i : Int).toNat default).scope items us us.length = m at *
       conv => whnf
       refine ColL.app (q := r29) (y := m) rfl rfl rfl rfl rfl rfl (by show (_ + 1) * 24 ≤ 140737488355328; rw [List.length_take]; omega) hc (fun sv s hc => ?_)
       rw [← hpt] at hc; conv => whnf
       refine lp m.length [1, 2, 3, 9, 10, 11, 12, 13, 14] (fun k vs s => ∃ g, vs = [eUnits us, arrOf 4 eItem items, .fptr (ePromo pr) 0, sv, .own 1 bs 0 us.length, eI (netF us (onceL (allM items us pr i ++ m.take k))), eI i, eInts m, eI k] ∧ ColL 29 1 eInts ((partsM items us pr).take (i + 1)) (upd st bs ⟨4, 1, us.length, g⟩) sv s ∧ ∀ j, j < us.length → g j = eB (decide ((j : Int) ∈ allM items us pr i ++ m.take k))) ?_ ?_
       · conv => whnf
         exact ⟨g, by rw [List.take_zero, List.append_nil]; rfl, hc, by rw [List.take_zero, List.append_nil]; exact hg⟩
       · clear hc hg
         rintro k vs s hk ⟨g, rfl, hc, hg⟩
         conv => whnf
         cases hd2 : decide ((k : Int) < (m.length : Int))
         · obtain rfl := stop_at hd2 hk
           rw [List.take_length, ← hsu] at hg; conv => whnf
           refine ⟨rfl, ?_⟩; conv => whnf
           exact nx hi' ⟨sv, g, by rw [wrapN (by omega), List.take_length, ← hsu], hc, hg⟩
         · have hk' := go_on hd2
           have hr : 0 ≤ m.getD (k : Int).toNat default ∧ (m.getD (k : Int).toNat default).toNat < us.length := hmo.rng k hk'
           have hbk := hc.sup bs _ (upd_same ..)
           have hP : allM items us pr i ++ m.take (k + 1) = (allM items us pr i ++ m.take k) ++ [m.getD (k : Int).toNat default] := by rw [take_next hk', List.append_assoc]; rfl
           have hgk : g (0 + (m.getD (k : Int).toNat default).toNat) = eB (decide (m.getD (k : Int).toNat default ∈ allM items us pr i ++ m.take k)) := by
             rw [Nat.zero_add, hg _ hr.2]; congr 2; rw [Int.toNat_of_nonneg hr.1]
           have hmem : ∀ x ∈ allM items us pr i ++ m.take k, 0 ≤ x ∧ x.toNat < us.length := fun x hx => by
             rcases List.mem_append.1 hx with hx | hx
             · exact allM_mem hx
             · obtain ⟨j, hj, rfl⟩ := mem_getD (List.take_subset _ _ hx); exact hmo.rng j hj
           obtain ⟨o1, o2⟩ := onceL_spec (allM items us pr i ++ m.take k)
           have hcb := costL_bound hu.ok (onceL (allM items us pr i ++ m.take k)) (fun x hx => hmem x ((o2 x).1 hx))
           have hol := onceL_len (allM items us pr i ++ m.take k)
           rw [List.length_append, List.length_take] at hol
           have hcl : netF us (onceL (allM items us pr i ++ m.take k)) = costL us (onceL (allM items us pr i ++ m.take k)) := rfl
           have hsn := onceL_snoc (allM items us pr i ++ m.take k) (m.getD (k : Int).toNat default)
           have hdm : decide (m.getD (k : Int).toNat default ∈ onceL (allM items us pr i ++ m.take k)) = decide (m.getD (k : Int).toNat default ∈ allM items us pr i ++ m.take k) := decide_eq_decide.2 (o2 _)
           have hn0 : 0 ≤ (gU us (m.getD (k : Int).toNat default).toNat).net := hu.ok.at0 _
           have hn1 : (gU us (m.getD (k : Int).toNat default).toNat).net ≤ 10000000000000 := hu.ok.le (getD_mem hr.2)
           generalize allM items us pr i ++ m.take k = A at *
           conv => whnf
           refine ⟨rfl, ⟨by omega, by omega⟩, ?_⟩; conv => whnf
           refine ⟨rfl, ⟨by omega, by omega⟩, ?_⟩; conv => whnf
           refine ldV hbk rfl (by omega) hgk ?_; conv => whnf
           refine fork (fun h5 => ?_) (fun h5 => ?_) <;> rw [h5]
           · have hnot : ¬ m.getD (k : Int).toNat default ∈ A := by simpa using h5
             rw [if_neg (fun h => hnot ((o2 _).1 h))] at hsn
             have hadd : netF us (onceL (A ++ [m.getD (k : Int).toNat default])) = netF us (onceL A) + (gU us (m.getD (k : Int).toNat default).toNat).net := by
               rw [hsn]; exact costL_app us _ _
             have w : IntKind.i64.wrap (netF us (onceL A) + (gU us (m.getD (k : Int).toNat default).toNat).net) = netF us (onceL (A ++ [m.getD (k : Int).toNat default])) := by rw [hadd]; exact wrap64_of (by omega) (by omega)
             conv => whnf
             refine ⟨rfl, ⟨by omega, by omega⟩, ?_⟩; conv => whnf
             refine ⟨rfl, ⟨by omega, by omega⟩, ?_⟩; conv => whnf
             refine stV hbk rfl (by omega) hgk (by rfl) ?_
             have hc2 := Col.write hc (y' := ⟨4, 1, us.length, fset g (0 + (m.getD (k : Int).toNat default).toNat) (eB true)⟩) (upd_same ..)
             rw [upd_twice] at hc2; conv => whnf
             refine ⟨rfl, ⟨by omega, by omega⟩, ?_⟩; conv => whnf
             refine ⟨rfl, ⟨by omega, by omega⟩, ?_⟩; conv => whnf
             refine ⟨rfl, ?_⟩; conv => whnf
             refine nx hk' ⟨fset g (0 + (m.getD (k : Int).toNat default).toNat) (eB true), by rw [wrapN (by omega), hP, ← w], hc2, fun j hj => ?_⟩
             rw [hP, Nat.zero_add]
             by_cases ej : j = (m.getD (k : Int).toNat default).toNat
             · rw [ej, fset_same, decide_eq_true (by rw [List.mem_append, List.mem_singleton]; right; omega)]
             · rw [fset_ne ej, hg j hj]
               congr 1
               refine decide_eq_decide.2 ?_
               rw [List.mem_append, List.mem_singleton]
               exact ⟨.inl, fun h => h.resolve_right (by omega)⟩
           · have hin : m.getD (k : Int).toNat default ∈ A := by simpa using h5
             rw [if_pos ((o2 _).2 hin)] at hsn; conv => whnf
             refine ⟨rfl, ?_⟩; conv => whnf
             refine nx hk' ⟨g, by rw [wrapN (by omega), hP, hsn], hc, fun j hj => ?_⟩
             rw [hP, hg j hj]
             congr 1
             refine decide_eq_decide.2 ?_
             rw [List.mem_append, List.mem_singleton]
             exact ⟨.inl, fun h => h.elim id (fun e => by rw [e]; exact hin)⟩
 · have hW : wayB items us pr = singleB items us pr := by unfold wayB; rw [if_neg h4]
   have hmo := mineB_ok pr.scope items us
   have hml := mineB_len pr.scope items us us.length
   have hS : singleB items us pr = if netF us (mineB pr.scope items us us.length) < pr.least then ([], 0) else if pr.kind = 3 then buyGetB pr us (mineB pr.scope items us us.length) else applyB pr us (mineB pr.scope items us us.length) := rfl
   obtain ⟨hn0, hns⟩ := netsAt_pos hu.ok hmo
   rw [hW]
   refine S_of_X [3] good mixed Tryz.func70 (by rfl) rfl rfl rfl ?_; conv => whnf
   rw [show (pr.kind != 4) = true from bne_iff_ne.2 h4]; conv => whnf
   refine call1 (rmine_S us items pr.scope (by have := ok.skus; omega) (by have := ok.cats; omega) hul hu.line _) ?_
   generalize mineB pr.scope items us us.length = m at *
   conv => whnf
   refine ⟨[], [], List.range 7, by kernel_rfl, ?_⟩; conv => whnf
   refine ⟨_, callQ (rnets_S us m (by omega) hmo.rng _), ?_⟩; conv => whnf
   refine ⟨_, callQ (rsum_S (netsAt us m) (by rw [netsAt_len]; omega) hn0 (by omega) _), ?_⟩; conv => whnf
   refine fork (fun h1 => ?_) (fun h1 => ?_) <;> rw [h1]
   · have h2 : netF us m < pr.least := of_decide_eq_true h1
     rw [if_pos h2] at hS; conv => whnf
     exact ⟨⟨us, by rw [hS]; rfl, fun h => by rw [hS] at h; exact absurd h (by decide)⟩, rfl⟩
   · have h2 : ¬ netF us m < pr.least := fun h => absurd h (Int.not_lt.2 (Int.not_lt.1 (of_decide_eq_false h1)))
     rw [if_neg h2] at hS; conv => whnf
     by_cases h3 : pr.kind = 3
     · rw [if_pos h3] at hS
       rw [show (pr.kind == 3) = true from beq_iff_eq.2 h3]; conv => whnf
       refine call1 (rBuyGet_S pr us m hp.sm hp.right h3 (ok.buy h3) hu.ok hmo _) ?_; conv => whnf
       exact ⟨⟨_, by rw [hS]; rfl, fun _ => by rw [hS]⟩, rfl⟩
     · rw [if_neg h3] at hS
       rw [show (pr.kind == 3) = false from beq_false_of_ne h3]; conv => whnf
       refine call1 (rApply_S pr us m (ok.ask hp.fit (by have := ok.kind; omega)) hp.sm hu.ok hmo _) ?_; conv => whnf
       exact ⟨⟨_, by rw [hS]; rfl, fun _ => by rw [hS]⟩, rfl⟩
theorem rtaken_S (L : List Str) (g : Str) (hl : L.length ≤ 1000) (sv : AV) (st : St) (h : (sv = .emp ∧ L = []) ∨ ∃ b f, sv = .own 1 b 0 L.length ∧ st b = some ⟨9, 1, L.length, f⟩ ∧ ∀ k, k < L.length → f k = eS (L.getD k default)) :
   S P 69 [sv, eS g] st fun v st' => v = .bool (!isNil g && L.any fun y => y.toList == g.toList) ∧ st' = st := by
 rcases h with ⟨rfl, rfl⟩ | ⟨b, f, rfl, hb, hf⟩
 · refine S_of_X [] good mixed Tryz.func69 (by rfl) rfl rfl rfl ?_; conv => whnf
   refine once [0, 1, 5] ?_; conv => whnf
   intro I; conv => whnf
   exact ⟨by simp [pack], rfl⟩
 · refine S_of_X [] good mixed Tryz.func69 (by rfl) rfl rfl rfl ?_; conv => whnf
   refine lp L.length [0, 1, 5] (fun i vs s => (∀ k, k < i → (!isNil g && ((L.getD k default).toList == g.toList)) = false) ∧ vs = [.own 1 b 0 L.length, eS g, eI i] ∧ s = st) ?_ ?_
   · conv => whnf
     exact ⟨fun k hk => absurd hk (by omega), rfl, rfl⟩
   · rintro i vs st' hi ⟨hok, rfl, rfl⟩
     conv => whnf
     cases hd : decide ((i : Int) < (L.length : Int))
     · obtain rfl := stop_at hd hi
       conv => whnf
       refine ⟨?_, rfl⟩
       have e : (!isNil g && L.any fun y => y.toList == g.toList) = false := by
         cases hn : isNil g
         · rw [Bool.not_false, Bool.true_and]
           refine List.any_eq_false.2 fun x hx => ?_
           obtain ⟨k, hk, rfl⟩ := mem_getD hx
           have := hok k hk
           rw [hn, Bool.not_false, Bool.true_and] at this
           rw [this]; simp
         · rfl
       rw [e]; rfl
     · have hi' := go_on hd
       have hfi : f (0 + (i : Int).toNat) = eS (L.getD (i : Int).toNat default) := by rw [Nat.zero_add]; exact hf _ (by omega)
       have yes := fun h => lt_next hok (i := i) h
       have nl : isNil g = (g.toList == (⟨#[]⟩ : Str).toList) := rfl
       conv => whnf
       refine fork (fun h1 => ?_) (fun h1 => ?_) <;> rw [h1]
       · have hn : isNil g = false := by rw [nl]; simpa using h1
         conv => whnf
         refine ⟨rfl, ⟨by omega, by omega⟩, ?_⟩; conv => whnf
         refine ldV hb rfl (by omega) hfi ?_; conv => whnf
         refine fork (fun h2 => ?_) (fun h2 => ?_) <;> rw [h2]
         · conv => whnf
           refine ⟨?_, rfl⟩
           rw [hn, List.any_eq_true.2 ⟨_, getD_mem hi', h2⟩]; rfl
         · conv => whnf
           refine ⟨rfl, ?_⟩; conv => whnf
           exact nx hi' ⟨yes (by rw [hn]; exact h2), by rw [wrapN (by omega)], rfl⟩
       · have hn : isNil g = true := by rw [nl]; simpa using h1
         conv => whnf
         refine ⟨rfl, ?_⟩; conv => whnf
         exact nx hi' ⟨yes (by rw [hn]; rfl), by rw [wrapN (by omega)], rfl⟩
structure PromosOk (l : List Promo) : Prop where
 few : l.length ≤ 60
 right : ∀ p ∈ l, promoC p = true
 ids : ∀ i j, i < j → j < l.length → ((l.getD i default).id.toList == (l.getD j default).id.toList) = false
theorem promosOk {l : List Promo} (h : promosC l = true) : PromosOk l := by
 unfold promosC allAt at h
 simp only [Bool.and_eq_true, decide_eq_true_eq, List.all_eq_true, List.mem_range] at h
 obtain ⟨h1, h2⟩ := h
 refine ⟨by omega, fun p hp => ?_, fun i j hij hj => ?_⟩
 · obtain ⟨k, hk, rfl⟩ := mem_getD hp
   have := h2 k hk
   unfold promoAt at this
   rw [Bool.and_eq_true] at this; exact this.1
 · have := h2 j hj
   unfold promoAt at this
   rw [Bool.and_eq_true, Bool.not_eq_true', List.any_eq_false] at this
   have h3 := this.2 (l.getD i default) (by
     have : (l.take j).getD i default = l.getD i default := by rw [List.getD_eq_getElem?_getD, List.getD_eq_getElem?_getD, List.getElem?_take_of_lt hij]
     rw [← this]
     exact getD_mem (by rw [List.length_take]; omega))
   simpa using h3
theorem rPromosOk_S (l : List Promo) (hs : ∀ p ∈ l, PromoSm p) (hC : promosC l = true) (st : St) : S P 107 [arrOf 15 ePromo l] st fun v st' => v = .bool true ∧ st' = st := by
 have ok := promosOk hC
 have hl := ok.few
 refine S_of_X [] good mixed Tryz.func107 (by rfl) rfl rfl rfl ?_; conv => whnf
 refine lp l.length [0, 3] (fun i vs st' => vs = [arrOf 15 ePromo l, eI i] ∧ st' = st) ?_ ?_
 · conv => whnf
   exact ⟨rfl, rfl⟩
 · rintro i vs st' hi ⟨rfl, rfl⟩
   conv => whnf
   cases h : decide ((i : Int) < (l.length : Int))
   · obtain rfl := stop_at h hi
     conv => whnf
     refine ⟨?_, rfl⟩
     rw [decide_eq_true (by omega)]; rfl
   · have hi' := go_on h
     have hm : l.getD (i : Int).toNat default ∈ l := getD_mem hi'
     conv => whnf
     refine ⟨rfl, ⟨by omega, by omega⟩, ?_⟩; conv => whnf
     refine call1 (rPromoOk_S (l.getD (i : Int).toNat default) (hs _ hm) (ok.right _ hm) _) ?_; conv => whnf
     refine lp i [0, 3, 4] (fun j vs s => vs = [arrOf 15 ePromo l, eI i, eI j] ∧ s = st') ?_ ?_
     · conv => whnf
       exact ⟨rfl, rfl⟩
     · rintro j vs s hj ⟨rfl, rfl⟩
       conv => whnf
       cases h2 : decide ((j : Int) < (i : Int))
       · obtain rfl := stop_at h2 hj
         conv => whnf
         refine ⟨rfl, ?_⟩; conv => whnf
         exact nx hi' ⟨by rw [wrapN (by omega)], rfl⟩
       · have hj' := go_on h2
         have hne : ((l.getD (j : Int).toNat default).id.toList == (l.getD (i : Int).toNat default).id.toList) = false := ok.ids j i hj' hi'
         conv => whnf
         refine ⟨[], [], List.range 11, by kernel_rfl, ?_⟩; conv => whnf
         refine ⟨rfl, ⟨by omega, by omega⟩, ?_⟩; conv => whnf
         refine ⟨rfl, ⟨by omega, by omega⟩, ?_⟩; conv => whnf
         rw [hne]; conv => whnf
         refine ⟨rfl, ?_⟩; conv => whnf
         exact nx hj' ⟨by rw [wrapN (by omega)], rfl⟩
structure RulesSm (r : Rules) : Prop where
 n : Sm r.items.length
 items : ∀ x ∈ r.items, Sm x.sku.size ∧ Sm x.cat.size
 promos : ∀ p ∈ r.promos, PromoSm p
 tax : TaxSm r.tax
 order : Sm r.policy.order.length
 credit : Sm r.policy.credit.length
theorem rRulesOk_S (r : Rules) (hs : RulesSm r) (hC : rulesC r = true) (st : St) : S P 64 [eRules r] st fun v st' => v = .bool true ∧ st' = st := by
 unfold rulesC shipC policyC at hC
 simp only [Bool.and_eq_true] at hC
 obtain ⟨⟨⟨⟨c1, c2⟩, c3⟩, c4, c5⟩, ⟨⟨⟨⟨⟨c6, c7⟩, c8⟩, c9⟩, c10⟩, c11⟩, c12⟩ := hC
 have n1 := rGoods_S r.items hs.n hs.items st
 have n2 := rPromosOk_S r.promos hs.promos c2 st
 have n3 := rTax_S r.tax hs.tax st
 have n4 := rin_S r.ship.fee 1000000000 st
 have n5 := rin_S r.ship.free 10000000000000 st
 have n6 := rin_S r.policy.window 100000 st
 have n7 := rin_S r.policy.grace 100000 st
 have n8 := rin_S r.policy.restock 10000 st
 have n9 := rkinds_S r.policy.order hs.order st
 have n10 := rkinds_S r.policy.credit hs.credit st
 rw [c1] at n1
 rw [c3] at n3
 rw [c4] at n4
 rw [c5] at n5
 rw [c6] at n6
 rw [c7] at n7
 rw [c10] at n8
 rw [c11] at n9
 rw [c12] at n10
 refine S_of_X [1, 3] good mixed Tryz.func64 (by rfl) rfl rfl rfl ?_
 repeat' ((conv => whnf); first | refine call1 n1 ?_ | refine call1 n2 ?_ | refine call1 n3 ?_ | refine call1 n4 ?_ | refine call1 n5 ?_ | refine call1 n6 ?_ | refine call1 n7 ?_ | refine call1 n8 ?_ | refine call1 n9 ?_ | refine call1 n10 ?_ | (rw [c8]) | (rw [c9]))
 all_goals (conv => whnf)
 all_goals exact ⟨rfl, rfl⟩
theorem rCodes_S (l : List Str) (hl : Sm l.length) (hs : ∀ s ∈ l, Sm s.size) (st : St) : S P 65 [eStrs l] st fun v st' => v = .bool (codesC l) ∧ st' = st := by
 have e : codesC l = (namesB l && decide ((l.length : Int) ≤ 4)) := by
   unfold codesC namesB
   generalize decide ((l.length : Int) ≤ 4) = a
   generalize riseB l = b
   generalize (l.any fun s => !nameB s) = c
   cases a <;> cases b <;> cases c <;> rfl
 rw [e]
 refine S_of_X [] good mixed Tryz.func65 (by rfl) rfl rfl rfl ?_; conv => whnf
 refine call1 (rnames_S l 4 hl hs st) ?_; conv => whnf
 exact ⟨rfl, rfl⟩
def ordB (l : List Promo) (codes : List Str) : List Int := (places l codes l.length).mergeSort fun x y => !aheadB (prAt l y) (prAt l x)
theorem ordB_perm (l : List Promo) (codes : List Str) : (ordB l codes).Perm (places l codes l.length) := List.mergeSort_perm ..
theorem ordB_ord (l : List Promo) (codes : List Str) : (ordB l codes).Pairwise (PrOrd l) := by
 have := List.pairwise_mergeSort (le := fun x y : Int => !aheadB (prAt l y) (prAt l x)) (fun a b c h1 h2 => by simp only [Bool.not_eq_true'] at *; exact nahead_trans h1 h2) (fun a b => by
   cases h : aheadB (prAt l b) (prAt l a) with
   | false => rfl
   | true => rw [ahead_asymm h]; rfl) (places l codes l.length)
 exact this.imp (fun h => by simpa [PrOrd] using h)
theorem prOrd_anti {l : List Promo} (ok : PromosOk l) {x y : Int} (hx : 0 ≤ x ∧ x.toNat < l.length) (hy : 0 ≤ y ∧ y.toNat < l.length) (h1 : PrOrd l x y) (h2 : PrOrd l y x) : x = y := by
 unfold PrOrd at h1 h2
 rw [← Bool.not_eq_true, aheadB_iff] at h1 h2
 have e : (prAt l x).prio = (prAt l y).prio := by
   have a : ¬ (prAt l y).prio > (prAt l x).prio := fun h => h1 (.inl h)
   have b : ¬ (prAt l x).prio > (prAt l y).prio := fun h => h2 (.inl h)
   omega
 have a : slt (prAt l y).id (prAt l x).id = false := by rw [← Bool.not_eq_true]; exact fun h => h1 (.inr ⟨e.symm, h⟩)
 have b : slt (prAt l x).id (prAt l y).id = false := by rw [← Bool.not_eq_true]; exact fun h => h2 (.inr ⟨e, h⟩)
 have c := slt_tri a b
 rcases Nat.lt_trichotomy x.toNat y.toNat with h | h | h
 · have := ok.ids _ _ h hy.2
   rw [beq_eq_false_iff_ne] at this
   exact absurd c.symm this
 · omega
 · have := ok.ids _ _ h hx.2
   rw [beq_eq_false_iff_ne] at this
   exact absurd c this
theorem ordB_one {l : List Promo} (hC : promosC l = true) {codes : List Str} {o : List Int} (h1 : o.Perm (places l codes l.length)) (h2 : o.Pairwise (PrOrd l)) : o = ordB l codes := by
 refine (h1.trans (ordB_perm l codes).symm).eq_of_pairwise (le := PrOrd l) (fun a b ha hb h3 h4 => ?_) h2 (ordB_ord l codes)
 exact prOrd_anti (promosOk hC) (places_lt (h1.mem_iff.1 ha)) (places_lt ((ordB_perm l codes).mem_iff.1 hb)) h3 h4
theorem rorder1_S (l : List Promo) (codes : List Str) (hC : promosC l = true) (hc : Sm codes.length) (st : St) : S P 68 [arrOf 15 ePromo l, eStrs codes] st fun v st' => v = eInts (ordB l codes) ∧ st' = st :=
 (rorder_S l codes (by have := (promosOk hC).few; omega) hc st).mono fun v st' ⟨⟨o, h1, h2, h3⟩, h4⟩ => ⟨by rw [h3, ordB_one hC h1 h2], h4⟩
theorem resO_one {l : List Promo} (hC : promosC l = true) {codes : List Str} {o : List Int} (ho : OrdP l codes o) : resO l o = ordB l codes := by
 refine ordB_one hC ((resO_perm l o).trans ho.1) ?_
 refine List.Pairwise.map _ (fun a b h => h) (R := fun a b : QE => PrOrd l (gI o a.2.toNat) (gI o b.2.toNat)) ?_
 refine (ranked_sorted l o).imp_of_mem fun {a b} ha hb h => ?_
 have h1 := ranked_mem ha
 have h2 := ranked_mem hb
 obtain ⟨i, hi, rfl⟩ := List.mem_map.1 ((ranked_perm l o).mem_iff.1 ha)
 obtain ⟨j, hj, rfl⟩ := List.mem_map.1 ((ranked_perm l o).mem_iff.1 hb)
 rw [prior_no] at h
 simp only [rankE, Int.toNat_natCast] at h h1 h2 ⊢
 unfold PrOrd
 rw [← Bool.not_eq_true, aheadB_iff]
 rintro (h3 | ⟨h3, h4⟩)
 · exact h (.inl h3)
 · rcases Nat.lt_trichotomy i j with e | e | e
   · have := ho.2 i j (Nat.zero_le _) e h2.2
     unfold idLt at this
     rw [this] at h4; cases h4
   · subst e; rw [slt_irrefl] at h4; cases h4
   · exact h (.inr ⟨h3, by omega⟩)
end Go.Proofs.YtnekegdhpjplbaaGreat
namespace Go.Proofs.YtnekegdhpjplbaaGreat
open Go Go.Ab
theorem playPromoK_sm (p : Promo) (id K : Int) : PromoSm (playPromoK p id K) := by
 have hs := (playScope_ok p.scope).2
 have hp := playParts_ok p.parts
 have ht5 := (playTiers_ok p.tiers 5000 (.inl rfl)).2
 have ht6 := (playTiers_ok p.tiers 5 (.inr rfl)).2
 refine ⟨?_, ?_, ?_, ?_, ?_, ?_, ?_⟩
 · have := nameB_size (id_nameB id); show (idN id).size ≤ _; omega
 · have := (group_named p).2; show (playGroup p).size ≤ _; omega
 · have := (code_named p).2; show (playCode p).size ≤ _; omega
 · show ScopeSm (if K = 4 ∨ K = 7 then ⟨[], []⟩ else playScope p.scope)
   split
   · exact empty_ok.2
   · exact hs
 · show (if K = 4 then playParts p.parts else []).length ≤ _
   split
   · omega
   · exact Nat.zero_le _
 · show ∀ x ∈ (if K = 4 then playParts p.parts else []), _
   split
   · exact fun x hx => (hp.2 x hx).2
   · exact fun x hx => absurd hx List.not_mem_nil
 · show (if K = 5 then playTiers p.tiers 5000 else if K = 6 then playTiers p.tiers 5 else []).length ≤ _
   split
   · omega
   · split
     · omega
     · exact Nat.zero_le _
theorem playZone_sm (l : List Zone) (k : Nat) (hk : k < 3) : ZoneSm (playZone l k) := by
 have hn := List.all_eq_true.1 zone_names k (List.mem_range.2 hk)
 have hz := nameB_size hn
 unfold playZone
 split
 · obtain ⟨h1, h2, h3⟩ := playRates_ok (l.getD k default).rates
   generalize playRates (l.getD k default).rates = R at h1 h2 h3 ⊢
   exact ⟨by show R.length ≤ _; omega, by show (zoneN k).size ≤ _; omega, fun x hx => by have := (h2 x hx).2; show x.cat.size ≤ _; omega⟩
 · exact ⟨by show 0 ≤ _; decide, by show (zoneN k).size ≤ _; omega, fun x hx => absurd hx List.not_mem_nil⟩
theorem playTax_sm (t : Tax) : TaxSm (playTax t) := by
 refine ⟨by show ((List.range 3).map _).length ≤ _; rw [List.length_map, List.length_range]; decide, fun z hz => ?_⟩
 obtain ⟨k, hk, rfl⟩ := List.mem_map.1 hz
 exact playZone_sm _ k (List.mem_range.1 hk)
theorem playRules_sm (r : Rules) : RulesSm (playRules r) := by
 have h0 := playItems_len r.items
 have h2 := (playKinds_ok r.policy.order).2
 have h3 := (playKinds_ok r.policy.credit).2
 refine ⟨by show (playItems r.items).length ≤ _; omega, fun x hx => ?_, fun p hp => ?_, playTax_sm r.tax, by show (playKinds r.policy.order).length ≤ _; omega, by show (playKinds r.policy.credit).length ≤ _; omega⟩
 · have := playItems_mem hx
   exact ⟨by have := this.2.1; show x.sku.size ≤ _; omega, by have := this.2.2; show x.cat.size ≤ _; omega⟩
 · obtain ⟨q, id, K, _, rfl⟩ := playPromos_mem hp
   exact playPromoK_sm q id K
end Go.Proofs.YtnekegdhpjplbaaGreat
namespace Go.Proofs.YtnekegdhpjplbaaGreat
open Go Go.Ab
attribute [local irreducible] upd del
theorem ROut.own {R : St → St → Prop} {ty e n : Nat} {fo : Nat → AV} {s t : St} {sv : AV} (h : ROut R ty e fo (n + 1) s sv t) : ∃ b, sv = .own e b 0 (n + 1) := by
 obtain ⟨s0, ⟨h1, _⟩ | ⟨_, b, _, _, h1, _⟩, h2⟩ := h
 · cases h1
 · exact ⟨b, h1⟩
theorem RD.wr {dl : List Deal} {gr : List Str} {dv gv : AV} {s t : St} {b : Nat} {y y' : Blk} (h : RD dl gr dv gv s t) (hb : s b = some y) : RD dl gr dv gv (upd s b y') (upd t b y') := (besideD dl gr dv gv).write h hb
theorem RD.sup {dl : List Deal} {gr : List Str} {dv gv : AV} {s t : St} (h : RD dl gr dv gv s t) : Sup s t := (besideD dl gr dv gv).sup h
theorem RD.start (s : St) : RD [] [] .emp .emp s s := ROut.start (ROut.start (Sup.refl s) _ _ _) _ _ _
theorem RD.appG {dl : List Deal} {gr : List Str} {dv gv : AV} {s t : St} {y : Str} {x : AV} {k : KK} {g : Nat → AV} (h : RD dl gr dv gv s t) (hs : srcOf 1 t x = some (1, g)) (hg : g 0 = eS y) (hb : gr.length ≤ 1000)
   (hk : ∀ gv' t', RD dl (gr ++ [y]) dv gv' s t' → k gv' t') : xApp T 34 gv x t k := by
 obtain ⟨s0, hc, h⟩ := h
 refine ROut.app (q := r9) (f := fStrs (gr ++ [y])) besideSup rfl rfl rfl rfl hs (by rw [hg]; simp only [fStrs, getD_lst]) (by show (gr.length + 1) * 16 ≤ 140737488355328; omega) (ROut.congr h fun k hk => by simp only [fStrs]; rw [getD_app hk]) (fun sv' t' h' => hk sv' t' ⟨s0, hc, ?_⟩)
 show ROut _ _ _ _ (gr ++ [y]).length _ _ _
 rw [List.length_append]; exact h'
theorem RD.appD {dl : List Deal} {gr : List Str} {dv gv : AV} {s t : St} {y : Deal} {x : AV} {k : KK} {g : Nat → AV} (h : RD dl gr dv gv s t) (hs : srcOf 2 t x = some (1, g)) (hg : g 0 = eDeal y) (hb : dl.length ≤ 1000)
   (hk : ∀ b t', RD (dl ++ [y]) gr (.own 2 b 0 (dl.length + 1)) gv s t' → k (.own 2 b 0 (dl.length + 1)) t') : xApp T 42 dv x t k := by
 refine ROut.app (q := r61) (f := fDeals (dl ++ [y])) (besideG _ _) rfl rfl rfl rfl hs (by rw [hg]; simp only [fDeals, getD_lst]) (by show (dl.length + 1) * 24 ≤ 140737488355328; omega) (ROut.congr h fun k hk => by simp only [fDeals]; rw [getD_app hk]) (fun sv' t' h' => ?_)
 obtain ⟨b, rfl⟩ := ROut.own h'
 exact hk b t' (RD.of h')
theorem RD.deals {dl : List Deal} {gr : List Str} {dv gv : AV} {s t : St} (h : RD dl gr dv gv s t) : (dl = [] ∧ dv = .emp) ∨ ∃ bd g, dv = .own 2 bd 0 dl.length ∧ s bd = none ∧ t bd = some ⟨61, 2, dl.length, g⟩ ∧ ∀ k, k < dl.length → g k = fDeals dl k := by
 obtain ⟨s0, hc, hg0⟩ := h
 rcases hc with ⟨h0, h1, rfl⟩ | ⟨h0, b, g0, hb, h1, rfl, hgg⟩
 · exact .inl ⟨List.eq_nil_of_length_eq_zero h0, h1⟩
 · exact .inr ⟨b, g0, h1, hb, (besideG _ _).sup hg0 b _ (upd_same ..), hgg⟩
theorem RD.groups {dl : List Deal} {gr : List Str} {dv gv : AV} {s t : St} (h : RD dl gr dv gv s t) : (gv = .emp ∧ gr = []) ∨ ∃ b g, gv = .own 1 b 0 gr.length ∧ t b = some ⟨9, 1, gr.length, g⟩ ∧ ∀ k, k < gr.length → g k = eS (gr.getD k default) := by
 obtain ⟨s0, hc, s1, hc2, hs⟩ := h
 rcases hc2 with ⟨h0, h1, rfl⟩ | ⟨h0, b, g0, hb, h1, rfl, hgg⟩
 · exact .inl ⟨h1, List.eq_nil_of_length_eq_zero h0⟩
 · exact .inr ⟨b, g0, h1, hs b _ (upd_same ..), hgg⟩
theorem eachF_snoc {σ : Type} (px : σ → PSt) (step : σ → Promo → σ) (sm : Promo → Bool) (l : List Promo) (a : σ) (o : List Int) (x : Int) : eachF px step sm l a (o ++ [x]) = if sm (prAt l x) = true then goB px step (eachF px step sm l a o) (prAt l x) else eachF px step sm l a o := by
 unfold eachF
 rw [List.filter_append, List.foldl_append]
 by_cases h : sm (prAt l x) = true
 · rw [if_pos h, List.filter_cons_of_pos (p := fun x => sm (prAt l x)) h]; rfl
 · rw [if_neg h, List.filter_cons_of_neg (p := fun x => sm (prAt l x)) h]; rfl
def named (l : List Str) : List Str := l.filter fun g => !isNil g
theorem named_snoc (l : List Str) (g : Str) : named (l ++ [g]) = named l ++ (if isNil g = true then [] else [g]) := by
 unfold named
 rw [List.filter_append]
 congr 1
 cases h : isNil g
 · rw [List.filter_cons_of_pos (p := fun g => !isNil g) (by rw [h]; rfl)]; rfl
 · rw [List.filter_cons_of_neg (p := fun g => !isNil g) (by rw [h]; simp)]; rfl
theorem taken_go (l : List Str) (g : Str) : (!isNil g && l.any fun y => y.toList == g.toList) = !(isNil g || !inB (named l) g) := by
 cases hn : isNil g
 · rw [Bool.not_false, Bool.true_and, Bool.false_or, Bool.not_not]
   unfold inB named
   rw [← Bool.coe_iff_coe, List.any_eq_true, List.any_eq_true]
   constructor
   · rintro ⟨y, h1, h2⟩
     refine ⟨y, List.mem_filter.2 ⟨h1, ?_⟩, by rw [Bool.beq_comm]; exact h2⟩
     unfold isNil at hn ⊢
     rw [eq_of_beq h2, hn]; rfl
   · rintro ⟨y, h1, h2⟩
     exact ⟨y, (List.mem_filter.1 h1).1, by rw [Bool.beq_comm]; exact h2⟩
 · rfl
theorem go_go {σ : Type} {px : σ → PSt} {step : σ → Promo → σ} {a : σ} {pr : Promo} {G : List Str} (hG : named G = (px a).groups) :
   goB px step a pr = if (!isNil pr.group && G.any fun y => y.toList == pr.group.toList) = true then a else step a pr := by
 unfold goB
 rw [taken_go, hG]
 cases (isNil pr.group || !inB (px a).groups pr.group) <;> rfl
theorem askB_go {items : List Ab.Item} {p : PSt} {pr : Promo} (hk : notShip pr = true) {G : List Str} (hG : named G = p.groups) :
   goB (fun p => p) (askB items) p pr = if (!isNil pr.group && G.any fun y => y.toList == pr.group.toList) = true then p else askB items p pr := go_go (px := fun p => p) hG
theorem named_len (l : List Str) : (named l).length ≤ l.length := List.length_filter_le _ _
set_option maxHeartbeats 8000000 in
theorem rPrice_S (r : Rules) (codes : List Str) (l : List Line) (hf : RulesFit r) (hsm : RulesSm r) (hR : rulesC r = true) (hcn : Sm codes.length) (hcs : ∀ s ∈ codes, Sm s.size) (hln : Sm l.length) (st : St) :
   S P 20 [eRules r, eStrs codes, arrOf 3 eLine l] st fun v st' =>
     v = (if priceCheck r codes l = 0 then .tuple [ePriced (priceB r l (ordB r.promos codes) (ordB r.promos codes)), eI 0] else .tuple [ePriced ⟨[], 0, 0, []⟩, eI (priceCheck r codes l)]) ∧ st' = st := by
 obtain ⟨X, hX⟩ : ∃ X, X = priceB r l (ordB r.promos codes) (ordB r.promos codes) := ⟨_, rfl⟩
 refine S.post (post := fun v st' => (priceCheck r codes l ≠ 0 ∧ v = .tuple [.agg [.emp, eI 0, eI 0, .emp], eI (priceCheck r codes l)] ∧ Sup st st') ∨
     (priceCheck r codes l = 0 ∧ ∃ bn fn dv, v = .tuple [.agg [.own 1 bn 0 l.length, eI X.net, eI X.ship, dv], eI 0] ∧
       st bn = none ∧ st' bn = some ⟨2, 1, l.length, fn⟩ ∧ (∀ k, k < l.length → fn k = eI (gI X.nets k)) ∧ Sup st st' ∧
       ((X.deals = [] ∧ dv = .emp) ∨ ∃ bd g, dv = .own 2 bd 0 X.deals.length ∧ st bd = none ∧ bd ≠ bn ∧ st' bd = some ⟨61, 2, X.deals.length, g⟩ ∧ ∀ k, k < X.deals.length → g k = fDeals X.deals k))) ?_
   (fun v st' hv => by
     rcases hv with ⟨h1, rfl, hs⟩ | ⟨h1, bn, fn, dv, rfl, h4, h5, h6, hs, h7⟩
     · refine ⟨_, st, ⟨rfl, rfl⟩, ?_⟩
       rw [if_neg h1]
       refine (hs.shift _).trans (Shift.tuple (Shift.cons (Shift.agg ?_) (Shift.keep _ _)) rfl)
       exact Shift.cons (shift_emp 1 _) (Shift.cons (Shift.keep [eI 0] _) (Shift.cons (Shift.keep [eI 0] _) (shift_emp 2 _)))
     · refine ⟨_, st, ⟨rfl, rfl⟩, ?_⟩
       rw [if_pos h1, ← hX]
       refine Shift.tuple (Shift.cons (Shift.agg ?_) (Shift.keep _ _)) rfl
       have hnl : X.nets.length = l.length := by rw [hX]; show (lineNets _ _).length = _; unfold lineNets; rw [List.length_map, List.length_range]
       clear hX
       have e1 : eInts X.nets = .arr 1 l.length (fun k => eI (gI X.nets k)) := by unfold eInts arrOf; rw [hnl]
       refine Shift.cons (t := del st' bn) ?_ (Shift.cons (Shift.keep [eI X.net] _) (Shift.cons (Shift.keep [eI X.ship] _) ?_))
       · rw [e1]; exact shift_own h5 rfl (Nat.le_refl _) h6
       · rcases h7 with ⟨h8, rfl⟩ | ⟨bd, g, rfl, h8, h9, h10, h11⟩
         · rw [h8]
           exact ((Sup.del hs h4).shift _).trans (shift_emp 2 _)
         · refine (shift_own (b := bd) (y := ⟨61, 2, X.deals.length, g⟩) (f := fDeals X.deals) (by rw [del_ne h9]; exact h10) rfl (Nat.le_refl _) h11).trans ?_
           exact (Sup.del (Sup.del hs h4) h8).shift _)
 have hC := hR
 unfold rulesC shipC at hC
 simp only [Bool.and_eq_true] at hC
 obtain ⟨⟨⟨⟨_, hpc⟩, _⟩, hfee, hfree⟩, _⟩ := hC
 rw [upB_iff] at hfee hfree
 have hpk : priceCheck r codes l = if codesC codes = false then 2 else checkE (known r.items) l := by unfold priceCheck; rw [if_neg (by rw [hR]; simp)]
 refine S_of_X [3, 15, 20] good mixed Tryz.func20 (by rfl) rfl rfl rfl ?_; conv => whnf
 intro b6 hb6; conv => whnf
 refine call1 (rRulesOk_S r hsm hR _) ?_; conv => whnf
 refine call1 (rCodes_S codes hcn hcs _) ?_
 have h6s : ∀ x : Blk, Sup st (upd st b6 x) := fun x => (Sup.refl st).upd hb6
 cases hcc : codesC codes
 · rw [if_pos hcc] at hpk
   have hk0 : priceCheck r codes l ≠ 0 := by rw [hpk]; decide
   conv => whnf
   refine stV (upd_same ..) rfl (by omega) rfl (by rfl) ?_; conv => whnf
   refine ldV (upd_same ..) rfl (by omega) (fset_same ..) ?_; conv => whnf
   exact .inl ⟨hk0, by rw [hpk]; rfl, (h6s _).over hb6⟩
 rw [if_neg (by rw [hcc]; simp)] at hpk; conv => whnf
 refine call1 (rCheck_S r.items l hsm.n hln _) ?_
 rw [← hpk]; conv => whnf
 cases h1 : (priceCheck r codes l != 0)
 case true =>
   have hk0 : priceCheck r codes l ≠ 0 := by simpa using h1
   conv => whnf
   refine stV (upd_same ..) rfl (by omega) rfl (by rfl) ?_; conv => whnf
   refine ldV (upd_same ..) rfl (by omega) (fset_same ..) ?_; conv => whnf
   exact .inl ⟨hk0, rfl, (h6s _).over hb6⟩
 have hk0 : priceCheck r codes l = 0 := by simpa using h1
 have hck := checkOk hk0
 have hli := hck.lines
 have hlen := hli.len
 have hus0 := usOf_ok hli
 have hitl : (itemsOf r.items l).length = l.length := List.length_map ..
 obtain ⟨u1, u2, u3⟩ := unitsUp_net l hli.line l.length (Nat.le_refl _)
 conv => whnf
 refine ⟨[], [], List.range 13, by kernel_rfl, ?_⟩; conv => whnf
 refine ⟨_, callQ (rUnits_S l hlen hli.line (eq_of_beq hli.may) hus0.ok.len _), ?_⟩; conv => whnf
 refine ⟨_, callQ (rItems_S r.items l hsm.n hlen hli.known _), ?_⟩; conv => whnf
 refine ⟨_, callQ (rorder1_S r.promos codes hpc hcn _), ?_⟩; conv => whnf
 have hol : (ordB r.promos codes).length ≤ 60 := by
   rw [(ordB_perm _ _).length_eq]
   have := places_len r.promos codes r.promos.length
   have := hck.few; omega
 have hom : ∀ x ∈ ordB r.promos codes, 0 ≤ x ∧ x.toNat < r.promos.length := fun x hx => places_lt ((ordB_perm _ _).mem_iff.1 hx)
 have hXd : X = ⟨lineNets l.length (p1B r l (ordB r.promos codes)).us, netB (p1B r l (ordB r.promos codes)), (p2B r l (p1B r l (ordB r.promos codes)) (ordB r.promos codes)).2, (p2B r l (p1B r l (ordB r.promos codes)) (ordB r.promos codes)).1.deals⟩ := hX
 clear hX
 generalize ordB r.promos codes = o at *
 generalize hs6 : (upd st b6 _) = s6 at *
 have h6 : s6 b6 = some ⟨44, 4, 1, fun _ => avOf r44.zero⟩ := by rw [← hs6]; exact upd_same ..
 have hst6 : Sup st s6 := by rw [← hs6]; exact h6s _
 clear hs6
 refine mkO rfl rfl rfl (by show 8 * l.length ≤ _; omega) (by omega) (by rfl) (fun bn hbn => ?_); conv => whnf
 intro bp hbp
 have hnb : bn ≠ bp := fun e => by subst e; rw [upd_same] at hbp; cases hbp
 have hbp6 : s6 bp = none := by rw [upd_ne hnb.symm] at hbp; exact hbp
 have hb6p : b6 ≠ bp := fun e => by subst e; rw [h6] at hbp6; cases hbp6
 have hb6n : b6 ≠ bn := fun e => by subst e; rw [h6] at hbn; cases hbn
 have hstn : st bn = none := hst6.none hbn
 have hstp : st bp = none := hst6.none hbp6
 conv => whnf
 refine stV (upd_same ..) rfl (by omega) rfl (by rfl) ?_
 rw [upd_twice]; conv => whnf
 have hat : ∀ {dl : List Deal} {gr : List Str} {dv gv : AV} {Y Z : Blk} {t : St}, RD dl gr dv gv (upd (upd s6 bn Y) bp Z) t → t bn = some Y ∧ t bp = some Z := fun h => ⟨h.sup bn _ (by rw [upd_ne hnb, upd_same]), h.sup bp _ (upd_same ..)⟩
 have hwn : ∀ {dl : List Deal} {gr : List Str} {dv gv : AV} {Y Z Y' : Blk} {t : St}, RD dl gr dv gv (upd (upd s6 bn Y) bp Z) t → RD dl gr dv gv (upd (upd s6 bn Y') bp Z) (upd t bn Y') := fun {_ _ _ _ Y Z Y' t} h => by
   have := h.wr (b := bn) (y' := Y') (by rw [upd_ne hnb, upd_same])
   rw [upd_comm hnb.symm, upd_twice] at this; exact this
 have hwp : ∀ {dl : List Deal} {gr : List Str} {dv gv : AV} {Y Z Z' : Blk} {t : St}, RD dl gr dv gv (upd (upd s6 bn Y) bp Z) t → RD dl gr dv gv (upd (upd s6 bn Y) bp Z') (upd t bp Z') := fun {_ _ _ _ Y Z Z' t} h => by
   have := h.wr (b := bp) (y' := Z') (upd_same ..)
   rw [upd_twice] at this; exact this
 have htk : ∀ {i : Nat}, i < o.length → o.take (i + 1) = o.take i ++ [gI o i] := fun h => take_next h
 refine lp o.length [3, 6, 9, 10, 11, 12, 13, 14] (fun i vs t => ∃ (p : PSt) (dv gv : AV) (G : List Str) (fp : Nat → AV), p = eachF (fun p => p) (askB (itemsOf r.items l)) notShip r.promos ⟨usOf l, [], []⟩ (o.take i) ∧
     vs = [.fptr (eRules r) 0, .optr 4 b6 0 0, eUnits p.us, arrOf 4 eItem (itemsOf r.items l), eInts o, .optr 4 bp 0 0, gv, eI i] ∧
     RD p.deals G dv gv (upd (upd s6 bn ⟨2, 1, l.length, fun _ => avOf r2.zero⟩) bp ⟨44, 4, 1, fp⟩) t ∧ fp 0 = .agg [.own 1 bn 0 l.length, eI 0, eI 0, dv] ∧
     named G = p.groups ∧ G.length ≤ i ∧ p.deals.length ≤ i ∧ UsOk (itemsOf r.items l) p.us ∧ ∃ x, Off (usOf l) p.us x) ?_ ?_
 · conv => whnf
   exact ⟨⟨usOf l, [], []⟩, .emp, .emp, [], _, rfl, rfl, RD.start _, fset_same .., rfl, Nat.le_refl _, Nat.le_refl _, hus0, 0, Off.refl hus0.ok⟩
 · rintro i vs t hi ⟨p, dv, gv, G, fp, hp, rfl, hR, hfp, hG, hGn, hDn, hus, x, hoff⟩
   conv => whnf
   cases hd : decide ((i : Int) < (o.length : Int))
   case true =>
     have hi' := go_on hd
     have hx := hom _ (getD_mem hi')
     have hx0 : 0 ≤ gI o (i : Int).toNat := hx.1
     have hx1 : (gI o (i : Int).toNat).toNat < r.promos.length := hx.2
     have hpm : prAt r.promos (gI o i) ∈ r.promos := getD_mem hx.2
     have hpr : prAt r.promos (gI o i) = r.promos.getD (gI o (i : Int).toNat).toNat default := rfl
     have hps : PSm (prAt r.promos (gI o i)) := ⟨hsm.promos _ hpm, hck.promo _ hpm, hf.fit _ hpm⟩
     have hnext := eachF_snoc (fun p => p) (askB (itemsOf r.items l)) notShip r.promos ⟨usOf l, [], []⟩ (o.take i) (gI o i)
     rw [← htk hi', ← hp, hpr] at hnext
     rw [hpr] at hps; conv => whnf
     refine ⟨[8, 9], [1, 5, 7], List.range 10, by kernel_rfl, ?_⟩; conv => whnf
     refine ⟨_, fun s _ => ⟨rfl, rfl⟩, ?_⟩; conv => whnf
     refine ⟨rfl, ⟨by omega, by omega⟩, ?_⟩; conv => whnf
     refine ⟨_, fun s _ => ⟨rfl, rfl⟩, ?_⟩; conv => whnf
     refine ⟨rfl, ⟨by show 0 ≤ gI o (i : Int).toNat; omega, by show gI o (i : Int).toNat < (r.promos.length : Int); omega⟩, ?_⟩; conv => whnf
     refine ⟨_, fun s _ => ⟨rfl, rfl⟩, ?_⟩; conv => whnf
     have hend : ∀ {q : PSt} {dv' gv' : AV} {G' : List Str} {fp' : Nat → AV} {t' : St}, q = eachF (fun p => p) (askB (itemsOf r.items l)) notShip r.promos ⟨usOf l, [], []⟩ (o.take (i + 1)) → RD q.deals G' dv' gv' (upd (upd s6 bn ⟨2, 1, l.length, fun _ => avOf r2.zero⟩) bp ⟨44, 4, 1, fp'⟩) t' → fp' 0 = .agg [.own 1 bn 0 l.length, eI 0, eI 0, dv'] →
         named G' = q.groups → G'.length ≤ i + 1 → q.deals.length ≤ i + 1 → UsOk (itemsOf r.items l) q.us → (∃ x, Off (usOf l) q.us x) → ∃ (p : PSt) (dv gv : AV) (G : List Str) (fp : Nat → AV), p = eachF (fun p => p) (askB (itemsOf r.items l)) notShip r.promos ⟨usOf l, [], []⟩ (o.take (i + 1)) ∧
         [.fptr (eRules r) 0, .optr 4 b6 0 0, eUnits q.us, arrOf 4 eItem (itemsOf r.items l), eInts o, .optr 4 bp 0 0, gv', eI (IntKind.i64.wrap ((i : Int) + 1))] = [.fptr (eRules r) 0, .optr 4 b6 0 0, eUnits p.us, arrOf 4 eItem (itemsOf r.items l), eInts o, .optr 4 bp 0 0, gv, eI ((i + 1 : Nat) : Int)] ∧
         RD p.deals G dv gv (upd (upd s6 bn ⟨2, 1, l.length, fun _ => avOf r2.zero⟩) bp ⟨44, 4, 1, fp⟩) t' ∧ fp 0 = .agg [.own 1 bn 0 l.length, eI 0, eI 0, dv] ∧
         named G = p.groups ∧ G.length ≤ i + 1 ∧ p.deals.length ≤ i + 1 ∧ UsOk (itemsOf r.items l) p.us ∧ ∃ x, Off (usOf l) p.us x := fun {q dv' gv' G' fp' t'} h1 h2 h3 h4 h5 h6 h7 h8 => ⟨q, dv', gv', G', fp', h1, by rw [wrapN (by omega)], h2, h3, h4, h5, h6, h7, h8⟩
     cases h7 : ((r.promos.getD (gI o (i : Int).toNat).toNat default).kind == 7)
     case true =>
       rw [if_neg (by unfold notShip; rw [h7]; simp)] at hnext; conv => whnf
       refine ⟨rfl, ?_⟩; conv => whnf
       exact nx hi' (hend hnext.symm hR hfp hG (by omega) (by omega) hus ⟨x, hoff⟩)
     case false =>
       have hns : notShip (r.promos.getD (gI o (i : Int).toNat).toNat default) = true := by unfold notShip; rw [h7]; rfl
       rw [if_pos hns, askB_go hns hG] at hnext; conv => whnf
       refine call1 (rtaken_S G (r.promos.getD (gI o (i : Int).toNat).toNat default).group (by omega) gv _ hR.groups) ?_
       cases htk : (!isNil (r.promos.getD (gI o (i : Int).toNat).toNat default).group && G.any fun y => y.toList == (r.promos.getD (gI o (i : Int).toNat).toNat default).group.toList)
       case true =>
         rw [if_pos htk] at hnext; conv => whnf
         refine ⟨rfl, ?_⟩; conv => whnf
         exact nx hi' (hend hnext.symm hR hfp hG (by omega) (by omega) hus ⟨x, hoff⟩)
       case false =>
         rw [if_neg (by rw [htk]; simp)] at hnext
         have hk7 : (r.promos.getD (gI o (i : Int).toNat).toNat default).kind ≠ 7 := by simpa using h7
         obtain ⟨y, hoy⟩ := askB_off hus hps.fit hps.right hk7
         have hus2 := hus.off hoy
         have hof2 := hoff.trans hoy
         rw [← hnext] at hus2 hof2
         have hAs : askB (itemsOf r.items l) p (r.promos.getD (gI o (i : Int).toNat).toNat default) = if (wayB (itemsOf r.items l) p.us (r.promos.getD (gI o (i : Int).toNat).toNat default)).2 > 0 then noteF ⟨(wayB (itemsOf r.items l) p.us (r.promos.getD (gI o (i : Int).toNat).toNat default)).1, p.deals, p.groups⟩ (r.promos.getD (gI o (i : Int).toNat).toNat default) (wayB (itemsOf r.items l) p.us (r.promos.getD (gI o (i : Int).toNat).toNat default)).2 else p := rfl
         conv => whnf
         refine call (rask_S (itemsOf r.items l) p.us (r.promos.getD (gI o (i : Int).toNat).toNat default) hps hk7 hus _) (fun v t' hv => ?_)
         obtain ⟨⟨z, rfl, hz⟩, rfl⟩ := hv
         conv => whnf
         cases hgt : decide ((wayB (itemsOf r.items l) p.us (r.promos.getD (gI o (i : Int).toNat).toNat default)).2 > 0)
         case false =>
           rw [if_neg (of_decide_eq_false hgt)] at hAs
           rw [hAs] at hnext; conv => whnf
           refine ⟨rfl, ?_⟩; conv => whnf
           exact nx hi' (hend hnext.symm hR hfp hG (by omega) (by omega) hus ⟨x, hoff⟩)
         case true =>
           have hgt' := of_decide_eq_true hgt
           rw [if_pos hgt'] at hAs
           rw [hAs] at hnext
           obtain rfl := hz hgt'
           conv => whnf
           refine RD.appG (y := (r.promos.getD (gI o (i : Int).toNat).toNat default).group) hR rfl rfl (by omega) (fun gv' t1 hR1 => ?_); conv => whnf
           have hdv := ROut.head hR1
           rcases hdv with rfl | ⟨bo, rfl⟩
           all_goals
             refine ldV (hat hR1).2 rfl (by omega) hfp ?_; conv => whnf
             refine RD.appD (y := ⟨(r.promos.getD (gI o (i : Int).toNat).toNat default).id, (wayB (itemsOf r.items l) p.us (r.promos.getD (gI o (i : Int).toNat).toNat default)).2⟩) hR1 rfl (by rfl) (by omega) (fun bd t2 hR2 => ?_); conv => whnf
             refine stV (hat hR2).2 rfl (by omega) hfp (by rfl) ?_; conv => whnf
             refine ⟨rfl, ?_⟩; conv => whnf
             refine nx hi' ?_
             have hD : (noteF ⟨(wayB (itemsOf r.items l) p.us (r.promos.getD (gI o (i : Int).toNat).toNat default)).1, p.deals, p.groups⟩ (r.promos.getD (gI o (i : Int).toNat).toNat default) (wayB (itemsOf r.items l) p.us (r.promos.getD (gI o (i : Int).toNat).toNat default)).2).deals = p.deals ++ [⟨(r.promos.getD (gI o (i : Int).toNat).toNat default).id, (wayB (itemsOf r.items l) p.us (r.promos.getD (gI o (i : Int).toNat).toNat default)).2⟩] := rfl
             have hGr : (noteF ⟨(wayB (itemsOf r.items l) p.us (r.promos.getD (gI o (i : Int).toNat).toNat default)).1, p.deals, p.groups⟩ (r.promos.getD (gI o (i : Int).toNat).toNat default) (wayB (itemsOf r.items l) p.us (r.promos.getD (gI o (i : Int).toNat).toNat default)).2).groups = p.groups ++ (if isNil (r.promos.getD (gI o (i : Int).toNat).toNat default).group = true then [] else [(r.promos.getD (gI o (i : Int).toNat).toNat default).group]) := rfl
             have hUs : (noteF ⟨(wayB (itemsOf r.items l) p.us (r.promos.getD (gI o (i : Int).toNat).toNat default)).1, p.deals, p.groups⟩ (r.promos.getD (gI o (i : Int).toNat).toNat default) (wayB (itemsOf r.items l) p.us (r.promos.getD (gI o (i : Int).toNat).toNat default)).2).us = (wayB (itemsOf r.items l) p.us (r.promos.getD (gI o (i : Int).toNat).toNat default)).1 := rfl
             rw [hnext] at hus2 hof2
             exact hend (G' := G ++ [(r.promos.getD (gI o (i : Int).toNat).toNat default).group]) hnext.symm (hwp hR2) (fset_same ..) (by rw [named_snoc, hG]; rfl) (by rw [List.length_append]; show G.length + 1 ≤ _; omega) (by rw [hD, List.length_append]; show p.deals.length + 1 ≤ _; omega) hus2 ⟨_, hof2⟩
   case false =>
     obtain rfl := stop_at hd hi
     rw [List.take_length] at hp
     have hp1 : p1B r l o = p := hp.symm
     rw [hp1] at hXd
     clear hp1 hp
     have hu1 := hus.ok
     have hul := hu1.len
     have hus1 := hu1.sum
     have hnet0 := sumI_nonneg hu1.nets0
     have hline : ∀ k, k < p.us.length → 0 ≤ (gU p.us k).line ∧ (gU p.us k).line.toNat < l.length := fun k hk => by
       have := hus.line _ (getD_mem hk)
       rw [hitl] at this; exact this
     have hul1 : p.us.length = (usOf l).length := hoff.len
     conv => whnf
     refine lp p.us.length [3, 6, 9, 11, 12, 13, 18] (fun k vs t => ∃ (fn fp : Nat → AV), vs = [.fptr (eRules r) 0, .optr 4 b6 0 0, eUnits p.us, eInts o, .optr 4 bp 0 0, gv, eI k] ∧
       RD p.deals G dv gv (upd (upd s6 bn ⟨2, 1, l.length, fn⟩) bp ⟨44, 4, 1, fp⟩) t ∧ fp 0 = .agg [.own 1 bn 0 l.length, eI (sumI ((netsOf p.us).take k)), eI 0, dv] ∧ ∀ j, j < l.length → fn j = eI (lineNet (p.us.take k) j)) ?_ ?_
     · conv => whnf
       exact ⟨_, fp, rfl, hR, hfp, fun j _ => rfl⟩
     · clear hR hfp fp
       rintro k vs t hk ⟨fn, fp, rfl, hR, hfp, hfn⟩
       obtain ⟨htn, htp⟩ := hat hR
       conv => whnf
       cases hd2 : decide ((k : Int) < (p.us.length : Int))
       case true =>
         have hk' := go_on hd2
         have hlk : 0 ≤ (gU p.us (k : Int).toNat).line ∧ (gU p.us (k : Int).toNat).line.toNat < l.length := hline k hk'
         have hn0 : 0 ≤ (gU p.us k).net := hu1.at0 k
         have hn1 : (gU p.us k).net ≤ 10000000000000 := hu1.le (getD_mem hk')
         have e1 := sumI_take (l := netsOf p.us) (i := k) (by rw [List.length_map]; exact hk')
         have e4 : gI (netsOf p.us) k = (gU p.us k).net := getD_map AUnit.net p.us hk'
         have e2 := sumI_le_take hu1.nets0 (k + 1)
         have e3 := sumI_nonneg (l := (netsOf p.us).take k) (fun x hx => hu1.nets0 x (List.take_subset _ _ hx))
         have hlb := lineNet_bound hu1 k (gU p.us (k : Int).toNat).line.toNat
         have hlb2 := lineNet_bound hu1 (k + 1) (gU p.us (k : Int).toNat).line.toNat
         have hln1 : lineNet (p.us.take (k + 1)) (gU p.us (k : Int).toNat).line.toNat = lineNet (p.us.take k) (gU p.us (k : Int).toNat).line.toNat + (gU p.us (k : Int).toNat).net := (lineNet_next hk' (gU p.us k).line.toNat).trans (if_pos rfl)
         have hfl : fn (0 + (gU p.us (k : Int).toNat).line.toNat) = eI (lineNet (p.us.take k) (gU p.us (k : Int).toNat).line.toNat) := by rw [Nat.zero_add]; exact hfn _ hlk.2
         have w1 : IntKind.i64.wrap (lineNet (p.us.take k) (gU p.us (k : Int).toNat).line.toNat + (gU p.us (k : Int).toNat).net) = lineNet (p.us.take (k + 1)) (gU p.us (k : Int).toNat).line.toNat := by rw [hln1]; exact wrap64_of (by omega) (by omega)
         have w2 : IntKind.i64.wrap (sumI ((netsOf p.us).take k) + (gU p.us (k : Int).toNat).net) = sumI ((netsOf p.us).take (k + 1)) := by rw [e1, e4]; exact wrap64_of (by omega) (by omega)
         conv => whnf
         refine ⟨[23], [], List.range 24, by kernel_rfl, ?_⟩; conv => whnf
         refine ldV htp rfl (by omega) hfp ?_; conv => whnf
         refine ⟨rfl, ⟨by omega, by omega⟩, ?_⟩; conv => whnf
         refine ldV htp rfl (by omega) hfp ?_; conv => whnf
         refine ⟨rfl, ⟨by omega, by omega⟩, ?_⟩; conv => whnf
         refine ⟨rfl, ⟨by show 0 ≤ (gU p.us (k : Int).toNat).line; exact hlk.1, by show (gU p.us (k : Int).toNat).line < (l.length : Int); have := hlk.2; have := hlk.1; omega⟩, ?_⟩; conv => whnf
         refine ldV htn rfl (by show 0 + (gU p.us (k : Int).toNat).line.toNat < _; have := hlk.2; omega) hfl ?_; conv => whnf
         refine ⟨rfl, ⟨by omega, by omega⟩, ?_⟩; conv => whnf
         refine ⟨rfl, ⟨by show 0 ≤ (gU p.us (k : Int).toNat).line; exact hlk.1, by show (gU p.us (k : Int).toNat).line < (l.length : Int); have := hlk.2; have := hlk.1; omega⟩, ?_⟩; conv => whnf
         refine stV htn rfl (by show 0 + (gU p.us (k : Int).toNat).line.toNat < _; have := hlk.2; omega) hfl (by rfl) ?_
         have hP5 := hwn (Y' := ⟨2, 1, l.length, fset fn (0 + (gU p.us (k : Int).toNat).line.toNat) (eI (lineNet (p.us.take (k + 1)) (gU p.us (k : Int).toNat).line.toNat))⟩) hR
         rw [← w1] at hP5
         obtain ⟨_, htp2⟩ := hat hP5
         conv => whnf
         refine ⟨[9], [], List.range 10, by kernel_rfl, ?_⟩; conv => whnf
         refine ldV htp2 rfl (by omega) hfp ?_; conv => whnf
         refine ⟨rfl, ⟨by omega, by omega⟩, ?_⟩; conv => whnf
         refine stV htp2 rfl (by omega) hfp (by rfl) ?_; conv => whnf
         refine ⟨rfl, ?_⟩; conv => whnf
         refine nx hk' ⟨_, _, by rw [wrapN (by omega)], hwp hP5, ?_, fun j hj => ?_⟩
         · rw [fset_same, ← w2]; rfl
         · show fset fn (0 + (gU p.us (k : Int).toNat).line.toNat) _ j = _
           rw [Nat.zero_add]
           by_cases hj2 : j = (gU p.us (k : Int).toNat).line.toNat
           · subst hj2
             rw [fset_same, w1]
           · rw [fset_ne hj2, lineNet_next hk' j, if_neg (fun e => hj2 e.symm)]; exact hfn j hj
       case false =>
         obtain rfl := stop_at hd2 hk
         rw [List.take_length] at hfn
         have htk2 : (netsOf p.us).take p.us.length = netsOf p.us := by rw [← List.length_map (f := AUnit.net), List.take_length]
         rw [htk2] at hfp
         change fp 0 = .agg [.own 1 bn 0 l.length, eI (netB p), eI 0, dv] at hfp
         have hF : feeB r.ship (usOf l).length (netB p) = if ((p.us.length : Int) = 0 ∨ (r.ship.free > 0 ∧ netB p ≥ r.ship.free)) then 0 else r.ship.fee := by unfold feeB; rw [hul1]
         have hnb0 : 0 ≤ netB p := hnet0
         conv => whnf
         refine fork (fun g1 => ?_) (fun g1 => ?_) <;> rw [g1] <;> simp only [decide_eq_true_eq, decide_eq_false_iff_not] at g1
         case' refine_1 =>
           conv => whnf
           refine fork (fun g2 => ?_) (fun g2 => ?_) <;> rw [g2] <;> simp only [beq_iff_eq, beq_eq_false_iff_ne, ne_eq] at g2
         case' refine_1.refine_1 =>
           conv => whnf
           refine stV htp rfl (by omega) hfp (by rfl) ?_
           have hR3 := hwp (Z' := ⟨44, 4, 1, fset fp 0 (.agg [.own 1 bn 0 l.length, eI (netB p), eI r.ship.fee, dv])⟩) hR
           have hfp3 : fset fp 0 (.agg [.own 1 bn 0 l.length, eI (netB p), eI r.ship.fee, dv]) 0 = .agg [.own 1 bn 0 l.length, eI (netB p), eI (feeB r.ship (usOf l).length (netB p)), dv] := by rw [fset_same, hF, if_neg (by omega)]
         case' refine_1.refine_2 =>
           conv => whnf
           refine ldV htp rfl (by omega) hfp ?_; conv => whnf
           refine fork (fun g3 => ?_) (fun g3 => ?_) <;> rw [g3] <;> simp only [decide_eq_true_eq, decide_eq_false_iff_not] at g3
         case' refine_1.refine_2.refine_1 =>
           conv => whnf
           refine stV htp rfl (by omega) hfp (by rfl) ?_
           have hR3 := hwp (Z' := ⟨44, 4, 1, fset fp 0 (.agg [.own 1 bn 0 l.length, eI (netB p), eI r.ship.fee, dv])⟩) hR
           have hfp3 : fset fp 0 (.agg [.own 1 bn 0 l.length, eI (netB p), eI r.ship.fee, dv]) 0 = .agg [.own 1 bn 0 l.length, eI (netB p), eI (feeB r.ship (usOf l).length (netB p)), dv] := by rw [fset_same, hF, if_neg (by omega)]
         case' refine_1.refine_2.refine_2 =>
           have hR3 := hR
           have hfp3 : fp 0 = .agg [.own 1 bn 0 l.length, eI (netB p), eI (feeB r.ship (usOf l).length (netB p)), dv] := by rw [hfp, hF, if_pos (by omega)]
         case' refine_2 =>
           have hR3 := hR
           have hfp3 : fp 0 = .agg [.own 1 bn 0 l.length, eI (netB p), eI (feeB r.ship (usOf l).length (netB p)), dv] := by rw [hfp, hF, if_pos (by omega)]
         all_goals
           conv => whnf
           clear hR hfp hF
           have hfeB : 0 ≤ feeB r.ship (usOf l).length (netB p) ∧ feeB r.ship (usOf l).length (netB p) ≤ 10000000000000 := by
             unfold feeB; split <;> omega
           refine lp o.length [3, 6, 11, 12, 13, 19] (fun i vs t => ∃ (a : PSt × Int) (dv gv : AV) (G : List Str) (fp : Nat → AV), a = eachF (fun a => a.1) (shipStep (netB p)) isShip r.promos (p, feeB r.ship (usOf l).length (netB p)) (o.take i) ∧
             vs = [.fptr (eRules r) 0, .optr 4 b6 0 0, eInts o, .optr 4 bp 0 0, gv, eI i] ∧
             RD a.1.deals G dv gv (upd (upd s6 bn ⟨2, 1, l.length, fn⟩) bp ⟨44, 4, 1, fp⟩) t ∧ fp 0 = .agg [.own 1 bn 0 l.length, eI (netB p), eI a.2, dv] ∧
             named G = a.1.groups ∧ G.length ≤ 60 + i ∧ a.1.deals.length ≤ 60 + i ∧ 0 ≤ a.2 ∧ a.2 ≤ 10000000000000) ?_ ?_
           · conv => whnf
             exact ⟨(p, feeB r.ship (usOf l).length (netB p)), dv, gv, G, _, rfl, rfl, hR3, hfp3, hG, by omega, by show p.deals.length ≤ _; omega, hfeB⟩
           clear hR3 hfp3 hG hGn hDn htp htn hd hd2 hk hi
           rintro i vs t hi ⟨a, dv, gv, G, fp, ha, rfl, hR, hfp, hG, hGn, hDn, ha0, ha1⟩
           obtain ⟨htn, htp⟩ := hat hR
           conv => whnf
           cases hd : decide ((i : Int) < (o.length : Int))
           case false =>
             obtain rfl := stop_at hd hi
             rw [List.take_length] at ha
             have hp2 : p2B r l p o = a := ha.symm
             rw [hp2] at hXd
             have h6b : t b6 = some ⟨44, 4, 1, fun _ => avOf r44.zero⟩ := hR.sup b6 _ (by rw [upd_ne hb6p, upd_ne hb6n]; exact h6)
             have h76 : Sup s6 t := fun c x hc => hR.sup c x (by
               have e1 : c ≠ bp := fun e => by subst e; rw [hbp6] at hc; cases hc
               have e2 : c ≠ bn := fun e => by subst e; rw [hbn] at hc; cases hc
               rw [upd_ne e1, upd_ne e2]; exact hc)
             have hS2 : Sup st t := hst6.trans h76
             have hnets : ∀ k, k < l.length → fn k = eI (gI X.nets k) := fun k hk => by
               rw [hXd, hfn k hk]
               show eI _ = eI (gI (lineNets l.length p.us) k)
               unfold lineNets
               rw [gI_map_range _ hk]
             conv => whnf
             rcases hR.deals with ⟨hd0, rfl⟩ | ⟨bd, gd, rfl, hbd, hbt, hgd⟩
             · refine ldV htp rfl (by omega) hfp ?_; conv => whnf
               refine stV h6b rfl (by omega) rfl (by rfl) ?_; conv => whnf
               refine ldV (upd_same ..) rfl (by omega) (fset_same ..) ?_; conv => whnf
               exact .inr ⟨hk0, bn, fn, .emp, by rw [hXd]; rfl, hstn, by rw [upd_ne hb6n.symm]; exact htn, hnets, hS2.over hb6, .inl ⟨by rw [hXd]; exact hd0, rfl⟩⟩
             · have hbdp : bd ≠ bp := fun e => by subst e; rw [upd_same] at hbd; cases hbd
               rw [upd_ne hbdp] at hbd
               have hbdn : bd ≠ bn := fun e => by subst e; rw [upd_same] at hbd; cases hbd
               rw [upd_ne hbdn] at hbd
               have hbd6 : bd ≠ b6 := fun e => by subst e; rw [h6] at hbd; cases hbd
               refine ldV htp rfl (by omega) hfp ?_; conv => whnf
               refine stV h6b rfl (by omega) rfl (by rfl) ?_; conv => whnf
               refine ldV (upd_same ..) rfl (by omega) (fset_same ..) ?_; conv => whnf
               exact .inr ⟨hk0, bn, fn, .own 2 bd 0 a.1.deals.length, by rw [hXd]; rfl, hstn, by rw [upd_ne hb6n.symm]; exact htn, hnets, hS2.over hb6, .inr ⟨bd, gd, by rw [hXd], hst6.none hbd, hbdn, by rw [upd_ne hbd6, hXd]; exact hbt, by rw [hXd]; exact hgd⟩⟩
           case true =>
             have hi' := go_on hd
             have hx := hom _ (getD_mem hi')
             have hx0 : 0 ≤ gI o (i : Int).toNat := hx.1
             have hx1 : (gI o (i : Int).toNat).toNat < r.promos.length := hx.2
             have hpm : (r.promos.getD (gI o (i : Int).toNat).toNat default) ∈ r.promos := getD_mem hx.2
             have hpc1 : promoC (r.promos.getD (gI o (i : Int).toNat).toNat default) = true := hck.promo _ hpm
             have hnext : eachF (fun a => a.1) (shipStep (netB p)) isShip r.promos (p, feeB r.ship (usOf l).length (netB p)) (o.take (i + 1)) = if isShip (r.promos.getD (gI o (i : Int).toNat).toNat default) = true then goB (fun a => a.1) (shipStep (netB p)) a (r.promos.getD (gI o (i : Int).toNat).toNat default) else a := by
               rw [htk hi', eachF_snoc, ← ha]; rfl
             have hend : ∀ {q : PSt × Int} {dv' gv' : AV} {G' : List Str} {fp' : Nat → AV} {t' : St}, q = eachF (fun a => a.1) (shipStep (netB p)) isShip r.promos (p, feeB r.ship (usOf l).length (netB p)) (o.take (i + 1)) → RD q.1.deals G' dv' gv' (upd (upd s6 bn ⟨2, 1, l.length, fn⟩) bp ⟨44, 4, 1, fp'⟩) t' → fp' 0 = .agg [.own 1 bn 0 l.length, eI (netB p), eI q.2, dv'] →
                 named G' = q.1.groups → G'.length ≤ 60 + (i + 1) → q.1.deals.length ≤ 60 + (i + 1) → 0 ≤ q.2 ∧ q.2 ≤ 10000000000000 → ∃ (a : PSt × Int) (dv gv : AV) (G : List Str) (fp : Nat → AV), a = eachF (fun a => a.1) (shipStep (netB p)) isShip r.promos (p, feeB r.ship (usOf l).length (netB p)) (o.take (i + 1)) ∧
                 [.fptr (eRules r) 0, .optr 4 b6 0 0, eInts o, .optr 4 bp 0 0, gv', eI (IntKind.i64.wrap ((i : Int) + 1))] = [.fptr (eRules r) 0, .optr 4 b6 0 0, eInts o, .optr 4 bp 0 0, gv, eI ((i + 1 : Nat) : Int)] ∧
                 RD a.1.deals G dv gv (upd (upd s6 bn ⟨2, 1, l.length, fn⟩) bp ⟨44, 4, 1, fp⟩) t' ∧ fp 0 = .agg [.own 1 bn 0 l.length, eI (netB p), eI a.2, dv] ∧
                 named G = a.1.groups ∧ G.length ≤ 60 + (i + 1) ∧ a.1.deals.length ≤ 60 + (i + 1) ∧ 0 ≤ a.2 ∧ a.2 ≤ 10000000000000 := fun {q dv' gv' G' fp' t'} h1 h2 h3 h4 h5 h6 h7 => ⟨q, dv', gv', G', fp', h1, by rw [wrapN (by omega)], h2, h3, h4, h5, h6, h7⟩
             conv => whnf
             refine ⟨[8, 9], [1, 5, 7], List.range 10, by kernel_rfl, ?_⟩; conv => whnf
             refine ⟨_, fun s _ => ⟨rfl, rfl⟩, ?_⟩; conv => whnf
             refine ⟨rfl, ⟨by omega, by omega⟩, ?_⟩; conv => whnf
             refine ⟨_, fun s _ => ⟨rfl, rfl⟩, ?_⟩; conv => whnf
             refine ⟨rfl, ⟨by show 0 ≤ gI o (i : Int).toNat; omega, by show gI o (i : Int).toNat < (r.promos.length : Int); omega⟩, ?_⟩; conv => whnf
             refine ⟨_, fun s _ => ⟨rfl, rfl⟩, ?_⟩; conv => whnf
             rw [show ((r.promos.getD (gI o (i : Int).toNat).toNat default).kind != 7) = !((r.promos.getD (gI o (i : Int).toNat).toNat default).kind == 7) from rfl]
             cases h7 : ((r.promos.getD (gI o (i : Int).toNat).toNat default).kind == 7)
             case false =>
               rw [if_neg (by unfold isShip; rw [h7]; simp)] at hnext; conv => whnf
               refine ⟨rfl, ?_⟩; conv => whnf
               exact nx hi' (hend hnext.symm hR hfp hG (by omega) (by omega) ⟨ha0, ha1⟩)
             case true =>
               have hns : isShip (r.promos.getD (gI o (i : Int).toNat).toNat default) = true := by unfold isShip; rw [h7]
               rw [if_pos hns, go_go hG] at hnext; conv => whnf
               refine call1 (rtaken_S G (r.promos.getD (gI o (i : Int).toNat).toNat default).group (by omega) gv _ hR.groups) ?_
               cases htk2 : (!isNil (r.promos.getD (gI o (i : Int).toNat).toNat default).group && G.any fun y => y.toList == (r.promos.getD (gI o (i : Int).toNat).toNat default).group.toList)
               case true =>
                 rw [if_pos htk2] at hnext; conv => whnf
                 refine ⟨rfl, ?_⟩; conv => whnf
                 exact nx hi' (hend hnext.symm hR hfp hG (by omega) (by omega) ⟨ha0, ha1⟩)
               case false =>
                 rw [if_neg (by rw [htk2]; simp)] at hnext
                 have hgl := named_len G
                 rw [hG] at hgl
                 have hinv := inv2_step (net := netB p) (n := 0) hpc1 hns (a := a) ⟨by omega, by omega, ha0, ha1⟩
                 have hS0 : shipStep (netB p) a (r.promos.getD (gI o (i : Int).toNat).toNat default) = ((shipB a.1 (r.promos.getD (gI o (i : Int).toNat).toNat default) (netB p) a.2).2, (shipB a.1 (r.promos.getD (gI o (i : Int).toNat).toNat default) (netB p) a.2).1) := rfl
                 have hSB : shipB a.1 (r.promos.getD (gI o (i : Int).toNat).toNat default) (netB p) a.2 = if netB p < (r.promos.getD (gI o (i : Int).toNat).toNat default).least then (a.2, a.1) else (a.2 - half a.2 (r.promos.getD (gI o (i : Int).toNat).toNat default).rate, if half a.2 (r.promos.getD (gI o (i : Int).toNat).toNat default).rate > 0 then noteF a.1 (r.promos.getD (gI o (i : Int).toNat).toNat default) (half a.2 (r.promos.getD (gI o (i : Int).toNat).toNat default).rate) else a.1) := rfl
                 rw [hS0] at hnext hinv; conv => whnf
                 refine ldV htp rfl (by omega) hfp ?_; conv => whnf
                 cases hgt : decide ((r.promos.getD (gI o (i : Int).toNat).toNat default).least > netB p)
                 case true =>
                   have hgt' := of_decide_eq_true hgt
                   rw [hSB, if_pos hgt'] at hnext; conv => whnf
                   refine ⟨rfl, ?_⟩; conv => whnf
                   exact nx hi' (hend (q := a) hnext.symm hR hfp hG (by omega) (by omega) ⟨ha0, ha1⟩)
                 case false =>
                   have hgt' := of_decide_eq_false hgt
                   rw [if_neg (by omega)] at hSB
                   have hb := half_bound a.2 (r.promos.getD (gI o (i : Int).toNat).toNat default).rate
                   have hr0 := (promoOk hpc1).ship (by simpa using h7)
                   have hle := rate_le ha0 (show 0 ≤ (r.promos.getD (gI o (i : Int).toNat).toNat default).rate by omega) hr0.2
                   have hw : IntKind.i64.wrap (a.2 - half a.2 (r.promos.getD (gI o (i : Int).toNat).toNat default).rate) = a.2 - half a.2 (r.promos.getD (gI o (i : Int).toNat).toNat default).rate := wrap64_of (by omega) (by omega)
                   conv => whnf
                   refine ldV htp rfl (by omega) hfp ?_; conv => whnf
                   refine call1 (rhalf_S a.2 (r.promos.getD (gI o (i : Int).toNat).toNat default).rate _) ?_; conv => whnf
                   cases hgh : decide (half a.2 (r.promos.getD (gI o (i : Int).toNat).toNat default).rate > 0)
                   case false =>
                     have hgh' := of_decide_eq_false hgh
                     rw [if_neg hgh'] at hSB
                     rw [hSB, show a.2 - half a.2 (r.promos.getD (gI o (i : Int).toNat).toNat default).rate = a.2 by omega] at hnext; conv => whnf
                     refine ⟨rfl, ?_⟩; conv => whnf
                     exact nx hi' (hend (q := a) hnext.symm hR hfp hG (by omega) (by omega) ⟨ha0, ha1⟩)
                   case true =>
                     have hgh' := of_decide_eq_true hgh
                     rw [if_pos hgh'] at hSB
                     rw [hSB] at hnext hinv; conv => whnf
                     refine ⟨[1, 6, 7, 8, 10], [], [], .qui 0 (.qui 2 (.qui 4 (.qui 5 (.two 1 6 (.qui 3 (.qui 9 (.gen 6 (.gen 7 (.gen 8 (.gen 10 (.qui 11 .done))))))) (.two 1 7 (.qui 3 (.qui 9 (.gen 7 (.gen 8 (.gen 10 (.qui 11 .done)))))) (.two 1 8 (.qui 3 (.qui 9 (.gen 8 (.gen 10 (.qui 11 .done))))) (.gen 1 (.qui 3 (.qui 9 (.gen 10 (.qui 11 .done))))))))))), by kernel_rfl, ?_⟩; conv => whnf
                     repeat' (refine And.intro ?_ ?_ <;> (conv => whnf))
                     all_goals first
                       | (refine ldV htp rfl (by omega) hfp ?_
                          conv => whnf
                          refine RD.appG (y := (r.promos.getD (gI o (i : Int).toNat).toNat default).group) hR rfl rfl (by omega) (fun gv' t1 hR1 => ?_))
                       | (refine RD.appG (y := (r.promos.getD (gI o (i : Int).toNat).toNat default).group) hR rfl rfl (by omega) (fun gv' t1 hR1 => ?_)
                          conv => whnf
                          refine ldV (hat hR1).2 rfl (by omega) hfp ?_)
                     all_goals
                       conv => whnf
                       refine stV (hat hR1).2 rfl (by omega) hfp (by rfl) ?_
                       have hR2 := hwp (Z' := ⟨44, 4, 1, fset fp 0 (.agg [.own 1 bn 0 l.length, eI (netB p), eI (IntKind.i64.wrap (a.2 - half a.2 (r.promos.getD (gI o (i : Int).toNat).toNat default).rate)), dv])⟩) hR1
                       rcases ROut.head hR2 with rfl | ⟨bo, rfl⟩
                       all_goals
                         conv => whnf
                         refine ldV (hat hR2).2 rfl (by omega) (fset_same ..) ?_; conv => whnf
                         refine RD.appD (y := ⟨(r.promos.getD (gI o (i : Int).toNat).toNat default).id, half a.2 (r.promos.getD (gI o (i : Int).toNat).toNat default).rate⟩) hR2 rfl (by rfl) (by omega) (fun bd t2 hR3 => ?_); conv => whnf
                         refine stV (hat hR3).2 rfl (by omega) (fset_same ..) (by rfl) ?_; conv => whnf
                         refine ⟨rfl, ?_⟩; conv => whnf
                         refine nx hi' ?_
                         exact hend (q := (noteF a.1 (r.promos.getD (gI o (i : Int).toNat).toNat default) (half a.2 (r.promos.getD (gI o (i : Int).toNat).toNat default).rate), a.2 - half a.2 (r.promos.getD (gI o (i : Int).toNat).toNat default).rate)) (G' := G ++ [(r.promos.getD (gI o (i : Int).toNat).toNat default).group]) hnext.symm (hwp hR3) (by rw [fset_same, hw]; rfl) (by rw [named_snoc, hG]; rfl) (by rw [List.length_append]; show G.length + 1 ≤ _; omega) (by show (a.1.deals ++ [_]).length ≤ _; rw [List.length_append]; show a.1.deals.length + 1 ≤ _; omega) ⟨by show 0 ≤ a.2 - half a.2 (r.promos.getD (gI o (i : Int).toNat).toNat default).rate; omega, by show a.2 - half a.2 (r.promos.getD (gI o (i : Int).toNat).toNat default).rate ≤ _; omega⟩
end Go.Proofs.YtnekegdhpjplbaaGreat
