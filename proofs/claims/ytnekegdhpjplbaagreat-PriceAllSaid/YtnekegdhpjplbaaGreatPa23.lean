/- Part 23 of the proof: contracts of the functions that the law reaches -/
import Derived.Test.YtnekegdhpjplbaaGreatPa22
set_option maxRecDepth 100000
set_option linter.unusedVariables false
set_option linter.unusedSimpArgs false
namespace Go.Proofs.YtnekegdhpjplbaaGreat
open Go Go.Ab
attribute [local irreducible] upd del
def notShip (pr : Promo) : Bool := !(pr.kind == 7)
def isShip (pr : Promo) : Bool := pr.kind == 7
def p1B (r : Rules) (l : List Line) (o : List Int) : PSt := eachF (fun p => p) (askB (itemsOf r.items l)) notShip r.promos ⟨usOf l, [], []⟩ o
def netB (p : PSt) : Int := sumI (netsOf p.us)
def p2B (r : Rules) (l : List Line) (p1 : PSt) (o : List Int) : PSt × Int := eachF (fun a => a.1) (shipStep (netB p1)) isShip r.promos (p1, feeB r.ship (usOf l).length (netB p1)) o
def priceB (r : Rules) (l : List Line) (o1 o2 : List Int) : Priced := ⟨lineNets l.length (p1B r l o1).us, netB (p1B r l o1), (p2B r l (p1B r l o1) o2).2, (p2B r l (p1B r l o1) o2).1.deals⟩
theorem eachF_inv {σ : Type} {px : σ → PSt} {step : σ → Promo → σ} {sm : Promo → Bool} {l : List Promo} {Inv : σ → Nat → Prop} (hle : ∀ a n, Inv a (n + 1) → Inv a n) (hinv : ∀ (a : σ) (n : Nat) (pr : Promo), pr ∈ l → sm pr = true → Inv a (n + 1) → Inv (step a pr) n) :
   ∀ (o : List Int) (a : σ) (n : Nat), (∀ x ∈ o, x.toNat < l.length) → Inv a (n + o.length) → Inv (eachF px step sm l a o) n := by
 intro o
 unfold eachF
 induction o with
 | nil => intro a n _ h; exact h
 | cons x o ih =>
   intro a n hm h
   have hm' : ∀ y ∈ o, y.toNat < l.length := fun y hy => hm y (List.mem_cons_of_mem _ hy)
   have hx : prAt l x ∈ l := getD_mem (hm x (List.mem_cons_self ..))
   have h' : Inv a ((n + o.length) + 1) := by rw [List.length_cons] at h; exact h
   by_cases hs : sm (prAt l x) = true
   · rw [List.filter_cons_of_pos (p := fun x => sm (prAt l x)) hs, List.foldl_cons]
     refine ih _ _ hm' ?_
     unfold goB
     split
     · exact hinv a _ _ hx hs h'
     · exact hle _ _ h'
   · rw [List.filter_cons_of_neg (p := fun x => sm (prAt l x)) hs]
     exact ih _ _ hm' (hle _ _ h')
def Inv1 (items : List Ab.Item) (us0 : List AUnit) (p : PSt) (n : Nat) : Prop := UsOk items p.us ∧ p.deals.length + n ≤ 100 ∧ p.groups.length + n ≤ 100 ∧ ∃ x, Off us0 p.us x
def Inv2 (a : PSt × Int) (n : Nat) : Prop := a.1.deals.length + n ≤ 200 ∧ a.1.groups.length + n ≤ 200 ∧ 0 ≤ a.2 ∧ a.2 ≤ 10000000000000
theorem inv1_step {items : List Ab.Item} {us0 : List AUnit} {a : PSt} {n : Nat} {pr : Promo} (hfit : PromoFit pr) (hright : promoC pr = true) (hk : notShip pr = true) (h : Inv1 items us0 a (n + 1)) : Inv1 items us0 (askB items a pr) n := by
 obtain ⟨h1, h2, h3, x, h4⟩ := h
 obtain ⟨y, h5⟩ := askB_off h1 hfit hright (by simpa [notShip] using hk)
 refine ⟨h1.off h5, ?_, ?_, x + y, h4.trans h5⟩
 · unfold askB; split
   · simp only [noteF, List.length_append, List.length_cons, List.length_nil]; omega
   · omega
 · unfold askB; split
   · simp only [noteF, List.length_append]
     split <;> simp <;> omega
   · omega
theorem inv2_step {net : Int} {a : PSt × Int} {n : Nat} {pr : Promo} (hright : promoC pr = true) (hk : isShip pr = true) (h : Inv2 a (n + 1)) : Inv2 (shipStep net a pr) n := by
 obtain ⟨h1, h2, h3, h4⟩ := h
 have hk7 : pr.kind = 7 := by simpa [isShip] using hk
 have hr := (promoOk hright).ship hk7
 have hb := half_bound a.2 pr.rate
 have hle := rate_le h3 (show 0 ≤ pr.rate by omega) hr.2
 unfold shipStep shipB
 split
 · exact ⟨by show a.1.deals.length + n ≤ 200; omega, by show a.1.groups.length + n ≤ 200; omega, h3, h4⟩
 · refine ⟨?_, ?_, by show 0 ≤ a.2 - half a.2 pr.rate; omega, by show a.2 - half a.2 pr.rate ≤ _; omega⟩
   · show (if half a.2 pr.rate > 0 then noteF a.1 pr (half a.2 pr.rate) else a.1).deals.length + n ≤ 200
     split
     · simp only [noteF, List.length_append, List.length_cons, List.length_nil]; omega
     · omega
   · show (if half a.2 pr.rate > 0 then noteF a.1 pr (half a.2 pr.rate) else a.1).groups.length + n ≤ 200
     split
     · simp only [noteF, List.length_append]
       split <;> simp <;> omega
     · omega
theorem PxR.deals' {bx : Nat} {items : List Ab.Item} {p : PSt} {s t : St} (h : PxR bx items p s t) : ∃ dv gv f, t bx = some ⟨109, 4, 1, f⟩ ∧ f 0 = .agg [arrOf 4 eItem items, eUnits p.us, dv, gv] ∧
   ((p.deals = [] ∧ dv = .emp) ∨ ∃ bd g, dv = .own 2 bd 0 p.deals.length ∧ s bd = none ∧ t bd = some ⟨61, 2, p.deals.length, g⟩ ∧ ∀ k, k < p.deals.length → g k = fDeals p.deals k) := by
 obtain ⟨⟨dv, gv⟩, h⟩ := h
 obtain ⟨y, ⟨f, rfl, hf⟩, hy⟩ := AddB.at (besideD _ _ _ _) h
 obtain ⟨hbx, _, _, hd⟩ := h
 obtain ⟨s0, hc, hg0⟩ := hd
 refine ⟨dv, gv, f, hy, hf, ?_⟩
 rcases hc with ⟨h0, h1, rfl⟩ | ⟨h0, b, g0, hb, h1, rfl, hgg⟩
 · exact .inl ⟨List.eq_nil_of_length_eq_zero h0, h1⟩
 · refine .inr ⟨b, g0, h1, ?_, (besideG _ _).sup hg0 b _ (upd_same ..), hgg⟩
   by_cases e : b = bx
   · subst e; rw [upd_same] at hb; cases hb
   · rw [upd_ne e] at hb; exact hb
structure CheckOk (r : Rules) (codes : List Str) (l : List Line) : Prop where
 rules : rulesC r = true
 codes : codesC codes = true
 lines : LinesOk r.items l
 few : r.promos.length ≤ 60
 promo : ∀ p ∈ r.promos, promoC p = true
 fee : 0 ≤ r.ship.fee ∧ r.ship.fee ≤ 1000000000
theorem checkOk {r : Rules} {codes : List Str} {l : List Line} (h : priceCheck r codes l = 0) : CheckOk r codes l := by
 unfold priceCheck at h
 split at h
 · cases h
 · rename_i h1
   split at h
   · cases h
   · rename_i h2
     have hr : rulesC r = true := by simpa using h1
     have hr' := hr
     unfold rulesC at hr'
     simp only [Bool.and_eq_true] at hr'
     obtain ⟨⟨⟨⟨_, hp⟩, _⟩, hs⟩, _⟩ := hr'
     unfold promosC at hp
     simp only [Bool.and_eq_true, decide_eq_true_eq] at hp
     have hs' : upB 0 1000000000 r.ship.fee = true := by
       unfold shipC at hs
       simp only [Bool.and_eq_true] at hs
       exact hs.1
     refine ⟨hr, by simpa using h2, linesOk h, by omega, fun p hm => ?_, upB_iff.1 hs'⟩
     obtain ⟨k, hk, rfl⟩ := mem_getD hm
     have := allAt_iff.1 hp.2 k hk
     unfold promoAt at this
     simp only [Bool.and_eq_true] at this
     exact this.1
def PriceV (r : Rules) (codes : List Str) (l : List Line) (v : AV) : Prop :=
 (priceCheck r codes l ≠ 0 ∧ v = .tuple [ePriced ⟨[], 0, 0, []⟩, eI (priceCheck r codes l)]) ∨
 (priceCheck r codes l = 0 ∧ ∃ o1 o2, OrdP r.promos codes o1 ∧ OrdP r.promos codes o2 ∧ v = .tuple [ePriced (priceB r l (resO r.promos o1) (resO r.promos o2)), eI 0])
theorem price_S (r : Rules) (codes : List Str) (l : List Line) (hf : RulesFit r) (hc : codes.length ≤ Big) (hi : r.items.length ≤ 4611686018427387904) (h20 : (places r.promos codes r.promos.length).length ≤ 20) (st : St) :
   S P 19 [eRules r, eStrs codes, arrOf 3 eLine l] st fun v st' => PriceV r codes l v ∧ st' = st := by
 refine S.post (post := fun v st' => (priceCheck r codes l ≠ 0 ∧ v = .tuple [.agg [.emp, eI 0, eI 0, .emp], eI (priceCheck r codes l)] ∧ Sup st st') ∨
     (priceCheck r codes l = 0 ∧ ∃ o1 o2 bn fn dv, OrdP r.promos codes o1 ∧ OrdP r.promos codes o2 ∧ v = .tuple [.agg [.own 1 bn 0 l.length, eI (priceB r l (resO r.promos o1) (resO r.promos o2)).net, eI (priceB r l (resO r.promos o1) (resO r.promos o2)).ship, dv], eI 0] ∧
       st bn = none ∧ st' bn = some ⟨2, 1, l.length, fn⟩ ∧ (∀ k, k < l.length → fn k = eI (gI (priceB r l (resO r.promos o1) (resO r.promos o2)).nets k)) ∧ Sup st st' ∧
       (((priceB r l (resO r.promos o1) (resO r.promos o2)).deals = [] ∧ dv = .emp) ∨ ∃ bd g, dv = .own 2 bd 0 (priceB r l (resO r.promos o1) (resO r.promos o2)).deals.length ∧ st bd = none ∧ bd ≠ bn ∧ st' bd = some ⟨61, 2, (priceB r l (resO r.promos o1) (resO r.promos o2)).deals.length, g⟩ ∧ ∀ k, k < (priceB r l (resO r.promos o1) (resO r.promos o2)).deals.length → g k = fDeals (priceB r l (resO r.promos o1) (resO r.promos o2)).deals k))) ?_
   (fun v st' hv => by
     rcases hv with ⟨h1, rfl, hs⟩ | ⟨h1, o1, o2, bn, fn, dv, h2, h3, rfl, h4, h5, h6, hs, h7⟩
     · refine ⟨_, st, ⟨.inl ⟨h1, rfl⟩, rfl⟩, (hs.shift _).trans (Shift.tuple (Shift.cons (Shift.agg ?_) (Shift.keep _ _)) rfl)⟩
       exact Shift.cons (shift_emp 1 _) (Shift.cons (Shift.keep [eI 0] _) (Shift.cons (Shift.keep [eI 0] _) (shift_emp 2 _)))
     · refine ⟨_, st, ⟨.inr ⟨h1, o1, o2, h2, h3, rfl⟩, rfl⟩, Shift.tuple (Shift.cons (Shift.agg ?_) (Shift.keep _ _)) rfl⟩
       have hnl : (priceB r l (resO r.promos o1) (resO r.promos o2)).nets.length = l.length := by show (lineNets _ _).length = _; unfold lineNets; rw [List.length_map, List.length_range]
       generalize priceB r l (resO r.promos o1) (resO r.promos o2) = X at *
       have e1 : eInts X.nets = .arr 1 l.length (fun k => eI (gI X.nets k)) := by unfold eInts arrOf; rw [hnl]
       refine Shift.cons (t := del st' bn) ?_ (Shift.cons (Shift.keep [eI X.net] _) (Shift.cons (Shift.keep [eI X.ship] _) ?_))
       · rw [e1]; exact shift_own h5 rfl (Nat.le_refl _) h6
       · rcases h7 with ⟨h8, rfl⟩ | ⟨bd, g, rfl, h8, h9, h10, h11⟩
         · rw [h8]
           exact ((Sup.del hs h4).shift _).trans (shift_emp 2 _)
         · refine (shift_own (b := bd) (y := ⟨61, 2, X.deals.length, g⟩) (f := fDeals X.deals) (by rw [del_ne h9]; exact h10) rfl (Nat.le_refl _) h11).trans ?_
           exact (Sup.del (Sup.del hs h4) h8).shift _)
 refine S_of_X [3, 9, 10, 13] good mixed Tryz.func19 (by rfl) rfl rfl rfl ?_; conv => whnf
 intro b6 hb6; conv => whnf
 refine call1 (pcheck_S r codes l hf hc hi _) ?_; conv => whnf
 have h6s : ∀ x : Blk, Sup st (upd st b6 x) := fun x => (Sup.refl st).upd hb6
 cases h1 : (priceCheck r codes l != 0)
 · have hk0 : priceCheck r codes l = 0 := by simpa using h1
   have hck := checkOk hk0
   have hln := hck.lines
   have hlen := hln.len
   have hus0 := usOf_ok hln
   obtain ⟨u1, u2, u3⟩ := unitsUp_net l hln.line l.length (Nat.le_refl _)
   have hitl : (itemsOf r.items l).length = l.length := List.length_map ..
   have hmo := fun {o : List Int} (ho : OrdP r.promos codes o) => (show (resO r.promos o).length ≤ 60 by
     rw [List.length_map, ranked_len, ho.1.length_eq]
     have := places_len r.promos codes r.promos.length
     have := hck.few; omega)
   conv => whnf
   refine call1 (itemsOf_S r.items l hi hlen hln.known _) ?_; conv => whnf
   refine call1 (units_S l hlen (fun x hx => ((lineC_iff x).1 (hln.line x hx)).1) hus0.ok.len hln.may _) ?_; conv => whnf
   generalize hs6 : (upd st b6 _) = s6 at *
   have h6 : s6 b6 = some ⟨44, 4, 1, fun _ => avOf r44.zero⟩ := by rw [← hs6]; exact upd_same ..
   have hBig : (Big : Nat) ≤ 9223372036854775807 := by decide
   have hst6 : Sup st s6 := by rw [← hs6]; exact h6s _
   intro bx hbx; conv => whnf
   have hP0 : PxR bx (itemsOf r.items l) ⟨usOf l, [], []⟩ s6 (upd s6 bx ⟨109, 4, 1, fun _ => .agg [arrOf 4 eItem (itemsOf r.items l), eUnits (usOf l), .emp, .emp]⟩) :=
     PxR.mk' hbx rfl (ROut.start (ROut.start (Sup.refl _) _ _ _) _ _ _)
   refine call (peach_S (σ := PSt) bx (itemsOf r.items l) (PxR bx (itemsOf r.items l)) (fun p => p) (besideP bx (itemsOf r.items l)) (fun a s t t' h hs => h.more hs) (fun a s t h => ⟨s, h⟩) r.promos codes hck.few (Nat.le_trans hc hBig) h20 59 [.fptr (.fn (.func 57) [] []) 0] notShip (fun pr t => noShip_S pr t)
     60 [.optr 4 bx 0 0] [] (askB (itemsOf r.items l)) (Inv1 (itemsOf r.items l) (usOf l)) (fun a n h => by have := h.2.2.1; omega) (fun a n h => ⟨h.1, by have := h.2.1; omega, by have := h.2.2.1; omega, h.2.2.2⟩)
     (fun a n pr s t hm hs hI h => ask_S bx (itemsOf r.items l) a pr (hf.fit pr hm) (hck.promo pr hm) (by simpa [notShip] using hs) hI.1 (by have := hI.2.1; omega) (by have := hI.2.2.1; omega) s t h)
     (fun a n pr hm hs hI => inv1_step (hf.fit pr hm) (hck.promo pr hm) hs hI) ⟨usOf l, [], []⟩ ⟨hus0, by simp, by simp, 0, Off.refl hus0.ok⟩ s6 _ hP0) (fun v t1 hv => ?_)
   obtain ⟨rfl, o1, ho1, hP1⟩ := hv
   have hp1 : eachF (fun p => p) (askB (itemsOf r.items l)) notShip r.promos ⟨usOf l, [], []⟩ (resO r.promos o1) = p1B r l (resO r.promos o1) := rfl
   have hI1 : Inv1 (itemsOf r.items l) (usOf l) (p1B r l (resO r.promos o1)) 40 := eachF_inv (fun a n h => ⟨h.1, by have := h.2.1; omega, by have := h.2.2.1; omega, h.2.2.2⟩) (fun a n pr hm hs hI => inv1_step (hf.fit pr hm) (hck.promo pr hm) hs hI) (resO r.promos o1) ⟨usOf l, [], []⟩ 40 (fun x hx => (resO_mem ho1 hx).2) ⟨hus0, by have := hmo ho1; show 0 + (40 + (resO r.promos o1).length) ≤ 100; omega, by have := hmo ho1; show 0 + (40 + (resO r.promos o1).length) ≤ 100; omega, 0, Off.refl hus0.ok⟩
   rw [hp1] at hP1
   have hQ : ∀ o2, priceB r l (resO r.promos o1) (resO r.promos o2) = ⟨lineNets l.length (p1B r l (resO r.promos o1)).us, netB (p1B r l (resO r.promos o1)), (p2B r l (p1B r l (resO r.promos o1)) (resO r.promos o2)).2, (p2B r l (p1B r l (resO r.promos o1)) (resO r.promos o2)).1.deals⟩ := fun _ => rfl
   generalize p1B r l (resO r.promos o1) = p1 at *
   obtain ⟨hus1, hd1, hg1, xoff, hoff⟩ := hI1
   have hul1 : p1.us.length = (usOf l).length := hoff.len
   have hu1 := hus1.ok
   have hul := hu1.len
   have hus := hu1.sum
   have hnet0 := sumI_nonneg hu1.nets0
   have hBP := besideP bx (itemsOf r.items l) p1
   conv => whnf
   refine mkO rfl rfl rfl (by show 8 * l.length ≤ _; omega) (by omega) (by rfl) (fun bn hbn => ?_); conv => whnf
   intro bp hbp
   have hnb : bn ≠ bp := fun e => by subst e; rw [upd_same] at hbp; cases hbp
   have hbp1 : t1 bp = none := by rw [upd_ne hnb.symm] at hbp; exact hbp
   have hbn6 : s6 bn = none := (hBP.sup hP1).none hbn
   have hbp6 : s6 bp = none := (hBP.sup hP1).none hbp1
   conv => whnf
   refine stV (upd_same ..) rfl (by omega) rfl (by rfl) ?_; conv => whnf
   -- the pricer, what the lines come to, what is made of it
   have hP2 := fun (Y Z : Blk) => hBP.begin (y := Z) (hBP.begin (y := Y) hP1 hbn) (by rw [upd_ne hnb.symm]; exact hbp1)
   have hload : ∀ {Y Z : Blk} {t : St}, PxR bx (itemsOf r.items l) p1 (upd (upd s6 bn Y) bp Z) t → t bn = some Y ∧ t bp = some Z := fun h => ⟨hBP.sup h bn _ (by rw [upd_ne hnb, upd_same]), hBP.sup h bp _ (upd_same ..)⟩
   have hwn : ∀ {Y Z Y' : Blk} {t : St}, PxR bx (itemsOf r.items l) p1 (upd (upd s6 bn Y) bp Z) t → PxR bx (itemsOf r.items l) p1 (upd (upd s6 bn Y') bp Z) (upd t bn Y') := fun {Y Z Y' t} h => by
     have := hBP.write (b := bn) (y' := Y') h (by rw [upd_ne hnb, upd_same])
     rw [upd_comm hnb.symm, upd_twice] at this; exact this
   have hwp : ∀ {Y Z Z' : Blk} {t : St}, PxR bx (itemsOf r.items l) p1 (upd (upd s6 bn Y) bp Z) t → PxR bx (itemsOf r.items l) p1 (upd (upd s6 bn Y) bp Z') (upd t bp Z') := fun {Y Z Z' t} h => by
     have := hBP.write (b := bp) (y' := Z') h (upd_same ..)
     rw [upd_twice] at this; exact this
   have hP3 := hP2 ⟨2, 1, l.length, fun _ => avOf r2.zero⟩ ⟨44, 4, 1, fun _ => avOf r44.zero⟩
   have hP4 := hwp (Z' := ⟨44, 4, 1, fset (fun _ => avOf r44.zero) 0 (.agg [.own 1 bn 0 l.length, eI 0, eI 0, .emp])⟩) hP3
   obtain ⟨dv1, gv1, fx1, hx1, hfx1, _, _⟩ := hP4.at
   refine ldV hx1 rfl (by omega) hfx1 ?_; conv => whnf
   have hline : ∀ k, k < p1.us.length → 0 ≤ (gU p1.us k).line ∧ (gU p1.us k).line.toNat < l.length := fun k hk => by
     have := hus1.line _ (getD_mem hk)
     rw [hitl] at this; exact this
   refine ⟨[1, 3, 6, 9, 10, 11, 45, 46, 47], fun m vs t => ∃ (k : Nat) (fn fp : Nat → AV), k ≤ p1.us.length ∧ m = p1.us.length - k ∧ vs = [eStrs codes, .fptr (eRules r) 0, .optr 4 b6 0 0, .fptr (.optr 4 bx 0 0) 0, .fptr (.fn (.func 57) [] []) 0, .optr 4 bp 0 0, eUnits p1.us, eI p1.us.length, eI k] ∧
     PxR bx (itemsOf r.items l) p1 (upd (upd s6 bn ⟨2, 1, l.length, fn⟩) bp ⟨44, 4, 1, fp⟩) t ∧ fp 0 = .agg [.own 1 bn 0 l.length, eI (sumI ((netsOf p1.us).take k)), eI 0, .emp] ∧ ∀ j, j < l.length → fn j = eI (lineNet (p1.us.take k) j), ?_, ?_⟩
   · conv => whnf
     exact ⟨_, 0, _, _, Nat.zero_le _, rfl, rfl, hP4, fset_same .., fun j _ => rfl⟩
   · clear hP4 hP3 hx1 hfx1 hP2
     rintro m vs t ⟨k, fn, fp, hk, rfl, rfl, hP, hfp, hfn⟩
     obtain ⟨htn, htp⟩ := hload hP
     conv => whnf
     cases hd : decide ((k : Int) < (p1.us.length : Int))
     · have := of_decide_eq_false hd
       obtain rfl : k = p1.us.length := by omega
       rw [List.take_length] at hfn
       have htk : (netsOf p1.us).take p1.us.length = netsOf p1.us := by rw [← List.length_map (f := AUnit.net), List.take_length]
       rw [htk] at hfp; conv => whnf
       obtain ⟨dv1, gv1, fx1, hx1, hfx1, _, _⟩ := hP.at
       refine ⟨[11], [], [0, 1, 2, 3, 4, 5, 6, 7, 8, 9, 10, 11], by kernel_rfl, ?_⟩; conv => whnf
       refine ldV hx1 rfl (by omega) hfx1 ?_; conv => whnf
       refine ldV htp rfl (by omega) hfp ?_; conv => whnf
       refine ⟨_, callQ (fee_S r.ship p1.us.length (netB p1) t), ?_⟩; conv => whnf
       refine stV htp rfl (by omega) hfp (by rfl) ?_; conv => whnf
       have hP5 := hwp (Z' := ⟨44, 4, 1, fset fp 0 (.agg [.own 1 bn 0 l.length, eI (netB p1), eI (feeB r.ship p1.us.length (netB p1)), .emp])⟩) hP
       have hfee : 0 ≤ feeB r.ship p1.us.length (netB p1) ∧ feeB r.ship p1.us.length (netB p1) ≤ 10000000000000 := by
         have := hck.fee
         unfold feeB; split <;> omega
       generalize hfe : feeB r.ship p1.us.length (netB p1) = fee at *
       have hR2 : R2 bx bp bn l.length (itemsOf r.items l) (netB p1) (p1, fee) (upd s6 bn ⟨2, 1, l.length, fn⟩) (upd t bp ⟨44, 4, 1, fset fp 0 (.agg [.own 1 bn 0 l.length, eI (netB p1), eI fee, .emp])⟩) := ⟨by rw [upd_ne hnb.symm]; exact hbp6, _, ⟨_, rfl, fset_same ..⟩, hP5⟩
       refine call (peach_S (σ := PSt × Int) bx (itemsOf r.items l) (R2 bx bp bn l.length (itemsOf r.items l) (netB p1)) (fun a => a.1) (besideR2 bx bp bn l.length (itemsOf r.items l) (netB p1)) (fun a s t t' h hs => h.more hs) (fun a s t h => ⟨_, h.2.choose_spec.2⟩) r.promos codes hck.few (Nat.le_trans hc hBig) h20 57 [] isShip (fun pr t => isShip_S pr t)
         62 [] [.fptr (.optr 4 bx 0 0) 0, .optr 4 bp 0 0] (shipStep (netB p1)) Inv2 (fun a n h => by have := h.2.1; omega) (fun a n h => ⟨by have := h.1; omega, by have := h.2.1; omega, h.2.2⟩)
         (fun a n pr s t hm hs hI h => ship_closure_S bx bp bn l.length (itemsOf r.items l) (netB p1) a pr hI.2.2.1 hI.2.2.2 (by have := hI.1; omega) (by have := hI.2.1; omega) s t h)
         (fun a n pr hm hs hI => inv2_step (hck.promo pr hm) hs hI) (p1, fee) ⟨by show p1.deals.length + 60 ≤ 200; omega, by show p1.groups.length + 60 ≤ 200; omega, hfee⟩ (upd s6 bn ⟨2, 1, l.length, fn⟩) _ hR2) (fun v t2 hv => ?_)
       obtain ⟨rfl, o2, ho2, hR3⟩ := hv
       have hp2 : eachF (fun a : PSt × Int => a.1) (shipStep (netB p1)) isShip r.promos (p1, fee) (resO r.promos o2) = p2B r l p1 (resO r.promos o2) := by
         unfold p2B; rw [← hfe, hul1]
       rw [hp2] at hR3
       have hQ2 := hQ o2
       generalize p2B r l p1 (resO r.promos o2) = a2 at *
       obtain ⟨hbp7, y, ⟨f7, rfl, hf7⟩, hP7⟩ := hR3
       have hBP7 := besideP bx (itemsOf r.items l) a2.1
       have h7p : t2 bp = some ⟨44, 4, 1, f7⟩ := hBP7.sup hP7 bp _ (upd_same ..)
       have h7n : t2 bn = some ⟨2, 1, l.length, fn⟩ := hBP7.sup hP7 bn _ (by rw [upd_ne hnb, upd_same])
       have h76 : Sup s6 t2 := fun c x hc => hBP7.sup hP7 c x (by
         have e1 : c ≠ bp := fun e => by subst e; rw [hbp6] at hc; cases hc
         have e2 : c ≠ bn := fun e => by subst e; rw [hbn6] at hc; cases hc
         rw [upd_ne e1, upd_ne e2]; exact hc)
       have h6b := h76 b6 _ h6
       have hb6p : b6 ≠ bp := fun e => by subst e; rw [h6] at hbp6; cases hbp6
       have hb6n : b6 ≠ bn := fun e => by subst e; rw [h6] at hbn6; cases hbn6
       have hstn : st bn = none := hst6.none hbn6
       have hstp : st bp = none := hst6.none hbp6
       obtain ⟨dv, gv, fx, hx2, hfx2, hdl⟩ := hP7.deals'
       have hS2 : Sup st t2 := hst6.trans h76
       conv => whnf
       refine ldV hx2 rfl (by omega) hfx2 ?_
       rcases hdl with ⟨hd0, rfl⟩ | ⟨bd, gd, rfl, hbd, hbt, hgd⟩
       · conv => whnf
         refine stV h7p rfl (by omega) hf7 (by rfl) ?_; conv => whnf
         refine ldV (upd_same ..) rfl (by omega) (fset_same ..) ?_; conv => whnf
         refine stV (by rw [upd_ne hb6p]; exact h6b) rfl (by omega) rfl (by rfl) ?_; conv => whnf
         refine ldV (upd_same ..) rfl (by omega) (fset_same ..) ?_; conv => whnf
         refine .inr ⟨hk0, o1, o2, bn, fn, .emp, ho1, ho2, ?_, hstn, ?_, ?_, ((hS2.over hstp).over hb6), .inl ⟨?_, rfl⟩⟩
         · rw [hQ2]; rfl
         · rw [upd_ne hb6n.symm, upd_ne hnb]; exact h7n
         · intro k hk
           rw [hQ2, hfn k hk]
           show eI _ = eI (gI (lineNets l.length p1.us) k)
           unfold lineNets
           rw [gI_map_range _ hk]
         · rw [hQ2]; exact hd0
       · have hbdp : bd ≠ bp := fun e => by subst e; rw [upd_same] at hbd; cases hbd
         rw [upd_ne hbdp] at hbd
         have hbdn : bd ≠ bn := fun e => by subst e; rw [upd_same] at hbd; cases hbd
         rw [upd_ne hbdn] at hbd
         have hbd6 : bd ≠ b6 := fun e => by subst e; rw [h6] at hbd; cases hbd
         conv => whnf
         refine stV h7p rfl (by omega) hf7 (by rfl) ?_; conv => whnf
         refine ldV (upd_same ..) rfl (by omega) (fset_same ..) ?_; conv => whnf
         refine stV (by rw [upd_ne hb6p]; exact h6b) rfl (by omega) rfl (by rfl) ?_; conv => whnf
         refine ldV (upd_same ..) rfl (by omega) (fset_same ..) ?_; conv => whnf
         refine .inr ⟨hk0, o1, o2, bn, fn, .own 2 bd 0 a2.1.deals.length, ho1, ho2, ?_, hstn, ?_, ?_, ((hS2.over hstp).over hb6), .inr ⟨bd, gd, ?_, hst6.none hbd, hbdn, ?_, ?_⟩⟩
         · rw [hQ2]; rfl
         · rw [upd_ne hb6n.symm, upd_ne hnb]; exact h7n
         · intro k hk
           rw [hQ2, hfn k hk]
           show eI _ = eI (gI (lineNets l.length p1.us) k)
           unfold lineNets
           rw [gI_map_range _ hk]
         · rw [hQ2]
         · rw [upd_ne hbd6, upd_ne hbdp, hQ2]; exact hbt
         · rw [hQ2]; exact hgd
     · have hk' : k < p1.us.length := by have := of_decide_eq_true hd; omega
       have hlk := hline k hk'
       have hn0 : 0 ≤ (gU p1.us k).net := hu1.at0 k
       have hn1 : (gU p1.us k).net ≤ 10000000000000 := hu1.le (getD_mem hk')
       have e1 := sumI_take (l := netsOf p1.us) (i := k) (by rw [List.length_map]; exact hk')
       have e4 : gI (netsOf p1.us) k = (gU p1.us k).net := getD_map AUnit.net p1.us hk'
       have e2 := sumI_le_take hu1.nets0 (k + 1)
       have e3 := sumI_nonneg (l := (netsOf p1.us).take k) (fun x hx => hu1.nets0 x (List.take_subset _ _ hx))
       have hlb := lineNet_bound hu1 k (gU p1.us k).line.toNat
       have hlb2 := lineNet_bound hu1 (k + 1) (gU p1.us k).line.toNat
       have hln1 := lineNet_next hk' (gU p1.us k).line.toNat
       rw [if_pos rfl] at hln1
       have hfl : fn (0 + (gU p1.us k).line.toNat) = eI (lineNet (p1.us.take k) (gU p1.us k).line.toNat) := by rw [Nat.zero_add]; exact hfn _ hlk.2
       have w1 : IntKind.i64.wrap (lineNet (p1.us.take k) (gU p1.us k).line.toNat + (gU p1.us k).net) = lineNet (p1.us.take (k + 1)) (gU p1.us k).line.toNat := by rw [hln1]; exact wrap64_of (by omega) (by omega)
       have w2 : IntKind.i64.wrap (sumI ((netsOf p1.us).take k) + (gU p1.us k).net) = sumI ((netsOf p1.us).take (k + 1)) := by rw [e1, e4]; exact wrap64_of (by omega) (by omega)
       conv => whnf
       refine ⟨rfl, ⟨by omega, by omega⟩, ?_⟩; conv => whnf
       refine ⟨[10], [], [0, 1, 2, 3, 4, 5, 6, 7, 8, 9, 10], by kernel_rfl, ?_⟩; conv => whnf
       refine ldV htp rfl (by omega) hfp ?_; conv => whnf
       refine ⟨rfl, ⟨by show 0 ≤ (gU p1.us k).line; exact hlk.1, by show (gU p1.us k).line < (l.length : Int); have := hlk.2; have := hlk.1; omega⟩, ?_⟩; conv => whnf
       refine ldV htn rfl (by show 0 + (gU p1.us k).line.toNat < _; have := hlk.2; omega) hfl ?_; conv => whnf
       refine ⟨rfl, ⟨by show 0 ≤ (gU p1.us k).line; exact hlk.1, by show (gU p1.us k).line < (l.length : Int); have := hlk.2; have := hlk.1; omega⟩, ?_⟩; conv => whnf
       refine stV htn rfl (by show 0 + (gU p1.us k).line.toNat < _; have := hlk.2; omega) hfl (by rfl) ?_
       have hP5 := hwn (Y' := ⟨2, 1, l.length, fset fn (0 + (gU p1.us k).line.toNat) (eI (lineNet (p1.us.take (k + 1)) (gU p1.us k).line.toNat))⟩) hP
       rw [← w1] at hP5
       obtain ⟨_, htp2⟩ := hload hP5
       conv => whnf
       refine ldV htp2 rfl (by omega) hfp ?_; conv => whnf
       refine stV htp2 rfl (by omega) hfp (by rfl) ?_; conv => whnf
       refine ⟨rfl, ?_⟩; conv => whnf
       refine ⟨p1.us.length - (k + 1), by omega, k + 1, _, _, by omega, rfl, by rw [wrapN (by omega)], hwp hP5, ?_, fun j hj => ?_⟩
       · rw [fset_same, ← w2]; rfl
       · show fset fn (0 + (gU p1.us k).line.toNat) _ j = _
         rw [Nat.zero_add]
         rw [lineNet_next hk' j]
         by_cases hj2 : j = (gU p1.us k).line.toNat
         · subst hj2
           rw [if_pos rfl, fset_same, w1, hln1]
         · rw [fset_ne hj2, if_neg (fun e => hj2 e.symm)]; exact hfn j hj
 · have hk0 : priceCheck r codes l ≠ 0 := by simpa using h1
   conv => whnf
   refine stV (upd_same ..) rfl (by omega) rfl (by rfl) ?_; conv => whnf
   refine ldV (upd_same ..) rfl (by omega) (fset_same ..) ?_; conv => whnf
   exact .inl ⟨hk0, rfl, (h6s _).over hb6⟩
theorem rHas_S (s : Scope) (x : Ab.Item) (h1 : Sm s.skus.length) (h2 : Sm s.cats.length) (st : St) : S P 92 [eScope s, eItem x] st fun v st' => v = .bool (hasB s x) ∧ st' = st := by
 have e : hasB s x = (((s.skus.length : Int) == 0 && (s.cats.length : Int) == 0) || (s.skus.any fun y => y.toList == x.sku.toList) || (s.cats.any fun y => y.toList == x.cat.toList)) := by
   unfold hasB inB
   rw [nat_eq0, nat_eq0]
   congr 1
   · congr 1
     · rw [← Bool.coe_iff_coe]; simp only [Bool.and_eq_true, beq_iff_eq]; omega
     · congr 1; funext y; exact Bool.beq_comm
   · congr 1; funext y; exact Bool.beq_comm
 rw [e]
 have n1 := rhas_S s.skus x.sku h1 st
 have n2 := rhas_S s.cats x.cat h2 st
 generalize (s.skus.any fun y => y.toList == x.sku.toList) = b1 at *
 generalize (s.cats.any fun y => y.toList == x.cat.toList) = b2 at *
 refine S_of_X [2, 3] good mixed Tryz.func92 (by rfl) rfl rfl rfl ?_
 clear e
 repeat' ((conv => whnf); first | refine call1 n1 ?_ | refine call1 n2 ?_ | (refine fork (fun h => ?_) (fun h => ?_) <;> rw [h]))
 all_goals (conv => whnf)
 all_goals (refine ⟨?_, rfl⟩; show AV.bool _ = AV.bool _; simp only [*, Bool.true_and, Bool.false_and, Bool.or_true, Bool.or_false, Bool.true_or, Bool.false_or])
theorem units_mono {l : List Line} (h : ∀ x ∈ l, lineC x = true) {i : Nat} (hi : i ≤ l.length) : unitsN (l.take i) ≤ unitsN l ∧ grossN (l.take i) ≤ grossN l := by
 have : ∀ j, i + j ≤ l.length → unitsN (l.take i) ≤ unitsN (l.take (i + j)) ∧ grossN (l.take i) ≤ grossN (l.take (i + j)) := by
   intro j
   induction j with
   | zero => intro _; exact ⟨Int.le_refl _, Int.le_refl _⟩
   | succ j ih =>
     intro hj
     obtain ⟨h1, h2⟩ := ih (by omega)
     have hm := getD_mem (l := l) (i := i + j) (by omega)
     have e1 : unitsN (l.take (i + j + 1)) = unitsN (l.take (i + j)) + (l.getD (i + j) default).qty := foldl_next (by omega) _ _
     have e2 : grossN (l.take (i + j + 1)) = grossN (l.take (i + j)) + (l.getD (i + j) default).qty * (l.getD (i + j) default).price := foldl_next (by omega) _ _
     have h3 := line_mul (h _ hm)
     have h4 := (lineC_iff _).1 (h _ hm)
     rw [show i + (j + 1) = i + j + 1 by omega, e1, e2]; omega
 have h2 := this (l.length - i) (by omega)
 rw [show i + (l.length - i) = l.length by omega, List.take_length] at h2; exact h2
theorem rmay_S (l : List Line) (st : St) : S P 74 [arrOf 3 eLine l] st fun v st' => v = eI (checkE (fun _ => true) l) ∧ st' = st := by
 refine S_of_X [] good mixed Tryz.func74 (by rfl) rfl rfl rfl ?_; conv => whnf
 refine fork (fun h => ?_) (fun h => ?_) <;> rw [h] <;> simp only [decide_eq_true_eq, decide_eq_false_iff_not] at h
 · conv => whnf
   exact ⟨by rw [show checkE (fun _ => true) l = 6 from if_pos (by omega)]; rfl, rfl⟩
 have hs : l.length ≤ 1000 := by omega
 have hc : checkE (fun _ => true) l = match l.find? (badLine (fun _ => true)) with
   | some x => if (fun _ => true) x.sku = true then 2 else 7
   | none => if (decide (unitsN l > 100000) || decide (grossN l > 10000000000000)) = true then 5 else 0 := if_neg (by omega)
 conv => whnf
 refine lp l.length [0, 3] (fun i vs s => (∀ k, k < i → lineC (l.getD k default) = true) ∧ vs = [arrOf 3 eLine l, eI i] ∧ s = st) ?_ ?_
 · conv => whnf
   exact ⟨fun k hk => absurd hk (by omega), rfl, rfl⟩
 · rintro i vs st' hi ⟨hok, rfl, rfl⟩
   conv => whnf
   cases h : decide ((i : Int) < (l.length : Int))
   · obtain rfl := stop_at h hi
     have hall : ∀ x ∈ l, lineC x = true := fun x hx => by obtain ⟨k, hk, rfl⟩ := mem_getD hx; exact hok k hk
     rw [find_none fun k hk => by unfold badLine; rw [hok k hk]; rfl] at hc
     simp only at hc
     conv => whnf
     refine lp l.length [0, 4, 5, 6] (fun i vs s => (0 ≤ unitsN (l.take i) ∧ unitsN (l.take i) ≤ 100000) ∧ (0 ≤ grossN (l.take i) ∧ grossN (l.take i) ≤ 10000000000000) ∧ vs = [arrOf 3 eLine l, eI (unitsN (l.take i)), eI (grossN (l.take i)), eI i] ∧ s = st') ?_ ?_
     · conv => whnf
       exact ⟨⟨Int.le_refl _, by rw [List.take_zero]; decide⟩, ⟨Int.le_refl _, by rw [List.take_zero]; decide⟩, rfl, rfl⟩
     · rintro i vs st' hi ⟨hu, hg, rfl, rfl⟩
       conv => whnf
       cases h : decide ((i : Int) < (l.length : Int))
       · obtain rfl := stop_at h hi
         rw [List.take_length] at hu hg
         rw [if_neg (by rw [decide_eq_false (show ¬ unitsN l > 100000 by omega), decide_eq_false (show ¬ grossN l > 10000000000000 by omega)]; simp)] at hc; conv => whnf
         exact ⟨by rw [hc]; rfl, rfl⟩
       · have hi' := go_on h
         have hx : lineC (l.getD (i : Int).toNat default) = true := hall _ (getD_mem hi')
         obtain ⟨⟨q0, q1⟩, _⟩ := (lineC_iff _).1 hx
         obtain ⟨m0, m1⟩ := line_mul hx
         have eu : unitsN (l.take (i + 1)) = unitsN (l.take i) + (l.getD (i : Int).toNat default).qty := foldl_next hi' _ _
         have eg : grossN (l.take (i + 1)) = grossN (l.take i) + (l.getD (i : Int).toNat default).qty * (l.getD (i : Int).toNat default).price := foldl_next hi' _ _
         have w1 : IntKind.i64.wrap (unitsN (l.take i) + (l.getD (i : Int).toNat default).qty) = unitsN (l.take (i + 1)) := by rw [eu]; exact wrap64_of (by omega) (by omega)
         have w2 : IntKind.i64.wrap ((l.getD (i : Int).toNat default).qty * (l.getD (i : Int).toNat default).price) = (l.getD (i : Int).toNat default).qty * (l.getD (i : Int).toNat default).price := wrap64_of (by omega) (by omega)
         have w3 : IntKind.i64.wrap (grossN (l.take i) + (l.getD (i : Int).toNat default).qty * (l.getD (i : Int).toNat default).price) = grossN (l.take (i + 1)) := by rw [eg]; exact wrap64_of (by omega) (by omega)
         have hmono := units_mono hall (show i + 1 ≤ l.length from hi')
         have bad : unitsN (l.take (i + 1)) > 100000 ∨ grossN (l.take (i + 1)) > 10000000000000 → checkE (fun _ => true) l = 5 := fun hb => by
           rw [hc]
           refine if_pos ?_
           rw [Bool.or_eq_true, decide_eq_true_eq, decide_eq_true_eq]; omega
         conv => whnf
         refine ⟨rfl, ⟨by omega, by omega⟩, ?_⟩; conv => whnf
         rw [w1]
         refine ⟨[], [], List.range 14, by kernel_rfl, ?_⟩; conv => whnf
         refine ⟨rfl, ⟨by omega, by omega⟩, ?_⟩; conv => whnf
         refine ⟨rfl, ⟨by omega, by omega⟩, ?_⟩; conv => whnf
         rw [w2, w3]
         refine fork (fun h1 => ?_) (fun h1 => ?_) <;> rw [h1]
         · conv => whnf
           exact ⟨by rw [bad (.inl (of_decide_eq_true h1))]; rfl, rfl⟩
         · conv => whnf
           refine fork (fun h2 => ?_) (fun h2 => ?_) <;> rw [h2]
           · conv => whnf
             exact ⟨by rw [bad (.inr (of_decide_eq_true h2))]; rfl, rfl⟩
           · conv => whnf
             refine ⟨rfl, ?_⟩; conv => whnf
             have := of_decide_eq_false h1
             have := of_decide_eq_false h2
             exact nx hi' ⟨⟨by rw [eu]; omega, by omega⟩, ⟨by rw [eg]; omega, by omega⟩, by rw [wrapN (by omega)], rfl⟩
   · have hi' := go_on h
     have n3 := rin_S (l.getD (i : Int).toNat default).price 1000000000 st'
     have yes : lineC (l.getD (i : Int).toNat default) = true → ∀ k, k < i + 1 → lineC (l.getD k default) = true := fun h => lt_next hok h
     have no : lineC (l.getD (i : Int).toNat default) = false → checkE (fun _ => true) l = 2 := fun h => by
       rw [hc, find_some hi' (fun k hk => by unfold badLine; rw [hok k hk]; rfl) (by unfold badLine; rw [show lineC (l.getD i default) = false from h]; rfl)]
       exact if_pos rfl
     have e : lineC (l.getD (i : Int).toNat default) = (!decide ((l.getD (i : Int).toNat default).qty < 0) && !decide ((l.getD (i : Int).toNat default).qty > 100000) && upB 0 1000000000 (l.getD (i : Int).toNat default).price) := by
       unfold lineC; congr 1; unfold upB; congr 1 <;> (rw [← decide_not]; exact decide_eq_decide.2 (by omega))
     rw [e] at yes no
     generalize upB 0 1000000000 (l.getD (i : Int).toNat default).price = b3 at n3 yes no
     clear e hc
     repeat' ((conv => whnf); first | refine ⟨rfl, ⟨by omega, by omega⟩, ?_⟩ | refine call1 n3 ?_ | cases b3 | (refine fork (fun h => ?_) (fun h => ?_) <;> rw [h]))
     all_goals (conv => whnf)
     all_goals first
       | (refine ⟨?_, rfl⟩; rw [no (by simp only [*, Bool.not_true, Bool.false_and, Bool.and_false])]; rfl)
       | (refine ⟨rfl, ?_⟩; conv => whnf
          exact nx hi' ⟨yes (by simp only [*, Bool.not_false, Bool.and_true]), by rw [wrapN (by omega)], rfl⟩)
theorem checkE_all {kn : Str → Bool} {l : List Line} (h : ∀ x ∈ l, badLine kn x = false) : checkE kn l = checkE (fun _ => true) l := by
 unfold checkE
 rw [List.find?_eq_none.2 fun x hx => by rw [h x hx]; simp, List.find?_eq_none.2 fun x hx => by
   have := h x hx
   simp only [badLine, Bool.not_eq_false', Bool.and_eq_true] at this
   unfold badLine; rw [this.2]; simp]
theorem rCheck_S (items : List Ab.Item) (l : List Line) (hi : Sm items.length) (hl : Sm l.length) (st : St) : S P 66 [arrOf 4 eItem items, arrOf 3 eLine l] st fun v st' => v = eI (checkE (known items) l) ∧ st' = st := by
 refine S_of_X [] good mixed Tryz.func66 (by rfl) rfl rfl rfl ?_; conv => whnf
 refine lp l.length [0, 1, 5] (fun i vs s => (∀ k, k < i → badLine (known items) (l.getD k default) = false) ∧ vs = [arrOf 4 eItem items, arrOf 3 eLine l, eI i] ∧ s = st) ?_ ?_
 · conv => whnf
   exact ⟨fun k hk => absurd hk (by omega), rfl, rfl⟩
 · rintro i vs st' hi2 ⟨hok, rfl, rfl⟩
   conv => whnf
   cases h : decide ((i : Int) < (l.length : Int))
   · obtain rfl := stop_at h hi2
     conv => whnf
     refine call1 (rmay_S l _) ?_; conv => whnf
     rw [checkE_all (kn := known items) fun x hx => by obtain ⟨k, hk, rfl⟩ := mem_getD hx; exact hok k hk]
     exact ⟨rfl, rfl⟩
   · have hi' := go_on h
     conv => whnf
     refine fork (fun h1 => ?_) (fun h1 => ?_) <;> rw [h1]
     · have hs : l.length ≤ 1000 := by have := of_decide_eq_true h1; omega
       have hc : checkE (known items) l = match l.find? (badLine (known items)) with
         | some x => if known items x.sku = true then 2 else 7
         | none => if (decide (unitsN l > 100000) || decide (grossN l > 10000000000000)) = true then 5 else 0 := if_neg (by omega)
       have n1 := rFind_S items (l.getD (i : Int).toNat default).sku hi st'
       have n3 := rin_S (l.getD (i : Int).toNat default).price 1000000000 st'
       have yes : badLine (known items) (l.getD (i : Int).toNat default) = false → ∀ k, k < i + 1 → badLine (known items) (l.getD k default) = false := fun h => lt_next hok h
       have no : badLine (known items) (l.getD (i : Int).toNat default) = true → checkE (known items) l = if known items (l.getD i default).sku = true then 2 else 7 := fun h => by
         rw [hc, find_some hi' hok h]
       have e : badLine (known items) (l.getD (i : Int).toNat default) = !(!decide (findB items (l.getD (i : Int).toNat default).sku < 0) && (!decide ((l.getD (i : Int).toNat default).qty < 0) && !decide ((l.getD (i : Int).toNat default).qty > 100000) && upB 0 1000000000 (l.getD (i : Int).toNat default).price)) := by
         unfold badLine lineC known; congr 1; congr 1
         · rw [← decide_not]; exact decide_eq_decide.2 (by omega)
         · congr 1; unfold upB; congr 1 <;> (rw [← decide_not]; exact decide_eq_decide.2 (by omega))
       have e2 : known items (l.getD i default).sku = !decide (findB items (l.getD (i : Int).toNat default).sku < 0) := by
         unfold known; rw [← decide_not]; exact decide_eq_decide.2 (by rw [Int.toNat_natCast]; omega)
       rw [e] at yes no
       rw [e2] at no
       generalize findB items (l.getD (i : Int).toNat default).sku = F at *
       generalize upB 0 1000000000 (l.getD (i : Int).toNat default).price = b3 at n3 yes no
       clear e e2 hc
       repeat' ((conv => whnf); first | refine ⟨rfl, ⟨by omega, by omega⟩, ?_⟩ | refine call1 n1 ?_ | refine call1 n3 ?_ | cases b3 | (refine fork (fun h => ?_) (fun h => ?_) <;> rw [h]))
       all_goals (conv => whnf)
       all_goals first
         | (refine ⟨?_, rfl⟩; rw [no (by simp only [*, Bool.not_true, Bool.false_and, Bool.and_false, Bool.not_false]), if_neg (by simp only [*]; simp)]; rfl)
         | (refine ⟨?_, rfl⟩; rw [no (by simp only [*, Bool.not_true, Bool.false_and, Bool.and_false, Bool.not_false]), if_pos (by simp only [*, Bool.not_false])]; rfl)
         | (refine ⟨rfl, ?_⟩; conv => whnf
            exact nx hi' ⟨yes (by simp only [*, Bool.not_false, Bool.and_true, Bool.not_true]), by rw [wrapN (by omega)], rfl⟩)
     · have := of_decide_eq_false h1
       conv => whnf
       refine call1 (rmay_S l _) ?_; conv => whnf
       exact ⟨by rw [show checkE (known items) l = 6 from if_pos (by omega), show checkE (fun _ => true) l = 6 from if_pos (by omega)]; rfl, rfl⟩
theorem rUnits_S (l : List Line) (hl : l.length ≤ 1000) (hok : ∀ x ∈ l, lineC x = true) (hm : checkE (fun _ => true) l = 0) (hN : (usOf l).length ≤ 100000) (st : St) : S P 26 [arrOf 3 eLine l] st fun v st' => v = eUnits (usOf l) ∧ st' = st := by
 refine S_colL (ty := 114) ?_
 refine S_of_X [] good mixed Tryz.func26 (by rfl) rfl rfl rfl ?_; conv => whnf
 refine call1 (rmay_S l _) ?_
 rw [hm]; conv => whnf
 refine lp l.length [0, 3, 4] (fun i vs s => ∃ sv, vs = [arrOf 3 eLine l, sv, eI i] ∧ ColL 114 3 eUnit (unitsUp l i) st sv s) ?_ ?_
 · conv => whnf
   exact ⟨.emp, rfl, ColL.start _ _ _ _⟩
 · rintro i vs st' hi ⟨sv, rfl, hc⟩
   conv => whnf
   cases h : decide ((i : Int) < (l.length : Int))
   · obtain rfl := stop_at h hi
     conv => whnf
     exact hc
   · have hi' := go_on h
     have hx : lineC (l.getD (i : Int).toNat default) = true := hok _ (getD_mem hi')
     obtain ⟨⟨q0, q1⟩, _⟩ := (lineC_iff _).1 hx
     have hq : (l.getD (i : Int).toNat default).qty = ((l.getD i default).qty.toNat : Int) := by rw [Int.toNat_natCast] at *; omega
     have hlt := fun {j} (hj : j < (l.getD i default).qty.toNat) => unitsUp_lt hi' hj
     generalize hn : (l.getD i default).qty.toNat = n at *
     conv => whnf
     refine lp n [0, 3, 4, 5] (fun j vs s => ∃ sv, vs = [arrOf 3 eLine l, sv, eI i, eI j] ∧ ColL 114 3 eUnit (unitsUp l i ++ List.replicate j (lnU l i)) st sv s) ?_ ?_
     · conv => whnf
       exact ⟨sv, rfl, by rw [List.replicate_zero, List.append_nil]; exact hc⟩
     · clear hc
       rintro j vs s hj ⟨sv, rfl, hc⟩
       conv => whnf
       refine ⟨rfl, ⟨by omega, by omega⟩, ?_⟩; conv => whnf
       rw [hq]
       cases h : decide ((j : Int) < (n : Int))
       · obtain rfl := stop_at h hj
         conv => whnf
         refine ⟨rfl, ?_⟩; conv => whnf
         refine nx hi' ⟨sv, by rw [wrapN (by omega)], ?_⟩
         unfold unitsUp; rw [hn]; exact hc
       · have hj' := go_on h
         have h5 := hlt hj'
         have h6 : (unitsUp l l.length).length ≤ 100000 := hN
         conv => whnf
         refine ⟨rfl, ⟨by omega, by omega⟩, ?_⟩; conv => whnf
         refine ColL.app (q := r114) (y := lnU l i) rfl rfl rfl rfl rfl rfl (by show (_ + 1) * 24 ≤ 140737488355328; omega) hc (fun sv' s' hc' => ?_); conv => whnf
         refine ⟨rfl, ?_⟩; conv => whnf
         exact nx hj' ⟨sv', by rw [wrapN (by omega)], by rw [List.replicate_succ', ← List.append_assoc]; exact hc'⟩
theorem rItems_S (items : List Ab.Item) (l : List Line) (hi : Sm items.length) (hl : l.length ≤ 1000) (hk : ∀ x ∈ l, known items x.sku = true) (st : St) : S P 67 [arrOf 4 eItem items, arrOf 3 eLine l] st fun v st' => v = arrOf 4 eItem (itemsOf items l) ∧ st' = st := by
 refine S_colL (ty := 93) ?_
 refine S_of_X [] good mixed Tryz.func67 (by rfl) rfl rfl rfl ?_; conv => whnf
 refine lp l.length [0, 1, 5, 6] (fun i vs s => ∃ sv, vs = [arrOf 4 eItem items, arrOf 3 eLine l, sv, eI i] ∧ ColL 93 4 eItem (itemsOf items (l.take i)) st sv s) ?_ ?_
 · conv => whnf
   exact ⟨.emp, rfl, ColL.start _ _ _ _⟩
 · rintro i vs st' hi2 ⟨sv, rfl, hc⟩
   conv => whnf
   cases h : decide ((i : Int) < (l.length : Int))
   · obtain rfl := stop_at h hi2
     rw [List.take_length] at hc; conv => whnf
     exact hc
   · have hi' := go_on h
     have hmem : l.getD (i : Int).toNat default ∈ l := getD_mem hi'
     have hkn := hk _ hmem
     simp only [known, decide_eq_true_eq] at hkn
     have hlt := (idx_lt (fun x : Ab.Item => x.sku.toList == (l.getD (i : Int).toNat default).sku.toList) items).2
     have hlen : (itemsOf items (l.take i)).length = i := by unfold itemsOf; rw [List.length_map, List.length_take]; omega
     conv => whnf
     refine ⟨rfl, ⟨by omega, by omega⟩, ?_⟩; conv => whnf
     refine call1 (rFind_S items (l.getD (i : Int).toNat default).sku (by omega) _) ?_; conv => whnf
     refine fork (fun h1 => ?_) (fun h1 => ?_)
     · exact absurd (of_decide_eq_true h1) (by omega)
     · rw [h1]; conv => whnf
       refine ⟨rfl, ⟨by omega, by omega⟩, ?_⟩; conv => whnf
       refine ColL.app (q := r93) (y := items.getD (findB items (l.getD (i : Int).toNat default).sku).toNat default) rfl rfl rfl rfl rfl rfl (by show (_ + 1) * 48 ≤ 140737488355328; omega) hc (fun sv' s' hc' => ?_); conv => whnf
       refine ⟨rfl, ?_⟩; conv => whnf
       refine nx hi' ⟨sv', by rw [wrapN (by omega)], ?_⟩
       unfold itemsOf at hc' ⊢
       rw [take_map hi']; exact hc'
end Go.Proofs.YtnekegdhpjplbaaGreat
namespace Go.Proofs.YtnekegdhpjplbaaGreat
open Go Go.Ab
theorem resO_perm (l : List Promo) (o : List Int) : (resO l o).Perm o := by
 have h := (ranked_perm l o).map fun e : QE => gI o e.2.toNat
 rw [List.map_map] at h
 have e : (List.range o.length).map ((fun e : QE => gI o e.2.toNat) ∘ rankE l o) = o := by
   refine List.ext_getElem (by simp) fun k h1 h2 => ?_
   rw [List.getElem_map, List.getElem_range]
   show o.getD k default = _
   rw [List.getD_eq_getElem?_getD, List.getElem?_eq_getElem h2]; rfl
 rw [e] at h; exact h
end Go.Proofs.YtnekegdhpjplbaaGreat
namespace Go.Proofs.YtnekegdhpjplbaaGreat
open Go Go.Ab
attribute [local irreducible] upd del
def modB (v n : Int) : Int := v % 18446744073709551616 % n
theorem modB_lt (v : Int) {n : Int} (h : 0 < n) : 0 ≤ modB v n ∧ modB v n < n := ⟨Int.emod_nonneg _ (by omega), Int.emod_lt_of_pos _ h⟩
theorem wrapU (x : Int) : IntKind.u64.wrap x = x % 18446744073709551616 := rfl
theorem mod_eq (v : Int) {n : Int} (h0 : 0 < n) (h1 : n ≤ 9223372036854775807) : IntKind.i64.wrap (Int.tmod (IntKind.u64.wrap v) (IntKind.u64.wrap n)) = modB v n := by
 have h2 := modB_lt v h0
 have e1 : IntKind.u64.wrap n = n := by rw [wrapU]; omega
 have e2 : Int.tmod (IntKind.u64.wrap v) n = modB v n := by rw [Int.tmod_eq_emod_of_nonneg (by rw [wrapU]; omega)]; rfl
 rw [e1, e2, wrap64_of (by omega) (by omega)]
theorem mod_S (v n : Int) (h0 : 0 < n) (h1 : n ≤ 9223372036854775807) (st : St) : S P 25 [eI v, eI n] st fun r st' => r = eI (modB v n) ∧ st' = st := by
 refine S_of_X [] good mixed Tryz.func25 (by rfl) rfl rfl rfl ?_; conv => whnf
 rw [decide_eq_false (show ¬ IntKind.u64.wrap n = 0 by rw [wrapU]; omega)]; conv => whnf
 refine ⟨?_, rfl⟩
 rw [← mod_eq v h0 h1]; rfl
theorem mod64_S' (v n : Int) (h0 : 0 < n) (h1 : n ≤ 9223372036854775807) (st : St) : S P 27 [eI v, eI n] st fun r st' => r = eI (modB v n) ∧ st' = st := by
 refine S_of_X [] good mixed Tryz.func27 (by rfl) rfl rfl rfl ?_; conv => whnf
 rw [decide_eq_false (show ¬ IntKind.u64.wrap n = 0 by rw [wrapU]; omega)]; conv => whnf
 refine ⟨?_, rfl⟩
 rw [← mod_eq v h0 h1]; rfl
def byteS (c : Int) : Str := strA [IntKind.u8.wrap c]
def skuN (n : Int) : Str := byteS (97 + modB n 8)
def catN (n : Int) : Str := byteS (120 + modB n 3)
def idN (n : Int) : Str := (⟨#[112]⟩ : Str) ++ byteS (48 + modB n 10)
def codeN (n : Int) : Str := (⟨#[99]⟩ : Str) ++ byteS (48 + modB n 3)
theorem wrap8 (c x : Int) : IntKind.u8.wrap (c + IntKind.u8.wrap x) = IntKind.u8.wrap (c + x) := by
 show (c + x % 256) % 256 = (c + x) % 256
 omega
theorem sku_S (n : Int) (st : St) : S P 52 [eI n] st fun r st' => r = eS (skuN n) ∧ st' = st := by
 refine S_of_X [] good mixed Tryz.func52 (by rfl) rfl rfl rfl ?_; conv => whnf
 refine call1 (mod_S n 8 (by decide) (by decide) _) ?_; conv => whnf
 refine ⟨?_, rfl⟩
 show AV.str (strA [IntKind.u8.wrap (97 + IntKind.u8.wrap (modB n 8))]) = _
 rw [wrap8]; rfl
theorem category_S (n : Int) (st : St) : S P 75 [eI n] st fun r st' => r = eS (catN n) ∧ st' = st := by
 refine S_of_X [] good mixed Tryz.func75 (by rfl) rfl rfl rfl ?_; conv => whnf
 refine call1 (mod_S n 3 (by decide) (by decide) _) ?_; conv => whnf
 refine ⟨?_, rfl⟩
 show AV.str (strA [IntKind.u8.wrap (120 + IntKind.u8.wrap (modB n 3))]) = _
 rw [wrap8]; rfl
theorem id_S (n : Int) (st : St) : S P 151 [eI n] st fun r st' => r = eS (idN n) ∧ st' = st := by
 refine S_of_X [] good mixed Tryz.func151 (by rfl) rfl rfl rfl ?_; conv => whnf
 refine call1 (mod_S n 10 (by decide) (by decide) _) ?_; conv => whnf
 refine ⟨?_, rfl⟩
 show AV.str ((⟨#[112]⟩ : Str) ++ strA [IntKind.u8.wrap (48 + IntKind.u8.wrap (modB n 10))]) = _
 rw [wrap8]; rfl
theorem code_S (n : Int) (st : St) : S P 51 [eI n] st fun r st' => r = eS (codeN n) ∧ st' = st := by
 refine S_of_X [] good mixed Tryz.func51 (by rfl) rfl rfl rfl ?_; conv => whnf
 refine call1 (mod_S n 3 (by decide) (by decide) _) ?_; conv => whnf
 refine ⟨?_, rfl⟩
 show AV.str ((⟨#[99]⟩ : Str) ++ strA [IntKind.u8.wrap (48 + IntKind.u8.wrap (modB n 3))]) = _
 rw [wrap8]; rfl
def pickUp (s : Str) : Nat → Int
 | 0 => s.size
 | i + 1 => IntKind.i64.wrap (IntKind.i64.wrap (7 * pickUp s i) + chr s i)
def pickN (s : Str) : Int := pickUp s (min s.size 8)
theorem chr_lt (s : Str) (i : Nat) : 0 ≤ chr s i ∧ chr s i < 256 := by
 unfold chr; split
 · rename_i h; have := (s[i]'h).toNat_lt; omega
 · omega
theorem pick_S (s : Str) (st : St) : S P 53 [eS s] st fun r st' => r = eI (pickN s) ∧ st' = st := by
 refine S_of_X [] good mixed Tryz.func53 (by rfl) rfl rfl rfl ?_; conv => whnf
 refine lp (min s.size 8) [0, 3, 4] (fun i vs t => vs = [eS s, eI (pickUp s i), eI i] ∧ t = st) ?_ ?_
 · conv => whnf
   exact ⟨rfl, rfl⟩
 · rintro i vs t hi ⟨rfl, rfl⟩
   conv => whnf
   refine fork (fun h1 => ?_) (fun h1 => ?_) <;> rw [h1] <;> simp only [decide_eq_true_eq, decide_eq_false_iff_not] at h1
   · conv => whnf
     refine fork (fun h2 => ?_) (fun h2 => ?_) <;> rw [h2] <;> simp only [decide_eq_true_eq, decide_eq_false_iff_not] at h2
     · have hi' : i < min s.size 8 := by omega
       conv => whnf
       refine idxS (i := i) rfl (by omega) ?_; conv => whnf
       refine ⟨rfl, ?_⟩; conv => whnf
       refine nx hi' ⟨?_, rfl⟩
       rw [wrapN (by omega)]
       have hc : IntKind.i64.wrap (chr s i) = chr s i := wrap64_of (by have := chr_lt s i; omega) (by have := chr_lt s i; omega)
       show [eS s, eI (IntKind.i64.wrap (IntKind.i64.wrap (7 * pickUp s i) + IntKind.i64.wrap (chr s i))), eI ((i + 1 : Nat) : Int)] = _
       rw [hc]; rfl
     · obtain rfl : i = min s.size 8 := by omega
       conv => whnf
       exact ⟨rfl, rfl⟩
   · obtain rfl : i = min s.size 8 := by omega
     conv => whnf
     exact ⟨rfl, rfl⟩
def fewC (r : Rules) : Bool := decide ((r.items.length : Int) < 60) && decide ((r.promos.length : Int) < 30) && decide ((r.tax.zones.length : Int) < 30) && decide ((r.policy.order.length : Int) < 30) && decide ((r.policy.credit.length : Int) < 30)
theorem few_S (r : Rules) (st : St) : S P 29 [eRules r] st fun v st' => v = .bool (fewC r) ∧ st' = st := by
 refine S_of_X [1] good mixed Tryz.func29 (by rfl) rfl rfl rfl ?_
 unfold fewC
 repeat' ((conv => whnf); first | (refine fork (fun h => ?_) (fun h => ?_) <;> rw [h]))
 all_goals (conv => whnf)
 all_goals exact ⟨by simp only [Bool.true_and, Bool.false_and]; rfl, rfl⟩
def someStep (l : List Str) (most : Nat) (kinds : Int) (name : Int → Str) (out : List Str) (k : Nat) : List Str :=
 if (decide (out.length < most) && (l.take 4).any fun s => modB (pickN s) kinds == k) = true then out ++ [name k] else out
def someUp (l : List Str) (most : Nat) (kinds : Int) (name : Int → Str) (k : Nat) : List Str := (List.range k).foldl (someStep l most kinds name) []
theorem someUp_succ (l : List Str) (most : Nat) (kinds : Int) (name : Int → Str) (k : Nat) : someUp l most kinds name (k + 1) = someStep l most kinds name (someUp l most kinds name k) k := by
 unfold someUp; rw [List.range_succ, List.foldl_append]; rfl
theorem someUp_len (l : List Str) (most : Nat) (kinds : Int) (name : Int → Str) (k : Nat) : (someUp l most kinds name k).length ≤ k := by
 induction k with
 | zero => exact Nat.le_refl _
 | succ k ih =>
   rw [someUp_succ]; unfold someStep
   split
   · rw [List.length_append]; show _ + 1 ≤ _; omega
   · omega
theorem some_S (l : List Str) (most kinds : Nat) (name : Int → Str) (g : FuncId) (hk : 0 < kinds) (hk2 : kinds ≤ 100) (hg : ∀ (n : Int) (st : St), S P g [eI n] st fun v st' => v = eS (name n) ∧ st' = st) (st : St) :
   S P 50 [eStrs l, eI most, eI kinds, .fn (.func g) [] []] st fun v st' => v = eStrs (someUp l most kinds name kinds) ∧ st' = st := by
 refine S_colL (ty := 9) ?_
 refine S_of_X [] good mixed Tryz.func50 (by rfl) rfl rfl rfl ?_; conv => whnf
 refine lp kinds [0, 1, 2, 3, 9, 10] (fun k vs s => ∃ sv, vs = [eStrs l, eI most, eI kinds, .fn (.func g) [] [], sv, eI k] ∧ ColL 9 1 eS (someUp l most kinds name k) st sv s) ?_ ?_
 · conv => whnf
   exact ⟨.emp, rfl, ColL.start _ _ _ _⟩
 · rintro k vs s hk1 ⟨sv, rfl, hc⟩
   conv => whnf
   cases hd : decide ((k : Int) < (kinds : Int))
   · obtain rfl := stop_at hd hk1
     conv => whnf
     exact hc
   · have hk' := go_on hd
     have hlen := someUp_len l most kinds name k
     have hS := someUp_succ l most kinds name k
     unfold someStep at hS; conv => whnf
     refine lp (min l.length 4) [0, 1, 2, 3, 9, 10, 11] (fun i vs t => (∀ j, j < i → (modB (pickN (l.getD j default)) kinds == k) = false) ∧ vs = [eStrs l, eI most, eI kinds, .fn (.func g) [] [], sv, eI k, eI i] ∧ t = s) ?_ ?_
     · conv => whnf
       exact ⟨fun j hj => absurd hj (by omega), rfl, rfl⟩
     · rintro i vs t hi ⟨hok, rfl, rfl⟩
       have hstop : i = min l.length 4 → ((l.take 4).any fun s => modB (pickN s) kinds == k) = false := fun e => by
         refine List.any_eq_false.2 fun x hx => ?_
         obtain ⟨j, hj, rfl⟩ := mem_getD hx
         rw [List.length_take] at hj
         rw [show (l.take 4).getD j default = l.getD j default by rw [List.getD_eq_getElem?_getD, List.getD_eq_getElem?_getD, List.getElem?_take_of_lt (by omega)], hok j (by omega)]
         simp
       have hsv : (sv = .emp ∧ (someUp l most kinds name k).length = 0) ∨ ∃ b, sv = .own 1 b 0 (someUp l most kinds name k).length := by
         rcases hc with ⟨h0, h1, _⟩ | ⟨_, b, _, _, h1, _⟩
         · exact .inl ⟨h1, h0⟩
         · exact .inr ⟨b, h1⟩
       have hrun : ∀ {t' : St} {sv' : AV}, ColL 9 1 eS (someUp l most kinds name (k + 1)) st sv' t' → ∃ sv, [eStrs l, eI most, eI kinds, .fn (.func g) [] [], sv', eI (IntKind.i64.wrap ((k : Int) + 1))] = [eStrs l, eI most, eI kinds, .fn (.func g) [] [], sv, eI ((k + 1 : Nat) : Int)] ∧ ColL 9 1 eS (someUp l most kinds name (k + 1)) st sv t' := fun {t' sv'} h => ⟨sv', by rw [wrapN (by omega)], h⟩
       conv => whnf
       refine fork (fun h1 => ?_) (fun h1 => ?_) <;> rw [h1] <;> simp only [decide_eq_true_eq, decide_eq_false_iff_not] at h1
       · conv => whnf
         refine fork (fun h2 => ?_) (fun h2 => ?_) <;> rw [h2] <;> simp only [decide_eq_true_eq, decide_eq_false_iff_not] at h2
         · have hi' : i < min l.length 4 := by omega
           rcases hsv with ⟨rfl, hl0⟩ | ⟨b, rfl⟩
           all_goals
             conv => whnf
             refine fork (fun h3 => ?_) (fun h3 => ?_) <;> rw [h3] <;> simp only [decide_eq_true_eq, decide_eq_false_iff_not] at h3
             · conv => whnf
               refine ⟨rfl, ⟨by omega, by omega⟩, ?_⟩; conv => whnf
               refine call1 (pick_S _ _) ?_; conv => whnf
               refine call1 (mod_S _ (kinds : Int) (by omega) (by omega) _) ?_; conv => whnf
               cases h4 : (modB (pickN (l.getD (i : Int).toNat default)) (kinds : Int) == (k : Int))
               · conv => whnf
                 refine ⟨rfl, ?_⟩; conv => whnf
                 exact nx hi' ⟨lt_next hok h4, by rw [wrapN (by omega)], rfl⟩
               · have hm : (decide ((someUp l most kinds name k).length < most) && (l.take 4).any fun s => modB (pickN s) kinds == k) = true := by
                   rw [Bool.and_eq_true, decide_eq_true_eq, List.any_eq_true]
                   refine ⟨by omega, l.getD (i : Int).toNat default, ?_, h4⟩
                   rw [show l.getD (i : Int).toNat default = (l.take 4).getD i default by rw [List.getD_eq_getElem?_getD, List.getD_eq_getElem?_getD, List.getElem?_take_of_lt (by omega)]; rfl]
                   exact getD_mem (by rw [List.length_take]; omega)
                 rw [if_pos hm] at hS; conv => whnf
                 refine call1 (hg _ _) ?_; conv => whnf
                 refine ColL.app (q := r9) rfl rfl rfl rfl rfl (by rfl) (by show ((someUp l most kinds name k).length + 1) * 16 ≤ 140737488355328; omega) hc (fun sv' t' hc' => ?_); conv => whnf
                 refine ⟨rfl, ?_⟩; conv => whnf
                 exact nx hk' (hrun (by rw [hS]; exact hc'))
             · rw [if_neg (by rw [decide_eq_false (by omega)]; simp)] at hS; conv => whnf
               refine ⟨rfl, ?_⟩; conv => whnf
               exact nx hk' (hrun (by rw [hS]; exact hc))
         · rw [if_neg (by rw [hstop (by omega)]; simp)] at hS; conv => whnf
           refine ⟨rfl, ?_⟩; conv => whnf
           exact nx hk' (hrun (by rw [hS]; exact hc))
       · rw [if_neg (by rw [hstop (by omega)]; simp)] at hS; conv => whnf
         refine ⟨rfl, ?_⟩; conv => whnf
         exact nx hk' (hrun (by rw [hS]; exact hc))
def playScope (s : Scope) : Scope := ⟨someUp s.skus 3 8 skuN 8, someUp s.cats 2 3 catN 3⟩
theorem pscope_S (s : Scope) (st : St) : S P 152 [eScope s] st fun v st' => v = eScope (playScope s) ∧ st' = st := by
 have h1 := fun st => some_S s.skus 3 8 skuN 52 (by decide) (by decide) sku_S st
 have h2 := fun st => some_S s.cats 2 3 catN 75 (by decide) (by decide) category_S st
 unfold playScope
 generalize someUp s.skus 3 8 skuN 8 = a at h1 ⊢
 generalize someUp s.cats 2 3 catN 3 = b at h2 ⊢
 refine S_sup ?_
 refine S_of_X [1] good mixed Tryz.func152 (by rfl) rfl rfl rfl ?_; conv => whnf
 intro b2 hb; conv => whnf
 refine ⟨[7], [], List.range 8, by kernel_rfl, ?_⟩; conv => whnf
 refine ⟨_, callQ (h1 _), ?_⟩; conv => whnf
 refine ⟨_, callQ (h2 _), ?_⟩; conv => whnf
 refine stV (upd_same ..) rfl (by omega) rfl (by rfl) ?_; conv => whnf
 refine ldV (upd_same ..) rfl (by omega) (fset_same ..) ?_; conv => whnf
 exact ⟨rfl, ((Sup.refl st).upd hb).over hb⟩
def playCodes (l : List Str) : List Str := someUp l 3 3 codeN 3
theorem playCodes_S (l : List Str) (st : St) : S P 17 [eStrs l] st fun v st' => v = eStrs (playCodes l) ∧ st' = st := by
 refine S_of_X [] good mixed Tryz.func17 (by rfl) rfl rfl rfl ?_; conv => whnf
 refine call1 (some_S l 3 3 codeN 51 (by decide) (by decide) code_S _) ?_; conv => whnf
 exact ⟨rfl, rfl⟩
def playLine (x : Line) : Line := ⟨skuN (pickN x.sku), modB x.qty 10, modB x.price 4000⟩
def playLines (l : List Line) : List Line := (l.take 8).map playLine
theorem playLines_S (l : List Line) (st : St) : S P 18 [arrOf 3 eLine l] st fun v st' => v = arrOf 3 eLine (playLines l) ∧ st' = st := by
 refine S_colL (ty := 51) ?_
 refine S_of_X [] good mixed Tryz.func18 (by rfl) rfl rfl rfl ?_; conv => whnf
 refine lp (min l.length 8) [0, 3, 4] (fun i vs s => ∃ sv, vs = [arrOf 3 eLine l, sv, eI i] ∧ ColL 51 3 eLine ((l.take i).map playLine) st sv s) ?_ ?_
 · conv => whnf
   exact ⟨.emp, rfl, ColL.start _ _ _ _⟩
 · rintro i vs s hi ⟨sv, rfl, hc⟩
   have hfin : i = min l.length 8 → ColL 51 3 eLine (playLines l) st sv s := fun e => by
     have : playLines l = (l.take i).map playLine := by
       unfold playLines
       rcases Nat.le_total l.length 8 with h | h
       · rw [show i = l.length by omega, List.take_length, List.take_of_length_le h]
       · rw [show i = 8 by omega]
     rw [this]; exact hc
   conv => whnf
   refine fork (fun h1 => ?_) (fun h1 => ?_) <;> rw [h1] <;> simp only [decide_eq_true_eq, decide_eq_false_iff_not] at h1
   · conv => whnf
     refine fork (fun h2 => ?_) (fun h2 => ?_) <;> rw [h2] <;> simp only [decide_eq_true_eq, decide_eq_false_iff_not] at h2
     · have hi' : i < min l.length 8 := by omega
       conv => whnf
       refine ⟨[21, 22], [], List.range 24, by kernel_rfl, ?_⟩; conv => whnf
       refine ⟨rfl, ⟨by omega, by omega⟩, ?_⟩; conv => whnf
       refine ⟨_, callQ (pick_S _ _), ?_⟩; conv => whnf
       refine ⟨_, callQ (sku_S _ _), ?_⟩; conv => whnf
       refine ⟨rfl, ⟨by omega, by omega⟩, ?_⟩; conv => whnf
       refine ⟨_, callQ (mod_S _ 10 (by decide) (by decide) _), ?_⟩; conv => whnf
       refine ⟨rfl, ⟨by omega, by omega⟩, ?_⟩; conv => whnf
       refine ⟨_, callQ (mod64_S' _ 4000 (by decide) (by decide) _), ?_⟩; conv => whnf
       refine ColL.app (y := playLine (l.getD (i : Int).toNat default)) (q := r51) rfl rfl rfl rfl rfl (by rfl) (by show (((l.take i).map playLine).length + 1) * 32 ≤ 140737488355328; rw [List.length_map, List.length_take]; omega) hc (fun sv' t' hc' => ?_); conv => whnf
       refine ⟨rfl, ?_⟩; conv => whnf
       refine nx hi' ⟨sv', by rw [wrapN (by omega)], ?_⟩
       rw [take_next (by omega), List.map_append]; exact hc'
     · conv => whnf
       exact hfin (by omega)
   · conv => whnf
     exact hfin (by omega)
def playItem (l : List Ab.Item) (k : Nat) : Ab.Item :=
 if k < l.length then ⟨skuN k, catN (pickN (l.getD k default).cat), modB (l.getD k default).price 4000, (l.getD k default).final && k == 7⟩ else ⟨skuN k, catN k, 100 + 37 * k, false⟩
def playItems (l : List Ab.Item) : List Ab.Item := (List.range 8).map (playItem l)
theorem map_range_succ {α : Type} (f : Nat → α) (k : Nat) : (List.range (k + 1)).map f = (List.range k).map f ++ [f k] := by rw [List.range_succ, List.map_append]; rfl
theorem playItems_S (l : List Ab.Item) (st : St) : S P 28 [arrOf 4 eItem l] st fun v st' => v = arrOf 4 eItem (playItems l) ∧ st' = st := by
  refine S.post (post := fun v st' => ∃ base, Sup st base ∧ ColL 93 4 eItem (playItems l) base v st') ?_ (fun v st' ⟨base, hs, hc⟩ => ⟨_, st, ⟨rfl, rfl⟩, hc.shift.trans (hs.shift _)⟩)
  refine S_of_X [] good mixed Tryz.func28 (by rfl) rfl rfl rfl ?_; conv => whnf
  refine lp 8 [0, 3, 4] (fun k vs s => ∃ sv base, vs = [arrOf 4 eItem l, sv, eI k] ∧ Sup st base ∧ ColL 93 4 eItem ((List.range k).map (playItem l)) base sv s) ?_ ?_
  · conv => whnf
    exact ⟨.emp, st, rfl, Sup.refl _, ColL.start _ _ _ _⟩
  · rintro k vs s hk ⟨sv, base, rfl, hsup, hc⟩
    conv => whnf
    refine fork (fun h1 => ?_) (fun h1 => ?_) <;> rw [h1] <;> simp only [decide_eq_true_eq, decide_eq_false_iff_not] at h1
    · have hk' : k < 8 := by omega
      have hnext := map_range_succ (playItem l) k
      have hlen : ((List.range k).map (playItem l)).length = k := by rw [List.length_map, List.length_range]
      have w1 : IntKind.i64.wrap (100 + IntKind.i64.wrap (37 * (k : Int))) = 100 + 37 * (k : Int) := by
        rw [wrap64_of (x := 37 * (k : Int)) (by omega) (by omega), wrap64_of (by omega) (by omega)]
      conv => whnf
      refine call1 (sku_S _ _) ?_; conv => whnf
      refine call1 (category_S _ _) ?_; conv => whnf
      intro b hb; conv => whnf
      refine stV (upd_same ..) rfl (by omega) rfl (by rfl) ?_
      rw [upd_twice]
      have hbb : base b = none := Col.off hc hb
      have hc1 := fun y => Col.under (y := y) hc hb
      have hend : ∀ {t : St} {Y : Blk} {x : AV} {g : Nat → AV} {K : KK}, t = upd s b Y → srcOf 4 t x = some (1, g) → g 0 = eItem (playItem l k) → (∀ sv' t', ColL 93 4 eItem ((List.range (k + 1)).map (playItem l)) (upd base b Y) sv' t' → K sv' t') → xApp T 22 sv x t K := fun {t Y x g K} e hs hg hk => by
        subst e
        refine ColL.app (q := r93) rfl rfl rfl rfl hs hg (by rw [hlen]; show (k + 1) * 48 ≤ 140737488355328; omega) (hc1 Y) (fun sv' t' hc' => hk sv' t' ?_)
        rw [hnext]; exact hc'
      conv => whnf
      refine fork (fun h2 => ?_) (fun h2 => ?_) <;> rw [h2] <;> simp only [decide_eq_true_eq, decide_eq_false_iff_not] at h2
      · have hi : k < l.length := by omega
        have hp : playItem l k = ⟨skuN k, catN (pickN (l.getD (k : Int).toNat default).cat), modB (l.getD (k : Int).toNat default).price 4000, (l.getD (k : Int).toNat default).final && k == 7⟩ := by unfold playItem; rw [if_pos hi]; rfl
        conv => whnf
        refine ⟨[23, 25, 27], [], List.range 28, by kernel_rfl, ?_⟩; conv => whnf
        refine ⟨rfl, ⟨by omega, by omega⟩, ?_⟩; conv => whnf
        refine ⟨_, callQ (pick_S _ _), ?_⟩; conv => whnf
        refine ⟨_, callQ (category_S _ _), ?_⟩; conv => whnf
        refine ⟨rfl, ⟨by omega, by omega⟩, ?_⟩; conv => whnf
        refine ⟨_, callQ (mod64_S' _ 4000 (by decide) (by decide) _), ?_⟩; conv => whnf
        refine ⟨rfl, ⟨by omega, by omega⟩, ?_⟩; conv => whnf
        refine fork (fun h3 => ?_) (fun h3 => ?_) <;> rw [h3] at hp ⊢
        all_goals
          conv => whnf
          refine stV (upd_same ..) rfl (by omega) (fset_same ..) (by rfl) ?_
          rw [upd_twice]; conv => whnf
          refine stV (upd_same ..) rfl (by omega) (fset_same ..) (by rfl) ?_
          rw [upd_twice]; conv => whnf
          refine stV (upd_same ..) rfl (by omega) (fset_same ..) (by rfl) ?_
          rw [upd_twice]; conv => whnf
          refine ldV (upd_same ..) rfl (by omega) (fset_same ..) ?_; conv => whnf
          refine hend rfl rfl (by rw [hp]; first | rfl | (have e7 : ((k : Int) == 7) = (k == 7) := by rw [Bool.eq_iff_iff, beq_iff_eq, beq_iff_eq]; omega
                                                          rw [Bool.true_and, ← e7]; rfl)) (fun sv' t' hc' => ?_)
          conv => whnf
          refine ⟨rfl, ?_⟩; conv => whnf
          exact nx hk' ⟨sv', _, by rw [wrapN (by omega)], hsup.upd hbb, hc'⟩
      · have hi : ¬ k < l.length := by omega
        have hp : playItem l k = ⟨skuN k, catN k, 100 + 37 * k, false⟩ := by unfold playItem; rw [if_neg hi]
        conv => whnf
        refine ldV (upd_same ..) rfl (by omega) (fset_same ..) ?_; conv => whnf
        refine hend rfl rfl (by rw [hp]; show AV.agg _ = _; rw [w1]; rfl) (fun sv' t' hc' => ?_); conv => whnf
        refine ⟨rfl, ?_⟩; conv => whnf
        exact nx hk' ⟨sv', _, by rw [wrapN (by omega)], hsup.upd hbb, hc'⟩
    · obtain rfl : k = 8 := by omega
      conv => whnf
      exact ⟨base, hsup, hc⟩
def kindStep (l : List Int) (out : List Int) (i : Nat) : List Int := if (out.any fun y => y == 1 + modB (gI l i) 5) = true then out else out ++ [1 + modB (gI l i) 5]
def kindUp (l : List Int) (n : Nat) : List Int := (List.range n).foldl (kindStep l) []
theorem kindUp_succ (l : List Int) (n : Nat) : kindUp l (n + 1) = kindStep l (kindUp l n) n := by unfold kindUp; rw [List.range_succ, List.foldl_append]; rfl
theorem kindUp_len (l : List Int) (n : Nat) : (kindUp l n).length ≤ n := by
 induction n with
 | zero => exact Nat.le_refl _
 | succ n ih =>
   rw [kindUp_succ]; unfold kindStep
   split
   · omega
   · rw [List.length_append]; show _ + 1 ≤ _; omega
def playKinds (l : List Int) : List Int := kindUp l (min l.length 6)
theorem any_take_succ (l : List Int) (k : Int) (j : Nat) (hj : j < l.length) : ((l.take (j + 1)).any fun y => y == k) = ((l.take j).any (fun y => y == k) || (gI l j == k)) := by
 rw [take_next hj, List.any_append]; simp
theorem playKinds_S (l : List Int) (st : St) : S P 49 [eInts l] st fun v st' => v = eInts (playKinds l) ∧ st' = st := by
 refine S_colL (ty := 3) ?_
 refine S_of_X [] good mixed Tryz.func49 (by rfl) rfl rfl rfl ?_; conv => whnf
 refine lp (min l.length 6) [0, 3, 4] (fun i vs s => ∃ sv, vs = [eInts l, sv, eI i] ∧ ColL 3 1 eI (kindUp l i) st sv s) ?_ ?_
 · conv => whnf
   exact ⟨.emp, rfl, ColL.start _ _ _ _⟩
 · rintro i vs s hi ⟨sv, rfl, hc⟩
   have hlen := kindUp_len l i
   have hfin : i = min l.length 6 → ColL 3 1 eI (playKinds l) st sv s := fun e => by unfold playKinds; rw [← e]; exact hc
   conv => whnf
   refine fork (fun h1 => ?_) (fun h1 => ?_) <;> rw [h1] <;> simp only [decide_eq_true_eq, decide_eq_false_iff_not] at h1
   · conv => whnf
     refine fork (fun h2 => ?_) (fun h2 => ?_) <;> rw [h2] <;> simp only [decide_eq_true_eq, decide_eq_false_iff_not] at h2
     · have hi' : i < min l.length 6 := by omega
       have hK := kindUp_succ l i
       unfold kindStep at hK
       have hm := modB_lt (gI l (i : Int).toNat) (n := 5) (by decide)
       have hw : IntKind.i64.wrap (1 + modB (gI l (i : Int).toNat) 5) = 1 + modB (gI l i) 5 := wrap64_of (by omega) (by omega)
       conv => whnf
       refine ⟨rfl, ⟨by omega, by omega⟩, ?_⟩; conv => whnf
       refine call1 (mod_S _ 5 (by decide) (by decide) _) ?_; conv => whnf
       rw [hw]
       generalize hkk : 1 + modB (gI l i) 5 = k at hK
       have hcases : (sv = .emp ∧ kindUp l i = []) ∨ ∃ b g, sv = .own 1 b 0 (kindUp l i).length ∧ s b = some ⟨3, 1, (kindUp l i).length, g⟩ ∧ ∀ j, j < (kindUp l i).length → g j = eI (gI (kindUp l i) j) := by
         rcases hc with ⟨h0, h3, _⟩ | ⟨_, b, g, _, h3, h4, h5⟩
         · exact .inl ⟨h3, List.eq_nil_of_length_eq_zero h0⟩
         · exact .inr ⟨b, g, h3, by rw [h4]; exact upd_same .., h5⟩
       refine lp (kindUp l i).length [0, 3, 4, 5, 6, 7] (fun j vs t => vs = [eInts l, sv, eI i, eI k, eB (((kindUp l i).take j).any fun y => y == k), eI j] ∧ t = s) ?_ ?_
       · conv => whnf
         exact ⟨rfl, rfl⟩
       · rintro j vs t hj ⟨rfl, rfl⟩
         rcases hcases with ⟨rfl, hnil⟩ | ⟨b, g, rfl, hb, hg⟩
         · have hj0 : j = 0 := by rw [hnil] at hj; exact Nat.le_zero.1 hj
           subst hj0
           have hK2 : kindUp l (i + 1) = kindUp l i ++ [k] := by rw [hK, if_neg (by rw [hnil]; simp)]
           conv => whnf
           refine ColL.app (q := r3) rfl rfl rfl rfl rfl (by rfl) (by show ((kindUp l i).length + 1) * 8 ≤ 140737488355328; omega) hc (fun sv' t' hc' => ?_); conv => whnf
           refine ⟨rfl, ?_⟩; conv => whnf
           exact nx hi' ⟨sv', by rw [wrapN (by omega)], by rw [hK2]; exact hc'⟩
         · conv => whnf
           cases h3 : decide ((j : Int) < ((kindUp l i).length : Int))
           · obtain rfl := stop_at h3 hj
             conv => whnf
             rw [List.take_length]
             cases h4 : (kindUp l i).any fun y => y == k
             · rw [if_neg (by rw [h4]; simp)] at hK; conv => whnf
               refine ColL.app (q := r3) rfl rfl rfl rfl rfl (by rfl) (by show ((kindUp l i).length + 1) * 8 ≤ 140737488355328; omega) hc (fun sv' t' hc' => ?_); conv => whnf
               refine ⟨rfl, ?_⟩; conv => whnf
               exact nx hi' ⟨sv', by rw [wrapN (by omega)], by rw [hK]; exact hc'⟩
             · rw [if_pos h4] at hK; conv => whnf
               refine ⟨rfl, ?_⟩; conv => whnf
               exact nx hi' ⟨_, by rw [wrapN (by omega)], by rw [hK]; exact hc⟩
           · have hj' := go_on h3
             have hsucc := any_take_succ (kindUp l i) k j hj'
             conv => whnf
             cases h4 : ((kindUp l i).take j).any fun y => y == k
             · rw [h4, Bool.false_or] at hsucc; conv => whnf
               refine ⟨rfl, ⟨by omega, by omega⟩, ?_⟩; conv => whnf
               refine ldV hb rfl (by omega) (v := eI (gI (kindUp l i) (j : Int).toNat)) (by rw [Nat.zero_add]; exact hg _ (by omega)) ?_; conv => whnf
               refine ⟨rfl, ?_⟩; conv => whnf
               refine nx hj' ⟨?_, rfl⟩
               rw [wrapN (by omega), hsucc]; rfl
             · rw [h4, Bool.true_or] at hsucc; conv => whnf
               refine ⟨rfl, ?_⟩; conv => whnf
               refine nx hj' ⟨?_, rfl⟩
               rw [wrapN (by omega), hsucc]
     · conv => whnf
       exact hfin (by omega)
   · conv => whnf
     exact hfin (by omega)
def playTier (x : Tier) (least : Int) : Tier := ⟨least, modB x.rate 4000, 1 + modB x.amount 300⟩
def tierUp (l : List Tier) (step : Int) : Nat → List Tier × Int
 | 0 => ([], 0)
 | i + 1 => ((tierUp l step i).1 ++ [playTier (l.getD i default) ((tierUp l step i).2 + modB (l.getD i default).least step)], (tierUp l step i).2 + modB (l.getD i default).least step + 1)
theorem tierUp_len (l : List Tier) (step : Int) (i : Nat) : (tierUp l step i).1.length = i := by
 induction i with
 | zero => rfl
 | succ i ih => show (_ ++ [_]).length = _; rw [List.length_append, ih]; rfl
theorem tierUp_least (l : List Tier) {step : Int} (h : 0 < step) (i : Nat) : 0 ≤ (tierUp l step i).2 ∧ (tierUp l step i).2 ≤ i * step := by
 induction i with
 | zero => exact ⟨Int.le_refl _, by show (0 : Int) ≤ ((0 : Nat) : Int) * step; rw [Int.natCast_zero, Int.zero_mul]; omega⟩
 | succ i ih =>
   have hm := modB_lt (l.getD i default).least h
   show 0 ≤ (tierUp l step i).2 + modB (l.getD i default).least step + 1 ∧ (tierUp l step i).2 + modB (l.getD i default).least step + 1 ≤ _
   rw [show ((i + 1 : Nat) : Int) * step = i * step + step by rw [Int.natCast_add, Int.add_mul]; simp]
   omega
def playTiers (l : List Tier) (step : Int) : List Tier := if l.length = 0 then [⟨Int.tdiv step 2, 1000, 0⟩] else (tierUp l step (min l.length 3)).1
theorem playTiers_S (l : List Tier) (step : Int) (h0 : 0 < step) (h1 : step ≤ 5000) (st : St) : S P 153 [arrOf 3 eTier l, eI step] st fun v st' => v = arrOf 3 eTier (playTiers l step) ∧ st' = st := by
 refine S_colL (ty := 186) ?_
 refine S_of_X [] good mixed Tryz.func153 (by rfl) rfl rfl rfl ?_; conv => whnf
 refine lp (min l.length 3) [0, 1, 5, 6, 7] (fun i vs s => ∃ sv, vs = [arrOf 3 eTier l, eI step, sv, eI (tierUp l step i).2, eI i] ∧ ColL 186 3 eTier (tierUp l step i).1 st sv s) ?_ ?_
 · conv => whnf
   exact ⟨.emp, rfl, ColL.start _ _ _ _⟩
 · rintro i vs s hi ⟨sv, rfl, hc⟩
   have hlen := tierUp_len l step i
   have hle := tierUp_least l h0 i
   have hip : (i : Int) * step ≤ 3 * 5000 := Int.mul_le_mul (by omega) h1 (by omega) (by omega)
   have hsv : (i = 0 ∧ sv = .emp) ∨ (0 < i ∧ ∃ b, sv = .own 3 b 0 i) := by
     rcases hc with ⟨h2, h3, _⟩ | ⟨h2, b, _, _, h3, _⟩
     · exact .inl ⟨by omega, h3⟩
     · exact .inr ⟨by omega, b, by rw [h3, hlen]⟩
   have hw2 : IntKind.i64.wrap (Int.tdiv step 2) = Int.tdiv step 2 := by
     rw [Int.tdiv_eq_ediv_of_nonneg (by omega)]
     exact wrap64_of (by omega) (by omega)
   conv => whnf
   refine fork (fun h2 => ?_) (fun h2 => ?_) <;> rw [h2] <;> simp only [decide_eq_true_eq, decide_eq_false_iff_not] at h2
   case' refine_1 =>
     conv => whnf
     refine fork (fun h3 => ?_) (fun h3 => ?_) <;> rw [h3] <;> simp only [decide_eq_true_eq, decide_eq_false_iff_not] at h3
   case refine_1.refine_1 =>
     have hi' : i < min l.length 3 := by omega
     have hm := modB_lt (l.getD (i : Int).toNat default).least h0
     have hm2 := modB_lt (l.getD (i : Int).toNat default).amount (n := 300) (by decide)
     have e1 : IntKind.i64.wrap ((tierUp l step i).2 + modB (l.getD (i : Int).toNat default).least step) = (tierUp l step i).2 + modB (l.getD (i : Int).toNat default).least step := wrap64_of (by omega) (by omega)
     have e2 : IntKind.i64.wrap (1 + modB (l.getD (i : Int).toNat default).amount 300) = 1 + modB (l.getD (i : Int).toNat default).amount 300 := wrap64_of (by omega) (by omega)
     have e3 : IntKind.i64.wrap ((tierUp l step i).2 + modB (l.getD (i : Int).toNat default).least step + 1) = (tierUp l step i).2 + modB (l.getD (i : Int).toNat default).least step + 1 := wrap64_of (by omega) (by omega)
     conv => whnf
     refine ⟨rfl, ⟨by omega, by omega⟩, ?_⟩; conv => whnf
     refine call1 (mod64_S' _ step h0 (by omega) _) ?_; conv => whnf
     rw [e1]
     refine ⟨[16, 17], [], List.range 19, by kernel_rfl, ?_⟩; conv => whnf
     refine ⟨rfl, ⟨by omega, by omega⟩, ?_⟩; conv => whnf
     refine ⟨_, callQ (mod64_S' _ 4000 (by decide) (by decide) _), ?_⟩; conv => whnf
     refine ⟨rfl, ⟨by omega, by omega⟩, ?_⟩; conv => whnf
     refine ⟨_, callQ (mod64_S' _ 300 (by decide) (by decide) _), ?_⟩; conv => whnf
     rw [e2]
     refine ColL.app (y := playTier (l.getD (i : Int).toNat default) ((tierUp l step i).2 + modB (l.getD (i : Int).toNat default).least step)) (q := r186) rfl rfl rfl rfl rfl (by rfl) (by show ((tierUp l step i).1.length + 1) * 24 ≤ 140737488355328; omega) hc (fun sv' t' hc' => ?_); conv => whnf
     rw [e3]
     refine ⟨rfl, ?_⟩; conv => whnf
     exact nx hi' ⟨sv', by rw [wrapN (by omega)]; rfl, hc'⟩
   all_goals
     have hie : i = min l.length 3 := by omega
     conv => whnf
     rcases hsv with ⟨rfl, rfl⟩ | ⟨hp, b, rfl⟩
     · have hl0 : l.length = 0 := by omega
       have hT : playTiers l step = [⟨Int.tdiv step 2, 1000, 0⟩] := by unfold playTiers; rw [if_pos hl0]
       rw [hT]; conv => whnf
       refine ColL.app (y := ⟨Int.tdiv step 2, 1000, 0⟩) (q := r186) rfl rfl rfl rfl rfl (by show AV.agg [eI (IntKind.i64.wrap (Int.tdiv step 2)), eI 1000, eI 0] = _; rw [hw2]; rfl) (by show (0 + 1) * 24 ≤ 140737488355328; omega) hc (fun sv' t' hc' => ?_); conv => whnf
       exact hc'
     · have hT : playTiers l step = (tierUp l step i).1 := by unfold playTiers; rw [if_neg (by omega), hie]
       rw [hT]; conv => whnf
       rw [show ((i : Int) == 0) = false by rw [beq_eq_false_iff_ne]; omega]; conv => whnf
       exact hc
theorem someUp_form (l : List Str) (most : Nat) (kinds : Int) (name : Int → Str) (k : Nat) : ∃ ks : List Nat, someUp l most kinds name k = ks.map (fun x : Nat => name x) ∧ ks.Pairwise (· < ·) ∧ (∀ x ∈ ks, x < k) ∧ ks.length ≤ most := by
 induction k with
 | zero => exact ⟨[], rfl, .nil, ⟨fun x hx => absurd hx List.not_mem_nil, Nat.zero_le _⟩⟩
 | succ k ih =>
   obtain ⟨ks, h1, h2, h3, h4⟩ := ih
   rw [someUp_succ]; unfold someStep
   split
   · rename_i hc
     rw [Bool.and_eq_true, decide_eq_true_eq, h1, List.length_map] at hc
     refine ⟨ks ++ [k], by rw [h1, List.map_append]; rfl, List.pairwise_append.2 ⟨h2, List.pairwise_singleton _ _, fun a ha b hb => by rw [List.mem_singleton] at hb; subst hb; exact h3 a ha⟩, fun x hx => ?_, by rw [List.length_append]; show ks.length + 1 ≤ most; omega⟩
     rcases List.mem_append.1 hx with h | h
     · have := h3 x h; omega
     · rw [List.mem_singleton] at h; omega
   · exact ⟨ks, h1, h2, fun x hx => by have := h3 x hx; omega, h4⟩
theorem names_some {l : List Str} {most : Nat} {kinds : Int} {name : Int → Str} {k : Nat} (hn : ∀ x : Nat, x < k → nameB (name x) = true) (hr : ∀ x y : Nat, x < y → y < k → slt (name x) (name y) = true) : namesB (someUp l most kinds name k) = true ∧ (someUp l most kinds name k).length ≤ most ∧ ∀ s ∈ someUp l most kinds name k, s.size ≤ 12 := by
 obtain ⟨ks, h1, h2, h3, h4⟩ := someUp_form l most kinds name k
 rw [h1]
 have hall : ∀ s ∈ ks.map (fun x : Nat => name x), nameB s = true := fun s hs => by
   obtain ⟨x, hx, rfl⟩ := List.mem_map.1 hs; exact hn x (h3 x hx)
 refine ⟨?_, by rw [List.length_map]; exact h4, fun s hs => ?_⟩
 · unfold namesB
   rw [Bool.and_eq_true, Bool.not_eq_true', List.any_eq_false]
   refine ⟨?_, fun s hs => by rw [hall s hs]; simp⟩
   unfold riseB
   rw [List.all_eq_true]
   intro j hj
   have hj := List.mem_range.1 hj
   rw [List.length_map] at hj
   unfold riseAt
   rw [Bool.or_eq_true, beq_iff_eq]
   by_cases e : j = 0
   · exact .inl e
   · refine .inr ?_
     have g : ∀ i, i < ks.length → (ks.map (fun x : Nat => name x)).getD i default = name (ks.getD i 0 : Nat) := fun i hi => by
       rw [List.getD_eq_getElem?_getD, List.getElem?_map, List.getElem?_eq_getElem hi, List.getD_eq_getElem?_getD, List.getElem?_eq_getElem hi]; rfl
     rw [g _ (by omega), g _ hj]
     have gm : ∀ i, i < ks.length → ks.getD i 0 = ks[i]! := fun i hi => by rw [List.getD_eq_getElem?_getD, List.getElem?_eq_getElem hi, getElem!_pos ks i hi]; rfl
     refine hr _ _ ?_ (h3 _ ?_)
     · rw [gm _ (by omega), gm _ hj, getElem!_pos ks _ (by omega), getElem!_pos ks _ hj]
       exact List.pairwise_iff_getElem.1 h2 _ _ (by omega) hj (by omega)
     · rw [gm _ hj, getElem!_pos ks _ hj]; exact List.getElem_mem _
 · have := hall s hs
   unfold nameB at this
   simp only [Bool.and_eq_true, decide_eq_true_eq] at this
   exact this.1.2
theorem sku_names : ((List.range 8).all fun x => nameB (skuN (x : Nat))) = true := by kernel_rfl
theorem sku_rise : ((List.range 8).all fun y => (List.range y).all fun x => slt (skuN (x : Nat)) (skuN (y : Nat))) = true := by kernel_rfl
theorem cat_names : ((List.range 3).all fun x => nameB (catN (x : Nat))) = true := by kernel_rfl
theorem cat_rise : ((List.range 3).all fun y => (List.range y).all fun x => slt (catN (x : Nat)) (catN (y : Nat))) = true := by kernel_rfl
theorem code_names : ((List.range 3).all fun x => nameB (codeN (x : Nat))) = true := by kernel_rfl
theorem code_rise : ((List.range 3).all fun y => (List.range y).all fun x => slt (codeN (x : Nat)) (codeN (y : Nat))) = true := by kernel_rfl
theorem rise_of {name : Int → Str} {k : Nat} (h : ((List.range k).all fun y => (List.range y).all fun x => slt (name (x : Nat)) (name (y : Nat))) = true) (x y : Nat) (hxy : x < y) (hy : y < k) : slt (name x) (name y) = true :=
 List.all_eq_true.1 (List.all_eq_true.1 h y (List.mem_range.2 hy)) x (List.mem_range.2 hxy)
theorem name_of {name : Int → Str} {k : Nat} (h : ((List.range k).all fun x => nameB (name (x : Nat))) = true) (x : Nat) (hx : x < k) : nameB (name x) = true := List.all_eq_true.1 h x (List.mem_range.2 hx)
theorem playScope_ok (s : Scope) : scopeB (playScope s) = true ∧ ScopeSm (playScope s) := by
 obtain ⟨a1, a2, a3⟩ := names_some (l := s.skus) (most := 3) (kinds := 8) (name := skuN) (k := 8) (name_of sku_names) (rise_of sku_rise)
 obtain ⟨b1, b2, b3⟩ := names_some (l := s.cats) (most := 2) (kinds := 3) (name := catN) (k := 3) (name_of cat_names) (rise_of cat_rise)
 unfold playScope
 generalize someUp s.skus 3 8 skuN 8 = A at a1 a2 a3 ⊢
 generalize someUp s.cats 2 3 catN 3 = B at b1 b2 b3 ⊢
 refine ⟨?_, ?_⟩
 · unfold scopeB
   rw [a1, b1, decide_eq_true (show A.length ≤ 20 by omega), decide_eq_true (show B.length ≤ 20 by omega)]; rfl
 · exact ⟨by show A.length ≤ _; omega, by show B.length ≤ _; omega, fun x hx => by have := a3 x hx; show x.size ≤ _; omega, fun x hx => by have := b3 x hx; show x.size ≤ _; omega⟩
theorem playCodes_ok (l : List Str) : codesC (playCodes l) = true ∧ (playCodes l).length ≤ 3 ∧ ∀ s ∈ playCodes l, s.size ≤ 12 := by
 obtain ⟨a1, a2, a3⟩ := names_some (l := l) (most := 3) (kinds := 3) (name := codeN) (k := 3) (name_of code_names) (rise_of code_rise)
 unfold playCodes
 generalize someUp l 3 3 codeN 3 = A at a1 a2 a3 ⊢
 refine ⟨?_, a2, a3⟩
 unfold namesB at a1
 rw [Bool.and_eq_true] at a1
 unfold codesC
 rw [a1.1, a1.2, decide_eq_true (by omega)]; rfl
end Go.Proofs.YtnekegdhpjplbaaGreat
namespace Go.Ab
open Go
def So (y y' : AV) : Prop := ∀ rd sz rd' sz' c, Rep rd sz y c → Rep rd' sz' y' c
inductive SoL : List AV → List AV → Prop
 | nil : SoL [] []
 | cons {a b : AV} {l m : List AV} (h : So a b) (k : SoL l m) : SoL (a :: l) (b :: m)
theorem SoL.len {l m : List AV} (h : SoL l m) : l.length = m.length := by
 induction h with
 | nil => rfl
 | cons _ _ ih => simp [ih]
theorem SoL.get {l m : List AV} (h : SoL l m) : ∀ (j : Nat) (y' : AV), m[j]? = some y' → ∃ y, l[j]? = some y ∧ So y y' := by
 induction h with
 | nil => intro j y' hj; simp at hj
 | cons h k ih =>
   intro j y' hj
   cases j with
   | zero => simp at hj; subst hj; exact ⟨_, rfl, h⟩
   | succ j => simp at hj; simpa using ih j y' hj
theorem So.int (k : IntKind) (n : Int) : So (.int k n) (.int k n) := fun _ _ _ _ c h => by cases h; exact .int _ _
theorem So.bool (b : Bool) : So (.bool b) (.bool b) := fun _ _ _ _ c h => by cases h; exact .bool _
theorem So.str (b : ByteArray) : So (.str b) (.str b) := fun _ _ _ _ c h => by cases h; exact .str _
theorem So.junk (y : AV) : So y .junk := fun _ _ _ _ c _ => .junk c
def noA (n : Nat) : AV := .arr 0 n fun _ => .agg []
theorem So.arr (e n : Nat) (f : Nat → AV) : So (.arr e n f) (noA n) := fun _ _ _ _ c h => by
 cases h with
 | arr e n f A c g hc hA hl ho hr hg =>
   exact .arr _ _ _ A c (fun _ _ => undef) hc hA (fun i hi => rfl) (fun i hi => rfl) (fun a ha i j hi hj => absurd hj (by omega)) (fun i j y hi hy => by simp [cellsOf] at hy)
theorem So.agg {l m : List AV} (h : SoL l m) : So (.agg l) (.agg m) := fun _ _ _ _ c hr => by
 cases hr with
 | agg cs vs hl hg =>
   refine .agg _ _ (by rw [← h.len]; exact hl) fun j y c hy hc => ?_
   obtain ⟨y0, h1, h2⟩ := h.get j y hy
   exact h2 _ _ _ _ _ (hg j y0 c h1 hc)
theorem So.tuple {l m : List AV} (h : SoL l m) : So (.tuple l) (.tuple m) := fun _ _ _ _ c hr => by
 cases hr with
 | tuple cs vs hl hg =>
   refine .tuple _ _ (by rw [← h.len]; exact hl) fun j y c hy hc => ?_
   obtain ⟨y0, h1, h2⟩ := h.get j y hy
   exact h2 _ _ _ _ _ (hg j y0 c h1 hc)
def Le (y y' : AV) : Prop := ∀ rd sz c, Rep rd sz y c → Rep rd sz y' c
inductive LeL : List AV → List AV → Prop
 | nil : LeL [] []
 | cons {a b : AV} {l m : List AV} (h : Le a b) (k : LeL l m) : LeL (a :: l) (b :: m)
theorem Le.refl (y : AV) : Le y y := fun _ _ _ h => h
theorem LeL.refl : ∀ l : List AV, LeL l l
 | [] => .nil
 | a :: l => .cons (Le.refl a) (LeL.refl l)
theorem LeL.len {l m : List AV} (h : LeL l m) : l.length = m.length := by
 induction h with
 | nil => rfl
 | cons _ _ ih => simp [ih]
theorem LeL.get {l m : List AV} (h : LeL l m) : ∀ (j : Nat) (y' : AV), m[j]? = some y' → ∃ y, l[j]? = some y ∧ Le y y' := by
 induction h with
 | nil => intro j y' hj; simp at hj
 | cons h k ih =>
   intro j y' hj
   cases j with
   | zero => simp at hj; subst hj; exact ⟨_, rfl, h⟩
   | succ j => simp at hj; simpa using ih j y' hj
theorem Le.emp (e : Nat) (f : Nat → AV) : Le .emp (.arr e 0 f) := fun rd sz c h => emp_rep e f h
theorem Le.agg {l m : List AV} (h : LeL l m) : Le (.agg l) (.agg m) := fun rd sz c hr => by
 cases hr with
 | agg cs vs hl hg =>
   refine .agg _ _ (by rw [← h.len]; exact hl) fun j y c hy hc => ?_
   obtain ⟨y0, h1, h2⟩ := h.get j y hy
   exact h2 _ _ _ (hg j y0 c h1 hc)
theorem Le.arr {e n : Nat} {f g : Nat → AV} (h : ∀ i, i < n → LeL (cellsOf (f i)) (cellsOf (g i)) ∧ (cellsOf (g i)).all AV.one = true) : Le (.arr e n f) (.arr e n g) := fun rd sz c hr => by
 cases hr with
 | arr e n f A c g' hc hA hl ho hrd hg =>
   refine .arr _ _ _ A c g' hc hA (fun i hi => by rw [← (h i hi).1.len]; exact hl i hi) (fun i hi => (h i hi).2) hrd fun i j y hi hy => ?_
   obtain ⟨y0, h1, h2⟩ := (h i hi).1.get j y hy
   exact h2 _ _ _ (hg i j y0 hi h1)
theorem Le.arr1 {e : Nat} {f g : Nat → AV} (h : LeL (cellsOf (f 0)) (cellsOf (g 0))) (h1 : (cellsOf (g 0)).all AV.one = true) : Le (.arr e 1 f) (.arr e 1 g) := Le.arr fun i hi => by
 obtain rfl : i = 0 := by omega
 exact ⟨h, h1⟩
theorem Le.shift {v v' : AV} (h : Le v v') (st : St) : Shift [v] st [v'] st := Shift.one fun w c hS hr => ⟨hS, Evo.refl _ _, h _ _ _ hr⟩
end Go.Ab
namespace Go.Proofs.YtnekegdhpjplbaaGreat
open Go Go.Ab
attribute [local irreducible] upd del
def tax0 : Tax := ⟨false, false, 0, []⟩
def awR : Rules := ⟨[⟨⟨#[97]⟩, ⟨#[120]⟩, 15, false⟩], [⟨⟨#[112]⟩, 2, 0, ⟨#[]⟩, ⟨#[]⟩, false, ⟨[], []⟩, 0, 0, 10, 0, 0, [], []⟩], tax0, ⟨0, 0⟩, ⟨0, 0, 1, 0, [], []⟩⟩
def awL : List Line := [⟨⟨#[97]⟩, 2, 15⟩]
theorem aw_check : priceCheck awR [] awL = 0 := by kernel_rfl
theorem aw_price : priceB awR awL [0] [0] = ⟨[10], 10, 0, [⟨⟨#[112]⟩, 20⟩]⟩ := by kernel_rfl
theorem aw_places : places awR.promos [] awR.promos.length = [0] := by kernel_rfl
theorem resO_single {l : List Promo} {codes : List Str} (h : places l codes l.length = [0]) {o : List Int} (ho : OrdP l codes o) : resO l o = [0] := by
 have := (resO_perm l o).trans ho.1
 rw [h] at this
 exact List.perm_singleton.1 this
theorem aw_fit : RulesFit awR := by
 refine ⟨by decide, fun p hp => ?_, by decide, by decide⟩
 rw [List.mem_singleton.1 (show p ∈ [_] from hp)]
 exact ⟨⟨by decide, by decide⟩, by decide, fun x hx => by cases hx⟩
theorem awPrice_S (st : St) : S P 19 [eRules awR, eStrs [], arrOf 3 eLine awL] st fun v st' => v = .tuple [ePriced ⟨[10], 10, 0, [⟨⟨#[112]⟩, 20⟩]⟩, eI 0] ∧ st' = st :=
 (price_S awR [] awL aw_fit (by decide) (by decide) (by rw [aw_places]; decide) st).mono fun v s hv => by
   obtain ⟨hv, rfl⟩ := hv
   refine ⟨?_, rfl⟩
   rcases hv with ⟨h, _⟩ | ⟨_, o1, o2, h1, h2, h3⟩
   · exact absurd aw_check h
   · rw [resO_single aw_places h1, resO_single aw_places h2, aw_price] at h3
     exact h3
theorem awake_S (st : St) : S P 15 [] st fun v st' => v = .bool true ∧ st' = st := by
 refine S_sup ?_
 refine S_of_X [1] good mixed Tryz.func15 (by rfl) rfl rfl rfl ?_; conv => whnf
 refine call_shift ?_ (call1 (awPrice_S st) ?_)
 · refine Shift.cons (Le.shift (Le.agg ?_) _) (Shift.cons (Le.shift (Le.emp _ _) _) (Le.shift ?_ _))
   · repeat' first | exact LeL.nil | refine LeL.cons ?_ ?_ | exact Le.refl _ | exact Le.emp _ _ | refine Le.arr1 ?_ rfl
   · repeat' first | exact LeL.nil | refine LeL.cons ?_ ?_ | exact Le.refl _ | exact Le.emp _ _ | refine Le.arr1 ?_ rfl
 · conv => whnf
   intro b hb; conv => whnf
   refine stV (upd_same ..) rfl (by omega) rfl (by rfl) ?_
   rw [upd_twice]; conv => whnf
   refine ldV (upd_same ..) rfl (by omega) (fset_same ..) ?_; conv => whnf
   refine ldV (upd_same ..) rfl (by omega) (fset_same ..) ?_; conv => whnf
   refine ldV (upd_same ..) rfl (by omega) (fset_same ..) ?_; conv => whnf
   refine ⟨rfl, ⟨by decide, by decide⟩, ?_⟩; conv => whnf
   exact ⟨rfl, (Sup.refl st).upd hb⟩
theorem mod8 (n : Int) : modB n 8 = 0 ∨ modB n 8 = 1 ∨ modB n 8 = 2 ∨ modB n 8 = 3 ∨ modB n 8 = 4 ∨ modB n 8 = 5 ∨ modB n 8 = 6 ∨ modB n 8 = 7 := by
 have := modB_lt n (n := 8) (by decide); omega
theorem skuN_nat (k : Nat) (h : k < 8) : skuN k = byteS (97 + k) := by
 unfold skuN modB; congr 2; omega
theorem skus_play (l : List Ab.Item) : (playItems l).map Ab.Item.sku = [byteS 97, byteS 98, byteS 99, byteS 100, byteS 101, byteS 102, byteS 103, byteS 104] := by
 unfold playItems
 rw [List.map_map]
 have e : ∀ k, k < 8 → (Ab.Item.sku ∘ playItem l) k = byteS (97 + (k : Int)) := fun k hk => by
   rw [← skuN_nat k hk]
   show (playItem l k).sku = _
   unfold playItem; split <;> rfl
 have : (List.range 8).map (Ab.Item.sku ∘ playItem l) = (List.range 8).map fun k : Nat => byteS (97 + (k : Int)) := List.map_congr_left fun k hk => e k (List.mem_range.1 hk)
 rw [this]; rfl
theorem playItems_len (l : List Ab.Item) : (playItems l).length = 8 := by unfold playItems; rw [List.length_map, List.length_range]
theorem known_iff (items : List Ab.Item) (s : Str) : known items s = (items.map Ab.Item.sku).any fun y => y.toList == s.toList := by
 unfold known findB
 rw [idx_any, List.any_map]; rfl
theorem known_play (l : List Ab.Item) (n : Int) : known (playItems l) (skuN n) = true := by
 rw [known_iff, skus_play]
 unfold skuN
 rcases mod8 n with h | h | h | h | h | h | h | h <;> rw [h] <;> kernel_rfl
theorem playLine_ok (x : Line) : (0 ≤ (playLine x).qty ∧ (playLine x).qty ≤ 9) ∧ 0 ≤ (playLine x).price ∧ (playLine x).price < 4000 := by
 have h1 := modB_lt x.qty (n := 10) (by decide)
 have h2 := modB_lt x.price (n := 4000) (by decide)
 exact ⟨⟨h1.1, by show modB x.qty 10 ≤ 9; omega⟩, h2.1, h2.2⟩
structure BasketOk (l : List Line) : Prop where
 len : l.length ≤ 8
 line : ∀ x ∈ l, (0 ≤ x.qty ∧ x.qty ≤ 9) ∧ 0 ≤ x.price ∧ x.price < 4000
 sku : ∀ x ∈ l, ∃ n, x.sku = skuN n
theorem playLines_ok (l : List Line) : BasketOk (playLines l) := by
 unfold playLines
 refine ⟨by rw [List.length_map, List.length_take]; omega, fun x hx => ?_, fun x hx => ?_⟩
 · obtain ⟨y, _, rfl⟩ := List.mem_map.1 hx; exact playLine_ok y
 · obtain ⟨y, _, rfl⟩ := List.mem_map.1 hx; exact ⟨pickN y.sku, rfl⟩
theorem BasketOk.lineC {l : List Line} (h : BasketOk l) {x : Line} (hx : x ∈ l) : lineC x = true := by
 have := h.line x hx
 rw [lineC_iff]; omega
theorem sums_le {l : List Line} (h1 : ∀ x ∈ l, (0 ≤ x.qty ∧ x.qty ≤ 9) ∧ 0 ≤ x.price ∧ x.price < 4000) : (0 ≤ unitsN l ∧ unitsN l ≤ 9 * l.length) ∧ 0 ≤ grossN l ∧ grossN l ≤ 36000 * l.length := by
 have : ∀ (l : List Line) (a b : Int), (∀ x ∈ l, (0 ≤ x.qty ∧ x.qty ≤ 9) ∧ 0 ≤ x.price ∧ x.price < 4000) → (a ≤ l.foldl (fun s x => s + x.qty) a ∧ l.foldl (fun s x => s + x.qty) a ≤ a + 9 * l.length) ∧ b ≤ l.foldl (fun s x => s + x.qty * x.price) b ∧ l.foldl (fun s x => s + x.qty * x.price) b ≤ b + 36000 * l.length := by
   intro l
   induction l with
   | nil => intro a b _; simp
   | cons y l ih =>
     intro a b h
     have hy := h y (List.mem_cons_self ..)
     have h0 : 0 ≤ y.qty * y.price := Int.mul_nonneg hy.1.1 hy.2.1
     have h9 : y.qty * y.price ≤ 9 * 4000 := Int.mul_le_mul hy.1.2 (by omega) hy.2.1 (by omega)
     have := ih (a + y.qty) (b + y.qty * y.price) fun x hx => h x (List.mem_cons_of_mem _ hx)
     rw [List.foldl_cons, List.foldl_cons, List.length_cons]
     omega
 have := this l 0 0 h1
 unfold unitsN grossN; omega
theorem find_none' {kn : Str → Bool} {l : List Line} (h : ∀ x ∈ l, kn x.sku = true ∧ lineC x = true) : l.find? (badLine kn) = none := by
 rw [List.find?_eq_none]
 intro x hx
 unfold badLine
 rw [(h x hx).1, (h x hx).2]; simp
theorem BasketOk.check {l : List Line} (h : BasketOk l) {kn : Str → Bool} (hk : ∀ n, kn (skuN n) = true) : checkE kn l = 0 := by
 unfold checkE
 have hl := h.len
 have hs := sums_le h.line
 rw [if_neg (by omega), find_none' fun x hx => ⟨by obtain ⟨n, hn⟩ := h.sku x hx; rw [hn]; exact hk n, h.lineC hx⟩]
 show (if _ then (5 : Int) else 0) = 0
 rw [if_neg]
 rw [decide_eq_false (by omega), decide_eq_false (by omega)]; decide
end Go.Proofs.YtnekegdhpjplbaaGreat
