/- Part 21 of the proof: contracts of the functions that the law reaches -/
import Derived.Test.YtnekegdhpjplbaaGreatPa20
set_option maxRecDepth 100000
set_option linter.unusedVariables false
set_option linter.unusedSimpArgs false
namespace Go.Proofs.YtnekegdhpjplbaaGreat
open Go Go.Ab
attribute [local irreducible] upd del
theorem del_ne {st : St} {b c : Nat} (h : c ≠ b) : del st b c = st c := by unfold del; rw [if_neg h]
theorem del_same (st : St) (b : Nat) : del st b b = none := by unfold del; rw [if_pos rfl]
theorem Sup.drop {s t : St} {b : Nat} {y : Blk} (h : Sup (upd s b y) t) (hb : s b = none) : Sup s t := fun c x hc => by
 have hne : c ≠ b := fun e => by subst e; rw [hb] at hc; cases hc
 exact h c x (by rw [upd_ne hne]; exact hc)
structure Beside (R : St → St → Prop) : Prop where
 sup : ∀ {s t : St}, R s t → Sup s t
 begin : ∀ {s t : St} {b : Nat} {y : Blk}, R s t → t b = none → R (upd s b y) (upd t b y)
 grow : ∀ {s t : St} {b b' : Nat} {y y' : Blk}, R (upd s b y) t → s b = none → (b' = b ∨ t b' = none) → s b' = none ∧ R (upd s b' y') (upd (del t b) b' y')
 write : ∀ {s t : St} {b : Nat} {y y' : Blk}, R s t → s b = some y → R (upd s b y') (upd t b y')
 forget : ∀ {s t : St} {b : Nat} {y : Blk}, R (upd s b y) t → s b = none → R s (del t b)
 drop : ∀ {s t : St} {b : Nat} {y : Blk}, R (upd s b y) t → s b = none → R s t
theorem QSt.drop {st0 st : St} {q b : Nat} {f : Bool} {es : List QE} {y : Blk} (h : QSt (upd st0 b y) q f es st) (hb : st0 b = none) : QSt st0 q f es st := by
 obtain ⟨h1, h2, sv, hq, h3⟩ := h
 have hqb : q ≠ b := fun e => by subst e; rw [upd_same] at h1; cases h1
 refine ⟨by rw [upd_ne hqb] at h1; exact h1, Sup.drop h2 hb, sv, hq, ?_⟩
 rcases h3 with h3 | ⟨c, l, n, a1, a2, a3, a4, a5, a6, a7, a8, a9⟩
 · exact .inl h3
 · have hcb : c ≠ b := fun e => by subst e; rw [upd_same] at a2; cases a2
   rw [upd_ne hcb] at a2
   exact .inr ⟨c, l, n, a1, a2, a3, a4, a5, a6, a7, a8, a9⟩
def AddB (b : Nat) (Q : Blk → Prop) (R : St → St → Prop) (s t : St) : Prop := s b = none ∧ ∃ y, Q y ∧ R (upd s b y) t
theorem besideB {b : Nat} {Q : Blk → Prop} {R : St → St → Prop} (hR : Beside R) : Beside (AddB b Q R) where
 sup := fun ⟨h1, y, h2, h3⟩ => Sup.drop (hR.sup h3) h1
 begin := fun {s t c z} ⟨h1, y, h2, h3⟩ hc => by
   have hbc : b ≠ c := fun e => by subst e; rw [hR.sup h3 b y (upd_same ..)] at hc; cases hc
   refine ⟨by rw [upd_ne hbc]; exact h1, y, h2, ?_⟩
   rw [upd_comm hbc.symm]; exact hR.begin h3 hc
 grow := fun {s t c c' z z'} ⟨h1, y, h2, h3⟩ h0 hc => by
   have hbc : b ≠ c := fun e => by subst e; rw [upd_same] at h1; cases h1
   rw [upd_ne hbc] at h1
   have hty : t b = some y := hR.sup h3 b y (upd_same ..)
   have hbc' : b ≠ c' := fun e => by
     subst e
     rcases hc with e | e
     · exact hbc e
     · rw [hty] at e; cases e
   rw [upd_comm hbc.symm] at h3
   obtain ⟨g1, g2⟩ := hR.grow (y' := z') h3 (by rw [upd_ne hbc.symm]; exact h0) hc
   rw [upd_ne hbc'.symm] at g1
   exact ⟨g1, by rw [upd_ne hbc']; exact h1, y, h2, by rw [upd_comm hbc'.symm]; exact g2⟩
 write := fun {s t c z z'} ⟨h1, y, h2, h3⟩ hc => by
   have hbc : b ≠ c := fun e => by subst e; rw [h1] at hc; cases hc
   refine ⟨by rw [upd_ne hbc]; exact h1, y, h2, ?_⟩
   rw [upd_comm hbc.symm]; exact hR.write h3 (by rw [upd_ne hbc.symm]; exact hc)
 forget := fun {s t c z} ⟨h1, y, h2, h3⟩ h0 => by
   have hbc : b ≠ c := fun e => by subst e; rw [upd_same] at h1; cases h1
   rw [upd_ne hbc] at h1
   rw [upd_comm hbc.symm] at h3
   exact ⟨h1, y, h2, hR.forget h3 (by rw [upd_ne hbc.symm]; exact h0)⟩
 drop := fun {s t c z} ⟨h1, y, h2, h3⟩ h0 => by
   have hbc : b ≠ c := fun e => by subst e; rw [upd_same] at h1; cases h1
   rw [upd_ne hbc] at h1
   rw [upd_comm hbc.symm] at h3
   exact ⟨h1, y, h2, hR.drop h3 (by rw [upd_ne hbc.symm]; exact h0)⟩
theorem AddB.at {b : Nat} {Q : Blk → Prop} {R : St → St → Prop} (hR : Beside R) {s t : St} (h : AddB b Q R s t) : ∃ y, Q y ∧ t b = some y := by
 obtain ⟨h1, y, h2, h3⟩ := h
 exact ⟨y, h2, hR.sup h3 b y (upd_same ..)⟩
theorem AddB.map {b : Nat} {Q : Blk → Prop} {R R' : St → St → Prop} {s t t' : St} (h : AddB b Q R s t) (hm : ∀ s, R s t → R' s t') : AddB b Q R' s t' := by
 obtain ⟨h1, y, h2, h3⟩ := h
 exact ⟨h1, y, h2, hm _ h3⟩
theorem AddB.set {b : Nat} {Q Q' : Blk → Prop} {R : St → St → Prop} (hR : Beside R) {s t : St} (h : AddB b Q R s t) {y' : Blk} (hy : Q' y') : AddB b Q' R s (upd t b y') := by
 obtain ⟨h1, y, h2, h3⟩ := h
 have := hR.write (y' := y') h3 (upd_same ..)
 rw [upd_twice] at this
 exact ⟨h1, y', hy, this⟩
def Foot (q : Nat) (bo : Option Nat) (c : Nat) : Prop := c = q ∨ bo = some c
structure QF (q : Nat) (bo : Option Nat) (f : Bool) (es : List QE) (st : St) : Prop where
 has : ∃ sv, HasQ st q sv ∧ ((es = [] ∧ sv = .emp ∧ bo = none) ∨ ∃ b l n, bo = some b ∧ q ≠ b ∧ sv = .own 2 b 0 n ∧ n ≤ l.length ∧ l.length < 2305843009213 ∧ Heap l n ∧ HasE st b l ∧ (l.take n).Perm es ∧ (f = true → n = l.length))
theorem QF.frame {q : Nat} {bo : Option Nat} {f : Bool} {es : List QE} {st st' : St} (h : QF q bo f es st) (hf : ∀ c, Foot q bo c → st' c = st c) : QF q bo f es st' := by
 obtain ⟨sv, ⟨fq, hqs, hq0⟩, h3⟩ := h.has
 refine ⟨sv, ⟨fq, by rw [hf q (.inl rfl)]; exact hqs, hq0⟩, ?_⟩
 rcases h3 with h3 | ⟨b, l, n, a0, a1, a3, a4, a5, a6, ⟨fe, hes, hef⟩, a8, a9⟩
 · exact .inl h3
 · exact .inr ⟨b, l, n, a0, a1, a3, a4, a5, a6, ⟨fe, by rw [hf b (.inr a0)]; exact hes, hef⟩, a8, a9⟩
theorem QF.some {q : Nat} {bo : Option Nat} {f : Bool} {es : List QE} {st : St} (h : QF q bo f es st) {c : Nat} (hc : Foot q bo c) : ∃ x, st c = .some x := by
 obtain ⟨sv, ⟨fq, hqs, hq0⟩, h3⟩ := h.has
 rcases hc with rfl | hc
 · exact ⟨_, hqs⟩
 · rcases h3 with ⟨_, _, h4⟩ | ⟨b, l, n, a0, a1, a3, a4, a5, a6, ⟨fe, hes, hef⟩, a8, a9⟩
   · rw [h4] at hc; cases hc
   · rw [a0] at hc; cases hc; exact ⟨_, hes⟩
theorem QSt.foot {s t : St} {q : Nat} {f : Bool} {es : List QE} (h : QSt s q f es t) : ∃ bo, QF q bo f es t ∧ ∀ c, Foot q bo c → s c = none := by
 obtain ⟨h1, h2, sv, hq, h3⟩ := h
 rcases h3 with ⟨h3, h4⟩ | ⟨b, l, n, a1, a2, a3, a4, a5, a6, a7, a8, a9⟩
 · exact ⟨none, ⟨sv, hq, .inl ⟨h3, h4, rfl⟩⟩, fun c hc => by
     rcases hc with rfl | hc
     · exact h1
     · cases hc⟩
 · exact ⟨.some b, ⟨sv, hq, .inr ⟨b, l, n, rfl, a1, a3, a4, a5, a6, a7, a8, a9⟩⟩, fun c hc => by
     rcases hc with rfl | hc
     · exact h1
     · cases hc; exact a2⟩
theorem QF.qst {s t : St} {q : Nat} {bo : Option Nat} {f : Bool} {es : List QE} (h : QF q bo f es t) (hs : Sup s t) (hn : ∀ c, Foot q bo c → s c = none) : QSt s q f es t := by
 obtain ⟨sv, hq, h3⟩ := h.has
 refine ⟨hn q (.inl rfl), hs, sv, hq, ?_⟩
 rcases h3 with ⟨h3, h4, _⟩ | ⟨b, l, n, a0, a1, a3, a4, a5, a6, a7, a8, a9⟩
 · exact .inl ⟨h3, h4⟩
 · exact .inr ⟨b, l, n, a1, hn b (.inr a0), a3, a4, a5, a6, a7, a8, a9⟩
structure QsA (s : St) (n : Nat) (q : Nat → Nat) (bo : Nat → Option Nat) (f : Nat → Bool) (es : Nat → List QE) (t : St) : Prop where
 sup : Sup s t
 new : ∀ i, i < n → ∀ c, Foot (q i) (bo i) c → s c = none
 has : ∀ i, i < n → QF (q i) (bo i) (f i) (es i) t
 dis : ∀ i j, i < n → j < n → i ≠ j → ∀ c, Foot (q i) (bo i) c → ¬ Foot (q j) (bo j) c
def Qs (n : Nat) (q : Nat → Nat) (es : Nat → List QE) (s t : St) : Prop := ∃ bo f, QsA s n q bo f es t
theorem QsA.off {s t : St} {n : Nat} {q : Nat → Nat} {bo : Nat → Option Nat} {f : Nat → Bool} {es : Nat → List QE} (h : QsA s n q bo f es t) {b : Nat} {y : Blk} (hb : s b = some y) {i : Nat} (hi : i < n) {c : Nat} (hc : Foot (q i) (bo i) c) : c ≠ b := fun e => by
 subst e; rw [h.new i hi c hc] at hb; cases hb
theorem besideQs (n : Nat) (q : Nat → Nat) (es : Nat → List QE) : Beside (Qs n q es) where
 sup := fun ⟨bo, f, h⟩ => h.sup
 begin := fun {s t b y} ⟨bo, f, h⟩ hb => by
   have hne : ∀ i, i < n → ∀ c, Foot (q i) (bo i) c → c ≠ b := fun i hi c hc e => by
     subst e
     obtain ⟨x, hx⟩ := (h.has i hi).some hc
     rw [hx] at hb; cases hb
   exact ⟨bo, f, fun c x hc => by
       by_cases e : c = b
       · subst e; rw [upd_same] at hc ⊢; exact hc
       · rw [upd_ne e] at hc ⊢; exact h.sup c x hc,
     fun i hi c hc => by rw [upd_ne (hne i hi c hc)]; exact h.new i hi c hc,
     fun i hi => (h.has i hi).frame fun c hc => upd_ne (hne i hi c hc), h.dis⟩
 grow := fun {s t b b' y y'} ⟨bo, f, h⟩ h0 hb => by
   have hne : ∀ i, i < n → ∀ c, Foot (q i) (bo i) c → c ≠ b := fun i hi c hc => h.off (upd_same ..) hi hc
   have hne' : ∀ i, i < n → ∀ c, Foot (q i) (bo i) c → c ≠ b' := fun i hi c hc e => by
     subst e
     rcases hb with e | e
     · exact hne i hi c hc e
     · obtain ⟨x, hx⟩ := (h.has i hi).some hc
       rw [hx] at e; cases e
   have hsub : ∀ c x, s c = some x → c ≠ b ∧ t c = some x := fun c x hc => by
     have hne : c ≠ b := fun e => by subst e; rw [h0] at hc; cases hc
     exact ⟨hne, h.sup c x (by rw [upd_ne hne]; exact hc)⟩
   have hb' : s b' = none := by
     rcases hb with e | e
     · rw [e]; exact h0
     · cases hx : s b' with
       | none => rfl
       | some x => rw [(hsub _ _ hx).2] at e; cases e
   refine ⟨hb', bo, f, fun c x hc => ?_, fun i hi c hc => ?_, fun i hi => (h.has i hi).frame fun c hc => ?_, h.dis⟩
   · by_cases e : c = b'
     · subst e; rw [upd_same] at hc ⊢; exact hc
     · rw [upd_ne e] at hc ⊢
       rw [del_ne (hsub c x hc).1]; exact (hsub c x hc).2
   · have := h.new i hi c hc
     rw [upd_ne (hne i hi c hc)] at this
     rw [upd_ne (hne' i hi c hc)]; exact this
   · rw [upd_ne (hne' i hi c hc), del_ne (hne i hi c hc)]
 write := fun {s t b y y'} ⟨bo, f, h⟩ hb => by
   have hne : ∀ i, i < n → ∀ c, Foot (q i) (bo i) c → c ≠ b := fun i hi c hc => h.off hb hi hc
   exact ⟨bo, f, Sup.write (y := y) h.sup, fun i hi c hc => by rw [upd_ne (hne i hi c hc)]; exact h.new i hi c hc,
     fun i hi => (h.has i hi).frame fun c hc => upd_ne (hne i hi c hc), h.dis⟩
 forget := fun {s t b y} ⟨bo, f, h⟩ h0 => by
   have hne : ∀ i, i < n → ∀ c, Foot (q i) (bo i) c → c ≠ b := fun i hi c hc => h.off (upd_same ..) hi hc
   refine ⟨bo, f, fun c x hc => ?_, fun i hi c hc => ?_, fun i hi => (h.has i hi).frame fun c hc => ?_, h.dis⟩
   · have e : c ≠ b := fun e => by subst e; rw [h0] at hc; cases hc
     rw [del_ne e]; exact h.sup c x (by rw [upd_ne e]; exact hc)
   · have := h.new i hi c hc
     rw [upd_ne (hne i hi c hc)] at this; exact this
   · exact del_ne (hne i hi c hc)
 drop := fun {s t b y} ⟨bo, f, h⟩ h0 => by
   have hne : ∀ i, i < n → ∀ c, Foot (q i) (bo i) c → c ≠ b := fun i hi c hc => h.off (upd_same ..) hi hc
   refine ⟨bo, f, Sup.drop h.sup h0, fun i hi c hc => ?_, h.has, h.dis⟩
   have := h.new i hi c hc
   rw [upd_ne (hne i hi c hc)] at this; exact this
theorem Qs.nil {s t : St} (h : Sup s t) {q : Nat → Nat} {es : Nat → List QE} : Qs 0 q es s t := ⟨fun _ => none, fun _ => true, h, fun i hi => by omega, fun i hi => by omega, fun i j hi => by omega⟩
theorem Qs.congr {n : Nat} {q q' : Nat → Nat} {es es' : Nat → List QE} {s t : St} (h : Qs n q es s t) (hq : ∀ i, i < n → q' i = q i) (he : ∀ i, i < n → es' i = es i) : Qs n q' es' s t := by
 obtain ⟨bo, f, h⟩ := h
 exact ⟨bo, f, h.sup, fun i hi => by rw [hq i hi]; exact h.new i hi, fun i hi => by rw [hq i hi, he i hi]; exact h.has i hi, fun i j hi hj => by rw [hq i hi, hq j hj]; exact h.dis i j hi hj⟩
def fupd {α : Type} (f : Nat → α) (i : Nat) (v : α) (k : Nat) : α := if k = i then v else f k
theorem fupd_same {α : Type} (f : Nat → α) (i : Nat) (v : α) : fupd f i v i = v := by simp [fupd]
theorem fupd_ne {α : Type} {f : Nat → α} {i k : Nat} {v : α} (h : k ≠ i) : fupd f i v k = f k := by simp [fupd, h]
theorem Qs.add {n : Nat} {q : Nat → Nat} {es : Nat → List QE} {s t t' : St} {q' : Nat} {f' : Bool} {es' : List QE} (h : Qs n q es s t) (h' : QSt t q' f' es' t') : Qs (n + 1) (fupd q n q') (fupd es n es') s t' := by
 obtain ⟨bo, f, h⟩ := h
 obtain ⟨bo', g1, g2⟩ := h'.foot
 have hne : ∀ i, i < n → ∀ c, Foot (q i) (bo i) c → ¬ Foot q' bo' c := fun i hi c hc hc' => by
   obtain ⟨x, hx⟩ := (h.has i hi).some hc
   rw [g2 c hc'] at hx; cases hx
 refine ⟨fupd bo n bo', fupd f n f', h.sup.trans h'.sup, fun i hi c hc => ?_, fun i hi => ?_, fun i j hi hj hij c hc => ?_⟩
 · by_cases e : i = n
   · subst e; rw [fupd_same, fupd_same] at hc; exact h.sup.none (g2 c hc)
   · rw [fupd_ne e, fupd_ne e] at hc; exact h.new i (by omega) c hc
 · by_cases e : i = n
   · subst e; rw [fupd_same, fupd_same, fupd_same, fupd_same]; exact g1
   · rw [fupd_ne e, fupd_ne e, fupd_ne e, fupd_ne e]
     refine (h.has i (by omega)).frame fun c hc => ?_
     obtain ⟨x, hx⟩ := (h.has i (by omega)).some hc
     rw [hx, h'.sup c x hx]
 · by_cases e : i = n
   · subst e
     rw [fupd_same, fupd_same] at hc
     rw [fupd_ne hij.symm, fupd_ne hij.symm]
     exact fun hc' => hne j (by omega) c hc' hc
   · rw [fupd_ne e, fupd_ne e] at hc
     by_cases e2 : j = n
     · subst e2; rw [fupd_same, fupd_same]; exact hne i (by omega) c hc
     · rw [fupd_ne e2, fupd_ne e2]; exact h.dis i j (by omega) (by omega) hij c hc
theorem Qs.turn {n : Nat} {q : Nat → Nat} {es : Nat → List QE} {s t : St} (h : Qs n q es s t) {k : Nat} (hk : k < n) :
   ∃ s1 f, Sup s s1 ∧ QSt s1 (q k) f (es k) t ∧ ∀ f' es' t', QSt s1 (q k) f' es' t' → Qs n q (fupd es k es') s t' := by
 obtain ⟨bo, f, h⟩ := h
 have hdec : ∀ c, Decidable (Foot (q k) (bo k) c) := fun c => inferInstanceAs (Decidable (_ ∨ _))
 let s1 : St := fun c => match hdec c with | isTrue _ => none | isFalse _ => t c
 have s1t : ∀ c, Foot (q k) (bo k) c → s1 c = none := fun c hc => by
   show (match hdec c with | isTrue _ => none | isFalse _ => t c) = none
   cases hdec c with
   | isTrue _ => rfl
   | isFalse hn => exact absurd hc hn
 have s1f : ∀ c, ¬ Foot (q k) (bo k) c → s1 c = t c := fun c hc => by
   show (match hdec c with | isTrue _ => none | isFalse _ => t c) = t c
   cases hdec c with
   | isTrue hn => exact absurd hn hc
   | isFalse _ => rfl
 have s1s : Sup s1 t := fun c x hc => by
   by_cases e : Foot (q k) (bo k) c
   · rw [s1t c e] at hc; cases hc
   · rw [s1f c e] at hc; exact hc
 refine ⟨s1, f k, fun c x hc => ?_, (h.has k hk).qst s1s s1t, fun f' es' t' hq => ?_⟩
 · have : ¬ Foot (q k) (bo k) c := fun e => by rw [h.new k hk c e] at hc; cases hc
   rw [s1f c this]; exact h.sup c x hc
 obtain ⟨bo', g1, g2⟩ := hq.foot
 have hfr : ∀ c x, ¬ Foot (q k) (bo k) c → t c = some x → t' c = some x := fun c x hc hx => hq.sup c x (by rw [s1f c hc]; exact hx)
 have hne : ∀ i, i < n → i ≠ k → ∀ c, Foot (q i) (bo i) c → ¬ Foot (q k) bo' c := fun i hi hik c hc hc' => by
   obtain ⟨x, hx⟩ := (h.has i hi).some hc
   have := g2 c hc'
   rw [s1f c (h.dis i k hi hk hik c hc), hx] at this; cases this
 refine ⟨fupd bo k bo', fupd f k f', fun c x hc => ?_, fun i hi c hc => ?_, fun i hi => ?_, fun i j hi hj hij c hc => ?_⟩
 · exact hfr c x (fun e => by rw [h.new k hk c e] at hc; cases hc) (h.sup c x hc)
 · by_cases e : i = k
   · subst e
     rw [fupd_same] at hc
     by_cases e2 : Foot (q i) (bo i) c
     · exact h.new i hi c e2
     · have := g2 c hc
       rw [s1f c e2] at this; exact h.sup.none this
   · rw [fupd_ne e] at hc; exact h.new i hi c hc
 · by_cases e : i = k
   · subst e; rw [fupd_same, fupd_same, fupd_same]; exact g1
   · rw [fupd_ne e, fupd_ne e, fupd_ne e]
     refine (h.has i hi).frame fun c hc => ?_
     obtain ⟨x, hx⟩ := (h.has i hi).some hc
     rw [hx, hfr c x (h.dis i k hi hk e c hc) hx]
 · by_cases e : i = k
   · subst e
     rw [fupd_same] at hc
     rw [fupd_ne hij.symm]
     exact fun hc' => hne j hj hij.symm c hc' hc
   · rw [fupd_ne e] at hc
     by_cases e2 : j = k
     · subst e2; rw [fupd_same]; exact hne i hi hij c hc
     · rw [fupd_ne e2]; exact h.dis i j hi hj hij c hc
theorem Qs.pop_S {n : Nat} {q : Nat → Nat} {es : Nat → List QE} {s t : St} (h : Qs n q es s t) {k : Nat} (hk : k < n) {x : QE} {rest : List QE} (he : es k = x :: rest) (htop : ∀ y ∈ rest, prior y x = false) :
   S P 100 [.optr 1 (q k) 0 0] t fun v t' => v = .tuple [eI x.1, eI x.2, .bool true] ∧ Qs n q (fupd es k rest) s t' := by
 obtain ⟨s1, f, _, hq, hb⟩ := h.turn hk
 rw [he] at hq
 exact (qpop_S s1 (q k) f x rest t hq htop).mono fun v t' hv => ⟨hv.1, hb _ _ _ hv.2⟩
theorem Qs.pop0_S {n : Nat} {q : Nat → Nat} {es : Nat → List QE} {s t : St} (h : Qs n q es s t) {k : Nat} (hk : k < n) (he : es k = []) :
   S P 100 [.optr 1 (q k) 0 0] t fun v t' => v = .tuple [eI 0, eI 0, .bool false] ∧ t' = t := by
 obtain ⟨s1, f, _, hq, hb⟩ := h.turn hk
 rw [he] at hq
 exact qpop0_S s1 (q k) f t hq
def ROut (R : St → St → Prop) (ty e : Nat) (fo : Nat → AV) (n : Nat) (s : St) (sv : AV) (t : St) : Prop := ∃ s0, Col ty e fo s n sv s0 ∧ R s0 t
section
variable {R : St → St → Prop} {ty e n : Nat} {fo : Nat → AV} {s t : St} {sv : AV}
theorem ROut.start (h : R s t) (ty e : Nat) (fo : Nat → AV) : ROut R ty e fo 0 s .emp t := ⟨s, Col.start _ _ _ _, h⟩
theorem ROut.map {R' : St → St → Prop} {t' : St} (h : ROut R ty e fo n s sv t) (hm : ∀ s, R s t → R' s t') : ROut R' ty e fo n s sv t' := by
 obtain ⟨s0, h1, h2⟩ := h
 exact ⟨s0, h1, hm _ h2⟩
theorem ROut.congr {fo' : Nat → AV} (h : ROut R ty e fo n s sv t) (hf : ∀ k, k < n → fo k = fo' k) : ROut R ty e fo' n s sv t := by
 obtain ⟨s0, h1, h2⟩ := h
 exact ⟨s0, Col.congr h1 hf, h2⟩
theorem ROut.head (h : ROut R ty e fo n s sv t) : sv = .emp ∨ ∃ b, sv = .own e b 0 n := by
 obtain ⟨s0, ⟨_, h1, _⟩ | ⟨_, b, _, _, h1, _⟩, h2⟩ := h
 · exact .inl h1
 · exact .inr ⟨b, h1⟩
theorem ROut.apps {T : Tab} {tt : TypeId} {x : AV} {k : KK} {r q : TRow} {el m : Nat} {f g : Nat → AV} (hR : Beside R) (hr : T tt = some r) (hd : r.desc = .slice el) (hq : T el = some q)
   (hz : (Nat.blt 0 q.size && Nat.blt 0 q.bytes && Nat.beq q.zero.cells.size q.size) = true) (hs : srcOf q.size t x = some (m, g)) (hg : ∀ i, i < m → g i = f (n + i)) (hb : (n + m) * q.bytes ≤ 140737488355328)
   (hc : ROut R el q.size f n s sv t) (hk : ∀ sv' t', ROut R el q.size f (n + m) s sv' t' → k sv' t') : xApp T tt sv x t k := by
 obtain ⟨s0, hc, h⟩ := hc
 rcases hc with ⟨rfl, rfl, rfl⟩ | ⟨h0, bo, y, h1, rfl, rfl, h4⟩
 · refine apE hr hd hq hz hs (by simpa using hb) (fun h0 => hk _ _ ⟨s0, .inl ⟨by omega, rfl, rfl⟩, h⟩) (fun hm b hb => ?_)
   refine hk _ _ ⟨_, ?_, hR.begin (y := ⟨el, q.size, m, g⟩) h hb⟩
   rw [Nat.zero_add]
   exact .inr ⟨hm, b, g, (hR.sup h).none hb, rfl, rfl, fun k hk => by have := hg k hk; rwa [Nat.zero_add] at this⟩
 · have hby : t bo = some ⟨el, q.size, n, y⟩ := hR.sup h bo _ (upd_same ..)
   refine apO hr hd hq hz hs hby rfl rfl rfl hb (fun h0' => hk _ _ ?_) (fun _ b' hb' => ?_)
   · subst h0'; exact ⟨_, .inr ⟨h0, bo, y, h1, rfl, rfl, h4⟩, h⟩
   obtain ⟨hb0, hn⟩ := hR.grow (y' := ⟨el, q.size, n + m, fun i => if i < n then y i else g (i - n)⟩) h h1 hb'
   refine hk _ _ ⟨_, .inr ⟨by omega, b', _, hb0, rfl, rfl, fun k hk => ?_⟩, hn⟩
   by_cases hkn : k < n
   · simp only [hkn, if_true]; exact h4 k hkn
   · simp only [hkn, if_false]
     rw [hg (k - n) (by omega)]; congr 1; omega
theorem ROut.app {T : Tab} {tt : TypeId} {x : AV} {k : KK} {r q : TRow} {el : Nat} {f g : Nat → AV} (hR : Beside R) (hr : T tt = some r) (hd : r.desc = .slice el) (hq : T el = some q)
   (hz : (Nat.blt 0 q.size && Nat.blt 0 q.bytes && Nat.beq q.zero.cells.size q.size) = true) (hs : srcOf q.size t x = some (1, g)) (hg : g 0 = f n) (hb : (n + 1) * q.bytes ≤ 140737488355328)
   (hc : ROut R el q.size f n s sv t) (hk : ∀ sv' t', ROut R el q.size f (n + 1) s sv' t' → k sv' t') : xApp T tt sv x t k :=
 ROut.apps hR hr hd hq hz hs (fun i hi => by
   have : i = 0 := by omega
   subst this; exact hg) hb hc hk
theorem ROut.write (hR : Beside R) {b : Nat} {y y' : Blk} (h : ROut R ty e fo n s sv t) (hb : s b = some y) : ROut R ty e fo n (upd s b y') sv (upd t b y') := by
 obtain ⟨s0, hc, h⟩ := h
 exact ⟨_, Col.write hc hb, hR.write h (hc.sup b y hb)⟩
theorem ROut.shift (hR : Beside R) (h : ROut R ty e fo n s sv t) : ∃ t', Shift [sv] t [.arr e n fo] t' ∧ R s t' := by
 obtain ⟨s0, hc, h⟩ := h
 rcases hc with ⟨rfl, rfl, rfl⟩ | ⟨h0, bo, g, h1, rfl, rfl, h3⟩
 · exact ⟨t, shift_emp e fo, h⟩
 · exact ⟨del t bo, shift_own (hR.sup h bo _ (upd_same ..)) rfl (Nat.le_refl _) h3, hR.forget h h1⟩
theorem ROut.dropped (hR : Beside R) (h : ROut R ty e fo n s sv t) : R s t := by
 obtain ⟨s0, hc, h⟩ := h
 rcases hc with ⟨rfl, rfl, rfl⟩ | ⟨h0, bo, g, h1, rfl, rfl, h3⟩
 · exact h
 · exact hR.drop h h1
theorem ROut.sup (hR : Beside R) (h : ROut R ty e fo n s sv t) : Sup s t := hR.sup (h.dropped hR)
end
structure MkD where
 p : Promo
 us : List AUnit
 bm : Nat
 bu : Nat
 br : Nat
 n : Nat
 q : Nat → Nat
def IsM (d : MkD) (len : Nat) (y : Blk) : Prop := ∃ f, y = ⟨267, 18, 1, f⟩ ∧ f 0 = .agg (cPromo d.p ++ [eUnits d.us, .own 1 d.bu 0 len, .own 1 d.br 0 d.n])
def IsUsed (used : List Bool) (y : Blk) : Prop := ∃ g, y = ⟨4, 1, used.length, g⟩ ∧ ∀ k, k < used.length → g k = eB (used.getD k default)
def IsRest (d : MkD) (y : Blk) : Prop := ∃ g, y = ⟨149, 1, d.n, g⟩ ∧ ∀ k, k < d.n → g k = .optr 1 (d.q k) 0 0
def MkR (d : MkD) (used : List Bool) (es : Nat → List QE) : St → St → Prop := AddB d.bm (IsM d used.length) (AddB d.bu (IsUsed used) (AddB d.br (IsRest d) (Qs d.n d.q es)))
theorem besideM (d : MkD) (used : List Bool) (es : Nat → List QE) : Beside (MkR d used es) := besideB (besideB (besideB (besideQs _ _ _)))
theorem MkR.facts {d : MkD} {used : List Bool} {es : Nat → List QE} {s t : St} (h : MkR d used es s t) :
   (∃ f, t d.bm = some ⟨267, 18, 1, f⟩ ∧ f 0 = .agg (cPromo d.p ++ [eUnits d.us, .own 1 d.bu 0 used.length, .own 1 d.br 0 d.n])) ∧
   (∃ g, t d.bu = some ⟨4, 1, used.length, g⟩ ∧ ∀ k, k < used.length → g k = eB (used.getD k default)) ∧
   (∃ g, t d.br = some ⟨149, 1, d.n, g⟩ ∧ ∀ k, k < d.n → g k = .optr 1 (d.q k) 0 0) := by
 have b1 := besideQs d.n d.q es
 have b2 : Beside (AddB d.br (IsRest d) (Qs d.n d.q es)) := besideB b1
 have b3 : Beside (AddB d.bu (IsUsed used) (AddB d.br (IsRest d) (Qs d.n d.q es))) := besideB b2
 obtain ⟨y1, ⟨f, rfl, hf⟩, h1⟩ := AddB.at b3 h
 obtain ⟨_, _, _, h⟩ := h
 obtain ⟨y2, ⟨g, rfl, hg⟩, h2⟩ := AddB.at b2 h
 obtain ⟨_, _, _, h⟩ := h
 obtain ⟨y3, ⟨k, rfl, hk⟩, h3⟩ := AddB.at b1 h
 exact ⟨⟨f, h1, hf⟩, ⟨g, h2, hg⟩, ⟨k, h3, hk⟩⟩
theorem MkR.pop_S {d : MkD} {used : List Bool} {es : Nat → List QE} {s t : St} (h : MkR d used es s t) {k : Nat} (hk : k < d.n) {x : QE} {rest : List QE} (he : es k = x :: rest) (htop : ∀ y ∈ rest, prior y x = false) :
   S P 100 [.optr 1 (d.q k) 0 0] t fun v t' => v = .tuple [eI x.1, eI x.2, .bool true] ∧ MkR d used (fupd es k rest) s t' := by
 obtain ⟨h1, y1, e1, h2, y2, e2, h3, y3, e3, hq⟩ := h
 exact (hq.pop_S hk he htop).mono fun v t' hv => ⟨hv.1, h1, y1, e1, h2, y2, e2, h3, y3, e3, hv.2⟩
theorem MkR.pop0_S {d : MkD} {used : List Bool} {es : Nat → List QE} {s t : St} (h : MkR d used es s t) {k : Nat} (hk : k < d.n) (he : es k = []) :
   S P 100 [.optr 1 (d.q k) 0 0] t fun v t' => v = .tuple [eI 0, eI 0, .bool false] ∧ t' = t := by
 obtain ⟨h1, y1, e1, h2, y2, e2, h3, y3, e3, hq⟩ := h
 exact hq.pop0_S hk he
theorem MkR.use {d : MkD} {used : List Bool} {es : Nat → List QE} {s t : St} (h : MkR d used es s t) {i : Nat} (hi : i < used.length) {g : Nat → AV} (hb : t d.bu = some ⟨4, 1, used.length, g⟩) (hg : ∀ k, k < used.length → g k = eB (used.getD k default)) :
   MkR d (used.set i true) es s (upd t d.bu ⟨4, 1, used.length, fset g i (eB true)⟩) := by
 have b1 := besideQs d.n d.q es
 have b2 : Beside (AddB d.br (IsRest d) (Qs d.n d.q es)) := besideB b1
 unfold MkR at h ⊢
 rw [List.length_set]
 refine h.map fun s h => AddB.set b2 h ⟨fset g i (eB true), by rw [List.length_set], fun k hk => ?_⟩
 rw [List.length_set] at hk
 by_cases e : k = i
 · subst e; rw [fset_same]; simp [hi]
 · rw [fset_ne e, hg k hk]
   congr 1
   simp only [List.getD_eq_getElem?_getD]
   rw [List.getElem?_set_ne (fun e' => e e'.symm)]
def takeR (used : List Bool) : List QE → Option Int × List QE
 | [] => (none, [])
 | e :: es => if used.getD e.2.toNat default = true then takeR used es else (some e.2, es)
def useF (used : List Bool) : Option Int → List Bool
 | none => used
 | some i => used.set i.toNat true
def takeV : Option Int → AV
 | none => .tuple [eI 0, eB false]
 | some i => .tuple [eI i, eB true]
theorem fupd_twice {α : Type} (f : Nat → α) (i : Nat) (u v : α) : fupd (fupd f i u) i v = fupd f i v := by
 funext k; unfold fupd; split <;> rfl
theorem fupd_self {α : Type} (f : Nat → α) (i : Nat) : fupd f i (f i) = f := by
 funext k; unfold fupd; split
 · rename_i e; rw [e]
 · rfl
theorem take_S (d : MkD) (used : List Bool) (es : Nat → List QE) (s t : St) (h : MkR d used es s t) (k : Nat) (hk : k < d.n) (hr : ∀ e ∈ es k, 0 ≤ e.2 ∧ e.2.toNat < used.length) (hs : (es k).Pairwise fun a b => prior b a = false) :
   S P 261 [.optr 18 d.bm 0 0, eI k] t fun v t' => v = takeV (takeR used (es k)).1 ∧ MkR d (useF used (takeR used (es k)).1) (fupd es k (takeR used (es k)).2) s t' := by
 refine S_of_X [] good mixed Tryz.func261 (by rfl) rfl rfl rfl ?_; conv => whnf
 refine ⟨[0, 1], fun m vs t' => ∃ l : List QE, m = l.length ∧ vs = [.optr 18 d.bm 0 0, eI k] ∧ takeR used l = takeR used (es k) ∧ (∀ e ∈ l, 0 ≤ e.2 ∧ e.2.toNat < used.length) ∧ (l.Pairwise fun a b => prior b a = false) ∧ MkR d used (fupd es k l) s t', ?_, ?_⟩
 · conv => whnf
   exact ⟨_, es k, rfl, rfl, rfl, hr, hs, by rw [fupd_self]; exact h⟩
 · clear h hr hs
   rintro m vs t' ⟨l, rfl, rfl, hF, hr, hs, h⟩
   rw [← hF]
   obtain ⟨⟨fm, hm, hm0⟩, ⟨fu, hu, huf⟩, ⟨fr, hb, hbf⟩⟩ := h.facts
   conv => whnf
   refine ldV hm rfl (by omega) hm0 ?_; conv => whnf
   refine ⟨rfl, ⟨by omega, by omega⟩, ?_⟩; conv => whnf
   refine ldV hb rfl (by omega) (v := .optr 1 (d.q k) 0 0) (by rw [show 0 + (k : Int).toNat = k by omega]; exact hbf k hk) ?_; conv => whnf
   cases l with
   | nil =>
     refine call1 (h.pop0_S hk (fupd_same ..)) ?_; conv => whnf
     exact ⟨rfl, h⟩
   | cons x l =>
     rw [List.pairwise_cons] at hs
     refine call (h.pop_S hk (fupd_same ..) hs.1) (fun v t2 hv => ?_)
     obtain ⟨rfl, h'⟩ := hv
     rw [fupd_twice] at h'
     obtain ⟨⟨fm', hm', hm0'⟩, ⟨fu', hu', huf'⟩, _⟩ := h'.facts
     have hx := hr x (List.mem_cons_self ..)
     have hux : fu' (0 + x.2.toNat) = eB (used.getD x.2.toNat default) := by rw [Nat.zero_add]; exact huf' _ hx.2
     conv => whnf
     refine ldV hm' rfl (by omega) hm0' ?_; conv => whnf
     refine ⟨rfl, ⟨by omega, by omega⟩, ?_⟩; conv => whnf
     refine ldV hu' rfl (by omega) hux ?_; conv => whnf
     cases hx1 : used.getD x.2.toNat default with
     | true =>
       conv => whnf
       refine ⟨rfl, ?_⟩; conv => whnf
       refine ⟨l.length, Nat.lt_succ_self _, l, rfl, rfl, ?_, fun e he => hr e (List.mem_cons_of_mem _ he), hs.2, h'⟩
       show _ = if used.getD x.2.toNat default = true then takeR used l else (some x.2, l)
       rw [hx1, if_pos rfl]
     | false =>
       have hT : takeR used (x :: l) = (some x.2, l) := by
         show (if used.getD x.2.toNat default = true then takeR used l else (some x.2, l)) = _
         rw [hx1, if_neg (by simp)]
       rw [hT]; conv => whnf
       refine ldV hm' rfl (by omega) hm0' ?_; conv => whnf
       refine ⟨rfl, ⟨by omega, by omega⟩, ?_⟩; conv => whnf
       refine stV hu' rfl (by omega) hux (by rfl) ?_; conv => whnf
       refine ⟨rfl, ?_⟩
       rw [Nat.zero_add]
       exact h'.use hx.2 hu' huf'
end Go.Proofs.YtnekegdhpjplbaaGreat
namespace Go.Proofs.YtnekegdhpjplbaaGreat
open Go Go.Ab Go.Proofs Go.Sort
attribute [local irreducible] upd del
def sortI (l : List Int) : List Int := l.mergeSort fun x y => decide (x ≤ y)
theorem sortI_perm (l : List Int) : (sortI l).Perm l := List.mergeSort_perm ..
theorem sortI_len (l : List Int) : (sortI l).length = l.length := (sortI_perm l).length_eq
def soBlk (l : List Int) : Blk := ⟨3, 1, l.length, fun k => eI (gI (sortI l) k)⟩
theorem sort_evo {st : St} {w : World} {b n : Nat} {l : List Int} {os : Array Obj} (hb : HasI st b l) (hS : RelS st w) :
   Evo st w (upd st b (soBlk l)) (grow (putRow (Value.int .i64) (Sort.ahead w n) b 0 (sortI l).toArray) os) ∧ RelS (upd st b (soBlk l)) (grow (putRow (Value.int .i64) (Sort.ahead w n) b 0 (sortI l).toArray) os) := by
 obtain ⟨f, hst, hf⟩ := hb
 obtain ⟨cs, hok⟩ := hS b _ hst
 have hbl : b < w.heap.size := (Array.getElem?_eq_some_iff.1 hok.heap).1
 have hsz : l.length * 1 ≤ cs.size := hok.size
 have hheap : ∀ c, c < w.heap.size → (grow (putRow (Value.int .i64) (Sort.ahead w n) b 0 (sortI l).toArray) os).heap[c]? = if b = c then some (.cells (putCells (Value.int .i64) 0 (sortI l).toArray cs) 3 (0, 0)) else w.heap[c]? := fun c hc => by
   show ((w.heap.modify b (onCells (putCells (Value.int .i64) 0 (sortI l).toArray))) ++ os)[c]? = _
   rw [Array.getElem?_append_left (by simpa using hc), Array.getElem?_modify]
   split
   · rename_i e; subst e; rw [hok.heap]; rfl
   · rfl
 have hev : Evo st w (upd st b (soBlk l)) (grow (putRow (Value.int .i64) (Sort.ahead w n) b 0 (sortI l).toArray) os) := by
   refine ⟨rfl, rfl, rfl, ?_, fun c hc hs => ?_, fun c => ?_⟩
   · show w.heap.size ≤ ((w.heap.modify b _) ++ os).size
     simp
   · have hne : b ≠ c := fun e => by subst e; rw [hst] at hs; cases hs
     rw [hheap c hc, if_neg hne]
     exact ⟨rfl, by rw [upd_ne hne.symm]; exact hs⟩
   · by_cases hc : c < w.heap.size
     · unfold szOf
       rw [hheap c hc]
       by_cases e : b = c
       · subst e
         rw [hok.heap, if_pos rfl]
         simp [putCells]
       · rw [if_neg e]; exact Nat.le_refl _
     · unfold szOf
       rw [Array.getElem?_eq_none (by omega)]
       exact Nat.zero_le _
 refine ⟨hev, fun c x hx => ?_⟩
 by_cases e : c = b
 · subst e
   rw [upd_same] at hx
   cases hx
   refine ⟨putCells (Value.int .i64) 0 (sortI l).toArray cs, ?_, ?_, fun i hi => rfl, fun i hi => rfl, fun i j y hi hy => ?_⟩
   · rw [hheap c hbl, if_pos rfl]; rfl
   · show l.length * 1 ≤ _
     simpa [putCells] using hsz
   · have hi' : i < l.length := hi
     cases j with
     | succ j => simp [soBlk, cellsOf] at hy
     | zero =>
       have hy' : y = eI (gI (sortI l) i) := by simpa [soBlk, cellsOf] using hy.symm
       subst hy'
       refine ⟨.int .i64 (gI (sortI l) i), ?_, .int _ _⟩
       show (putCells (Value.int .i64) 0 (sortI l).toArray cs)[i * 1 + 0]? = _
       unfold putCells
       rw [Array.getElem?_mapIdx, Nat.mul_one, Nat.add_zero, Array.getElem?_eq_getElem (by omega), Option.map_some]
       rw [if_pos ⟨by omega, by simp [sortI_len]; omega⟩, Nat.sub_zero]
       have : (sortI l).toArray[i]! = gI (sortI l) i := by
         have hl := sortI_len l
         rw [getElem!_pos _ i (by simp [hl]; omega)]
         simp [gI, show i < (sortI l).length by omega]
       rw [this]
 · rw [upd_ne e] at hx
   obtain ⟨ds, hd⟩ := hS c x hx
   have hcl : c < w.heap.size := (Array.getElem?_eq_some_iff.1 hd.heap).1
   exact ⟨ds, hd.evo hev (by rw [hheap c hcl, if_neg (fun e' => e e'.symm)])⟩
theorem sort_S (b : Nat) (l : List Int) (hl : l.length < 4611686018427387904) (st : St) (hb : HasI st b l) :
   S P 81 [.own 1 b 0 l.length] st fun v st' => v = .tuple [] ∧ st' = upd st b (soBlk l) := by
 refine ⟨soLay.f5.enters rfl, fun cargs w hr hS => ?_⟩
 obtain ⟨hlen, hr⟩ := hr
 have hb' := hb
 obtain ⟨f, hst, hf⟩ := hb'
 obtain ⟨cs, hok⟩ := hS b _ hst
 have h0 : 0 < cargs.size := by rw [← hlen]; exact Nat.one_pos
 have ha := hr 0 _ cargs[0] rfl (Array.getElem?_eq_getElem h0)
 have hc : ∃ c, cargs = #[.slice (some ⟨b, 0, none⟩) l.length c] := by
   generalize hv : cargs[0] = v at ha
   cases ha with
   | own e b off n c hc hs =>
     refine ⟨c, Array.ext (by rw [← hlen]; rfl) fun i h1 h2 => ?_⟩
     have : i = 0 := by simp at h2; exact h2
     subst this; rw [hv]; rfl
 obtain ⟨c, rfl⟩ := hc
 have hH : Holds (Value.int .i64) w b 0 l.toArray := fun j hj => by
   have hj' : j < l.length := by simpa using hj
   obtain ⟨x, hx, hrep⟩ := hok.cell j 0 (eI (gI l j)) hj' (by show (cellsOf (f j))[0]? = _; rw [hf j hj']; rfl)
   have hxx : x = .int .i64 (gI l j) := by cases hrep; rfl
   subst hxx
   have hg : l.toArray[j]! = gI l j := by rw [getElem!_pos _ j (by simpa using hj')]; simp [gI, hj']
   refine ⟨?_, ?_⟩
   · unfold World.cell?
     rw [hok.heap, hg]
     have : cs[j * 1 + 0]? = some (.int .i64 (gI l j)) := hx
     simpa using this
   · unfold World.frozen?
     rw [hok.heap]
     simp
 have hbl : b < w.heap.size := (Array.getElem?_eq_some_iff.1 hok.heap).1
 refine (AnyM.slices_Sort_int soLay b 0 c l w hH hbl hl).mono ?_
 rintro e w' ⟨rfl, n, os, rfl⟩
 obtain ⟨h1, h2⟩ := sort_evo (n := n) (os := os) hb hS
 exact ⟨.tuple [], .tuple #[], _, ⟨rfl, rfl⟩, rfl, .tuple [] #[] rfl (fun j y c hy => by simp at hy), h2, h1⟩
theorem sort0_S (st : St) : S P 81 [.emp] st fun v st' => v = .tuple [] ∧ st' = st := by
 refine ⟨soLay.f5.enters rfl, fun cargs w hr hS => ?_⟩
 obtain ⟨hlen, hr⟩ := hr
 have h0 : 0 < cargs.size := by rw [← hlen]; exact Nat.one_pos
 have ha := hr 0 _ cargs[0] rfl (Array.getElem?_eq_getElem h0)
 have hc : ∃ A, cargs = #[.slice A 0 0] := by
   generalize hv : cargs[0] = v at ha
   cases ha with
   | emp A =>
     refine ⟨A, Array.ext (by rw [← hlen]; rfl) fun i h1 h2 => ?_⟩
     have : i = 0 := by simp at h2; exact h2
     subst this; rw [hv]; rfl
 obtain ⟨A, rfl⟩ := hc
 refine (AnyM.slices_Sort_int_none soLay A 0 w).mono ?_
 rintro e w' ⟨rfl, rfl⟩
 exact ⟨.tuple [], .tuple #[], _, ⟨rfl, rfl⟩, rfl, .tuple [] #[] rfl (fun j y c hy => by simp at hy), hS, Evo.refl _ _⟩
theorem sortOut_S {R : St → St → Prop} (hR : Beside R) {l : List Int} {s t : St} {sv : AV} (hl : l.length < 4611686018427387904) (h : ROut R 3 1 (fun k => eI (gI l k)) l.length s sv t) :
   S P 81 [sv] t fun v t' => v = .tuple [] ∧ ROut R 3 1 (fun k => eI (gI (sortI l) k)) l.length s sv t' := by
 obtain ⟨s0, hc, h⟩ := h
 rcases hc with ⟨h0, rfl, rfl⟩ | ⟨h0, bo, g, h1, rfl, rfl, h3⟩
 · exact (sort0_S t).mono fun v t' hv => ⟨hv.1, by rw [h0]; exact ⟨s0, Col.start _ _ _ _, by rw [hv.2]; exact h⟩⟩
 · have hby := hR.sup h bo _ (upd_same ..)
   refine (sort_S bo l hl t ⟨g, hby, h3⟩).mono fun v t' hv => ⟨hv.1, _, .inr ⟨h0, bo, fun k => eI (gI (sortI l) k), h1, rfl, rfl, fun k hk => rfl⟩, ?_⟩
   rw [hv.2]
   have := hR.write (y' := soBlk l) h (upd_same ..)
   rw [upd_twice] at this; exact this
end Go.Proofs.YtnekegdhpjplbaaGreat
namespace Go.Proofs.YtnekegdhpjplbaaGreat
open Go Go.Ab
attribute [local irreducible] upd del
structure MSt where
 used : List Bool
 es : Nat → List QE
 l : List Int
def takeF (k : Nat) (s : MSt) : Option MSt := match (takeR s.used (s.es k)).1 with
 | none => none
 | some i => some ⟨s.used.set i.toNat true, fupd s.es k (takeR s.used (s.es k)).2, s.l ++ [i]⟩
def takesF (k : Nat) : Nat → MSt → Option MSt
 | 0, s => some s
 | c + 1, s => (takesF k c s).bind (takeF k)
def partsF (parts : List Part) : Nat → MSt → Option MSt
 | 0, s => some s
 | k + 1, s => (partsF parts k s).bind (takesF k (parts.getD k default).count.toNat)
theorem takesF_none {k : Nat} {s : MSt} : ∀ {c j : Nat}, takesF k j s = none → j ≤ c → takesF k c s = none
 | 0, j, h, hj => by
   have : j = 0 := by omega
   subst this; exact h
 | c + 1, j, h, hj => by
   rcases Nat.lt_or_ge c j with h1 | h1
   · have : j = c + 1 := by omega
     subst this; exact h
   · unfold takesF; rw [takesF_none h h1]; rfl
theorem partsF_none {parts : List Part} {s : MSt} : ∀ {c j : Nat}, partsF parts j s = none → j ≤ c → partsF parts c s = none
 | 0, j, h, hj => by
   have : j = 0 := by omega
   subst this; exact h
 | c + 1, j, h, hj => by
   rcases Nat.lt_or_ge c j with h1 | h1
   · have : j = c + 1 := by omega
     subst this; exact h
   · unfold partsF; rw [partsF_none h h1]; rfl
structure MOk (us : List AUnit) (n : Nat) (s : MSt) : Prop where
 len : s.used.length = us.length
 rng : ∀ k, k < n → ∀ e ∈ s.es k, 0 ≤ e.2 ∧ e.2.toNat < us.length
 srt : ∀ k, k < n → (s.es k).Pairwise fun a b => prior b a = false
 mem : ∀ x ∈ s.l, 0 ≤ x ∧ x.toNat < us.length
theorem takeR_spec (used : List Bool) (l : List QE) : (∃ pre, l = pre ++ (match (takeR used l).1 with | none => [] | some i => (match l.find? (fun e => !used.getD e.2.toNat default) with | none => [] | some e => [e])) ++ (takeR used l).2) ∧
   (∀ i, (takeR used l).1 = some i → ∃ e ∈ l, e.2 = i ∧ used.getD i.toNat default = false) ∧ ((takeR used l).2.Sublist l) ∧ ((takeR used l).1 ≠ none → (takeR used l).2.length < l.length) := by
 induction l with
 | nil => exact ⟨⟨[], rfl⟩, (fun i h => by cases h), List.Sublist.refl _, fun h => absurd rfl h⟩
 | cons e l ih =>
   obtain ⟨⟨pre, h1⟩, h2, h3, h4⟩ := ih
   by_cases hu : used.getD e.2.toNat default = true
   · have ht : takeR used (e :: l) = takeR used l := by
       show (if used.getD e.2.toNat default = true then takeR used l else (some e.2, l)) = _
       rw [if_pos hu]
     rw [ht]
     refine ⟨⟨e :: pre, ?_⟩, fun i hi => ?_, h3.cons _, fun h => by have := h4 h; simp; omega⟩
     · rw [List.find?_cons_of_neg (by rw [hu]; simp)]
       rw [List.cons_append, List.cons_append, ← h1]
     · obtain ⟨x, hx, hx2⟩ := h2 i hi
       exact ⟨x, List.mem_cons_of_mem _ hx, hx2⟩
   · have ht : takeR used (e :: l) = (some e.2, l) := by
       show (if used.getD e.2.toNat default = true then takeR used l else (some e.2, l)) = _
       rw [if_neg hu]
     rw [ht]
     refine ⟨⟨[], ?_⟩, fun i hi => ?_, List.sublist_cons_self _ _, fun _ => by simp⟩
     · rw [List.find?_cons_of_pos (by rw [Bool.eq_false_iff.2 hu]; rfl)]; rfl
     · have : e.2 = i := by simpa using hi
       exact ⟨e, List.mem_cons_self .., this, by rw [← this]; exact Bool.eq_false_iff.2 hu⟩
theorem MOk.take {us : List AUnit} {n : Nat} {s s' : MSt} (h : MOk us n s) {k : Nat} (hk : k < n) (ht : takeF k s = some s') : MOk us n s' := by
 obtain ⟨_, t2, t3, _⟩ := takeR_spec s.used (s.es k)
 unfold takeF at ht
 split at ht
 · cases ht
 · rename_i i hi
   cases ht
   obtain ⟨e, he, rfl, hu⟩ := t2 i hi
   have hr := h.rng k hk e he
   refine ⟨by rw [List.length_set]; exact h.len, fun j hj x hx => ?_, fun j hj => ?_, fun x hx => ?_⟩
   · by_cases ej : j = k
     · subst ej; rw [show (MSt.es _ j) = _ from rfl] at hx; simp only [fupd_same] at hx; exact h.rng j hj x (t3.subset hx)
     · simp only [fupd_ne ej] at hx; exact h.rng j hj x hx
   · by_cases ej : j = k
     · subst ej; simp only [fupd_same]; exact (h.srt j hj).sublist t3
     · simp only [fupd_ne ej]; exact h.srt j hj
   · rcases List.mem_append.1 hx with hx | hx
     · exact h.mem x hx
     · rw [List.mem_singleton] at hx; rw [hx]; exact hr
theorem takeF_len {k : Nat} {s s' : MSt} (ht : takeF k s = some s') : s'.l.length = s.l.length + 1 := by
 unfold takeF at ht
 split at ht
 · cases ht
 · cases ht; simp
theorem takesF_len {k : Nat} {s : MSt} : ∀ {c : Nat} {s' : MSt}, takesF k c s = some s' → s'.l.length = s.l.length + c
 | 0, s', h => by cases h; rfl
 | c + 1, s', h => by
   unfold takesF at h
   obtain ⟨s1, h1, h2⟩ := Option.bind_eq_some_iff.1 h
   rw [takeF_len h2, takesF_len h1]; omega
theorem MOk.takes {us : List AUnit} {n : Nat} {s : MSt} (h : MOk us n s) {k : Nat} (hk : k < n) : ∀ {c : Nat} {s' : MSt}, takesF k c s = some s' → MOk us n s'
 | 0, s', e => by cases e; exact h
 | c + 1, s', e => by
   unfold takesF at e
   obtain ⟨s1, h1, h2⟩ := Option.bind_eq_some_iff.1 e
   exact (h.takes hk h1).take hk h2
structure BunOk (p : Promo) : Prop where
 n1 : 1 ≤ p.parts.length
 n8 : p.parts.length ≤ 8
 cnt : ∀ x ∈ p.parts, 1 ≤ x.count ∧ x.count ≤ 100
 amt : 0 ≤ p.amount ∧ p.amount ≤ 10000000000000
theorem BunOk.at {p : Promo} (h : BunOk p) {k : Nat} (hk : k < p.parts.length) : 1 ≤ (p.parts.getD k default).count ∧ (p.parts.getD k default).count ≤ 100 := h.cnt _ (getD_mem hk)
theorem MOk.parts {us : List AUnit} {p : Promo} {s : MSt} (h : MOk us p.parts.length s) : ∀ {k : Nat} {s' : MSt}, k ≤ p.parts.length → partsF p.parts k s = some s' → MOk us p.parts.length s'
 | 0, s', _, e => by cases e; exact h
 | k + 1, s', hk, e => by
   unfold partsF at e
   obtain ⟨s1, h1, h2⟩ := Option.bind_eq_some_iff.1 e
   exact (MOk.parts h (by omega) h1).takes (by omega) h2
theorem partsF_len {p : Promo} (hp : BunOk p) {s : MSt} : ∀ {k : Nat} {s' : MSt}, k ≤ p.parts.length → partsF p.parts k s = some s' → s'.l.length ≤ s.l.length + 100 * k
 | 0, s', _, e => by cases e; omega
 | k + 1, s', hk, e => by
   unfold partsF at e
   obtain ⟨s1, h1, h2⟩ := Option.bind_eq_some_iff.1 e
   have := partsF_len hp (by omega) h1
   have := takesF_len h2
   have := hp.at (show k < p.parts.length by omega)
   omega
def costL (us : List AUnit) (l : List Int) : Int := sumI (l.map fun i => (gU us i.toNat).net)
theorem costL_app (us : List AUnit) (l : List Int) (i : Int) : costL us (l ++ [i]) = costL us l + (gU us i.toNat).net := by
 unfold costL; rw [List.map_append, sumI_append]; simp [sumI]
theorem costL_bound {us : List AUnit} (hu : UnitsOk us) (l : List Int) (hl : ∀ x ∈ l, 0 ≤ x ∧ x.toNat < us.length) : 0 ≤ costL us l ∧ costL us l ≤ 10000000000000 * l.length := by
 unfold costL
 have c1 : ∀ (y : Int) (r : List Int), sumI (y :: r) = y + sumI r := fun y r => by
   have := sumI_append [y] r
   rw [List.singleton_append] at this
   rw [this]; simp [sumI]
 induction l with
 | nil => exact ⟨Int.le_refl _, by simp [sumI]⟩
 | cons x l ih =>
   have h1 := ih (fun y hy => hl y (List.mem_cons_of_mem _ hy))
   have h2 := hl x (List.mem_cons_self ..)
   have h3 : 0 ≤ (gU us x.toNat).net := hu.pos _ (getD_mem h2.2)
   have h4 : (gU us x.toNat).net ≤ 10000000000000 := hu.le (getD_mem h2.2)
   rw [List.map_cons, c1, List.length_cons]
   omega
theorem next_S (d : MkD) (hn : d.n = d.p.parts.length) (hp : BunOk d.p) (hu : UnitsOk d.us) (ms : MSt) (hl0 : ms.l = []) (hm : MOk d.us d.n ms) (s t : St) (h : MkR d ms.used ms.es s t) :
   S P 219 [.optr 18 d.bm 0 0] t fun v t' => match partsF d.p.parts d.n ms with
     | none => v = .tuple [.emp, eI 0, eB false] ∧ Sup s t'
     | some ms' => v = .tuple [eInts (sortI ms'.l), eI (costL d.us ms'.l - d.p.amount), eB (decide (costL d.us ms'.l > d.p.amount))] ∧ MkR d ms'.used ms'.es s t' := by
 have hB := fun (u : List Bool) (es : Nat → List QE) => besideM d u es
 refine S.post (post := fun v t' => match partsF d.p.parts d.n ms with
     | none => v = .tuple [.emp, eI 0, eB false] ∧ Sup s t'
     | some ms' => ∃ sv, v = .tuple [sv, eI (costL d.us ms'.l - d.p.amount), eB (decide (costL d.us ms'.l > d.p.amount))] ∧ ROut (MkR d ms'.used ms'.es) 3 1 (fun k => eI (gI (sortI ms'.l) k)) ms'.l.length s sv t') ?_
   (fun v t' hv => by
     cases hF : partsF d.p.parts d.n ms with
     | none => rw [hF] at hv; exact ⟨v, t', hv, Shift.refl _ _⟩
     | some ms' =>
       rw [hF] at hv
       obtain ⟨sv, rfl, hout⟩ := hv
       obtain ⟨t'', h1, h2⟩ := hout.shift (hB _ _)
       refine ⟨_, t'', ⟨rfl, h2⟩, Shift.tuple (Shift.cons (h1.trans ?_) (Shift.keep _ _)) rfl⟩
       have e : eInts (sortI ms'.l) = .arr 1 ms'.l.length (fun k => eI (gI (sortI ms'.l) k)) := by unfold eInts arrOf; rw [sortI_len]
       rw [e]; exact Shift.keep _ _)
 have hp8 := hp.n8
 refine S_of_X [8] good mixed Tryz.func219 (by rfl) rfl rfl rfl ?_
 obtain ⟨⟨fm, hmb, hm0⟩, _, _⟩ := h.facts
 conv => whnf
 refine ldV hmb rfl (by omega) hm0 ?_; conv => whnf
 refine ⟨[0, 5, 6, 15, 16, 17], fun m vs t' => ∃ (k : Nat) (ms' : MSt) (sv : AV), k ≤ d.n ∧ m = d.n - k ∧ vs = [.optr 18 d.bm 0 0, sv, eI (costL d.us ms'.l), arrOf 3 ePart d.p.parts, eI d.p.parts.length, eI k] ∧ partsF d.p.parts k ms = some ms' ∧ ROut (MkR d ms'.used ms'.es) 3 1 (fun j => eI (gI ms'.l j)) ms'.l.length s sv t', ?_, ?_⟩
 · conv => whnf
   refine ⟨_, 0, ms, .emp, Nat.zero_le _, rfl, ?_, rfl, ?_⟩
   · rw [hl0]; rfl
   · rw [hl0]; exact ROut.start h _ _ _
 · clear h hmb hm0
   rintro m vs t' ⟨k, ms1, sv, hk, rfl, rfl, hF, hout⟩
   have hok := MOk.parts (hn ▸ hm) (hn ▸ hk) hF
   have hlen := partsF_len hp (hn ▸ hk) hF
   rw [hl0, List.length_nil] at hlen
   have hcb := costL_bound hu ms1.l hok.mem
   conv => whnf
   cases h2 : decide ((k : Int) < (d.p.parts.length : Int))
   · have := of_decide_eq_false h2
     obtain rfl : k = d.n := by omega
     rw [hF]; conv => whnf
     refine call (sortOut_S (hB _ _) (by omega) hout) (fun v t2 hv => ?_)
     obtain ⟨rfl, hout2⟩ := hv
     obtain ⟨⟨fm, hmb, hm0⟩, _, _⟩ := (hout2.dropped (hB _ _)).facts
     conv => whnf
     refine ⟨[], [], [0, 1, 2, 3, 4, 5, 6, 7, 8, 9, 10, 11, 12, 13, 14, 15, 16, 17], by kernel_rfl, ?_⟩; conv => whnf
     refine ldV hmb rfl (by omega) hm0 ?_; conv => whnf
     refine ldV hmb rfl (by omega) hm0 ?_; conv => whnf
     have ha := hp.amt
     have w : IntKind.i64.wrap (costL d.us ms1.l - d.p.amount) = costL d.us ms1.l - d.p.amount := wrap64_of (by omega) (by omega)
     exact ⟨_, by rw [w]; rfl, hout2⟩
   · have hk' : k < d.p.parts.length := by have := of_decide_eq_true h2; omega
     have hcnt := hp.at hk'
     conv => whnf
     refine ⟨rfl, ⟨by omega, by omega⟩, ?_⟩; conv => whnf
     refine ⟨[0, 5, 6, 7, 15, 16, 17, 23, 24], fun m vs t' => ∃ (j : Nat) (ms' : MSt) (sv : AV), (j : Int) ≤ (d.p.parts.getD k default).count ∧ m = (d.p.parts.getD k default).count.toNat - j ∧ vs = [.optr 18 d.bm 0 0, sv, eI (costL d.us ms'.l), eI k, arrOf 3 ePart d.p.parts, eI d.p.parts.length, eI k, eI (d.p.parts.getD k default).count, eI j] ∧ takesF k j ms1 = some ms' ∧ ROut (MkR d ms'.used ms'.es) 3 1 (fun j => eI (gI ms'.l j)) ms'.l.length s sv t', ?_, ?_⟩
     · conv => whnf
       exact ⟨_, 0, ms1, sv, by omega, rfl, rfl, rfl, hout⟩
     · clear hout
       rintro m vs t' ⟨j, ms2, sv, hj, rfl, rfl, hF2, hout⟩
       have hok2 := hok.takes hk' hF2
       have hlen2 := takesF_len hF2
       have hcb2 := costL_bound hu ms2.l hok2.mem
       conv => whnf
       cases h3 : decide ((j : Int) < (d.p.parts.getD k default).count)
       · have := of_decide_eq_false h3
         have ej : j = (d.p.parts.getD k default).count.toNat := by omega
         conv => whnf
         refine ⟨rfl, ?_⟩; conv => whnf
         refine ⟨d.n - (k + 1), by omega, k + 1, ms2, sv, by omega, rfl, by rw [wrapN (by omega)], ?_, hout⟩
         unfold partsF; rw [hF, ← ej]; exact hF2
       · have hj' : (j : Int) < (d.p.parts.getD k default).count := of_decide_eq_true h3
         obtain ⟨s0, hcol, hMk⟩ := hout
         conv => whnf
         refine call (take_S d ms2.used ms2.es s0 t' hMk k (by omega) (fun e he => by rw [hok2.len]; exact hok2.rng k hk' e he) (hok2.srt k hk')) (fun v t2 hv => ?_)
         obtain ⟨rfl, hMk2⟩ := hv
         have hT : takesF k (j + 1) ms1 = takeF k ms2 := by
           show (takesF k j ms1).bind (takeF k) = _
           rw [hF2]; rfl
         have hmem := (takeR_spec ms2.used (ms2.es k)).2.1
         cases hR : (takeR ms2.used (ms2.es k)).1 with
         | none =>
           have h4 : takeF k ms2 = none := by unfold takeF; rw [hR]
           rw [h4] at hT
           have h5 := takesF_none (c := (d.p.parts.getD k default).count.toNat) hT (by omega)
           have h6 : partsF d.p.parts (k + 1) ms = none := by unfold partsF; rw [hF]; exact h5
           have h7 := partsF_none (c := d.n) h6 (by omega)
           rw [h7]; conv => whnf
           exact ⟨rfl, hcol.sup.trans ((hB _ _).sup hMk2)⟩
         | some i =>
           have h4 : takeF k ms2 = some ⟨ms2.used.set i.toNat true, fupd ms2.es k (takeR ms2.used (ms2.es k)).2, ms2.l ++ [i]⟩ := by unfold takeF; rw [hR]
           rw [hR] at hMk2
           obtain ⟨e, he, rfl, _⟩ := hmem i hR
           have hx := hok2.rng k hk' e he
           have hn0 : 0 ≤ (gU d.us e.2.toNat).net := hu.pos _ (getD_mem hx.2)
           have hn1 : (gU d.us e.2.toNat).net ≤ 10000000000000 := hu.le (getD_mem hx.2)
           conv => whnf
           refine ROut.app (q := r3) (hB _ _) rfl rfl rfl rfl rfl (f := fun j => eI (gI (ms2.l ++ [e.2]) j)) (by simp only [gI_last]; rfl) (by show (ms2.l.length + 1) * 8 ≤ 140737488355328; omega) ⟨s0, Col.congr hcol fun j hj => by rw [gI_append hj], hMk2⟩ (fun sv' t3 hout3 => ?_)
           obtain ⟨⟨fm, hmb, hm0⟩, _, _⟩ := (hout3.dropped (hB _ _)).facts
           conv => whnf
           refine ldV hmb rfl (by omega) hm0 ?_; conv => whnf
           refine ⟨rfl, ⟨by show 0 ≤ e.2; omega, by show e.2 < (d.us.length : Int); omega⟩, ?_⟩; conv => whnf
           refine ⟨rfl, ?_⟩; conv => whnf
           have w : IntKind.i64.wrap (costL d.us ms2.l + (gU d.us e.2.toNat).net) = costL d.us (ms2.l ++ [e.2]) := by rw [costL_app]; exact wrap64_of (by omega) (by omega)
           refine ⟨(d.p.parts.getD k default).count.toNat - (j + 1), by omega, j + 1, ⟨ms2.used.set e.2.toNat true, fupd ms2.es k (takeR ms2.used (ms2.es k)).2, ms2.l ++ [e.2]⟩, sv', by omega, rfl, ?_, by rw [hT]; exact h4, ?_⟩
           · rw [wrapN (by omega), ← w]
           · rw [List.length_append]; exact hout3
theorem sumI_cons (y : Int) (r : List Int) : sumI (y :: r) = y + sumI r := by
 have := sumI_append [y] r
 rw [List.singleton_append] at this
 rw [this]; simp [sumI]
theorem sumI_perm {a b : List Int} (h : a.Perm b) : sumI a = sumI b := by
 induction h with
 | nil => rfl
 | cons x _ ih => rw [sumI_cons, sumI_cons, ih]
 | swap x y l => rw [sumI_cons, sumI_cons, sumI_cons, sumI_cons]; omega
 | trans _ _ ih1 ih2 => exact ih1.trans ih2
theorem sumI_ub {l : List Int} {B : Int} (h : ∀ x ∈ l, x ≤ B) : sumI l ≤ l.length * B := by
 induction l with
 | nil => simp [sumI]
 | cons x l ih =>
   have h1 := ih (fun y hy => h y (List.mem_cons_of_mem _ hy))
   have h2 := h x (List.mem_cons_self ..)
   rw [sumI_cons, List.length_cons]
   have : ((l.length + 1 : Nat) : Int) * B = l.length * B + B := by
     rw [show ((l.length + 1 : Nat) : Int) = (l.length : Int) + 1 by omega, Int.add_mul, Int.one_mul]
   omega
theorem bumped_at {qs : List Int} {R : List QE} (hl : ∀ e ∈ R, e.2.toNat < qs.length) (hd : (R.map fun e => e.2.toNat).Nodup) (k : Nat) : gI (bumped qs R) k = gI qs k + if k ∈ R.map (fun e => e.2.toNat) then 1 else 0 := by
 unfold bumped
 induction R generalizing qs with
 | nil => simp
 | cons e R ih =>
   rw [List.map_cons, List.nodup_cons] at hd
   have he := hl e (List.mem_cons_self ..)
   simp only [List.foldl_cons]
   rw [ih (fun x hx => by rw [List.length_set]; exact hl x (List.mem_cons_of_mem _ hx)) hd.2]
   have hs : gI (qs.set e.2.toNat (gI qs e.2.toNat + 1)) k = if k = e.2.toNat then gI qs k + 1 else gI qs k := by
     unfold gI
     simp only [List.getD_eq_getElem?_getD, List.getElem?_set]
     by_cases h : k = e.2.toNat
     · subst h; simp [he]
     · rw [if_neg (fun e' => h e'.symm), if_neg h]
   rw [hs, List.map_cons]
   by_cases h : k = e.2.toNat
   · subst h
     rw [if_pos rfl, if_neg hd.1, if_pos (List.mem_cons_self ..)]; omega
   · rw [if_neg h]
     by_cases h2 : k ∈ R.map (fun e => e.2.toNat)
     · rw [if_pos h2, if_pos (List.mem_cons_of_mem _ h2)]
     · rw [if_neg h2, if_neg (fun h3 => by
         rcases List.mem_cons.1 h3 with h4 | h4
         · exact h h4
         · exact h2 h4)]
theorem top_pos {total : Int} {ws : List Int} (h : Weights total ws) (hS : 0 < sumI ws) {i : Nat} (hi : (i : Int) < shLeft total (sumI ws) ws ws.length) : 0 < ((shR total (sumI ws) ws).getD i default).1 := by
 have hlr := left_range h hS
 have hlen := shR_len total (sumI ws) ws
 have hil : i < (shR total (sumI ws) ws).length := by omega
 refine Int.lt_of_not_ge fun hneg => ?_
 have hsum : sumI ((shR total (sumI ws) ws).map (·.1)) = sumI ws * shLeft total (sumI ws) ws ws.length := by
   have hp := (shR_perm total (sumI ws) ws).map (·.1)
   rw [sumI_perm hp, List.map_map]
   have e := left_eq total (sumI ws) hS ws ws.length (Nat.le_refl _)
   rw [List.take_length] at e
   unfold shLeft
   rw [Int.mul_sub, Int.mul_comm (sumI ws) total]
   have : (List.range ws.length).map ((fun e : QE => e.1) ∘ shE total (sumI ws) ws) = (List.range ws.length).map fun k => total * gI ws k % sumI ws := rfl
   rw [this]; omega
 have hsorted := shR_sorted total (sumI ws) ws
 have hrest : ∀ e ∈ shR total (sumI ws) ws, 0 ≤ e.1 ∧ e.1 ≤ sumI ws - 1 := fun e he => by
   obtain ⟨k, hk, rfl⟩ := List.mem_map.1 ((shR_perm total (sumI ws) ws).subset he)
   have h1 := Int.emod_nonneg (total * gI ws k) (show sumI ws ≠ 0 by omega)
   have h2 := Int.emod_lt_of_pos (total * gI ws k) hS
   show 0 ≤ total * gI ws k % sumI ws ∧ total * gI ws k % sumI ws ≤ sumI ws - 1
   omega
 generalize hR : shR total (sumI ws) ws = R at *
 have hsplit : R = R.take i ++ R.drop i := (List.take_append_drop i R).symm
 have hcons : R.drop i = R.getD i default :: R.drop (i + 1) := by
   rw [List.getD_eq_getElem?_getD, List.getElem?_eq_getElem hil]
   exact List.drop_eq_getElem_cons hil
 have hdrop : sumI ((R.drop i).map (·.1)) ≤ 0 := by
   have : ∀ x ∈ (R.drop i).map (·.1), x ≤ 0 := fun x hx => by
     obtain ⟨e, he, rfl⟩ := List.mem_map.1 hx
     rw [hcons] at he
     rcases List.mem_cons.1 he with rfl | he
     · exact hneg
     · have hs := hsorted.sublist (List.drop_sublist i R)
       rw [hcons, List.pairwise_cons] at hs
       have := (prior_no _ _).1 (hs.1 e he)
       omega
   have := sumI_ub this
   omega
 have htake : sumI ((R.take i).map (·.1)) ≤ i * (sumI ws - 1) := by
   have h1 := sumI_ub (l := (R.take i).map (·.1)) (B := sumI ws - 1) (fun x hx => by
     obtain ⟨e, he, rfl⟩ := List.mem_map.1 hx
     exact (hrest e (List.take_subset _ _ he)).2)
   rw [List.length_map, List.length_take, Nat.min_eq_left (by omega)] at h1
   exact h1
 have hall : sumI (R.map (·.1)) = sumI ((R.take i).map (·.1)) + sumI ((R.drop i).map (·.1)) := by
   conv => lhs; rw [hsplit]
   rw [List.map_append, sumI_append]
 have h2 : sumI ws * ((i : Int) + 1) ≤ sumI ws * shLeft total (sumI ws) ws ws.length := Int.mul_le_mul_of_nonneg_left (by omega) (by omega)
 rw [Int.mul_add, Int.mul_one] at h2
 have h3 : (i : Int) * (sumI ws - 1) = sumI ws * i - i := by rw [Int.mul_sub, Int.mul_one, Int.mul_comm]
 omega
theorem largest_le {total : Int} {ws : List Int} (h : Weights total ws) (ht : total ≤ sumI ws) {k : Nat} (hk : k < ws.length) : gI (largestB total ws) k ≤ gI ws k := by
 have hw := h.w0 _ (getD_mem hk)
 unfold largestB
 split
 · rename_i h0
   have : gI (ws.map fun _ => (0 : Int)) k = 0 := getD_map (fun _ : Int => (0 : Int)) ws hk
   rw [this]; exact hw
 · rename_i h0
   have hS : 0 < sumI ws := by have := sumI_nonneg h.w0; omega
   have hmem : ∀ e ∈ (shR total (sumI ws) ws).take (shLeft total (sumI ws) ws ws.length).toNat, e.2.toNat < ((List.range ws.length).map (shQ total (sumI ws) ws)).length := fun e he => by
     rw [List.length_map, List.length_range]; exact (shR_mem (List.take_subset _ _ he)).2
   have hnd : (((shR total (sumI ws) ws).take (shLeft total (sumI ws) ws ws.length).toNat).map fun e => e.2.toNat).Nodup := by
     have h1 : ((shR total (sumI ws) ws).map fun e => e.2.toNat).Nodup := by
       have hp := (shR_perm total (sumI ws) ws).map fun e => e.2.toNat
       refine hp.nodup_iff.2 ?_
       rw [List.map_map]
       have : (List.range ws.length).map ((fun e : QE => e.2.toNat) ∘ shE total (sumI ws) ws) = (List.range ws.length).map id := by
         refine List.map_congr_left fun k _ => ?_
         show (k : Int).toNat = k
         omega
       rw [this, List.map_id]
       exact List.nodup_range
     exact h1.sublist ((List.take_sublist _ _).map _)
   rw [bumped_at hmem hnd, gI_map_range _ hk]
   have e1 := Int.mul_ediv_add_emod (total * gI ws k) (sumI ws)
   have e2 := Int.emod_nonneg (total * gI ws k) (show sumI ws ≠ 0 by omega)
   have e3 : total * gI ws k ≤ sumI ws * gI ws k := Int.mul_le_mul_of_nonneg_right ht hw
   have e4 : shQ total (sumI ws) ws k = total * gI ws k / sumI ws := rfl
   split
   · rename_i hin
     obtain ⟨e, he, hek⟩ := List.mem_map.1 hin
     obtain ⟨i, hi, rfl⟩ := mem_getD he
     rw [List.length_take] at hi
     have hle := left_range h hS
     have hpos := top_pos h hS (i := i) (by omega)
     have hti : ((shR total (sumI ws) ws).take (shLeft total (sumI ws) ws ws.length).toNat).getD i default = (shR total (sumI ws) ws).getD i default := by
       rw [List.getD_eq_getElem?_getD, List.getD_eq_getElem?_getD, List.getElem?_take_of_lt (by omega)]
     rw [hti] at hek
     have hm2 : (shR total (sumI ws) ws).getD i default ∈ shR total (sumI ws) ws := getD_mem (by omega)
     obtain ⟨j, hj, hje⟩ := List.mem_map.1 ((shR_perm total (sumI ws) ws).subset hm2)
     have hjk : j = k := by rw [← hek, ← hje]; show j = (j : Int).toNat; omega
     subst hjk
     rw [← hje] at hpos
     have hpos' : 0 < total * gI ws j % sumI ws := hpos
     have h5 : sumI ws * (total * gI ws j / sumI ws) < sumI ws * gI ws j := by omega
     have h6 : total * gI ws j / sumI ws < gI ws j := Int.lt_of_mul_lt_mul_left h5 (by omega)
     omega
   · have h5 : sumI ws * (total * gI ws k / sumI ws) ≤ sumI ws * gI ws k := by omega
     have h6 : total * gI ws k / sumI ws ≤ gI ws k := Int.le_of_mul_le_mul_left h5 hS
     omega
structure Places (us : List AUnit) (l : List Int) : Prop where
 rng : ∀ k, k < l.length → 0 ≤ gI l k ∧ (gI l k).toNat < us.length
 ne : ∀ i k, i < k → k < l.length → (gI l i).toNat ≠ (gI l k).toNat
theorem MineOk.places {us : List AUnit} {mine : List Int} (h : MineOk us mine) : Places us mine :=
 ⟨h.rng, fun i k hik hk => by
   have h1 := h.lt i k hik hk
   have h2 := (h.rng i (by omega)).1
   omega⟩
theorem takeOffP_net {us : List AUnit} {mine offs : List Int} (hm : Places us mine) : ∀ k, k ≤ mine.length → ∀ j, j < us.length → (∀ i, i < k → j ≠ (gI mine i).toNat) → gU (takeOff us mine offs k) j = gU us j
 | 0, _, j, hj, _ => rfl
 | k + 1, hk, j, hj, hne => by
   have ih := takeOffP_net (offs := offs) hm k (by omega) j hj (fun i hi => hne i (by omega))
   unfold takeOff less1
   rw [gU_set (by rw [takeOff_len]; exact (hm.rng k (by omega)).2), if_neg (hne k (by omega))]
   exact ih
theorem takeOffP_at {us : List AUnit} {mine offs : List Int} (hm : Places us mine) {k : Nat} (hk : k < mine.length) : gU (takeOff us mine offs k) (gI mine k).toNat = gU us (gI mine k).toNat :=
 takeOffP_net hm k (by omega) _ (hm.rng k hk).2 fun i hi => fun e => hm.ne i k hi hk e.symm
theorem takeOff_off {us : List AUnit} (hu : UnitsOk us) {mine offs : List Int} (hm : Places us mine) (hlen : offs.length ≤ mine.length) (h : ∀ k, k < offs.length → 0 ≤ gI offs k ∧ gI offs k ≤ (gU us (gI mine k).toNat).net) : ∀ k, k ≤ offs.length → Off us (takeOff us mine offs k) (sumI (offs.take k))
 | 0, _ => Off.refl hu
 | k + 1, hk => by
   have ih := takeOff_off hu hm hlen h k (by omega)
   have hr := hm.rng k (by omega)
   have hx := h k (by omega)
   rw [sumI_take (by omega)]
   refine ih.trans (Off.less1 (ih.ok hu) (by rw [takeOff_len]; exact hr.2) hx.1 ?_)
   rw [takeOffP_at hm (by omega)]; exact hx.2
def weighF (us : List AUnit) (l : List Int) : List Int := l.map fun i => (gU us i.toNat).net
def lessF (us : List AUnit) (l : List Int) (amount : Int) : List AUnit := takeOff us l (largestB amount (weighF us l)) l.length
theorem lessF_off {us : List AUnit} (hu : UnitsOk us) {l : List Int} (hm : Places us l) {amount : Int} (hW : Weights amount (weighF us l)) (ha : amount ≤ sumI (weighF us l)) : Off us (lessF us l amount) amount := by
 obtain ⟨a, b, c⟩ := largest_sum hW
 have hl : (weighF us l).length = l.length := by unfold weighF; rw [List.length_map]
 have := takeOff_off hu hm (offs := largestB amount (weighF us l)) (by omega) (fun k hk => ⟨c _ (getD_mem hk), by
   have h1 := largest_le hW ha (k := k) (by omega)
   have h2 : gI (weighF us l) k = (gU us (gI l k).toNat).net := getD_map (fun i : Int => (gU us i.toNat).net) l (by omega)
   rw [h2] at h1; exact h1⟩) (largestB amount (weighF us l)).length (Nat.le_refl _)
 rw [List.take_length, a] at this
 unfold lessF
 rw [show l.length = (largestB amount (weighF us l)).length by omega]
 exact this
theorem dless_S (bo : Nat) (us : List AUnit) (hu : UnitsOk us) (l : List Int) (hl : l.length ≤ 100000) (hm : Places us l) (amount : Int) (hW : Weights amount (weighF us l)) (st : St) (hb : HasU st bo us) :
   S P 220 [.own 3 bo 0 us.length, eInts l, eI amount] st fun v st' => v = .tuple [] ∧ ∃ f, st' = upd st bo ⟨114, 3, us.length, f⟩ ∧ ∀ k, k < us.length → f k = eUnit (gU (lessF us l amount) k) := by
 have hul := hu.len
 have hwl : (weighF us l).length = l.length := by unfold weighF; rw [List.length_map]
 obtain ⟨lg1, lg2, lg3⟩ := largest_sum hW
 refine S_of_X [] good mixed Tryz.func220 (by rfl) rfl rfl rfl ?_
 obtain ⟨fu, hst, hfu⟩ := hb
 conv => whnf
 refine ⟨[0, 1, 2, 6, 13, 14, 15], fun m vs st' => ∃ (i : Nat) (sv : AV), i ≤ l.length ∧ m = l.length - i ∧ vs = [.own 3 bo 0 us.length, eInts l, eI amount, sv, eInts l, eI l.length, eI i] ∧ Col 2 1 (fun k => eI (gI (weighF us l) k)) st i sv st', ?_, ?_⟩
 · conv => whnf
   exact ⟨_, 0, .emp, Nat.zero_le _, rfl, rfl, Col.start _ _ _ _⟩
 · rintro m vs st' ⟨i, sv, hi, rfl, rfl, hcol⟩
   have hst' := hcol.sup bo _ hst
   conv => whnf
   cases h : decide ((i : Int) < (l.length : Int))
   · have := of_decide_eq_false h
     obtain rfl : i = l.length := by omega
     conv => whnf
     have hsh : Shift [eI amount, sv] st' [eI amount, eInts (weighF us l)] st := by
       refine Shift.cons (Shift.keep _ _) ?_
       have e : eInts (weighF us l) = .arr 1 l.length (fun k => eI (gI (weighF us l) k)) := by unfold eInts arrOf; rw [hwl]
       rw [e]; exact hcol.shift
     refine call_shift hsh (call1 (largest_S amount (weighF us l) hW st) ?_)
     have hX : ∀ k, k < l.length → 0 ≤ gI (largestB amount (weighF us l)) k ∧ gI (largestB amount (weighF us l)) k ≤ 100000000000000 := fun k hk => by
       have h1 := lg3 _ (getD_mem (show k < (largestB amount (weighF us l)).length by omega))
       have h2 := sumI_mem_le lg3 (getD_mem (show k < (largestB amount (weighF us l)).length by omega))
       have := hW.t1
       exact ⟨h1, by show gI _ _ ≤ _; unfold gI; omega⟩
     have hlf : lessF us l amount = takeOff us l (largestB amount (weighF us l)) l.length := rfl
     have hlen : (largestB amount (weighF us l)).length = l.length := by omega
     rw [hlf]
     generalize largestB amount (weighF us l) = xs at *
     conv => whnf
     refine ⟨[0, 1, 34, 35, 36], fun m vs st' => ∃ (k : Nat) (f : Nat → AV), k ≤ l.length ∧ m = l.length - k ∧ vs = [.own 3 bo 0 us.length, eInts l, eInts xs, eI xs.length, eI k] ∧ st' = upd st bo ⟨114, 3, us.length, f⟩ ∧ ∀ j, j < us.length → f j = eUnit (gU (takeOff us l xs k) j), ?_, ?_⟩
     · conv => whnf
       exact ⟨_, 0, fu, Nat.zero_le _, rfl, rfl, (upd_self hst).symm, hfu⟩
     · rintro m vs st' ⟨k, f, hk, rfl, rfl, rfl, hf⟩
       conv => whnf
       cases h2 : decide ((k : Int) < (xs.length : Int))
       · have := of_decide_eq_false h2
         obtain rfl : k = l.length := by omega
         conv => whnf
         exact ⟨rfl, f, rfl, hf⟩
       · have hk' : k < l.length := by have := of_decide_eq_true h2; omega
         have hr := hm.rng k hk'
         have hat := takeOffP_at (offs := xs) hm hk'
         have hx := hX k hk'
         have hnet0 : 0 ≤ (gU us (gI l k).toNat).net := hu.pos _ (getD_mem hr.2)
         have hnet1 : (gU us (gI l k).toNat).net ≤ 10000000000000 := hu.le (getD_mem hr.2)
         have hfm : f (0 + (gI l k).toNat) = eUnit (gU (takeOff us l xs k) (gI l k).toNat) := by rw [Nat.zero_add]; exact hf _ hr.2
         conv => whnf
         refine ⟨rfl, ⟨by omega, by omega⟩, ?_⟩; conv => whnf
         refine ⟨rfl, ⟨by omega, by omega⟩, ?_⟩; conv => whnf
         refine ⟨rfl, ⟨by show 0 ≤ gI l k; exact hr.1, by show gI l k < (us.length : Int); have := hr.2; have := hr.1; omega⟩, ?_⟩; conv => whnf
         refine ldV (upd_same ..) rfl (by show 0 + (gI l k).toNat < _; have := hr.2; omega) hfm ?_; conv => whnf
         refine ⟨rfl, ⟨by show 0 ≤ gI l k; exact hr.1, by show gI l k < (us.length : Int); have := hr.2; have := hr.1; omega⟩, ?_⟩; conv => whnf
         refine stV (upd_same ..) rfl (by show 0 + (gI l k).toNat < _; have := hr.2; omega) hfm (by rfl) ?_; conv => whnf
         refine ⟨rfl, ?_⟩; conv => whnf
         refine ⟨l.length - (k + 1), by omega, k + 1, _, by omega, rfl, by rw [wrapN (by omega)], upd_twice, fun j hj => ?_⟩
         have w : IntKind.i64.wrap ((gU (takeOff us l xs k) (gI l k).toNat).net - gI xs k) = (gU (takeOff us l xs k) (gI l k).toNat).net - gI xs k := by
           rw [hat]; exact wrap64_of (by omega) (by omega)
         show _ = eUnit (gU (less1 (takeOff us l xs k) (gI l k).toNat (gI xs k)) j)
         unfold less1
         rw [gU_set (by rw [takeOff_len]; exact hr.2)]
         by_cases hj2 : j = (gI l k).toNat
         · rw [if_pos hj2, hj2, ← w]
           show fset f (0 + (gI l k).toNat) _ _ = _
           rw [Nat.zero_add, fset_same]; rfl
         · rw [if_neg hj2]
           show fset f (0 + (gI l k).toNat) _ _ = _
           rw [Nat.zero_add, fset_ne hj2]; exact hf j hj
   · have hi' : i < l.length := by have := of_decide_eq_true h; omega
     have hr := hm.rng i hi'
     have hg : gI (weighF us l) i = (gU us (gI l i).toNat).net := getD_map (fun i : Int => (gU us i.toNat).net) l hi'
     conv => whnf
     refine ⟨rfl, ⟨by omega, by omega⟩, ?_⟩; conv => whnf
     refine ⟨rfl, ⟨by show 0 ≤ gI l i; exact hr.1, by show gI l i < (us.length : Int); have := hr.2; have := hr.1; omega⟩, ?_⟩; conv => whnf
     refine ldV hst' rfl (by show 0 + (gI l i).toNat < _; have := hr.2; omega) (v := eUnit (gU us (gI l i).toNat)) (by show fu (0 + (gI l i).toNat) = _; rw [Nat.zero_add]; exact hfu _ hr.2) ?_; conv => whnf
     refine Col.app (q := r2) rfl rfl rfl rfl rfl (by simp only [hg]; rfl) (by show (i + 1) * 8 ≤ 140737488355328; omega) hcol (fun sv' st'' hcol' => ?_); conv => whnf
     refine ⟨rfl, ?_⟩; conv => whnf
     exact ⟨l.length - (i + 1), by omega, i + 1, sv', by omega, rfl, by rw [wrapN (by omega)], hcol'⟩
end Go.Proofs.YtnekegdhpjplbaaGreat
namespace Go.Proofs.YtnekegdhpjplbaaGreat
open Go Go.Ab
def tot : Nat → (Nat → List QE) → Nat
 | 0, _ => 0
 | n + 1, es => tot n es + (es n).length
theorem tot_congr {n : Nat} {es es' : Nat → List QE} (h : ∀ i, i < n → (es' i).length = (es i).length) : tot n es' = tot n es := by
 induction n with
 | zero => rfl
 | succ n ih => unfold tot; rw [ih fun i hi => h i (by omega), h n (by omega)]
theorem tot_fupd {n : Nat} {es : Nat → List QE} {k : Nat} (hk : k < n) (l : List QE) : tot n (fupd es k l) + (es k).length = tot n es + l.length := by
 induction n with
 | zero => omega
 | succ n ih =>
   unfold tot
   by_cases e : k = n
   · subst e
     rw [fupd_same, tot_congr (es := es) fun i hi => by rw [fupd_ne (by omega)]]; omega
   · have := ih (by omega)
     rw [fupd_ne (fun e' => e e'.symm)]; omega
theorem takeF_tot {n k : Nat} (hk : k < n) {s s' : MSt} (h : takeF k s = some s') : tot n s'.es + s'.l.length ≤ tot n s.es + s.l.length := by
 have h4 := (takeR_spec s.used (s.es k)).2.2.2
 unfold takeF at h
 split at h
 · cases h
 · rename_i i hi
   cases h
   have := h4 (by rw [hi]; simp)
   have := tot_fupd hk (takeR s.used (s.es k)).2 (es := s.es)
   simp only [List.length_append, List.length_cons, List.length_nil]
   omega
theorem takesF_tot {n k : Nat} (hk : k < n) {s : MSt} : ∀ {c : Nat} {s' : MSt}, takesF k c s = some s' → tot n s'.es + s'.l.length ≤ tot n s.es + s.l.length
 | 0, s', h => by cases h; exact Nat.le_refl _
 | c + 1, s', h => by
   unfold takesF at h
   obtain ⟨s1, h1, h2⟩ := Option.bind_eq_some_iff.1 h
   exact Nat.le_trans (takeF_tot hk h2) (takesF_tot hk h1)
theorem partsF_tot {n : Nat} {parts : List Part} {s : MSt} : ∀ {k : Nat} {s' : MSt}, k ≤ n → partsF parts k s = some s' → tot n s'.es + s'.l.length ≤ tot n s.es + s.l.length
 | 0, s', _, h => by cases h; exact Nat.le_refl _
 | k + 1, s', hk, h => by
   unfold partsF at h
   obtain ⟨s1, h1, h2⟩ := Option.bind_eq_some_iff.1 h
   exact Nat.le_trans (takesF_tot (by omega) h2) (partsF_tot (by omega) h1)
theorem partsF_some {p : Promo} (hp : BunOk p) {s s' : MSt} (h : partsF p.parts p.parts.length s = some s') : s.l.length < s'.l.length := by
 have hn := hp.n1
 obtain ⟨k, hk⟩ : ∃ k, p.parts.length = k + 1 := ⟨p.parts.length - 1, by omega⟩
 have hmono : ∀ {k : Nat} {s' : MSt}, partsF p.parts k s = some s' → s.l.length ≤ s'.l.length := fun {k} => by
   induction k with
   | zero => intro s' h; cases h; exact Nat.le_refl _
   | succ k ih =>
     intro s' h
     unfold partsF at h
     obtain ⟨s1, h1, h2⟩ := Option.bind_eq_some_iff.1 h
     have := ih h1
     have := takesF_len h2
     omega
 rw [hk] at h
 unfold partsF at h
 obtain ⟨s1, h1, h2⟩ := Option.bind_eq_some_iff.1 h
 have h3 := hmono h1
 have h4 := takesF_len h2
 have h5 := hp.at (show k < p.parts.length by omega)
 omega
structure MTrack (u0 : List Bool) (s : MSt) : Prop where
 free : ∀ x ∈ s.l, u0.getD x.toNat default = false
 nd : (s.l.map Int.toNat).Nodup
 used : ∀ j, s.used.getD j default = true ↔ (u0.getD j default = true ∨ j ∈ s.l.map Int.toNat)
theorem MTrack.start (u0 : List Bool) (es : Nat → List QE) : MTrack u0 ⟨u0, es, []⟩ := ⟨fun x hx => by simp at hx, List.nodup_nil, fun j => by simp⟩
theorem MTrack.take {us : List AUnit} {n : Nat} {u0 : List Bool} {s s' : MSt} (h : MTrack u0 s) (hok : MOk us n s) {k : Nat} (hk : k < n) (ht : takeF k s = some s') : MTrack u0 s' := by
 obtain ⟨_, t2, _, _⟩ := takeR_spec s.used (s.es k)
 unfold takeF at ht
 split at ht
 · cases ht
 · rename_i i hi
   cases ht
   obtain ⟨e, he, rfl, hu⟩ := t2 i hi
   have hr := hok.rng k hk e he
   have hfree : u0.getD e.2.toNat default = false ∧ e.2.toNat ∉ s.l.map Int.toNat := by
     have : ¬ (u0.getD e.2.toNat default = true ∨ e.2.toNat ∈ s.l.map Int.toNat) := fun h2 => by
       rw [(h.used _).2 h2] at hu; cases hu
     exact ⟨Bool.eq_false_iff.2 fun h2 => this (.inl h2), fun h2 => this (.inr h2)⟩
   refine ⟨fun x hx => ?_, ?_, fun j => ?_⟩
   · rcases List.mem_append.1 hx with hx | hx
     · exact h.free x hx
     · rw [List.mem_singleton] at hx; rw [hx]; exact hfree.1
   · show ((s.l ++ [e.2]).map Int.toNat).Nodup
     rw [List.map_append]
     refine List.nodup_append.2 ⟨h.nd, by simp, fun a ha b hb => ?_⟩
     simp only [List.map_cons, List.map_nil, List.mem_singleton] at hb
     subst hb
     exact fun e' => hfree.2 (e' ▸ ha)
   · show (s.used.set e.2.toNat true).getD j default = true ↔ (u0.getD j default = true ∨ j ∈ (s.l ++ [e.2]).map Int.toNat)
     rw [List.map_append, List.mem_append, List.map_cons, List.map_nil, List.mem_singleton]
     by_cases ej : j = e.2.toNat
     · subst ej
       have : e.2.toNat < s.used.length := by rw [hok.len]; exact hr.2
       simp [List.getD_eq_getElem?_getD, this]
     · have : (s.used.set e.2.toNat true).getD j default = s.used.getD j default := by
         simp only [List.getD_eq_getElem?_getD]
         rw [List.getElem?_set_ne (fun e' => ej e'.symm)]
       rw [this, h.used j]
       constructor
       · rintro (h1 | h1)
         · exact .inl h1
         · exact .inr (.inl h1)
       · rintro (h1 | h1 | h1)
         · exact .inl h1
         · exact .inr h1
         · exact absurd h1 ej
theorem MTrack.takes {us : List AUnit} {n : Nat} {u0 : List Bool} {s : MSt} (h : MTrack u0 s) (hok : MOk us n s) {k : Nat} (hk : k < n) : ∀ {c : Nat} {s' : MSt}, takesF k c s = some s' → MTrack u0 s'
 | 0, s', e => by cases e; exact h
 | c + 1, s', e => by
   unfold takesF at e
   obtain ⟨s1, h1, h2⟩ := Option.bind_eq_some_iff.1 e
   exact (MTrack.takes h hok hk h1).take (hok.takes hk h1) hk h2
theorem MTrack.parts {us : List AUnit} {p : Promo} {u0 : List Bool} {s : MSt} (h : MTrack u0 s) (hok : MOk us p.parts.length s) : ∀ {k : Nat} {s' : MSt}, k ≤ p.parts.length → partsF p.parts k s = some s' → MTrack u0 s'
 | 0, s', _, e => by cases e; exact h
 | k + 1, s', hk, e => by
   unfold partsF at e
   obtain ⟨s1, h1, h2⟩ := Option.bind_eq_some_iff.1 e
   exact (MTrack.parts h hok (by omega) h1).takes (MOk.parts hok (by omega) h1) (by omega) h2
theorem weigh_le {us : List AUnit} (hu : UnitsOk us) {l : List Int} (hm : Places us l) : sumI (weighF us l) ≤ sumI (netsOf us) := by
 have hl : (weighF us l).length = l.length := by unfold weighF; rw [List.length_map]
 have := takeOff_off hu hm (offs := weighF us l) (by omega) (fun k hk => by
   have h2 : gI (weighF us l) k = (gU us (gI l k).toNat).net := getD_map (fun i : Int => (gU us i.toNat).net) l (by omega)
   rw [h2]
   exact ⟨hu.at0 _, Int.le_refl _⟩) (weighF us l).length (Nat.le_refl _)
 rw [List.take_length] at this
 have h1 := this.sum
 have h2 := sumI_nonneg (this.ok hu).nets0
 omega
theorem places_of {us : List AUnit} {l : List Int} (hm : ∀ x ∈ l, 0 ≤ x ∧ x.toNat < us.length) (hd : (l.map Int.toNat).Nodup) : Places us l := by
 refine ⟨fun k hk => hm _ (getD_mem hk), fun i k hik hk e => ?_⟩
 have hi : (l.map Int.toNat)[i]'(by rw [List.length_map]; omega) = (l.map Int.toNat)[k]'(by rw [List.length_map]; omega) := by
   rw [List.getElem_map, List.getElem_map]
   have h1 : gI l i = l[i] := by simp [gI, show i < l.length by omega]
   have h2 : gI l k = l[k] := by simp [gI, hk]
   rw [← h1, ← h2]; exact e
 exact (List.pairwise_iff_getElem.1 hd i k _ _ hik) hi
structure BSt where
 out : List AUnit
 ms : MSt
 taken : List Int
 all : Int
def bunStep (p : Promo) (us : List AUnit) (b : BSt) : Option BSt := match partsF p.parts p.parts.length ⟨b.ms.used, b.ms.es, []⟩ with
 | none => none
 | some s => if costL us s.l > p.amount then some ⟨lessF b.out (sortI s.l) (costL us s.l - p.amount), s, b.taken ++ sortI s.l, b.all + (costL us s.l - p.amount)⟩ else none
def bunF (p : Promo) (us : List AUnit) : Nat → BSt → BSt
 | 0, b => b
 | m + 1, b => match bunStep p us b with
   | none => b
   | some b' => bunF p us m b'
def bunStart (us : List AUnit) (parts : List (List Int)) : BSt := ⟨us, ⟨List.replicate us.length false, fun k => dearB us (parts.getD k []), []⟩, [], 0⟩
def bundleB (p : Promo) (us : List AUnit) (parts : List (List Int)) : List AUnit × Int :=
 let b := bunF p us (tot p.parts.length (bunStart us parts).ms.es + 1) (bunStart us parts)
 (if p.closes = true then closeB b.out b.taken else b.out, b.all)
structure BOk (p : Promo) (us : List AUnit) (D : Nat) (b : BSt) : Prop where
 off : Off us b.out b.all
 same : ∀ j, b.ms.used.getD j default = false → gU b.out j = gU us j
 ok : MOk us p.parts.length b.ms
 mem : ∀ x ∈ b.taken, 0 ≤ x ∧ x.toNat < us.length
 len : b.taken.length + tot p.parts.length b.ms.es ≤ D
theorem sortI_mem {l : List Int} {x : Int} : x ∈ sortI l ↔ x ∈ l := (sortI_perm l).mem_iff
structure BStep (p : Promo) (us : List AUnit) (b : BSt) (s : MSt) : Prop where
 places : Places b.out (sortI s.l)
 weights : Weights (costL us s.l - p.amount) (weighF b.out (sortI s.l))
 le : costL us s.l - p.amount ≤ sumI (weighF b.out (sortI s.l))
theorem BOk.step {p : Promo} (hp : BunOk p) {us : List AUnit} (hu : UnitsOk us) {D : Nat} {b : BSt} (h : BOk p us D b) {s : MSt} (hs : partsF p.parts p.parts.length ⟨b.ms.used, b.ms.es, []⟩ = some s) (hc : costL us s.l > p.amount) :
   BStep p us b s ∧ BOk p us D ⟨lessF b.out (sortI s.l) (costL us s.l - p.amount), s, b.taken ++ sortI s.l, b.all + (costL us s.l - p.amount)⟩ ∧ tot p.parts.length s.es < tot p.parts.length b.ms.es := by
 have hok0 : MOk us p.parts.length ⟨b.ms.used, b.ms.es, []⟩ := ⟨h.ok.len, h.ok.rng, h.ok.srt, fun x hx => by simp at hx⟩
 have hok := MOk.parts hok0 (Nat.le_refl _) hs
 have htr := MTrack.parts (MTrack.start b.ms.used b.ms.es) hok0 (Nat.le_refl _) hs
 have hlen := partsF_len hp (Nat.le_refl _) hs
 have htot := partsF_tot (n := p.parts.length) (Nat.le_refl _) hs
 have hpos := partsF_some hp hs
 simp only [List.length_nil] at hlen htot hpos
 have hn8 := hp.n8
 have ha := hp.amt
 have hpl : Places b.out (sortI s.l) := places_of (fun x hx => by rw [h.off.len]; exact hok.mem x (sortI_mem.1 hx)) (((sortI_perm s.l).map Int.toNat).nodup_iff.2 htr.nd)
 have hsame : ∀ x ∈ s.l, (gU b.out x.toNat).net = (gU us x.toNat).net := fun x hx => by rw [h.same _ (htr.free x hx)]
 have hw : sumI (weighF b.out (sortI s.l)) = costL us s.l := by
   unfold weighF costL
   rw [sumI_perm ((sortI_perm s.l).map fun i => (gU b.out i.toNat).net)]
   congr 1
   exact List.map_congr_left fun x hx => hsame x hx
 have hou := h.off.ok hu
 have hwl := weigh_le hou hpl
 have hos := hou.sum
 have hcb := costL_bound hu s.l hok.mem
 have hW : Weights (costL us s.l - p.amount) (weighF b.out (sortI s.l)) := by
   refine ⟨by omega, by omega, ?_, fun w hw => ?_, by omega, fun e => by omega⟩
   · unfold weighF; rw [List.length_map, sortI_len]; omega
   · obtain ⟨i, hi, rfl⟩ := List.mem_map.1 hw; exact hou.at0 _
 have hL := lessF_off hou hpl hW (by omega)
 refine ⟨⟨hpl, hW, by omega⟩, ⟨h.off.trans hL, fun j hj => ?_, hok, fun x hx => ?_, ?_⟩, by omega⟩
 · have hnot : ¬ (b.ms.used.getD j default = true ∨ j ∈ s.l.map Int.toNat) := fun h2 => by
     rw [(htr.used j).2 h2] at hj; cases hj
   have hju : b.ms.used.getD j default = false := Bool.eq_false_iff.2 fun h2 => hnot (.inl h2)
   rw [← h.same j hju]
   by_cases hjl : j < b.out.length
   · exact takeOffP_net hpl _ (Nat.le_refl _) j hjl fun i hi e => hnot (.inr (by
       have : gI (sortI s.l) i ∈ s.l := sortI_mem.1 (getD_mem hi)
       rw [e]; exact List.mem_map_of_mem this))
   · have e1 : gU b.out j = default := by unfold gU; rw [List.getD_eq_getElem?_getD, List.getElem?_eq_none (by omega)]; rfl
     have e2 : gU (lessF b.out (sortI s.l) (costL us s.l - p.amount)) j = default := by
       unfold gU; rw [List.getD_eq_getElem?_getD, List.getElem?_eq_none (by rw [hL.len]; omega)]; rfl
     rw [e1]; exact e2
 · rcases List.mem_append.1 hx with hx | hx
   · exact h.mem x hx
   · exact hok.mem x (sortI_mem.1 hx)
 · rw [List.length_append, sortI_len]
   have := h.len
   show _ + tot p.parts.length s.es ≤ D
   omega
theorem bunF_ok {p : Promo} (hp : BunOk p) {us : List AUnit} (hu : UnitsOk us) {D : Nat} : ∀ (m : Nat) {b : BSt}, BOk p us D b → BOk p us D (bunF p us m b)
 | 0, b, h => h
 | m + 1, b, h => by
   unfold bunF bunStep
   cases hs : partsF p.parts p.parts.length ⟨b.ms.used, b.ms.es, []⟩ with
   | none => exact h
   | some s =>
     simp only
     by_cases hc : costL us s.l > p.amount
     · rw [if_pos hc]
       exact bunF_ok hp hu m (h.step hp hu hs hc).2.1
     · rw [if_neg hc]; exact h
theorem bunStart_ok {p : Promo} {us : List AUnit} (hu : UnitsOk us) {parts : List (List Int)} (hl : parts.length = p.parts.length) (hm : ∀ k, k < parts.length → MineOk us (parts.getD k [])) : BOk p us (tot p.parts.length (bunStart us parts).ms.es) (bunStart us parts) := by
 refine ⟨Off.refl hu, fun j hj => rfl, ⟨by simp [bunStart], fun k hk e he => dearB_mem (hm k (by omega)).rng he, fun k hk => sortQ_sorted _, fun x hx => by simp [bunStart] at hx⟩, fun x hx => by simp [bunStart] at hx, ?_⟩
 show 0 + _ ≤ _
 omega
theorem bundleB_off {p : Promo} (hp : BunOk p) {us : List AUnit} (hu : UnitsOk us) {parts : List (List Int)} (hl : parts.length = p.parts.length) (hm : ∀ k, k < parts.length → MineOk us (parts.getD k [])) : Off us (bundleB p us parts).1 (bundleB p us parts).2 := by
 have h := bunF_ok hp hu (tot p.parts.length (bunStart us parts).ms.es + 1) (bunStart_ok hu hl hm)
 unfold bundleB
 simp only
 split
 · have h2 := Off.closeB (h.off.ok hu) (bunF p us (tot p.parts.length (bunStart us parts).ms.es + 1) (bunStart us parts)).taken (fun x hx => by rw [h.off.len]; exact (h.mem x hx).2)
   have h3 := h.off.trans h2
   rw [Int.add_zero] at h3; exact h3
 · exact h.off
end Go.Proofs.YtnekegdhpjplbaaGreat
namespace Go.Proofs.YtnekegdhpjplbaaGreat
open Go Go.Ab
attribute [local irreducible] upd del
theorem llsIndex_S (l : List (List Int)) (hl : l.length ≤ 9223372036854775807) (g : FuncId) (cs : List AV) (p : (List Int) → Bool) (st : St)
   (hg : ∀ x, x ∈ l → S P g (eInts x :: cs) st fun v st' => v = .bool (p x) ∧ st' = st) :
   S P 273 [arrOf 1 eInts l, .fn (.func g) [] cs] st fun v st' => v = eI (idx p l) ∧ st' = st := by
 refine S_of_X [] good mixed Tryz.func273 (by rfl) rfl rfl rfl ?_; conv => whnf
 refine ⟨[0, 1, 7, 8], fun m vs st' => ∃ i : Nat, i ≤ l.length ∧ (∀ k, k < i → p (l.getD k default) = false) ∧ m = l.length - i ∧ vs = [arrOf 1 eInts l, .fn (.func g) [] cs, eI l.length, eI i] ∧ st' = st, ?_, ?_⟩
 · conv => whnf
   exact ⟨_, 0, Nat.zero_le _, fun k hk => absurd hk (by omega), rfl, rfl, rfl⟩
 · rintro m vs st' ⟨i, hi, hok, rfl, rfl, rfl⟩
   conv => whnf
   cases h : decide ((i : Int) < (l.length : Int))
   · have := of_decide_eq_false h
     conv => whnf
     refine ⟨?_, rfl⟩
     rw [idx_none fun k hk => hok k (by omega)]; rfl
   · have hi' : i < l.length := by have := of_decide_eq_true h; omega
     conv => whnf
     refine ⟨rfl, ⟨by omega, by omega⟩, ?_⟩; conv => whnf
     refine call1 (hg (l.getD (i : Int).toNat default) (by simp [hi'])) ?_
     rw [Int.toNat_natCast]
     cases hp : p (l.getD i default)
     · conv => whnf
       refine ⟨rfl, ?_⟩; conv => whnf
       refine ⟨l.length - (i + 1), by omega, i + 1, by omega, fun k hk => ?_, rfl, by rw [wrapN (by omega)], rfl⟩
       rcases Nat.lt_succ_iff_lt_or_eq.1 hk with h' | h'
       · exact hok k h'
       · rw [h']; exact hp
     · conv => whnf
       refine ⟨?_, rfl⟩
       rw [idx_at hi' hok hp]; rfl
theorem llsHas_S (l : List (List Int)) (hl : l.length ≤ 9223372036854775807) (g : FuncId) (cs : List AV) (p : (List Int) → Bool) (st : St)
   (hg : ∀ x, x ∈ l → S P g (eInts x :: cs) st fun v st' => v = .bool (p x) ∧ st' = st) :
   S P 259 [arrOf 1 eInts l, .fn (.func g) [] cs] st fun v st' => v = .bool (l.any p) ∧ st' = st := by
 refine S_of_X [] good mixed Tryz.func259 (by rfl) rfl rfl rfl ?_; conv => whnf
 refine call1 (llsIndex_S l hl g cs p st hg) ?_; conv => whnf
 refine ⟨?_, rfl⟩
 rw [← idx_any]; rfl
theorem notMay_S (us : List AUnit) (mine : List Int) (h : UnitsOk us) (hm : MineOk us mine) (st : St) : S P 260 [eInts mine, .fptr (eUnits us) 0] st fun v st' => v = .bool false ∧ st' = st := by
 refine S_of_X [] good mixed Tryz.func260 (by rfl) rfl rfl rfl ?_; conv => whnf
 refine call1 (cutMay_S us mine h hm st) ?_; conv => whnf
 exact ⟨rfl, rfl⟩
theorem dmay_S (p : Promo) (us : List AUnit) (parts : List (List Int)) (hfit : PromoFit p) (hright : promoC p = true) (hk : p.kind = 4) (hu : UnitsOk us) (hl : parts.length = p.parts.length) (hl8 : parts.length ≤ 8) (hm : ∀ x ∈ parts, MineOk us x) (st : St) :
   S P 218 [ePromo p, eUnits us, arrOf 1 eInts parts] st fun v st' => v = .bool true ∧ st' = st := by
 refine S_of_X [3, 4] good mixed Tryz.func218 (by rfl) rfl rfl rfl ?_; conv => whnf
 rw [hk]; conv => whnf
 refine call1 (promo_S p hfit st) ?_
 rw [hright]; conv => whnf
 rw [hl]
 have e : ((p.parts.length : Int) != (p.parts.length : Int)) = false := by simp
 rw [e]; conv => whnf
 refine call1 (llsHas_S parts (by omega) _ [.fptr (eUnits us) 0] (fun _ => false) st fun x hx => notMay_S us x hu (hm x hx) st) ?_; conv => whnf
 refine ⟨?_, rfl⟩
 have : (parts.any fun _ => false) = false := by simp
 rw [this]; rfl
theorem upd_none {s : St} {a b : Nat} {y : Blk} (h : a ≠ b) (hs : s a = none) : upd s b y a = none := by rw [upd_ne h]; exact hs
theorem tot_le {n B : Nat} {es : Nat → List QE} (h : ∀ i, i < n → (es i).length ≤ B) : tot n es ≤ n * B := by
 induction n with
 | zero => exact Nat.zero_le _
 | succ n ih =>
   unfold tot
   have h1 := ih fun i hi => h i (by omega)
   have h2 := h n (by omega)
   have h3 : (n + 1) * B = n * B + B := Nat.succ_mul n B
   omega
structure Lay (p : Promo) (us : List AUnit) (E : Nat → List QE) (base : St) (bm bu : Nat) (i : Nat) (q : Nat → Nat) (rv : AV) (t : St) : Prop where
 nbm : base bm = none
 nbu : base bu = none
 ne : bu ≠ bm
 has : ∃ f g, f 0 = .agg (cPromo p ++ [eUnits us, .own 1 bu 0 us.length, rv]) ∧ (∀ k, k < us.length → g k = eB false) ∧
   ROut (Qs i q E) 149 1 (fun k => .optr 1 (q k) 0 0) i (upd (upd base bm ⟨267, 18, 1, f⟩) bu ⟨4, 1, us.length, g⟩) rv t
theorem Lay.mk' {p : Promo} {us : List AUnit} {E : Nat → List QE} {base : St} {bm bu i : Nat} {q : Nat → Nat} {rv : AV} {t : St} (h : Lay p us E base bm bu i q rv t) (hi : 0 < i) :
   ∃ br, rv = .own 1 br 0 i ∧ MkR ⟨p, us, bm, bu, br, i, q⟩ (List.replicate us.length false) E base t := by
 obtain ⟨h1, h2, h3, f, g, hf, hg, s0, hc, hq⟩ := h
 rcases hc with ⟨e, _, _⟩ | ⟨_, br, y, hb, rfl, rfl, hy⟩
 · omega
 refine ⟨br, rfl, h1, _, ⟨f, rfl, by rw [List.length_replicate]; exact hf⟩, upd_none h3 h2, _, ⟨g, by rw [List.length_replicate], fun k hk => ?_⟩, hb, _, ⟨y, rfl, hy⟩, hq⟩
 rw [List.length_replicate] at hk
 rw [hg k hk]; simp [hk]
theorem close0_S (uv : AV) (st : St) : S P 213 [uv, eInts []] st fun v st' => v = .tuple [] ∧ st' = st := by
 refine S_of_X [] good mixed Tryz.func213 (by rfl) rfl rfl rfl ?_; conv => whnf
 refine once [0, 6, 7, 8] ?_; conv => whnf
 intro I; conv => whnf
 exact ⟨rfl, rfl⟩
theorem bundle_S (p : Promo) (us : List AUnit) (parts : List (List Int)) (hfit : PromoFit p) (hright : promoC p = true) (hk : p.kind = 4) (hp : BunOk p) (hu : UnitsOk us) (hl : parts.length = p.parts.length) (hm : ∀ x ∈ parts, MineOk us x) (st : St) :
   S P 169 [ePromo p, eUnits us, arrOf 1 eInts parts] st fun v st' => v = .tuple [eUnits (bundleB p us parts).1, eI (bundleB p us parts).2] ∧ st' = st := by
 refine S.post (post := fun v st' => ∃ sv, v = .tuple [sv, eI (bundleB p us parts).2] ∧ ResU st (bundleB p us parts).1 sv st') ?_
   (fun v st' ⟨sv, hv, hr⟩ => ⟨_, st, ⟨rfl, rfl⟩, by rw [hv]; exact Shift.tuple (Shift.cons hr.shift (Shift.keep _ _)) rfl⟩)
 have hul := hu.len
 have hn1 := hp.n1
 have hn8 := hp.n8
 have hme : ∀ k, k < parts.length → MineOk us (parts.getD k default) := fun k hk => hm _ (getD_mem hk)
 have hst0 := bunStart_ok hu hl (fun k hk => hme k hk)
 generalize hE : (fun k => dearB us (parts.getD k default)) = E at *
 have hEk : ∀ k, E k = dearB us (parts.getD k default) := fun k => by rw [← hE]
 have hbs : bunStart us parts = ⟨us, ⟨List.replicate us.length false, E, []⟩, [], 0⟩ := by rw [← hE]; rfl
 have hD : tot p.parts.length (bunStart us parts).ms.es ≤ 800000 := by
   have := tot_le (n := p.parts.length) (B := 100000) (es := (bunStart us parts).ms.es) (fun i hi => by
     rw [hbs]
     show (E i).length ≤ 100000
     rw [hEk, dearB_len]
     exact Nat.le_trans (hme i (by omega)).len hul)
   have h2 : p.parts.length * 100000 ≤ 8 * 100000 := Nat.mul_le_mul_right _ hn8
   omega
 have hB : bundleB p us parts = (if p.closes = true then closeB (bunF p us (tot p.parts.length (bunStart us parts).ms.es + 1) (bunStart us parts)).out (bunF p us (tot p.parts.length (bunStart us parts).ms.es + 1) (bunStart us parts)).taken else (bunF p us (tot p.parts.length (bunStart us parts).ms.es + 1) (bunStart us parts)).out, (bunF p us (tot p.parts.length (bunStart us parts).ms.es + 1) (bunStart us parts)).all) := rfl
 refine S_of_X [3] good mixed Tryz.func169 (by rfl) rfl rfl rfl ?_; conv => whnf
 refine call (cloneU_S us hul st) (fun sv base hcol => ?_)
 have hres := ResU.ofCol hcol
 conv => whnf
 refine call1 (dmay_S p us parts hfit hright hk hu hl (by omega) hm _) ?_; conv => whnf
 refine ⟨[4, 6], [0], [0, 1, 2, 3, 4, 5, 6, 7], by kernel_rfl, ?_⟩; conv => whnf
 refine ⟨_, fun s _ => ⟨rfl, rfl⟩, ?_⟩; conv => whnf
 refine mkO rfl rfl rfl (by show 1 * us.length ≤ _; omega) (by omega) (by rfl) (fun bu hbu => ?_); conv => whnf
 intro bm hbm
 have hne : bu ≠ bm := fun e => by subst e; rw [upd_same] at hbm; cases hbm
 rw [upd_ne hne.symm] at hbm; conv => whnf
 have hlay0 : Lay p us E base bm bu 0 (fun _ => 0) .emp (upd (upd base bu ⟨4, r4.size, us.length, fun _ => avOf r4.zero⟩) bm ⟨267, 18, 1, fun _ => .agg (cPromo p ++ [eUnits us, .own 1 bu 0 us.length, .emp])⟩) :=
   ⟨hbm, hbu, hne, fun _ => .agg (cPromo p ++ [eUnits us, .own 1 bu 0 us.length, .emp]), fun _ => eB false, rfl, fun _ _ => rfl, by
     rw [upd_comm hne.symm]
     exact ROut.start (Qs.nil (Sup.refl _)) _ _ _⟩
 refine ⟨[1, 3, 8, 9, 32, 33, 34], fun m vs t => ∃ (i : Nat) (q : Nat → Nat) (rv : AV), i ≤ parts.length ∧ m = parts.length - i ∧ vs = [eUnits us, .fptr (ePromo p) 0, sv, .optr 18 bm 0 0, arrOf 1 eInts parts, eI parts.length, eI i] ∧ Lay p us E base bm bu i q rv t, ?_, ?_⟩
 · conv => whnf
   exact ⟨_, 0, _, .emp, Nat.zero_le _, rfl, rfl, hlay0⟩
 · clear hlay0
   rintro m vs t ⟨i, q, rv, hi, rfl, rfl, hlay⟩
   conv => whnf
   cases h : decide ((i : Int) < (parts.length : Int))
   · have := of_decide_eq_false h
     have hin : i = p.parts.length := by omega
     subst hin
     obtain ⟨br, rfl, hMk⟩ := hlay.mk' (by omega)
     clear hlay
     conv => whnf
     refine ⟨[3, 8, 9, 12, 13], fun m vs t => ∃ (b : BSt) (svT : AV) (ba : St), BOk p us (tot p.parts.length (bunStart us parts).ms.es) b ∧ tot p.parts.length b.ms.es < m ∧ bunF p us m b = bunF p us (tot p.parts.length (bunStart us parts).ms.es + 1) (bunStart us parts) ∧ vs = [.fptr (ePromo p) 0, sv, .optr 18 bm 0 0, svT, eI b.all] ∧ ResU st b.out sv ba ∧ ROut (MkR ⟨p, us, bm, bu, br, p.parts.length, q⟩ b.ms.used b.ms.es) 3 1 (fun k => eI (gI b.taken k)) b.taken.length ba svT t, ?_, ?_⟩
     · conv => whnf
       refine ⟨_, bunStart us parts, .emp, base, hst0, Nat.lt_succ_self _, rfl, rfl, hres, ?_⟩
       rw [hbs]
       exact ROut.start hMk _ _ _
     · clear hMk hres
       rintro m vs t' ⟨b, svT, ba, hb, hlt, hF, rfl, hres, hout⟩
       obtain ⟨s0, hcol0, hMk⟩ := hout
       obtain ⟨m, rfl⟩ : ∃ n, m = n + 1 := ⟨m - 1, by omega⟩
       have hbl := hb.len
       -- the end: what is closed
       have fin : ∀ t2, Sup s0 t2 → bunStep p us b = none → (p.closes = true → ∃ v3 t3, (∀ K : KK, (∀ t3, ResU st (closeB b.out b.taken) sv t3 → K (.tuple []) t3) → xCall P 213 [sv, svT] t2 K) ∧ v3 = AV.emp ∧ t3 = t2) ∧ ResU st b.out sv t2 ∧ bundleB p us parts = (if p.closes = true then closeB b.out b.taken else b.out, b.all) := fun t2 hs2 hstep => by
         have hbf : bunF p us (m + 1) b = b := by unfold bunF; rw [hstep]
         rw [hbf] at hF
         refine ⟨fun hc => ⟨.emp, t2, fun K hK => ?_, rfl, rfl⟩, ?_, by rw [hB, ← hF]⟩
         · have hsh : Shift [svT] t2 [eInts b.taken] ba := (hs2.shift _).trans hcol0.shift
           rcases hres.2 with ⟨h5, h6⟩ | ⟨bo, hb0, rfl, hHas⟩
           · subst h6
             have hnil : b.taken = [] := by
               cases hbt : b.taken with
               | nil => rfl
               | cons x l =>
                 have := (hb.mem x (by rw [hbt]; exact List.mem_cons_self ..)).2
                 have h7 := hb.off.len
                 rw [h5, List.length_nil] at h7
                 omega
             rw [hnil] at hsh
             refine call_shift (args' := [.emp, eInts []]) (Shift.cons (Shift.keep _ _) hsh) (call (close0_S _ ba) (fun v t3 hv => ?_))
             obtain ⟨rfl, rfl⟩ := hv
             refine hK _ ?_
             rw [h5, hnil]
             exact ⟨hres.1, .inl ⟨rfl, rfl⟩⟩
           · refine call_shift (args' := [.own 3 bo 0 b.out.length, eInts b.taken]) (Shift.cons (Shift.keep _ _) hsh) (call (close_S bo b.out b.taken (fun x hx => by rw [hb.off.len]; exact hb.mem x hx) (by omega) ba hHas) (fun v t3 hv => ?_))
             obtain ⟨rfl, hH3, hfr⟩ := hv
             refine hK _ ⟨fun x y hx => ?_, .inr ⟨bo, hb0, by rw [closeB_len], hH3⟩⟩
             rw [hfr x (fun e => by subst e; rw [hb0] at hx; cases hx)]; exact hres.1 x y hx
         · have hsup : Sup ba t2 := hcol0.sup.trans hs2
           refine ⟨hres.1.trans hsup, ?_⟩
           rcases hres.2 with h3 | ⟨bo, h3, h4, f, h5, h6⟩
           · exact .inl h3
           · exact .inr ⟨bo, h3, h4, f, hsup bo _ h5, h6⟩
       have hok0 : MOk us p.parts.length ⟨b.ms.used, b.ms.es, []⟩ := ⟨hb.ok.len, hb.ok.rng, hb.ok.srt, fun x hx => by simp at hx⟩
       conv => whnf
       refine call (next_S ⟨p, us, bm, bu, br, p.parts.length, q⟩ rfl hp hu ⟨b.ms.used, b.ms.es, []⟩ rfl hok0 s0 t' hMk) (fun v t2 hv => ?_)
       simp only at hv
       cases hs : partsF p.parts p.parts.length ⟨b.ms.used, b.ms.es, []⟩ with
       | none =>
         rw [hs] at hv
         obtain ⟨rfl, hs2⟩ := hv
         obtain ⟨g1, g2, g3⟩ := fin t2 hs2 (by unfold bunStep; rw [hs])
         rw [g3]; conv => whnf
         cases hc : p.closes with
         | true =>
           obtain ⟨_, _, g4, _, _⟩ := g1 hc
           conv => whnf
           refine g4 _ (fun t3 h3 => ?_); conv => whnf
           exact ⟨_, rfl, h3⟩
         | false =>
           conv => whnf
           exact ⟨_, rfl, g2⟩
       | some s =>
         rw [hs] at hv
         obtain ⟨rfl, hMk2⟩ := hv
         have hBs := besideM ⟨p, us, bm, bu, br, p.parts.length, q⟩ s.used s.es
         by_cases hcost : costL us s.l > p.amount
         · obtain ⟨k1, k2, k3⟩ := hb.step hp hu hs hcost
           have hcost' : decide (costL us s.l > p.amount) = true := decide_eq_true hcost
           have hstep : bunF p us (m + 1) b = bunF p us m ⟨lessF b.out (sortI s.l) (costL us s.l - p.amount), s, b.taken ++ sortI s.l, b.all + (costL us s.l - p.amount)⟩ := by
             conv => lhs; unfold bunF bunStep
             rw [hs]; simp only; rw [if_pos hcost]
           rw [hcost']
           have hlen := partsF_len hp (Nat.le_refl _) hs
           have htot := partsF_tot (n := p.parts.length) (Nat.le_refl _) hs
           have hpos := partsF_some hp hs
           simp only [List.length_nil] at hlen htot hpos
           rcases hres.2 with ⟨h5, h6⟩ | ⟨bo, hb0, rfl, f, hstb, hf⟩
           · exfalso
             have := (k1.places.rng 0 (by rw [sortI_len]; omega)).2
             rw [h5, List.length_nil] at this
             omega
           have hou := hb.off.ok hu
           have hout2 : ROut (MkR ⟨p, us, bm, bu, br, p.parts.length, q⟩ s.used s.es) 3 1 (fun k => eI (gI b.taken k)) b.taken.length ba svT t2 := ⟨s0, hcol0, hMk2⟩
           conv => whnf
           refine call (dless_S bo b.out hou (sortI s.l) (by rw [sortI_len]; omega) k1.places _ k1.weights t2 ⟨f, hout2.sup hBs bo _ hstb, hf⟩) (fun v t3 hv => ?_)
           obtain ⟨rfl, f3, rfl, hf3⟩ := hv
           have hout3 := hout2.write hBs (y' := ⟨114, 3, b.out.length, f3⟩) hstb
           have hll : (lessF b.out (sortI s.l) (costL us s.l - p.amount)).length = b.out.length := by rw [k2.off.len, hb.off.len]
           conv => whnf
           refine ROut.apps (q := r3) (m := s.l.length) (n := b.taken.length) hBs rfl rfl rfl rfl (srcInts (sortI_len s.l) _) (f := fun k => eI (gI (b.taken ++ sortI s.l) k)) (fun i hi => ?_) (by show (b.taken.length + s.l.length) * 8 ≤ 140737488355328; omega) (hout3.congr fun k hk => by rw [gI_append hk]) (fun sv' t4 hout4 => ?_)
           · show eI (gI (sortI s.l) i) = eI (gI (b.taken ++ sortI s.l) (b.taken.length + i))
             unfold gI
             rw [List.getD_eq_getElem?_getD, List.getD_eq_getElem?_getD, List.getElem?_append_right (by omega), Nat.add_sub_cancel_left]
           have hX1 := hb.off.pos
           have hX3 := k2.off.sum
           have hX4 := sumI_nonneg (k2.off.ok hu).nets0
           have hX5 := hu.sum
           have hX6 := k1.weights.t0
           simp only at hX3 hX4
           conv => whnf
           refine ⟨rfl, ?_⟩; conv => whnf
           refine ⟨m, Nat.lt_succ_self _, ⟨lessF b.out (sortI s.l) (costL us s.l - p.amount), s, b.taken ++ sortI s.l, b.all + (costL us s.l - p.amount)⟩, sv', upd ba bo ⟨114, 3, b.out.length, f3⟩, k2, by show tot p.parts.length s.es < m; omega, by rw [← hstep]; exact hF, ?_, ?_, ?_⟩
           · have w : IntKind.i64.wrap (b.all + (costL us s.l - p.amount)) = b.all + (costL us s.l - p.amount) := wrap64_of (by omega) (by omega)
             show [AV.fptr (ePromo p) 0, AV.own 3 bo 0 b.out.length, AV.optr 18 bm 0 0, sv', eI (IntKind.i64.wrap (b.all + (costL us s.l - p.amount)))] = _
             rw [w]
           · exact ⟨hres.1.over hb0, .inr ⟨bo, hb0, by show AV.own 3 bo 0 b.out.length = _; rw [hll], f3, by rw [upd_same, hll], by rw [hll]; exact hf3⟩⟩
           · show ROut _ _ _ _ (b.taken ++ sortI s.l).length _ _ _
             rw [List.length_append, sortI_len]; exact hout4
         · have hcost' : decide (costL us s.l > p.amount) = false := decide_eq_false hcost
           obtain ⟨g1, g2, g3⟩ := fin t2 (hBs.sup hMk2) (by unfold bunStep; rw [hs]; simp only; rw [if_neg hcost])
           rw [g3, hcost']; conv => whnf
           cases hc : p.closes with
           | true =>
             obtain ⟨_, _, g4, _, _⟩ := g1 hc
             conv => whnf
             refine g4 _ (fun t3 h3 => ?_); conv => whnf
             exact ⟨_, rfl, h3⟩
           | false =>
             conv => whnf
             exact ⟨_, rfl, g2⟩
   · have hi' : i < parts.length := by have := of_decide_eq_true h; omega
     have hmi := hme i hi'
     have hml := hmi.len
     obtain ⟨l1, l2, l3, f, g, hf, hg, hout⟩ := hlay
     have hbmS : ∀ {n : Nat} {q : Nat → Nat} {E : Nat → List QE} {rv : AV} {fo : Nat → AV} {n' : Nat} {t : St}, ROut (Qs n q E) 149 1 fo n' (upd (upd base bm ⟨267, 18, 1, f⟩) bu ⟨4, 1, us.length, g⟩) rv t → t bm = some ⟨267, 18, 1, f⟩ := fun h =>
       h.sup (besideQs _ _ _) bm _ (by rw [upd_ne l3.symm, upd_same])
     -- what is behind the call and the append
     have after : ∀ (q' : Nat) (t2 : St), QSt t q' true (dearB us (parts.getD i default)) t2 → ROut (Qs (i + 1) (fupd q i q') E) 149 1 (fun k => .optr 1 (fupd q i q' k) 0 0) i (upd (upd base bm ⟨267, 18, 1, f⟩) bu ⟨4, 1, us.length, g⟩) rv t2 := fun q' t2 hq' => by
       obtain ⟨s0, hc, hqs⟩ := hout
       refine ⟨s0, Col.congr hc fun k hk => by rw [fupd_ne (by omega)], ?_⟩
       refine (hqs.add hq').congr (fun _ _ => rfl) fun k hk => ?_
       by_cases e : k = i
       · subst e; rw [fupd_same, hEk]
       · rw [fupd_ne e]
     conv => whnf
     refine ⟨rfl, ⟨by omega, by omega⟩, ?_⟩; conv => whnf
     refine ⟨[4, 7, 9, 12], [], [], .qui 0 (.qui 1 (.qui 2 (.qui 3 (.qui 5 (.qui 6 (.two 4 7 (.gen 7 (.qui 8 (.gen 9 (.qui 10 (.qui 11 (.gen 12 .done)))))) (.qui 4 (.qui 8 (.gen 9 (.qui 10 (.qui 11 (.gen 12 .done)))))))))))), by kernel_rfl, ?_⟩; conv => whnf
     have stored : ∀ (q' : Nat) (rv' : AV) (t4 : St), ROut (Qs (i + 1) (fupd q i q') E) 149 1 (fun k => .optr 1 (fupd q i q' k) 0 0) (i + 1) (upd (upd base bm ⟨267, 18, 1, f⟩) bu ⟨4, 1, us.length, g⟩) rv' t4 → Lay p us E base bm bu (i + 1) (fupd q i q') rv' (upd t4 bm ⟨267, 18, 1, fset f 0 (.agg (cPromo p ++ [eUnits us, .own 1 bu 0 us.length, rv']))⟩) := fun q' rv' t4 h4 => by
       refine ⟨l1, l2, l3, fset f 0 (.agg (cPromo p ++ [eUnits us, .own 1 bu 0 us.length, rv'])), g, fset_same .., hg, ?_⟩
       have h5 := h4.write (besideQs _ _ _) (b := bm) (y' := ⟨267, 18, 1, fset f 0 (.agg (cPromo p ++ [eUnits us, .own 1 bu 0 us.length, rv']))⟩) (by rw [upd_ne l3.symm, upd_same])
       rw [upd_comm l3, upd_twice] at h5
       exact h5
     have fin3 : ∀ (q' : Nat) (rv' : AV) (t5 : St), Lay p us E base bm bu (i + 1) (fupd q i q') rv' t5 → ∃ m', m' < parts.length - i ∧ ∃ (i_1 : Nat) (q : Nat → Nat) (rv : AV), i_1 ≤ parts.length ∧ m' = parts.length - i_1 ∧ [eUnits us, AV.fptr (ePromo p) 0, sv, AV.optr 18 bm 0 0, arrOf 1 eInts parts, eI parts.length, eI (IntKind.i64.wrap ((i : Int) + 1))] = [eUnits us, .fptr (ePromo p) 0, sv, .optr 18 bm 0 0, arrOf 1 eInts parts, eI parts.length, eI i_1] ∧ Lay p us E base bm bu i_1 q rv t5 :=
       fun q' rv' t5 h5 => ⟨parts.length - (i + 1), by omega, i + 1, _, rv', by omega, rfl, by rw [wrapN (by omega)], h5⟩
     rcases hout.head with rfl | ⟨br, rfl⟩ <;> conv => whnf
     all_goals constructor
     all_goals conv => whnf
     case inl.left | inr.left =>
       refine ldV (hbmS hout) rfl (by omega) hf ?_; conv => whnf
       refine call (dearest_S us (parts.getD i default) hul (by omega) hmi.rng t) (fun v t2 hv => ?_)
       obtain ⟨q', rfl, hq'⟩ := hv
       have hout2 := after q' t2 hq'
       conv => whnf
       refine ⟨_, ⟨rfl, rfl⟩, ?_⟩; conv => whnf
       refine ROut.app (q := r149) (besideQs _ _ _) rfl rfl rfl rfl rfl (by simp only [fupd_same]; rfl) (by show (i + 1) * 8 ≤ 140737488355328; omega) hout2 (fun rv' t4 hout4 => ?_)
       rcases hout4.head with e | ⟨br', e⟩ <;> subst e
       all_goals conv => whnf
       all_goals refine stV (hbmS hout4) rfl (by omega) hf (by rfl) ?_
       all_goals conv => whnf
       all_goals refine ⟨rfl, ?_⟩
       all_goals conv => whnf
       all_goals exact fin3 _ _ _ (stored q' _ _ hout4)
     case inl.right | inr.right =>
       refine call (dearest_S us (parts.getD i default) hul (by omega) hmi.rng t) (fun v t2 hv => ?_)
       obtain ⟨q', rfl, hq'⟩ := hv
       have hout2 := after q' t2 hq'
       conv => whnf
       refine ldV (hbmS hout2) rfl (by omega) hf ?_; conv => whnf
       refine ⟨_, ⟨rfl, rfl⟩, ?_⟩; conv => whnf
       refine ROut.app (q := r149) (besideQs _ _ _) rfl rfl rfl rfl rfl (by simp only [fupd_same]; rfl) (by show (i + 1) * 8 ≤ 140737488355328; omega) hout2 (fun rv' t4 hout4 => ?_)
       rcases hout4.head with e | ⟨br', e⟩ <;> subst e
       all_goals conv => whnf
       all_goals refine stV (hbmS hout4) rfl (by omega) hf (by rfl) ?_
       all_goals conv => whnf
       all_goals refine ⟨rfl, ?_⟩
       all_goals conv => whnf
       all_goals exact fin3 _ _ _ (stored q' _ _ hout4)
end Go.Proofs.YtnekegdhpjplbaaGreat
