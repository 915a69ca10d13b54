/- Part 23 of the proof: contracts of the functions that the law reaches -/
import Derived.Test.YtfajkgonocpddaaGreatQn22
set_option linter.unusedVariables false
namespace Go.Ab
open Go
theorem S.lend {P : Program} {f : FuncId} {args args' : List AV} {st : St} {q q' : AV → Prop} (h : S P f args' st0 fun v s => q v ∧ s = st0) (hs : Shift args st args' st0)
    (hq : ∀ v c rd sz, q v → Rep rd sz v c → ∃ v', q' v' ∧ ∀ rd' sz', Rep rd' sz' v' c) : S P f args st fun v s => q' v ∧ s = st :=
  ⟨h.1, fun cargs w hr hS => by
    obtain ⟨h1, h2, h3⟩ := hs w cargs hS hr
    refine (h.2 cargs w h2 h1).mono fun e w' ⟨v, c, s, ⟨hqv, hs0⟩, he, hrep, hS', hE⟩ => ?_
    subst hs0
    obtain ⟨v', hq', hsol⟩ := hq v c _ _ hqv hrep
    have hE2 : Evo st w st w' := ⟨hE.os, hE.tape, hE.output, hE.size, fun b hb hn => ⟨(hE.blk b hb rfl).1, hn⟩, hE.szm⟩
    refine ⟨v', c, st, ⟨hq', rfl⟩, he, hsol _ _, fun b x hb => ?_, hE2⟩
    obtain ⟨cs, hc⟩ := hS b x hb
    have heap := (hE.blk b (RelS.lt hS hb) rfl).1
    exact ⟨cs, by rw [heap]; exact hc.heap, hc.size, hc.len, hc.one, fun i j y hi hy => by
      obtain ⟨v, hv, hr⟩ := hc.cell i j y hi hy
      exact ⟨v, hv, hE2.rep hr⟩⟩⟩
def So (y y' : AV) : Prop := ∀ rd sz rd' sz' c, Rep rd sz y c → Rep rd' sz' y' c
inductive SoL : List AV → List AV → Prop
  | nil : SoL [] []
  | cons {a b : AV} {l m : List AV} (h : So a b) (k : SoL l m) : SoL (a :: l) (b :: m)
theorem SoL.len {l m : List AV} (h : SoL l m) : l.length = m.length := by
  induction h with
  | nil => rfl
  | cons _ _ ih => simp [ih]
theorem SoL.get {l m : List AV} (h : SoL l m) : ∀ (j : Nat) (y' : AV), m[j]? = some y' → ∃ y, l[j]? = some y ∧ So y y' := by
  induction h with
  | nil => intro j y' hj; simp at hj
  | cons h k ih =>
    intro j y' hj
    cases j with
    | zero => simp at hj; subst hj; exact ⟨_, rfl, h⟩
    | succ j => simp at hj; simpa using ih j y' hj
theorem So.int (k : IntKind) (n : Int) : So (.int k n) (.int k n) := fun _ _ _ _ c h => by cases h; exact .int _ _
theorem So.bool (b : Bool) : So (.bool b) (.bool b) := fun _ _ _ _ c h => by cases h; exact .bool _
theorem So.str (b : ByteArray) : So (.str b) (.str b) := fun _ _ _ _ c h => by cases h; exact .str _
theorem So.junk (y : AV) : So y .junk := fun _ _ _ _ c _ => .junk c
def noA (n : Nat) : AV := .arr 0 n fun _ => .agg []
theorem So.arr (e n : Nat) (f : Nat → AV) : So (.arr e n f) (noA n) := fun _ _ _ _ c h => by
  cases h with
  | arr e n f A c g hc hA hl ho hr hg =>
    exact .arr _ _ _ A c (fun _ _ => undef) hc hA (fun i hi => rfl) (fun i hi => rfl) (fun a ha i j hi hj => absurd hj (by omega)) (fun i j y hi hy => by simp [cellsOf] at hy)
theorem So.agg {l m : List AV} (h : SoL l m) : So (.agg l) (.agg m) := fun _ _ _ _ c hr => by
  cases hr with
  | agg cs vs hl hg =>
    refine .agg _ _ (by rw [← h.len]; exact hl) fun j y c hy hc => ?_
    obtain ⟨y0, h1, h2⟩ := h.get j y hy
    exact h2 _ _ _ _ _ (hg j y0 c h1 hc)
theorem So.tuple {l m : List AV} (h : SoL l m) : So (.tuple l) (.tuple m) := fun _ _ _ _ c hr => by
  cases hr with
  | tuple cs vs hl hg =>
    refine .tuple _ _ (by rw [← h.len]; exact hl) fun j y c hy hc => ?_
    obtain ⟨y0, h1, h2⟩ := h.get j y hy
    exact h2 _ _ _ _ _ (hg j y0 c h1 hc)
theorem S.lends {P : Program} {f : FuncId} {args args' : List AV} {st : St} {q q' : AV → Prop} (h : S P f args' st0 fun v s => q v ∧ s = st0) (hs : Shift args st args' st0)
    (hq : ∀ v, q v → ∃ v', q' v' ∧ So v v') : S P f args st fun v s => q' v ∧ s = st :=
  S.lend h hs fun v c rd sz hv hr => by
    obtain ⟨v', h1, h2⟩ := hq v hv
    exact ⟨v', h1, fun rd' sz' => h2 _ _ _ _ _ hr⟩
theorem sup_st0 (st : St) : Sup st0 st := fun b x h => by cases h
def Le (y y' : AV) : Prop := ∀ rd sz c, Rep rd sz y c → Rep rd sz y' c
inductive LeL : List AV → List AV → Prop
  | nil : LeL [] []
  | cons {a b : AV} {l m : List AV} (h : Le a b) (k : LeL l m) : LeL (a :: l) (b :: m)
theorem Le.refl (y : AV) : Le y y := fun _ _ _ h => h
theorem LeL.refl : ∀ l : List AV, LeL l l
  | [] => .nil
  | a :: l => .cons (Le.refl a) (LeL.refl l)
theorem LeL.len {l m : List AV} (h : LeL l m) : l.length = m.length := by
  induction h with
  | nil => rfl
  | cons _ _ ih => simp [ih]
theorem LeL.get {l m : List AV} (h : LeL l m) : ∀ (j : Nat) (y' : AV), m[j]? = some y' → ∃ y, l[j]? = some y ∧ Le y y' := by
  induction h with
  | nil => intro j y' hj; simp at hj
  | cons h k ih =>
    intro j y' hj
    cases j with
    | zero => simp at hj; subst hj; exact ⟨_, rfl, h⟩
    | succ j => simp at hj; simpa using ih j y' hj
theorem Le.emp (e : Nat) (f : Nat → AV) : Le .emp (.arr e 0 f) := fun rd sz c h => emp_rep e f h
theorem Le.agg {l m : List AV} (h : LeL l m) : Le (.agg l) (.agg m) := fun rd sz c hr => by
  cases hr with
  | agg cs vs hl hg =>
    refine .agg _ _ (by rw [← h.len]; exact hl) fun j y c hy hc => ?_
    obtain ⟨y0, h1, h2⟩ := h.get j y hy
    exact h2 _ _ _ (hg j y0 c h1 hc)
theorem Le.arr {e n : Nat} {f g : Nat → AV} (h : ∀ i, i < n → LeL (cellsOf (f i)) (cellsOf (g i)) ∧ (cellsOf (g i)).all AV.one = true) : Le (.arr e n f) (.arr e n g) := fun rd sz c hr => by
  cases hr with
  | arr e n f A c g' hc hA hl ho hrd hg =>
    refine .arr _ _ _ A c g' hc hA (fun i hi => by rw [← (h i hi).1.len]; exact hl i hi) (fun i hi => (h i hi).2) hrd fun i j y hi hy => ?_
    obtain ⟨y0, h1, h2⟩ := (h i hi).1.get j y hy
    exact h2 _ _ _ (hg i j y0 hi h1)
theorem Le.arr1 {e : Nat} {f g : Nat → AV} (h : LeL (cellsOf (f 0)) (cellsOf (g 0))) (h1 : (cellsOf (g 0)).all AV.one = true) : Le (.arr e 1 f) (.arr e 1 g) := Le.arr fun i hi => by
  obtain rfl : i = 0 := by omega
  exact ⟨h, h1⟩
theorem Le.shift {v v' : AV} (h : Le v v') (st : St) : Shift [v] st [v'] st := Shift.one fun w c hS hr => ⟨hS, Evo.refl _ _, h _ _ _ hr⟩
end Go.Ab
set_option maxRecDepth 100000
set_option linter.unusedSimpArgs false
namespace Go.Proofs.YtfajkgonocpddaaGreat
open Go Go.Ab
attribute [local irreducible] upd del
theorem find_at {α : Type} [Inhabited α] {l : List α} {p : α → Bool} {i : Nat} (hi : i < l.length) (h : p (l.getD i default) = true) (hno : ∀ j, j < i → p (l.getD j default) = false) : l.find? p = some (l.getD i default) := by
  have g : ∀ j (hj : j < l.length), l.getD j default = l[j] := fun j hj => by rw [List.getD_eq_getElem?_getD, List.getElem?_eq_getElem hj]; rfl
  rw [List.find?_eq_some_iff_getElem]
  refine ⟨h, i, hi, (g i hi).symm, fun j hj => ?_⟩
  have := hno j hj
  rw [g j (by omega)] at this
  rw [this]; rfl
theorem find_no {α : Type} [Inhabited α] {l : List α} {p : α → Bool} (hno : ∀ j, j < l.length → p (l.getD j default) = false) : l.find? p = none := by
  rw [List.find?_eq_none]
  intro x hx
  obtain ⟨j, hj, rfl⟩ := mem_getD hx
  rw [hno j hj]; simp
theorem ruleRate_S (z : Zone) (c : Str) (hl : z.rates.length ≤ 100000) (st : St) : S P 74 [eZone z, eS c] st fun v st' => v = eI (rateF z c) ∧ st' = st := by
  refine S_of_X [2, 6] good mixed Tryz.func74 (by rfl) rfl rfl rfl ?_; conv => whnf
  refine lp z.rates.length [1, 2, 8, 9, 10] (fun i vs t => (∀ j, j < i → ((z.rates.getD j default).cat.toList == c.toList) = false) ∧ vs = [eS c, .fptr (eZone z) 0, arrOf 2 eCatRate z.rates, eI z.rates.length, eI i] ∧ t = st) ?_ ?_
  · conv => whnf
    exact ⟨fun j hj => absurd hj (by omega), rfl, rfl⟩
  · rintro i vs t hi ⟨hno, rfl, rfl⟩
    conv => whnf
    cases h1 : decide ((i : Int) < (z.rates.length : Int))
    · obtain rfl := stop_at h1 hi
      have hf : rateF z c = z.rest := by unfold rateF; rw [find_no hno]
      rw [hf]; conv => whnf
      exact ⟨rfl, rfl⟩
    · have hi' := go_on h1
      conv => whnf
      refine ⟨rfl, ⟨by omega, by omega⟩, ?_⟩; conv => whnf
      refine fork (fun h2 => ?_) (fun h2 => ?_) <;> rw [h2]
      · have hf : rateF z c = (z.rates.getD (i : Int).toNat default).rate := by unfold rateF; rw [find_at (p := fun x : CatRate => x.cat.toList == c.toList) hi' h2 hno]; rfl
        rw [hf]; conv => whnf
        exact ⟨rfl, rfl⟩
      · conv => whnf
        refine ⟨rfl, ?_⟩; conv => whnf
        exact nx hi' ⟨lt_next hno h2, by rw [wrapN (by omega)], rfl⟩
theorem cloneRates_S (l : List CatRate) (hl : l.length ≤ 100000) (st : St) : S P 162 [arrOf 2 eCatRate l] st fun v st' => v = arrOf 2 eCatRate l ∧ st' = st := by
  refine S_colL (ty := 125) ?_
  refine S_of_X [] good mixed Tryz.func162 (by rfl) rfl rfl rfl ?_
  cases l with
  | nil =>
    conv => whnf
    refine ⟨?_, ?_⟩
    · conv => whnf
      exact Col.start _ _ _ _
    · conv => whnf
      refine apE rfl rfl rfl rfl rfl (by show 0 * 24 ≤ _; omega) (fun _ => ?_) (fun h => absurd h (by show ¬ 0 < 0; omega)); conv => whnf
      exact Col.start _ _ _ _
  | cons u us =>
    conv => whnf
    refine Col.apps (n := 0) (m := us.length + 1) (q := r125) (f := fun k => eCatRate ((u :: us).getD k default)) rfl rfl rfl rfl rfl (fun i hi => by rw [Nat.zero_add]) (by show (0 + (us.length + 1)) * 24 ≤ 140737488355328; simp only [List.length_cons] at hl; omega) (Col.start _ _ _ _) (fun sv' st'' hc' => ?_); conv => whnf
    rw [Nat.zero_add] at hc'
    exact hc'
theorem cloneZone_S (z : Zone) (hl : z.rates.length ≤ 100000) (st : St) : S P 114 [eZone z] st fun v st' => v = eZone z ∧ st' = st := by
  have hc := fun s => cloneRates_S z.rates hl s
  refine S_sup ?_
  refine S_of_X [] good mixed Tryz.func114 (by rfl) rfl rfl rfl ?_; conv => whnf
  intro b1 h1; conv => whnf
  intro b2 h2
  have h12 : b1 ≠ b2 := fun e => by subst e; rw [upd_same] at h2; cases h2
  conv => whnf
  refine ldV (by rw [upd_ne h12]; exact upd_same ..) rfl (by omega) rfl ?_; conv => whnf
  refine call1 (hc _) ?_; conv => whnf
  refine stV (by rw [upd_ne h12]; exact upd_same ..) rfl (by omega) rfl (by rfl) ?_; conv => whnf
  refine ldV (upd_same ..) rfl (by omega) (fset_same ..) ?_; conv => whnf
  refine stV (by rw [upd_ne h12.symm]; exact upd_same ..) rfl (by omega) rfl (by rfl) ?_; conv => whnf
  refine ldV (upd_same ..) rfl (by omega) (fset_same ..) ?_; conv => whnf
  have hn2 : st b2 = none := by rw [upd_ne h12.symm] at h2; exact h2
  exact ⟨rfl, ((((Sup.refl st).upd h1).upd h2).over h1).over hn2⟩
def zone0 : Zone := ⟨⟨#[]⟩, [], 0, 0⟩
theorem ruleZone_S (t : Tax) (s : Str) (hl : t.zones.length ≤ 100000) (hr : ∀ z ∈ t.zones, z.rates.length ≤ 100000) (st : St) :
    S P 73 [eTax t, eS s] st fun v st' => v = .tuple [eZone ((zoneF t.zones s).getD zone0), .bool (zoneF t.zones s).isSome] ∧ st' = st := by
  refine S.post (post := fun v s' => Sup st s' ∧ ((∃ z, zoneF t.zones s = some z ∧ v = .tuple [eZone z, .bool true]) ∨ (zoneF t.zones s = none ∧ v = .tuple [.agg [eS ⟨#[]⟩, .emp, eI 0, eI 0], .bool false]))) ?_ (fun v s' ⟨hs, h⟩ => ⟨_, st, ⟨rfl, rfl⟩, by
    rcases h with ⟨z, h1, rfl⟩ | ⟨h1, rfl⟩
    · rw [h1]; exact hs.shift _
    · rw [h1]
      exact (Shift.tuple (Shift.cons (Le.shift (Le.agg (LeL.cons (Le.refl _) (LeL.cons (Le.emp _ _) (LeL.refl _)))) _) (Shift.keep _ _)) rfl).trans (hs.shift _)⟩)
  refine S_of_X [2, 7] good mixed Tryz.func73 (by rfl) rfl rfl rfl ?_; conv => whnf
  intro b4 hb4; conv => whnf
  refine lp t.zones.length [1, 4, 9, 10, 11] (fun i vs u => (∀ j, j < i → ((t.zones.getD j default).name.toList == s.toList) = false) ∧ vs = [eS s, .optr 4 b4 0 0, arrOf 4 eZone t.zones, eI t.zones.length, eI i] ∧ u = upd st b4 ⟨78, 4, 1, fun _ => avOf r78.zero⟩) ?_ ?_
  · conv => whnf
    exact ⟨fun j hj => absurd hj (by omega), rfl, rfl⟩
  · rintro i vs u hi ⟨hno, rfl, rfl⟩
    conv => whnf
    cases h1 : decide ((i : Int) < (t.zones.length : Int))
    · obtain rfl := stop_at h1 hi
      have hf : zoneF t.zones s = none := find_no hno
      conv => whnf
      refine stV (upd_same ..) rfl (by omega) rfl (by rfl) ?_; conv => whnf
      refine ldV (upd_same ..) rfl (by omega) (fset_same ..) ?_; conv => whnf
      exact ⟨((Sup.refl st).upd hb4).over hb4, .inr ⟨hf, rfl⟩⟩
    · have hi' := go_on h1
      conv => whnf
      refine ⟨rfl, ⟨by omega, by omega⟩, ?_⟩; conv => whnf
      refine fork (fun h2 => ?_) (fun h2 => ?_) <;> rw [h2]
      · have hf : zoneF t.zones s = some (t.zones.getD (i : Int).toNat default) := find_at (p := fun z : Zone => z.name.toList == s.toList) hi' h2 hno
        have hc := fun u => cloneZone_S (t.zones.getD (i : Int).toNat default) (hr _ (getD_mem hi')) u
        generalize t.zones.getD (i : Int).toNat default = z at hf hc
        conv => whnf
        refine call1 (hc _) ?_; conv => whnf
        refine stV (upd_same ..) rfl (by omega) rfl (by rfl) ?_; conv => whnf
        refine ldV (upd_same ..) rfl (by omega) (fset_same ..) ?_; conv => whnf
        exact ⟨((Sup.refl st).upd hb4).over hb4, .inl ⟨z, hf, rfl⟩⟩
      · conv => whnf
        refine ⟨rfl, ?_⟩; conv => whnf
        exact nx hi' ⟨lt_next hno h2, by rw [wrapN (by omega)], rfl⟩
theorem lvAmount_S (x : Int) (st : St) : S P 113 [eI x] st fun v st' => v = .bool (upB 0 10000000000000 x) ∧ st' = st := by
  refine S_of_X [] good mixed Tryz.func113 (by rfl) rfl rfl rfl ?_
  repeat' ((conv => whnf); first | (refine fork (fun h => ?_) (fun h => ?_) <;> rw [h]))
  all_goals (conv => whnf)
  all_goals (refine ⟨?_, rfl⟩; show AV.bool _ = AV.bool _; congr 1)
  all_goals (simp only [upB, *, Bool.true_and, Bool.false_and]; try rfl)
theorem much_S (t : Tax) (x rate : Int) (hr : 0 ≤ rate ∧ rate ≤ 10000) (st : St) : S P 77 [eTax t, eI x, eI rate] st fun v st' => v = eI (muchB t x rate) ∧ st' = st := by
  have hM : muchB t x rate = (times x rate (denB t rate) t.round).1 := rfl
  have hw : IntKind.i64.wrap (10000 + rate) = 10000 + rate := wrap64_of (by omega) (by omega)
  refine S_of_X [3] good mixed Tryz.func77 (by rfl) rfl rfl rfl ?_; conv => whnf
  cases hi : t.incl
  · have hd : denB t rate = 10000 := by unfold denB; rw [if_neg (by rw [hi]; simp)]; rfl
    conv => whnf
    refine call1 (times_S x rate 10000 t.round st) ?_
    rw [hM, hd]
    generalize times x rate 10000 t.round = Y
    conv => whnf
    exact ⟨rfl, rfl⟩
  · have hd : denB t rate = 10000 + rate := by unfold denB; rw [if_pos hi]
    conv => whnf
    rw [hw]
    refine call1 (times_S x rate (10000 + rate) t.round st) ?_
    rw [hM, hd]
    generalize times x rate (10000 + rate) t.round = Y
    conv => whnf
    exact ⟨rfl, rfl⟩
theorem lineTaxes_succ (t : Tax) (rates nets : List Int) (i : Nat) : (List.range (i + 1)).map (fun i => muchB t (gI nets i) (gI rates i)) = (List.range i).map (fun i => muchB t (gI nets i) (gI rates i)) ++ [muchB t (gI nets i) (gI rates i)] := by rw [List.range_succ, List.map_append]; rfl
theorem byLine_S (t : Tax) (rates nets : List Int) (hn : nets.length ≤ 1000) (hl : rates.length = nets.length) (hq : ∀ x ∈ rates, 0 ≤ x ∧ x ≤ 10000) (st : St) : S P 75 [eTax t, eInts rates, eInts nets] st fun v st' => v = eInts (lineTaxes t rates nets) ∧ st' = st := by
  refine S_colL (ty := 2) ?_
  have hL : lineTaxes t rates nets = (List.range nets.length).map fun i => muchB t (gI nets i) (gI rates i) := rfl
  rw [hL]
  refine S_of_X [3] good mixed Tryz.func75 (by rfl) rfl rfl rfl ?_; conv => whnf
  refine lp nets.length [1, 3, 7, 10, 11, 12] (fun i vs s => ∃ sv, vs = [eInts rates, .fptr (eTax t) 0, sv, eInts nets, eI nets.length, eI i] ∧ ColL 2 1 eI ((List.range i).map fun i => muchB t (gI nets i) (gI rates i)) st sv s) ?_ ?_
  · conv => whnf
    exact ⟨.emp, rfl, ColL.start _ _ _ _⟩
  · rintro i vs s hi ⟨sv, rfl, hc⟩
    conv => whnf
    cases h1 : decide ((i : Int) < (nets.length : Int))
    · obtain rfl := stop_at h1 hi
      conv => whnf
      exact hc
    · have hi' := go_on h1
      have hm := fun u => much_S t (gI nets (i : Int).toNat) (gI rates (i : Int).toNat) (hq _ (getD_mem (by show i < _; omega))) u
      have hs := lineTaxes_succ t rates nets i
      have hln : ((List.range i).map fun i => muchB t (gI nets i) (gI rates i)).length = i := by rw [List.length_map, List.length_range]
      conv => whnf
      refine ⟨rfl, ⟨by omega, by omega⟩, ?_⟩; conv => whnf
      refine ⟨[8, 9], [], List.range 11, by kernel_rfl, ?_⟩; conv => whnf
      refine ⟨rfl, ⟨by omega, by omega⟩, ?_⟩; conv => whnf
      refine ⟨_, callQ (hm _), ?_⟩
      have hy : muchB t (gI nets i) (gI rates i) = muchB t (gI nets (i : Int).toNat) (gI rates (i : Int).toNat) := rfl
      rw [hy] at hs
      generalize muchB t (gI nets (i : Int).toNat) (gI rates (i : Int).toNat) = Y at hs
      conv => whnf
      refine ColL.app (y := Y) (q := r2) rfl rfl rfl rfl rfl (by rfl) (by rw [hln]; show (i + 1) * 8 ≤ 140737488355328; omega) hc (fun sv' t' hc' => ?_); conv => whnf
      refine ⟨rfl, ?_⟩; conv => whnf
      exact nx hi' ⟨sv', by rw [wrapN (by omega)], by rw [hs]; exact hc'⟩
theorem lvMay_S {t : Tax} {z : Zone} {cats : List Str} {nets : List Int} {ship : Int} (h : LevyIn t z cats nets ship) (st : St) : S P 72 [eTax t, eStrs cats, eInts nets, eI ship] st fun v st' => v = .bool true ∧ st' = st := by
  have hn := h.nets.len
  have hs := h.nets.sum
  have hp := h.nets.pos
  have hc := h.cats
  have hT := fun s => tax_S t s
  have hA := fun s => lvAmount_S ship s
  rw [h.tax] at hT
  rw [show upB 0 10000000000000 ship = true from upB_iff.2 h.ship] at hA
  have htk : ∀ i, 0 ≤ sumI (nets.take i) ∧ sumI (nets.take i) ≤ 10000000000000 := fun i => by
    have := sumI_le_take hp i
    exact ⟨sumI_nonneg fun x hx => hp x (List.mem_of_mem_take hx), by omega⟩
  refine S_of_X [4] good mixed Tryz.func72 (by rfl) rfl rfl rfl ?_; conv => whnf
  refine call1 (hT _) ?_; conv => whnf
  rw [hc, show ((nets.length : Int) != (nets.length : Int)) = false from bne_self_eq_false _]; conv => whnf
  refine fork (fun h1 => absurd (of_decide_eq_true h1) (by omega)) (fun h1 => ?_)
  rw [h1]; conv => whnf
  refine call1 (hA _) ?_; conv => whnf
  refine lp nets.length [9, 32, 33, 34] (fun i vs s => vs = [eI (sumI (nets.take i)), eInts nets, eI nets.length, eI i] ∧ s = st) ?_ ?_
  · conv => whnf
    exact ⟨rfl, rfl⟩
  · rintro i vs s hi ⟨rfl, rfl⟩
    conv => whnf
    cases h2 : decide ((i : Int) < (nets.length : Int))
    · obtain rfl := stop_at h2 hi
      have hB := fun s => lvAmount_S (sumI (nets.take nets.length)) s
      rw [show upB 0 10000000000000 (sumI (nets.take nets.length)) = true from upB_iff.2 (htk _)] at hB; conv => whnf
      refine call1 (hB _) ?_; conv => whnf
      exact ⟨rfl, rfl⟩
    · have hi' := go_on h2
      have hx : 0 ≤ gI nets (i : Int).toNat := hp _ (getD_mem hi')
      have hx2 : gI nets (i : Int).toNat ≤ sumI nets := sumI_mem_le hp (getD_mem hi')
      have hB := fun s => lvAmount_S (gI nets (i : Int).toNat) s
      rw [show upB 0 10000000000000 (gI nets (i : Int).toNat) = true from upB_iff.2 (by omega)] at hB
      have hst : sumI (nets.take (i + 1)) = sumI (nets.take i) + gI nets (i : Int).toNat := sumI_take hi'
      have h3 := htk (i + 1)
      have hw : IntKind.i64.wrap (sumI (nets.take i) + gI nets (i : Int).toNat) = sumI (nets.take (i + 1)) := by rw [hst] at h3 ⊢; exact wrap64_of (by omega) (by omega)
      conv => whnf
      refine ⟨rfl, ⟨by omega, by omega⟩, ?_⟩; conv => whnf
      refine call1 (hB _) ?_; conv => whnf
      rw [hw]
      refine ⟨rfl, ?_⟩; conv => whnf
      exact nx hi' ⟨by rw [wrapN (by omega)], rfl⟩
end Go.Proofs.YtfajkgonocpddaaGreat
namespace Go.Ab
open Go
theorem rdOf_same {w : World} {st st' : St} (h : ∀ b, st b = none ↔ st' b = none) : rdOf w st = rdOf w st' := by
  funext a
  unfold rdOf
  cases h1 : st a.block with
  | none => rw [(h _).1 h1]
  | some x =>
    cases h2 : st' a.block with
    | none => rw [(h _).2 h2] at h1; cases h1
    | some y => rfl
theorem Shift.cell {vs : List AV} {st st2 : St} {a i : Nat} {y : Blk} {sv v' : AV} {pre post : List AV} (h : Shift [sv] st [v'] st2) (hy : st a = some y) (hy2 : st2 a = some y) (hi : i < y.n)
    (hf : y.f i = .agg (pre ++ sv :: post)) (h1 : v'.one = true) : Shift vs st vs (upd st2 a { y with f := fset y.f i (.agg (pre ++ v' :: post)) }) := fun w cs hS hR => by
  obtain ⟨ds, hok⟩ := hS a y hy
  obtain ⟨c, hc1, hc2⟩ := hok.cell i pre.length sv hi (by rw [hf]; show (pre ++ sv :: post)[pre.length]? = some sv; simp)
  obtain ⟨hS2, hR2, hE⟩ := h w #[c] hS ⟨rfl, fun k z c' hz hc' => by
    cases k with
    | zero => simp at hz hc'; subst hz; subst hc'; exact hc2
    | succ k => simp at hz⟩
  have hv : RepW w st2 v' c := hR2.2 0 v' c rfl rfl
  have e : rdOf w (upd st2 a { y with f := fset y.f i (.agg (pre ++ v' :: post)) }) = rdOf w st2 := rdOf_same fun b => by
    by_cases eb : b = a
    · subst eb; rw [upd_same, hy2]; constructor <;> (intro h0; cases h0)
    · rw [upd_ne eb]
  have hrep : ∀ v c, RepW w st2 v c → RepW w (upd st2 a { y with f := fset y.f i (.agg (pre ++ v' :: post)) }) v c := fun v c hv => by
    show Rep (rdOf w _) _ _ _
    rw [e]; exact hv
  refine ⟨fun b x hb => ?_, ⟨hR.1, fun k y c hy hc => hrep _ _ (hE.rep (hR.2 k y c hy hc))⟩, ⟨hE.os, hE.tape, hE.output, hE.size, fun b hb hn => ⟨(hE.blk b hb hn).1, ?_⟩, hE.szm⟩⟩
  · by_cases eb : b = a
    · subst eb
      rw [upd_same] at hb; cases hb
      obtain ⟨ds2, hok2⟩ := hS2 b y hy2
      have hds : ds2 = ds := by
        have h3 := hok2.heap
        rw [hok.heap] at h3
        cases h3; rfl
      subst hds
      have hlen := hok2.len i hi
      have hone := hok2.one i hi
      rw [hf] at hlen hone
      refine ⟨ds2, hok2.heap, hok2.size, fun k hk => ?_, fun k hk => ?_, fun k m z hk hz => ?_⟩
      · by_cases ek : k = i
        · subst ek
          show (cellsOf (fset y.f k _ k)).length = y.e
          unfold fset; rw [if_pos rfl, ← hlen]
          show (pre ++ v' :: post).length = (pre ++ sv :: post).length
          simp
        · show (cellsOf (fset y.f i _ k)).length = y.e
          unfold fset; rw [if_neg ek]; exact hok2.len k hk
      · by_cases ek : k = i
        · subst ek
          show (cellsOf (fset y.f k _ k)).all AV.one = true
          unfold fset; rw [if_pos rfl]
          have hone' : (pre ++ sv :: post).all AV.one = true := hone
          show (pre ++ v' :: post).all AV.one = true
          simp only [List.all_append, List.all_cons, Bool.and_eq_true] at hone' ⊢
          exact ⟨hone'.1, h1, hone'.2.2⟩
        · show (cellsOf (fset y.f i _ k)).all AV.one = true
          unfold fset; rw [if_neg ek]; exact hok2.one k hk
      · have hz : (cellsOf (fset y.f i (.agg (pre ++ v' :: post)) k))[m]? = some z := hz
        unfold fset at hz
        by_cases ek : k = i
        · subst ek
          rw [if_pos rfl] at hz
          have hz : (pre ++ v' :: post)[m]? = some z := hz
          by_cases em : m = pre.length
          · subst em
            simp at hz
            subst hz
            exact ⟨c, hc1, hrep _ _ hv⟩
          · have e3 : (pre ++ sv :: post)[m]? = some z := by
              rw [← hz]
              by_cases hm : m < pre.length
              · rw [List.getElem?_append_left hm, List.getElem?_append_left hm]
              · rw [List.getElem?_append_right (by omega), List.getElem?_append_right (by omega)]
                obtain ⟨q, hq⟩ : ∃ q, m - pre.length = q + 1 := ⟨m - pre.length - 1, by omega⟩
                rw [hq]; rfl
            obtain ⟨c', k1, k2⟩ := hok2.cell k m z hk (by rw [hf]; exact e3)
            exact ⟨c', k1, hrep _ _ k2⟩
        · rw [if_neg ek] at hz
          obtain ⟨c', k1, k2⟩ := hok2.cell k m z hk hz
          exact ⟨c', k1, hrep _ _ k2⟩
    · rw [upd_ne eb] at hb
      obtain ⟨ds2, hok2⟩ := hS2 b x hb
      exact ⟨ds2, hok2.heap, hok2.size, hok2.len, hok2.one, fun k m z hk hz => by
        obtain ⟨c', k1, k2⟩ := hok2.cell k m z hk hz
        exact ⟨c', k1, hrep _ _ k2⟩⟩
  · have := (hE.blk b hb hn).2
    have eb : b ≠ a := fun h => by rw [h, hy] at hn; cases hn
    rw [upd_ne eb]; exact this
end Go.Ab
namespace Go.Proofs.YtfajkgonocpddaaGreat
open Go Go.Ab
attribute [local irreducible] upd del
abbrev fRates (l : List CatRate) : Nat → AV := fun i => eCatRate (l.getD i default)
def chainR (zs : Nat → List CatRate) (sv : Nat → AV) : Nat → St → St → Prop
  | 0 => Sup
  | k + 1 => fun s t => ROut (chainR zs sv k) 125 2 (fRates (zs k)) (zs k).length s (sv k) t
theorem besideChain (zs : Nat → List CatRate) (sv : Nat → AV) : ∀ k, Beside (chainR zs sv k)
  | 0 => besideSup
  | k + 1 => besideOut (besideChain zs sv k) _ _ _ _ _
theorem chain_congr {zs zs' : Nat → List CatRate} {sv sv' : Nat → AV} : ∀ (k : Nat) {s t : St}, (∀ j, j < k → zs j = zs' j ∧ sv j = sv' j) → chainR zs sv k s t → chainR zs' sv' k s t
  | 0, s, t, _, h => h
  | k + 1, s, t, he, h => by
    obtain ⟨s0, h1, h2⟩ := h
    obtain ⟨e1, e2⟩ := he k (Nat.lt_succ_self k)
    rw [e1, e2] at h1
    exact ⟨s0, h1, chain_congr k (fun j hj => he j (Nat.lt_succ_of_lt hj)) h2⟩
theorem freeze_chain {bz n ty : Nat} {zs : Nat → List CatRate} {sv : Nat → AV} {nm : Nat → Str} {r1 r2 : Nat → Int} : ∀ (k : Nat) (s t : St) (g : Nat → AV), k ≤ n → chainR zs sv k s t → s bz = some ⟨ty, 4, n, g⟩ → (∀ j, j < k → g j = .agg [eS (nm j), sv j, eI (r1 j), eI (r2 j)]) →
    ∃ t' g', (∀ vs, Shift vs t vs t') ∧ Sup (upd s bz ⟨ty, 4, n, g'⟩) t' ∧ (∀ j, j < k → g' j = .agg [eS (nm j), arrOf 2 eCatRate (zs j), eI (r1 j), eI (r2 j)]) ∧ ∀ j, k ≤ j → g' j = g j
  | 0, s, t, g, hk, h, hs, hg => by
    refine ⟨t, g, fun vs => Shift.refl _ _, fun b x hb => ?_, fun j hj => absurd hj (by omega), fun j _ => rfl⟩
    by_cases e : b = bz
    · subst e; rw [upd_same] at hb; cases hb; exact h _ _ hs
    · rw [upd_ne e] at hb; exact h _ _ hb
  | k + 1, s, t, g, hk, h, hs, hg => by
    have hB := besideChain zs sv k
    have ht : t bz = some ⟨ty, 4, n, g⟩ := (besideChain zs sv (k + 1)).sup h _ _ hs
    obtain ⟨t1, hsh, hc⟩ := ROut.shift hB h
    have ht1 : t1 bz = some ⟨ty, 4, n, g⟩ := hB.sup hc _ _ hs
    have hcell := fun vs => Shift.cell (vs := vs) (pre := [eS (nm k)]) (post := [eI (r1 k), eI (r2 k)]) hsh ht ht1 (show k < n by omega) (hg k (by omega)) rfl
    have hc' := hB.write (y' := ⟨ty, 4, n, fset g k (.agg ([eS (nm k)] ++ AV.arr 2 (zs k).length (fRates (zs k)) :: [eI (r1 k), eI (r2 k)]))⟩) hc hs
    obtain ⟨t', g', k1, k2, k3, k4⟩ := freeze_chain (nm := nm) (r1 := r1) (r2 := r2) k _ _ _ (by omega) hc' (upd_same ..) (fun j hj => by rw [fset_ne (by omega)]; exact hg j (by omega))
    rw [upd_twice] at k2
    refine ⟨t', g', fun vs => (hcell vs).trans (k1 vs), k2, fun j hj => ?_, fun j hj => ?_⟩
    · by_cases e : j = k
      · subst e; rw [k4 j (Nat.le_refl _), fset_same]; rfl
      · exact k3 j (by omega)
    · rw [k4 j (by omega), fset_ne (by omega)]
theorem zoneN_eq (k : Nat) (h : k < 3) : (⟨#[122]⟩ : Str) ++ strA ([] ++ [IntKind.u8.wrap (48 + IntKind.u8.wrap (k : Int))]) = zoneN k := by rw [wrap8]; rfl
theorem playZone_in {l : List Zone} {k : Nat} (h : k < l.length) : playZone l k = ⟨zoneN k, playRates (l.getD k default).rates, modB (l.getD k default).rest 3000, modB (l.getD k default).ship 3000⟩ := if_pos h
theorem playZone_out {l : List Zone} {k : Nat} (h : ¬ k < l.length) : playZone l k = ⟨zoneN k, [], 1000 * k, 500 * k⟩ := if_neg h
theorem rate_at {l : List CatRate} {c : Nat} (hc : c < min 3 l.length) : (playRates l).getD c default = playRate l c := by
  unfold playRates
  rw [List.getD_eq_getElem?_getD, List.getElem?_map, List.getElem?_range hc]; rfl
abbrev zoneV (z : Zone) (rv : AV) : AV := .agg [eS z.name, rv, eI z.rest, eI z.ship]
def ZO (t : Tax) (k : Nat) (base : St) (zv : AV) (s : St) : Prop :=
  ∃ (sv g : Nat → AV), ROut (chainR (fun j => (playZone t.zones j).rates) sv k) 78 4 g k base zv s ∧ ∀ j, j < k → g j = zoneV (playZone t.zones j) (sv j)
theorem ZO.end {t : Tax} {base s : St} {zv : AV} (h : ZO t 3 base zv s) : ∃ t', Shift [zv] s [arrOf 4 eZone (playTax t).zones] t' ∧ Sup base t' := by
  obtain ⟨sv, g, ⟨s1, hcol, hch⟩, hg⟩ := h
  rcases hcol with ⟨h0, _, _⟩ | ⟨h0, bz, g0, hbz, rfl, rfl, hgg⟩
  · cases h0
  obtain ⟨t', g', hsh, hsup, hg', _⟩ := freeze_chain (nm := fun j => (playZone t.zones j).name) (r1 := fun j => (playZone t.zones j).rest) (r2 := fun j => (playZone t.zones j).ship) 3 _ s g0 (Nat.le_refl _) hch (upd_same ..) (fun j hj => by rw [hgg j hj, hg j hj])
  rw [upd_twice] at hsup
  refine ⟨del t' bz, (hsh _).trans (shift_own (hsup bz _ (upd_same ..)) rfl (Nat.le_refl _) fun i hi => ?_), ?_⟩
  · show g' i = eZone ((playTax t).zones.getD i default)
    rw [hg' i hi]
    have : (playTax t).zones.getD i default = playZone t.zones i := by
      show ((List.range 3).map (playZone t.zones)).getD i default = _
      rw [List.getD_eq_getElem?_getD, List.getElem?_map, List.getElem?_range hi]; rfl
    rw [this]; rfl
  · exact Sup.del (((Sup.refl base).upd hbz).trans hsup) hbz
theorem ZO.next {t : Tax} {k : Nat} {base s1 s : St} {zv rv : AV} {sv g : Nat → AV} (hcol : Col 78 4 g base k zv s1) (hR : ROut (chainR (fun j => (playZone t.zones j).rates) sv k) 125 2 (fRates (playZone t.zones k).rates) (playZone t.zones k).rates.length s1 rv s) (hg : ∀ j, j < k → g j = zoneV (playZone t.zones j) (sv j)) :
    ∃ sv' g', ROut (chainR (fun j => (playZone t.zones j).rates) sv' (k + 1)) 78 4 g' k base zv s ∧ sv' k = rv ∧ (∀ j, j < k + 1 → g' j = zoneV (playZone t.zones j) (sv' j)) := by
  have hsv : ∀ j, j < k → sv j = (fun j => if j = k then rv else sv j) j := fun j hj => by simp only; rw [if_neg (by omega)]
  refine ⟨fun j => if j = k then rv else sv j, fun j => zoneV (playZone t.zones j) (if j = k then rv else sv j), ⟨s1, Col.congr hcol fun j hj => by rw [hg j hj]; show zoneV _ _ = zoneV _ (if j = k then rv else sv j); rw [if_neg (by omega)], ?_⟩, by simp, fun j _ => rfl⟩
  obtain ⟨s2, h1, h2⟩ := hR
  refine ⟨s2, ?_, chain_congr k (fun j hj => ⟨rfl, hsv j hj⟩) h2⟩
  simp only [if_true]; exact h1
theorem start_in {R : St → St → Prop} {ty e n b : Nat} {fo : Nat → AV} {base s : St} {zv : AV} {y : Blk} (h : ROut R ty e fo n (upd base b y) zv (upd s b y)) (ty' e' : Nat) (fo' : Nat → AV) : ∃ s1, Col ty e fo (upd base b y) n zv s1 ∧ ROut R ty' e' fo' 0 s1 .emp (upd s b y) := by
  obtain ⟨s1, h1, h2⟩ := h
  exact ⟨s1, h1, ROut.start h2 _ _ _⟩
theorem step_in {R : St → St → Prop} (hR : Beside R) {ty e n b ty' e' m : Nat} {fo fo' : Nat → AV} {base s1 t : St} {zv rv : AV} {y : Blk} (h1 : Col ty e fo (upd base b y) n zv s1) (h2 : ROut R ty' e' fo' m s1 rv t) (y' : Blk) :
    ∃ s1', Col ty e fo (upd base b y') n zv s1' ∧ ROut R ty' e' fo' m s1' rv (upd t b y') := by
  have h3 := Col.write (y' := y') h1 (upd_same ..)
  rw [upd_twice] at h3
  exact ⟨_, h3, ROut.write hR h2 (h1.sup b _ (upd_same ..))⟩
set_option maxHeartbeats 8000000 in
theorem playTax_S (x : Tax) (st : St) : S P 40 [eTax x] st fun v st' => v = eTax (playTax x) ∧ st' = st := by
  have hE : eTax (playTax x) = .agg [eB x.incl, eB x.byOrder, eI (modB x.round 3), arrOf 4 eZone (playTax x).zones] := rfl
  refine S.post (post := fun v s => ∃ zv base, v = .agg [eB x.incl, eB x.byOrder, eI (modB x.round 3), zv] ∧ Shift [zv] s [arrOf 4 eZone (playTax x).zones] base ∧ Sup st base) ?_ (fun v s ⟨zv, base, h1, h2, h3⟩ => ⟨_, st, ⟨hE.symm, rfl⟩, by
    rw [h1]
    exact (Shift.agg (Shift.cons (Shift.keep [eB x.incl] _) (Shift.cons (Shift.keep [eB x.byOrder] _) (Shift.cons (Shift.keep [eI (modB x.round 3)] _) h2)))).trans (h3.shift _)⟩)
  clear hE
  have hRd := fun s => mod_S x.round 3 (by decide) (by decide) s
  obtain ⟨RD', hRD'⟩ : ∃ RD', RD' = modB x.round 3 := ⟨_, rfl⟩
  rw [← hRD'] at hRd ⊢
  have hend := fun base s zv => ZO.end (t := x) (base := base) (s := s) (zv := zv)
  have hnext := fun k base s1 s zv rv sv g => ZO.next (t := x) (k := k) (base := base) (s1 := s1) (s := s) (zv := zv) (rv := rv) (sv := sv) (g := g)
  generalize arrOf 4 eZone (playTax x).zones = ZS at hend ⊢
  refine S_of_X [1] good mixed Tryz.func40 (by rfl) rfl rfl rfl ?_; conv => whnf
  intro b2 hb2; conv => whnf
  refine ⟨[8, 9], [1, 3, 5, 6], List.range 10, by kernel_rfl, ?_⟩; conv => whnf
  refine ⟨_, fun s _ => ⟨rfl, rfl⟩, ?_⟩; conv => whnf
  refine ⟨_, fun s _ => ⟨rfl, rfl⟩, ?_⟩; conv => whnf
  refine ⟨_, fun s _ => ⟨rfl, rfl⟩, ?_⟩; conv => whnf
  refine ⟨_, fun s _ => callQ (hRd s), ?_⟩; conv => whnf
  intro b3 hb3
  have h23 : b2 ≠ b3 := fun e => by subst e; rw [upd_same] at hb3; cases hb3
  conv => whnf
  refine stV (upd_same ..) rfl (by omega) rfl (by rfl) ?_
  rw [upd_twice]; conv => whnf
  refine lp 3 [1, 2, 3, 4] (fun k vs s => ∃ zv f, vs = [.fptr (eTax x) 0, .optr 4 b2 0 0, .optr 4 b3 0 0, eI k] ∧ f 0 = .agg [eB x.incl, eB x.byOrder, eI RD', zv] ∧ ZO x k (upd (upd st b2 ⟨42, 4, 1, fun _ => avOf r42.zero⟩) b3 ⟨42, 4, 1, f⟩) zv s) ?_ ?_
  · conv => whnf
    exact ⟨.emp, _, rfl, by first | rfl | (rw [fset_same]; rfl), fun _ => .junk, fun _ => .junk, ROut.start (show chainR _ _ 0 _ _ from Sup.refl _) _ _ _, fun j hj => absurd hj (by omega)⟩
  rintro k vs s hk ⟨zv, f, rfl, hf, sv, g, hR, hg⟩
  have hB := besideChain (fun j => (playZone x.zones j).rates) sv k
  have hsup := ROut.sup hB hR
  have at3 : s b3 = some ⟨42, 4, 1, f⟩ := hsup b3 _ (upd_same ..)
  have at2 : s b2 = some ⟨42, 4, 1, fun _ => avOf r42.zero⟩ := hsup b2 _ (by rw [upd_ne h23]; exact upd_same ..)
  conv => whnf
  refine fork (fun h1 => ?_) (fun h1 => ?_) <;> rw [h1] <;> simp only [decide_eq_true_eq, decide_eq_false_iff_not] at h1
  case refine_2 =>
    obtain rfl : k = 3 := by omega
    have hz := ROut.head hR
    obtain ⟨y2, hy2⟩ : ∃ y2 : Blk, y2 = ⟨42, 4, 1, fset (fun _ => avOf r42.zero) 0 (.agg [eB x.incl, eB x.byOrder, eI RD', zv])⟩ := ⟨_, rfl⟩
    obtain ⟨base, k1, k2⟩ := hend _ _ _ ⟨sv, g, ROut.write hB hR (b := b2) (y' := y2) (by rw [upd_ne h23]; exact upd_same ..), hg⟩
    subst hy2
    rcases hz with rfl | ⟨bz, rfl⟩
    all_goals
      conv => whnf
      refine ldV at3 rfl (by omega) hf ?_; conv => whnf
      refine stV at2 rfl (by omega) rfl (by rfl) ?_; conv => whnf
      refine ldV (upd_same ..) rfl (by omega) (fset_same ..) ?_; conv => whnf
      exact ⟨_, base, rfl, k1, ((((Sup.refl st).upd hb2).upd hb3).over hb2).trans k2⟩
  have hk3 : k < 3 := by omega
  have hzn := zoneN_eq k hk3
  have w1 : IntKind.i64.wrap (1000 * (k : Int)) = 1000 * k := wrap64_of (by omega) (by omega)
  have w2 : IntKind.i64.wrap (500 * (k : Int)) = 500 * k := wrap64_of (by omega) (by omega)
  have hname : ∀ j, (playZone x.zones j).name = zoneN j := fun j => by unfold playZone; split <;> rfl
  conv => whnf
  intro b5 hb5
  have h35 : b3 ≠ b5 := fun e => by subst e; rw [at3] at hb5; cases hb5
  have h25 : b2 ≠ b5 := fun e => by subst e; rw [at2] at hb5; cases hb5
  have hbase5 : (upd (upd st b2 ⟨42, 4, 1, fun _ => avOf r42.zero⟩) b3 ⟨42, 4, 1, f⟩) b5 = none := hsup.none hb5
  conv => whnf
  rw [hzn, w1, w2]
  refine stV (upd_same ..) rfl (by omega) rfl (by rfl) ?_
  rw [upd_twice]
  /- the tail: the zone as it then stands is appended -/
  have tail : ∀ (s2 s1 : St) (rv : AV) (f5 : Nat → AV), Col 78 4 g (upd (upd (upd st b2 ⟨42, 4, 1, fun _ => avOf r42.zero⟩) b3 ⟨42, 4, 1, f⟩) b5 ⟨78, 4, 1, f5⟩) k zv s1 →
      ROut (chainR (fun j => (playZone x.zones j).rates) sv k) 125 2 (fRates (playZone x.zones k).rates) (playZone x.zones k).rates.length s1 rv s2 →
      ∀ (X : AV) (gg : Nat → AV), srcOf 4 s2 X = some (1, gg) → gg 0 = zoneV (playZone x.zones k) rv →
      ∀ (K : KK), (∀ zv' t2, t2 b3 = some ⟨42, 4, 1, f⟩ → (zv' = .emp ∨ ∃ b, zv' = .own 4 b 0 (k + 1)) → (∀ f', ZO x (k + 1) (upd (upd st b2 ⟨42, 4, 1, fun _ => avOf r42.zero⟩) b3 ⟨42, 4, 1, f'⟩) zv' (upd t2 b3 ⟨42, 4, 1, f'⟩)) → K zv' t2) →
      xApp T 40 zv X s2 K := by
    intro s2 s1 rv f5 hcol hrt X gg hs hgg K hK
    obtain ⟨sv', g', q1, q2, q3⟩ := hnext _ _ _ _ _ _ _ _ hcol hrt hg
    have hB' := besideChain (fun j => (playZone x.zones j).rates) sv' (k + 1)
    refine ROut.app (q := r78) (f := g') hB' rfl rfl rfl rfl hs (by rw [q3 k (Nat.lt_succ_self k), q2, hgg]) (by show (k + 1) * 56 ≤ 140737488355328; omega) q1 (fun zv' t2 hR2 => ?_)
    have hsup2 := ROut.sup hB' hR2
    have hd : ∀ f', ROut (chainR (fun j => (playZone x.zones j).rates) sv' (k + 1)) 78 4 g' (k + 1) (upd (upd st b2 ⟨42, 4, 1, fun _ => avOf r42.zero⟩) b3 ⟨42, 4, 1, f'⟩) zv' (upd t2 b3 ⟨42, 4, 1, f'⟩) := fun f' => by
      have h1 := ROut.write hB' hR2 (b := b3) (y' := ⟨42, 4, 1, f'⟩) (by rw [upd_ne h35]; exact upd_same ..)
      rw [upd_comm h35.symm, upd_twice] at h1
      refine (besideOut hB' _ _ _ _ _).drop h1 ?_
      rw [upd_ne h35.symm] at hbase5 ⊢; exact hbase5
    exact hK zv' t2 (hsup2 b3 _ (by rw [upd_ne h35]; exact upd_same ..)) (ROut.head hR2) fun f' => ⟨sv', g', hd f', q3⟩
  have hbeg := fun y => (besideOut hB 78 4 g k zv).begin (y := y) hR hb5
  conv => whnf
  refine fork (fun h2 => ?_) (fun h2 => ?_) <;> rw [h2] <;> simp only [decide_eq_true_eq, decide_eq_false_iff_not] at h2
  case refine_2 =>
    have hz := playZone_out (l := x.zones) (k := k) (by omega)
    rw [hz] at tail
    rcases ROut.head hR with rfl | ⟨bz, rfl⟩
    all_goals
      conv => whnf
      refine ldV (by rw [upd_ne h35]; exact at3) rfl (by omega) hf ?_; conv => whnf
      refine ldV (upd_same ..) rfl (by omega) (fset_same ..) ?_; conv => whnf
      obtain ⟨s1, hcol, hrt⟩ := start_in (hbeg ⟨78, 4, 1, fset (fun _ => avOf r78.zero) 0 (.agg [eS (zoneN k), .emp, eI (1000 * k), eI (500 * k)])⟩) 125 2 (fRates [])
      refine tail _ s1 .emp _ hcol hrt _ _ rfl rfl _ (fun zv' t2 q1 q2 q3 => ?_)
      rcases q2 with rfl | ⟨bq, rfl⟩
      all_goals
        conv => whnf
        refine stV q1 rfl (by omega) hf (by rfl) ?_; conv => whnf
        refine ⟨rfl, ?_⟩; conv => whnf
        exact nx hk3 ⟨_, _, by rw [wrapN (by omega)], (by rw [fset_same]; rfl), q3 _⟩
  have hz := playZone_in (l := x.zones) (k := k) (by omega)
  have hrl := fun c => rate_at (l := (x.zones.getD (k : Int).toNat default).rates) (c := c)
  have hrn : (playRates (x.zones.getD (k : Int).toNat default).rates).length = min 3 (x.zones.getD (k : Int).toNat default).rates.length := by unfold playRates; rw [List.length_map, List.length_range]
  rw [hz] at tail
  have hM1 := fun s => mod64_S' (x.zones.getD (k : Int).toNat default).rest 3000 (by decide) (by decide) s
  have hM2 := fun s => mod64_S' (x.zones.getD (k : Int).toNat default).ship 3000 (by decide) (by decide) s
  have tail' : _ := tail
  rw [show x.zones.getD k default = x.zones.getD (k : Int).toNat default from rfl] at tail'
  clear tail
  generalize playRates (x.zones.getD (k : Int).toNat default).rates = RL at tail' hrl hrn
  generalize modB (x.zones.getD (k : Int).toNat default).rest 3000 = M1 at tail' hM1
  generalize modB (x.zones.getD (k : Int).toNat default).ship 3000 = M2 at tail' hM2
  conv => whnf
  refine ⟨[15, 17], [], List.range 18, by kernel_rfl, ?_⟩; conv => whnf
  refine ⟨rfl, ⟨by omega, by omega⟩, ?_⟩; conv => whnf
  refine ⟨_, callQ (hM1 _), ?_⟩; conv => whnf
  refine ⟨rfl, ⟨by omega, by omega⟩, ?_⟩; conv => whnf
  refine ⟨_, callQ (hM2 _), ?_⟩; conv => whnf
  refine stV (upd_same ..) rfl (by omega) (fset_same ..) (by rfl) ?_
  rw [upd_twice]; conv => whnf
  refine stV (upd_same ..) rfl (by omega) (fset_same ..) (by rfl) ?_
  rw [upd_twice]; conv => whnf
  refine lp (min 3 (x.zones.getD (k : Int).toNat default).rates.length) [1, 2, 3, 4, 5, 6] (fun c vs s' => ∃ rv f5, vs = [.fptr (eTax x) 0, .optr 4 b2 0 0, .optr 4 b3 0 0, eI k, .optr 4 b5 0 0, eI c] ∧ f5 0 = .agg [eS (zoneN k), rv, eI M1, eI M2] ∧
      ∃ s1, Col 78 4 g (upd (upd (upd st b2 ⟨42, 4, 1, fun _ => avOf r42.zero⟩) b3 ⟨42, 4, 1, f⟩) b5 ⟨78, 4, 1, f5⟩) k zv s1 ∧ ROut (chainR (fun j => (playZone x.zones j).rates) sv k) 125 2 (fRates RL) c s1 rv s') ?_ ?_
  · conv => whnf
    exact ⟨.emp, _, rfl, by first | rfl | (rw [fset_same]; rfl), start_in (hbeg _) _ _ _⟩
  rintro c vs s' hc ⟨rv, f5, rfl, hf5, s1, hcol, hrt⟩
  have hsup' := ROut.sup hB hrt
  have at5 : s' b5 = some ⟨78, 4, 1, f5⟩ := hsup' b5 _ (hcol.sup b5 _ (upd_same ..))
  have at3' : s' b3 = some ⟨42, 4, 1, f⟩ := hsup' b3 _ (hcol.sup b3 _ (by rw [upd_ne h35]; exact upd_same ..))
  conv => whnf
  refine fork (fun h3 => ?_) (fun h3 => ?_) <;> rw [h3] <;> simp only [decide_eq_true_eq, decide_eq_false_iff_not] at h3
  case' refine_1 =>
    conv => whnf
    refine ⟨rfl, ⟨by omega, by omega⟩, ?_⟩; conv => whnf
    refine fork (fun h4 => ?_) (fun h4 => ?_) <;> rw [h4] <;> simp only [decide_eq_true_eq, decide_eq_false_iff_not] at h4
  case refine_1.refine_1 =>
    have hc' : c < min 3 (x.zones.getD (k : Int).toNat default).rates.length := by omega
    have hra := hrl c hc'
    rcases ROut.head hrt with rfl | ⟨br, rfl⟩
    all_goals
      conv => whnf
      refine ⟨[17, 19], [14], List.range 20, by kernel_rfl, ?_⟩; conv => whnf
      refine ldV at5 rfl (by omega) hf5 ?_; conv => whnf
      refine ⟨_, callQ (category_S _ _), ?_⟩; conv => whnf
      refine ⟨rfl, ⟨by omega, by omega⟩, ?_⟩; conv => whnf
      refine ⟨rfl, ⟨by omega, by omega⟩, ?_⟩; conv => whnf
      refine ⟨_, fun s _ => callQ (mod64_S' _ 3000 (by decide) (by decide) s), ?_⟩; conv => whnf
      refine ⟨_, ⟨rfl, rfl⟩, ?_⟩; conv => whnf
      refine ROut.app (q := r125) hB rfl rfl rfl rfl rfl (f := fRates RL) (by show _ = eCatRate _; rw [hra]; rfl) (by show (c + 1) * 24 ≤ 140737488355328; omega) hrt (fun rv' t2 hrt2 => ?_)
      have at5' : t2 b5 = some ⟨78, 4, 1, f5⟩ := ROut.sup hB hrt2 b5 _ (hcol.sup b5 _ (upd_same ..))
      rcases ROut.head hrt2 with rfl | ⟨br', rfl⟩
      all_goals
        conv => whnf
        refine stV at5' rfl (by omega) hf5 (by rfl) ?_; conv => whnf
        refine ⟨rfl, ?_⟩; conv => whnf
        exact nx hc' ⟨_, _, by rw [wrapN (by omega)], (by rw [fset_same]; rfl), step_in hB hcol hrt2 _⟩
  all_goals
    have hce : RL.length = c := by omega
    rw [← hce] at hrt
    rcases ROut.head hR with rfl | ⟨bz, rfl⟩
    all_goals
      rcases ROut.head hrt with rfl | ⟨br, rfl⟩
      all_goals
        conv => whnf
        refine ldV at3' rfl (by omega) hf ?_; conv => whnf
        refine ldV at5 rfl (by omega) hf5 ?_; conv => whnf
        refine tail' _ s1 _ _ hcol hrt _ _ rfl rfl _ (fun zv' t2 q1 q2 q3 => ?_)
        rcases q2 with rfl | ⟨bq, rfl⟩
        all_goals
          conv => whnf
          refine stV q1 rfl (by omega) hf (by rfl) ?_; conv => whnf
          refine ⟨rfl, ?_⟩; conv => whnf
          exact nx hk3 ⟨_, _, by rw [wrapN (by omega)], (by rw [fset_same]; rfl), q3 _⟩
theorem qpeek0_S (st0 : St) (q : Nat) (f : Bool) (st : St) (h : QSt st0 q f [] st) : S P 115 [.optr 1 q 0 0] st fun v st' => v = .tuple [eI 0, eI 0, .bool false] ∧ st' = st := by
  obtain ⟨h1, h2, sv, ⟨fq, hqs, hq0⟩, h3⟩ := h
  refine S_of_X [] good mixed Tryz.func115 (by rfl) rfl rfl rfl ?_; conv => whnf
  rcases h3 with ⟨_, rfl⟩ | ⟨b, l, n, a1, a2, rfl, a4, a5, a6, a7, a8, a9⟩
  · refine ldV hqs rfl (by omega) hq0 ?_; conv => whnf
    exact ⟨rfl, rfl⟩
  · have e : n = 0 := by
      have := a8.length_eq
      rw [List.length_take, List.length_nil] at this; omega
    subst e
    refine ldV hqs rfl (by omega) hq0 ?_; conv => whnf
    exact ⟨rfl, rfl⟩
theorem qpeek_S (st0 : St) (q : Nat) (f : Bool) (x : QE) (es : List QE) (st : St) (h : QSt st0 q f (x :: es) st) (htop : ∀ y ∈ es, prior y x = false) : S P 115 [.optr 1 q 0 0] st fun v st' => v = .tuple [eI x.1, eI x.2, .bool true] ∧ st' = st := by
  obtain ⟨h1, h2, sv, hq, h3⟩ := h
  rcases h3 with ⟨h, _⟩ | ⟨b, l, n, a1, a2, rfl, a4, a5, a6, a7, a8, a9⟩
  · cases h
  have hn : n = es.length + 1 := by
    have := a8.length_eq
    rw [List.length_take, List.length_cons] at this; omega
  subst hn
  have hx : at_ l 0 = x := by
    have m0 : at_ l 0 ∈ x :: es := by
      refine a8.subset ?_
      have : (l.take (es.length + 1)).getD 0 default = at_ l 0 := by
        unfold at_; rw [List.getD_eq_getElem?_getD, List.getD_eq_getElem?_getD, List.getElem?_take_of_lt (by omega)]
      rw [← this]; exact getD_mem (by rw [List.length_take]; omega)
    have hmem : x ∈ l.take (es.length + 1) := a8.symm.subset (List.mem_cons_self ..)
    obtain ⟨k, hk, he⟩ := mem_getD hmem
    rw [List.length_take] at hk
    have hxk : x = at_ l k := by
      rw [he]; unfold at_; rw [List.getD_eq_getElem?_getD, List.getD_eq_getElem?_getD, List.getElem?_take_of_lt (by omega)]
    have t1 : prior x (at_ l 0) = false := by rw [hxk]; exact a6.top k (by omega)
    rcases List.mem_cons.1 m0 with e | e
    · exact e
    · exact prior_tri (htop _ e) t1
  obtain ⟨fq, hqs, hq0⟩ := hq
  obtain ⟨fe, hes, hef⟩ := a7
  have h0 : fe 0 = eEnt x := by rw [hef 0 (by omega), hx]
  refine S_of_X [] good mixed Tryz.func115 (by rfl) rfl rfl rfl ?_; conv => whnf
  refine ldV hqs rfl (by omega) hq0 ?_; conv => whnf
  rw [show (((es.length + 1 : Nat) : Int) == 0) = false by rw [beq_eq_false_iff_ne]; omega]; conv => whnf
  refine ⟨[], [], List.range 17, by kernel_rfl, ?_⟩; conv => whnf
  refine ldV hqs rfl (by omega) hq0 ?_; conv => whnf
  refine ⟨rfl, ⟨by omega, by omega⟩, ?_⟩; conv => whnf
  refine ldV hes rfl (by omega) (v := eEnt x) h0 ?_; conv => whnf
  refine ldV hqs rfl (by omega) hq0 ?_; conv => whnf
  refine ⟨rfl, ⟨by omega, by omega⟩, ?_⟩; conv => whnf
  refine ldV hes rfl (by omega) (v := eEnt x) h0 ?_; conv => whnf
  exact ⟨rfl, rfl⟩
def IsL (L : List Int) (y : Blk) : Prop := ∃ f, y = ⟨2, 1, L.length, f⟩ ∧ ∀ i, i < L.length → f i = eI (gI L i)
def OQ (bo q : Nat) (L : List Int) (fl : Bool) (es : List QE) : St → St → Prop := AddB bo (IsL L) (fun s t => QSt s q fl es t)
theorem besideOQ (bo q : Nat) (L : List Int) (fl : Bool) (es : List QE) : Beside (OQ bo q L fl es) := besideB (besideQ q fl es)
abbrev gN (G : List Nat) (i : Nat) : Int := ((G.getD i 0 : Nat) : Int)
def QJ (G : List Nat) (k : Int) (Rest : List QE) (j : Nat) : List QE := ((G.drop j).map fun i : Nat => (k, (i : Int))) ++ Rest
theorem QJ_next {G : List Nat} {k : Int} {Rest : List QE} {j : Nat} (hj : j < G.length) : QJ G k Rest j = (k, gN G j) :: QJ G k Rest (j + 1) := by
  unfold QJ gN
  rw [List.drop_eq_getElem_cons hj, List.getD_eq_getElem?_getD, List.getElem?_eq_getElem hj]; rfl
theorem QJ_end {G : List Nat} {k : Int} {Rest : List QE} : QJ G k Rest G.length = Rest := by
  unfold QJ; rw [List.drop_length]; rfl
def peekV (es : List QE) : AV := match es with
  | [] => .tuple [eI 0, eI 0, .bool false]
  | y :: _ => .tuple [eI y.1, eI y.2, .bool true]
theorem qpeekV_S (st0 : St) (q : Nat) (f : Bool) (es : List QE) (st : St) (h : QSt st0 q f es st) (hs : es.Pairwise fun a b => prior b a = false) : S P 115 [.optr 1 q 0 0] st fun v st' => v = peekV es ∧ st' = st := by
  cases es with
  | nil => exact qpeek0_S st0 q f st h
  | cons y es => exact qpeek_S st0 q f y es st h (List.pairwise_cons.1 hs).1
def doneB (t : Tax) (rates nets : List Int) (D : Int → Bool) (L : List Int) : Prop := L.length = nets.length ∧ ∀ i, i < nets.length → gI L i = if D (-(gI rates i)) = true then orderTax t rates nets i else 0
theorem gI_ext {a b : List Int} (hl : a.length = b.length) (h : ∀ i, i < a.length → gI a i = gI b i) : a = b := List.ext_getElem hl fun i h1 h2 => by
  have := h i h1
  unfold gI at this
  rw [List.getD_eq_getElem?_getD, List.getElem?_eq_getElem h1, List.getD_eq_getElem?_getD, List.getElem?_eq_getElem h2] at this
  exact this
theorem done_all {t : Tax} {rates nets : List Int} {D : Int → Bool} {L : List Int} (h : doneB t rates nets D L) (hr : rates.length = nets.length) (hE : leftR rates D = []) : L = orderTaxes t rates nets := by
  have hl : (orderTaxes t rates nets).length = nets.length := by unfold orderTaxes; rw [List.length_map, List.length_range]
  refine gI_ext (by rw [h.1, hl]) fun i h1 => ?_
  have hi : i < nets.length := by rw [← h.1]; exact h1
  have h3 := h.2 i hi
  have hD : D (-(gI rates i)) = true := by
    have hm : entR rates i ∈ sortR rates := (sortR_perm rates).mem_iff.2 (List.mem_map.2 ⟨i, List.mem_range.2 (by omega), rfl⟩)
    have := List.filter_eq_nil_iff.1 hE _ hm
    simpa [entR] using this
  rw [if_pos hD] at h3
  rw [h3]
  unfold orderTaxes gI
  rw [List.getD_eq_getElem?_getD, List.getElem?_map, List.getElem?_range hi]; rfl
def putR (L : List Int) (G : List Nat) (X : List Int) : Nat → List Int
  | 0 => L
  | j + 1 => (putR L G X j).set (G.getD j 0) (gI X j)
theorem putR_len (L : List Int) (G : List Nat) (X : List Int) (j : Nat) : (putR L G X j).length = L.length := by
  induction j with
  | zero => rfl
  | succ j ih => show ((putR L G X j).set _ _).length = _; rw [List.length_set, ih]
theorem putR_at {L : List Int} {G : List Nat} {X : List Int} (hn : G.Nodup) (hG : ∀ i ∈ G, i < L.length) : ∀ j, j ≤ G.length → ∀ i, i < L.length → gI (putR L G X j) i = if i ∈ G.take j then gI X (G.idxOf i) else gI L i
  | 0, _, i, hi => by rw [List.take_zero, if_neg List.not_mem_nil]; rfl
  | j + 1, hj, i, hi => by
    have ih := putR_at (X := X) hn hG j (by omega) i hi
    have hgj : G.getD j 0 = G[j] := by rw [List.getD_eq_getElem?_getD, List.getElem?_eq_getElem (by omega)]; rfl
    show gI ((putR L G X j).set (G.getD j 0) (gI X j)) i = _
    rw [hgj, List.take_succ_eq_append_getElem (show j < G.length by omega)]
    by_cases e : G[j] = i
    · have hidx : G.idxOf i = j := by rw [← e]; exact hn.idxOf_getElem j (by omega)
      rw [if_pos (List.mem_append_right _ (List.mem_singleton.2 e.symm)), hidx]
      unfold gI
      rw [e, List.getD_eq_getElem?_getD, List.getElem?_set_self (by rw [putR_len]; exact hi)]; rfl
    · have hs : gI ((putR L G X j).set G[j] (gI X j)) i = gI (putR L G X j) i := by
        unfold gI; rw [List.getD_eq_getElem?_getD, List.getElem?_set_ne e, ← List.getD_eq_getElem?_getD]
      rw [hs, ih]
      by_cases hm : i ∈ G.take j
      · rw [if_pos hm, if_pos (List.mem_append_left _ hm)]
      · rw [if_neg hm, if_neg]
        intro h
        rcases List.mem_append.1 h with h | h
        · exact hm h
        · exact e (List.mem_singleton.1 h).symm
theorem done_next {t : Tax} {rates nets : List Int} {D : Int → Bool} {L : List Int} {k : Int} (h : doneB t rates nets D L) (hr : rates.length = nets.length) : doneB t rates nets (fun y => D y || y == k) (putR L (grpR rates k) (partsL t rates nets k) (grpR rates k).length) := by
  have hG : ∀ i ∈ grpR rates k, i < L.length := fun i hi => by rw [h.1, ← hr]; exact (grp_mates hi).2.1
  refine ⟨by rw [putR_len]; exact h.1, fun i hi => ?_⟩
  rw [putR_at (grp_nodup rates k) hG _ (Nat.le_refl _) i (by rw [h.1]; exact hi), List.take_length]
  by_cases hm : i ∈ grpR rates k
  · obtain ⟨h1, h2, h3⟩ := grp_mates hm
    have hlt := List.idxOf_lt_length_iff.2 hm
    rw [if_pos hm, parts_at hlt, List.getElem_idxOf hlt, if_pos (by rw [h1]; simp)]
  · have hne : ¬ -(gI rates i) = k := fun e => hm (List.mem_filter.2 ⟨List.mem_range.2 (by omega), by rw [e]; exact beq_self_eq_true k⟩)
    rw [if_neg hm, h.2 i hi]
    have : (-(gI rates i) == k) = false := beq_eq_false_iff_ne.2 hne
    simp only [this, Bool.or_false]
theorem peekV_form (es : List QE) : ∃ c1 c2 is, peekV es = .tuple [eI c1, eI c2, .bool is] := by
  cases es with
  | nil => exact ⟨0, 0, false, rfl⟩
  | cons y es => exact ⟨y.1, y.2, true, rfl⟩
theorem peekV_inj {c1 c2 d1 d2 : Int} {is js : Bool} (h : AV.tuple [eI c1, eI c2, .bool is] = .tuple [eI d1, eI d2, .bool js]) : c1 = d1 ∧ c2 = d2 ∧ is = js := by
  injection h with h; injection h with h1 h; injection h with h2 h; injection h with h3 h
  injection h1 with _ h1; injection h2 with _ h2; injection h3 with h3
  exact ⟨h1, h2, h3⟩
theorem left_rate {rates : List Int} {D : Int → Bool} {x : QE} {E : List QE} (h : leftR rates D = x :: E) : ∃ i, i < rates.length ∧ i ∈ grpR rates x.1 ∧ gI rates i = -x.1 := by
  have hx : x ∈ sortR rates := (List.mem_filter.1 (show x ∈ leftR rates D by rw [h]; exact List.mem_cons_self ..)).1
  obtain ⟨i, hi, rfl⟩ := List.mem_map.1 ((sortR_perm rates).mem_iff.1 hx)
  have hi := List.mem_range.1 hi
  exact ⟨i, hi, List.mem_filter.2 ⟨List.mem_range.2 hi, beq_self_eq_true _⟩, by show gI rates i = - -(gI rates i); omega⟩
theorem gN_ok {rates : List Int} {k : Int} {j : Nat} (hj : j < (grpR rates k).length) : (gN (grpR rates k) j).toNat < rates.length ∧ 0 ≤ gN (grpR rates k) j := by
  have hm : (grpR rates k).getD j 0 ∈ grpR rates k := by rw [List.getD_eq_getElem?_getD, List.getElem?_eq_getElem hj]; exact List.getElem_mem hj
  have := (grp_mates hm).2.1
  exact ⟨by show ((((grpR rates k).getD j 0 : Nat) : Int)).toNat < _; omega, by show 0 ≤ (((grpR rates k).getD j 0 : Nat) : Int); omega⟩
theorem IsL.set {L : List Int} {f : Nat → AV} {i : Nat} {v : Int} (h : ∀ k, k < L.length → f k = eI (gI L k)) : IsL (L.set i v) ⟨2, 1, L.length, fset f i (eI v)⟩ := by
  refine ⟨_, by rw [List.length_set], fun k hk => ?_⟩
  rw [List.length_set] at hk
  by_cases e : k = i
  · subst e
    rw [fset_same]; unfold gI
    rw [List.getD_eq_getElem?_getD, List.getElem?_set_self hk]; rfl
  · rw [fset_ne e, h k hk]; unfold gI
    rw [List.getD_eq_getElem?_getD, List.getD_eq_getElem?_getD, List.getElem?_set_ne (fun e2 => e e2.symm)]
set_option maxHeartbeats 8000000 in
theorem byOrder_S (t : Tax) (rates nets : List Int) (hn : NetsIn nets) (hr : rates.length = nets.length) (hq : ∀ x ∈ rates, 0 ≤ x ∧ x ≤ 10000) (st : St) :
    S P 76 [eTax t, eInts rates, eInts nets] st fun v st' => v = eInts (orderTaxes t rates nets) ∧ st' = st := by
  have hnl := hn.len
  have hol : (orderTaxes t rates nets).length = nets.length := by unfold orderTaxes; rw [List.length_map, List.length_range]
  refine S.post (post := fun v s => ∃ bo, v = .own 1 bo 0 nets.length ∧ st bo = none ∧ (∃ y, IsL (orderTaxes t rates nets) y ∧ s bo = some y) ∧ Sup st s) ?_ (fun v s ⟨bo, h1, h2, ⟨y, ⟨f, hy, hf⟩, hb⟩, h4⟩ => ⟨_, st, ⟨rfl, rfl⟩, by
    subst hy; rw [h1]
    have e : eInts (orderTaxes t rates nets) = .arr 1 nets.length (fun i => eI (gI (orderTaxes t rates nets) i)) := by unfold eInts arrOf; rw [hol]
    rw [e]
    exact (shift_own hb rfl (by show nets.length ≤ (orderTaxes t rates nets).length; omega) (fun i hi => hf i (by omega))).trans ((Sup.del h4 h2).shift _)⟩)
  refine S_of_X [3] good mixed Tryz.func76 (by rfl) rfl rfl rfl ?_; conv => whnf
  refine mkO rfl rfl rfl (by show 8 * nets.length ≤ _; omega) (by omega) (by rfl) (fun bo hbo => ?_); conv => whnf
  refine call (qnew_S _) (fun v s hv => ?_)
  obtain ⟨q, rfl, hQ⟩ := hv
  conv => whnf
  refine lp rates.length [2, 3, 7, 8, 28, 29, 30] (fun i vs s => vs = [eInts nets, .fptr (eTax t) 0, .own 1 bo 0 nets.length, .optr 1 q 0 0, eInts rates, eI rates.length, eI i] ∧ QSt (upd st bo ⟨2, 1, nets.length, fun _ => avOf r2.zero⟩) q true ((List.range i).map (entR rates)) s) ?_ ?_
  · conv => whnf
    exact ⟨rfl, hQ⟩
  clear hQ s
  rintro i vs s hi ⟨rfl, hQ⟩
  conv => whnf
  cases h1 : decide ((i : Int) < (rates.length : Int))
  case true =>
    have hi' := go_on h1
    have hx := hq (gI rates (i : Int).toNat) (getD_mem hi')
    have hw : IntKind.i64.wrap (0 - rates.getD (i : Int).toNat default) = -(gI rates (i : Int).toNat) := (wrap64_of (show _ ≤ 0 - gI rates (i : Int).toNat by omega) (show 0 - gI rates (i : Int).toNat ≤ _ by omega)).trans (by show 0 - gI rates (i : Int).toNat = _; omega)
    conv => whnf
    refine ⟨rfl, ⟨by omega, by omega⟩, ?_⟩; conv => whnf
    rw [hw]
    refine call (qpush_S _ q _ _ _ _ hQ (by rw [List.length_map, List.length_range]; omega)) (fun v s' hv => ?_)
    obtain ⟨rfl, hQ2⟩ := hv
    conv => whnf
    refine ⟨rfl, ?_⟩; conv => whnf
    exact nx hi' ⟨by rw [wrapN (by omega)], by rw [List.range_succ, List.map_append]; exact hQ2⟩
  obtain rfl := stop_at h1 hi
  have hQ2 := QSt.perm hQ (sortR_perm rates).symm
  clear hQ
  conv => whnf
  refine ⟨[2, 3, 7, 8], fun m vs u => ∃ (D : Int → Bool) (fl : Bool) (L : List Int), m = (leftR rates D).length ∧ vs = [eInts nets, .fptr (eTax t) 0, .own 1 bo 0 nets.length, .optr 1 q 0 0] ∧ doneB t rates nets D L ∧ OQ bo q L fl (leftR rates D) st u, ?_, ?_⟩
  · conv => whnf
    exact ⟨_, fun _ => false, true, List.replicate nets.length 0, rfl, rfl, ⟨List.length_replicate, fun i hi => by
      rw [if_neg (by simp)]; unfold gI
      rw [List.getD_eq_getElem?_getD, List.getElem?_replicate]; split <;> rfl⟩, hbo, _, ⟨fun _ => avOf r2.zero, by rw [List.length_replicate], fun i hi => by
      unfold gI; rw [List.getD_eq_getElem?_getD, List.getElem?_replicate]; split <;> rfl⟩, by rw [leftR_start]; exact hQ2⟩
  clear hQ2
  rintro m vs u ⟨D, fl, L, rfl, rfl, hdone, hb0, y, hy, hQ3⟩
  conv => whnf
  refine call1 (qlen_S _ q fl _ _ hQ3) ?_
  cases hE : leftR rates D with
  | nil =>
    conv => whnf
    have hL := done_all hdone hr hE
    rw [hE] at hQ3
    exact ⟨bo, rfl, hb0, ⟨y, by rw [← hL]; exact hy, hQ3.sup bo _ (upd_same ..)⟩, Sup.drop hQ3.sup hb0⟩
  | cons x E =>
    obtain ⟨hD, hEq⟩ := leftR_head hE
    obtain ⟨i0, hi0, hi0m, hi0r⟩ := left_rate hE
    have hsort := leftR_sorted rates D
    have hkey : ∀ y ∈ leftR rates (fun z => D z || z == x.1), (y.1 == x.1) = false := leftR_notkey
    have hmeas : (leftR rates (fun z => D z || z == x.1)).length < E.length + 1 := by
      have h1 := congrArg List.length hEq
      rw [List.length_append, List.length_map, List.length_cons] at h1
      have h2 : 0 < (grpR rates x.1).length := List.length_pos_of_mem hi0m
      omega
    have hnext := done_next (k := x.1) hdone hr
    have hparts : (partsL t rates nets x.1).length = (grpR rates x.1).length ∧ ∀ st, S P 116 [eI (muchB t (sumI ((grpR rates x.1).map (gI nets))) (-x.1)), eInts ((grpR rates x.1).map (gI nets))] st fun v st' => v = .tuple [eInts (partsL t rates nets x.1), eI 0] ∧ st' = st := by
      have hw := mate_weights (t := t) hn hr (i := i0) (hq (gI rates i0) (getD_mem hi0))
      have e : mateNets rates nets i0 = (grpR rates x.1).map (gI nets) := by unfold mateNets; rw [(grp_mates hi0m).2.2]
      rw [e, hi0r] at hw
      have h3 := (largest_sum hw).2.1
      refine ⟨by unfold partsL; rw [h3, List.length_map], fun st => ?_⟩
      exact largest_S _ _ hw st
    have hGok := fun j => gN_ok (rates := rates) (k := x.1) (j := j)
    have hrate : 0 ≤ -x.1 ∧ -x.1 ≤ 10000 := by rw [← hi0r]; exact hq (gI rates i0) (getD_mem hi0)
    have hGl : (grpR rates x.1).length ≤ 1000 := by
      have : (grpR rates x.1).length ≤ (List.range rates.length).length := List.length_filter_le _ _
      rw [List.length_range] at this; omega
    have hgsum : 0 ≤ sumI ((grpR rates x.1).map (gI nets)) := sumI_nonneg fun v hv => by
      obtain ⟨j, hj, rfl⟩ := List.mem_map.1 hv
      exact hn.pos _ (getD_mem (by have := (grp_mates hj).2.1; omega))
    have hgs : ∀ j, j ≤ (grpR rates x.1).length → 0 ≤ sumI (((grpR rates x.1).take j).map (gI nets)) ∧ sumI (((grpR rates x.1).take j).map (gI nets)) ≤ 10000000000000 := fun j hj => by
      have hsub : (((grpR rates x.1).take j).map (gI nets)).Sublist nets := by
        have h1 : (((grpR rates x.1).take j).map (gI nets)).Sublist ((List.range nets.length).map (gI nets)) := by
          refine List.Sublist.map _ ((List.take_sublist _ _).trans ?_)
          unfold grpR; rw [hr]; exact List.filter_sublist
        rw [range_gI] at h1; exact h1
      have h2 := sumI_sub hsub hn.pos
      have h3 := hn.sum
      exact ⟨sumI_nonneg fun v hv => hn.pos v (hsub.subset hv), by omega⟩
    rw [hE] at hQ3 hsort
    have hQ0 : x :: E = QJ (grpR rates x.1) x.1 (leftR rates (fun z => D z || z == x.1)) 0 := hEq
    generalize grpR rates x.1 = G at *
    generalize hRest : leftR rates (fun z => D z || z == x.1) = Rest at *
    generalize partsL t rates nets x.1 = X at *
    clear hEq
    conv => whnf
    rw [show decide ((((x :: E).length : Nat) : Int) > 0) = true by rw [decide_eq_true_eq, List.length_cons]; omega]; conv => whnf
    refine call1 (qpeek_S _ q fl x E _ hQ3 (List.pairwise_cons.1 hsort).1) ?_; conv => whnf
    refine call1 (qpeek_S _ q fl x E _ hQ3 (List.pairwise_cons.1 hsort).1) ?_; conv => whnf
    have hsortQ : ∀ j, j ≤ G.length → (QJ G x.1 Rest j).Pairwise fun a b => prior b a = false := fun j hj => by
      rw [hQ0] at hsort
      refine List.Pairwise.sublist ?_ hsort
      unfold QJ
      rw [List.drop_zero]
      exact List.Sublist.append ((List.drop_sublist j G).map _) (List.Sublist.refl _)
    refine lp G.length [2, 3, 7, 8, 11, 14, 15, 16, 17, 18, 19] (fun j vs u => ∃ (fl : Bool) (lv wv : AV) (c1 c2 : Int) (is : Bool), vs = [eInts nets, .fptr (eTax t) 0, .own 1 bo 0 nets.length, .optr 1 q 0 0, eI x.1, lv, wv, eI (sumI ((G.take j).map (gI nets))), eI c1, eI c2, .bool is] ∧ peekV (QJ G x.1 Rest j) = .tuple [eI c1, eI c2, .bool is] ∧ ROut (fun s t => ROut (OQ bo q L fl (QJ G x.1 Rest j)) 3 1 (fun i => eI (gN G i)) j s lv t) 2 1 (fun i => eI (gI (G.map (gI nets)) i)) j st wv u) ?_ ?_
    · conv => whnf
      exact ⟨fl, .emp, .emp, x.1, x.2, true, rfl, by rw [← hQ0]; rfl, ROut.start (show ROut _ _ _ _ 0 st .emp u from ROut.start (show OQ bo q L fl (QJ G x.1 Rest 0) st u from ⟨hb0, y, hy, by rw [← hQ0]; exact hQ3⟩) _ _ _) _ _ _⟩
    rintro j vs w hj ⟨fl2, lv, wv, c1, c2, is, rfl, hpk, hR⟩
    by_cases hjl : j < G.length
    · have hQn := QJ_next (G := G) (k := x.1) (Rest := Rest) hjl
      rw [hQn] at hpk
      obtain ⟨rfl, rfl, rfl⟩ := peekV_inj hpk
      have hGj := hGok j hjl
      have hxn : 0 ≤ gI nets (gN G j).toNat ∧ gI nets (gN G j).toNat ≤ sumI nets := ⟨hn.pos _ (getD_mem (by omega)), sumI_mem_le hn.pos (getD_mem (by omega))⟩
      have hns := hn.sum
      have hg1 := hgs j hj
      have hg2 := hgs (j + 1) hjl
      have hgt : ((G.take (j + 1)).map (gI nets)) = ((G.take j).map (gI nets)) ++ [gI nets (gN G j).toNat] := by
        rw [List.take_succ_eq_append_getElem hjl, List.map_append]
        have : (gN G j).toNat = G[j] := by show (((G.getD j 0 : Nat) : Int)).toNat = _; rw [List.getD_eq_getElem?_getD, List.getElem?_eq_getElem hjl]; rfl
        rw [this]; rfl
      have hgm : gI (G.map (gI nets)) j = nets.getD (gN G j).toNat default := by
        unfold gI
        rw [List.getD_eq_getElem?_getD, List.getElem?_map, List.getElem?_eq_getElem hjl]
        have : (gN G j).toNat = G[j] := by show (((G.getD j 0 : Nat) : Int)).toNat = _; rw [List.getD_eq_getElem?_getD, List.getElem?_eq_getElem hjl]; rfl
        rw [this]; rfl
      have hsum : IntKind.i64.wrap (sumI ((G.take j).map (gI nets)) + nets.getD (gN G j).toNat default) = sumI ((G.take (j + 1)).map (gI nets)) := by
        rw [hgt, sumI_append] at hg2 ⊢
        have e1 : sumI [gI nets (gN G j).toNat] = gI nets (gN G j).toNat := by rw [sumI_cons]; exact Int.add_zero _
        rw [e1] at hg2 ⊢
        exact wrap64_of (show _ ≤ sumI ((G.take j).map (gI nets)) + gI nets (gN G j).toNat by omega) (show sumI ((G.take j).map (gI nets)) + gI nets (gN G j).toNat ≤ _ by omega)
      conv => whnf
      rw [show (x.1 == x.1) = true from beq_self_eq_true _]; conv => whnf
      obtain ⟨s0, hw0, s1, hl0, hb1, y1, hy1, hq1⟩ := hR
      rw [hQn] at hq1
      have hsj := hsortQ j hj
      rw [hQn] at hsj
      refine call (qpop_S _ q fl2 (x.1, gN G j) (QJ G x.1 Rest (j + 1)) _ hq1 (List.pairwise_cons.1 hsj).1) (fun v w' hv => ?_)
      obtain ⟨rfl, hq2⟩ := hv
      have hin : ROut (OQ bo q L false (QJ G x.1 Rest (j + 1))) 3 1 (fun i => eI (gN G i)) j s0 lv w' := ⟨s1, hl0, hb1, y1, hy1, hq2⟩
      have hwv : wv = .emp ∨ ∃ b, wv = .own 1 b 0 j := ROut.head (show ROut (fun s t => ROut (OQ bo q L false (QJ G x.1 Rest (j + 1))) 3 1 (fun i => eI (gN G i)) j s lv t) 2 1 (fun i => eI (gI (G.map (gI nets)) i)) j st wv w' from ⟨s0, hw0, hin⟩)
      have hlv := ROut.head hin
      obtain ⟨d1, d2, js, hpk2⟩ := peekV_form (QJ G x.1 Rest (j + 1))
      have hB1 := besideOQ bo q L false (QJ G x.1 Rest (j + 1))
      rcases hlv with rfl | ⟨bl, rfl⟩ <;> rcases hwv with rfl | ⟨bw, rfl⟩
      all_goals
        conv => whnf
        refine ⟨[2, 3, 8, 9, 10], [], [], .qui 0 (.qui 1 (.qui 4 (.qui 5 (.qui 6 (.qui 7 (.two 2 8 (.two 3 8 (.gen 8 (.gen 9 (.gen 10 (.qui 11 (.qui 12 .done))))) (.two 3 9 (.gen 9 (.gen 10 (.qui 11 (.qui 12 .done)))) (.gen 3 (.gen 10 (.qui 11 (.qui 12 .done)))))) (.two 2 9 (.two 3 9 (.gen 9 (.gen 10 (.qui 11 (.qui 12 .done)))) (.gen 3 (.gen 10 (.qui 11 (.qui 12 .done))))) (.gen 2 (.gen 3 (.gen 10 (.qui 11 (.qui 12 .done)))))))))))), by kernel_rfl, ?_⟩; conv => whnf
        refine ⟨rfl, ⟨by omega, by omega⟩, ?_⟩; conv => whnf
        repeat' (refine And.intro ?_ ?_ <;> (conv => whnf))
        all_goals
          refine ROut.app (q := r3) hB1 rfl rfl rfl rfl rfl (f := fun i => eI (gN G i)) (by rfl) (by show (j + 1) * 8 ≤ 140737488355328; omega) hin (fun lv' w2 hin2 => ?_)
          have hout2 : ROut (fun s t => ROut (OQ bo q L false (QJ G x.1 Rest (j + 1))) 3 1 (fun i => eI (gN G i)) (j + 1) s lv' t) 2 1 (fun i => eI (gI (G.map (gI nets)) i)) j st _ w2 := ⟨s0, hw0, hin2⟩
          conv => whnf
          refine ROut.app (q := r2) (besideOut hB1 _ _ _ _ _) rfl rfl rfl rfl rfl (f := fun i => eI (gI (G.map (gI nets)) i)) (by show _ = eI _; rw [hgm]; rfl) (by show (j + 1) * 8 ≤ 140737488355328; omega) hout2 (fun wv' w3 hout3 => ?_); conv => whnf
          refine ⟨rfl, ⟨by omega, by omega⟩, ?_⟩; conv => whnf
          rw [hsum]
          obtain ⟨s2, hw2, s3, hl3, hb3, y3, hy3, hq3⟩ := hout3
          have hpc := qpeekV_S _ q false _ _ hq3 (hsortQ (j + 1) hjl)
          rw [hpk2] at hpc
          refine call1 hpc ?_; conv => whnf
          refine ⟨rfl, ?_⟩; conv => whnf
          exact nx hjl ⟨false, lv', wv', d1, d2, js, rfl, hpk2, ⟨s2, hw2, s3, hl3, hb3, y3, hy3, hq3⟩⟩
    · obtain rfl : j = G.length := by omega
      rw [QJ_end] at hpk
      have hexit : (is && (c1 == x.1)) = false := by
        cases Rest with
        | nil => obtain ⟨rfl, rfl, rfl⟩ := peekV_inj hpk; rfl
        | cons r Rest => obtain ⟨rfl, rfl, rfl⟩ := peekV_inj hpk; exact hkey r (List.mem_cons_self ..)
      rw [List.take_length]
      have hM := fun u => much_S t (sumI (G.map (gI nets))) (-x.1) hrate u
      have hwn : IntKind.i64.wrap (0 - x.1) = -x.1 := (wrap64_of (by omega) (by omega)).trans (by omega)
      case' neg => cases is
      case' neg.true => have hne : (c1 == x.1) = false := hexit
      case' neg.true => conv => whnf
      case' neg.true => rw [hne]
      all_goals
        conv => whnf
        rw [hwn]
        refine call1 (hM _) ?_
        generalize muchB t (sumI (G.map (gI nets))) (-x.1) = M at hparts
        conv => whnf
        obtain ⟨w2, hsh, hR2⟩ := ROut.shift (besideOut (besideOQ bo q L fl2 Rest) _ _ _ _ _) (show ROut (fun s t => ROut (OQ bo q L fl2 Rest) 3 1 (fun i => eI (gN G i)) G.length s lv t) 2 1 (fun i => eI (gI (G.map (gI nets)) i)) G.length st wv w by rw [QJ_end] at hR; exact hR)
        have e0 : AV.arr 1 G.length (fun i => eI (gI (G.map (gI nets)) i)) = eInts (G.map (gI nets)) := by unfold eInts arrOf; rw [List.length_map]
        rw [e0] at hsh
        refine call_shift (args' := [eI M, eInts (G.map (gI nets))]) (Shift.cons (Shift.keep _ _) hsh) (call1 (hparts.2 _) ?_); conv => whnf
        refine lp X.length [2, 3, 7, 8, 14, 97, 98, 99] (fun j vs u => vs = [eInts nets, .fptr (eTax t) 0, .own 1 bo 0 nets.length, .optr 1 q 0 0, lv, eInts X, eI X.length, eI j] ∧ ROut (OQ bo q (putR L G X j) fl2 Rest) 3 1 (fun i => eI (gN G i)) G.length st lv u) ?_ ?_
        · conv => whnf
          exact ⟨rfl, hR2⟩
        rintro j vs v hjx ⟨rfl, hR3⟩
        have hPl := putR_len L G X j
        have hdl := hdone.1
        conv => whnf
        cases h5 : decide ((j : Int) < (X.length : Int))
        case' true =>
          have hj5 := go_on h5
          have hGj := hGok j (by omega)
          obtain ⟨s0, hcl, h1o, yo, ⟨fo, rfl, hfo⟩, h2o⟩ := hR3
          obtain ⟨b, g, h3, rfl, rfl, h4⟩ : ∃ b g, st b = none ∧ lv = .own 1 b 0 G.length ∧ s0 = upd st b ⟨3, 1, G.length, g⟩ ∧ ∀ k, k < G.length → g k = eI (gN G k) := by
            rcases hcl with ⟨h0, _⟩ | ⟨_, b, g, h3, h4, h5, h6⟩
            · omega
            · exact ⟨b, g, h3, h4, h5, h6⟩
          have hbb : b ≠ bo := fun e => by subst e; rw [upd_same] at h1o; cases h1o
          conv => whnf
          refine ⟨rfl, ⟨by omega, by omega⟩, ?_⟩; conv => whnf
          refine ⟨rfl, ⟨by omega, by omega⟩, ?_⟩; conv => whnf
          refine ldV (h2o.sup b _ (by rw [upd_ne hbb]; exact upd_same ..)) rfl (by show 0 + ((j : Nat) : Int).toNat < G.length; omega) (v := eI (gN G j)) (by show g (0 + ((j : Nat) : Int).toNat) = _; rw [show 0 + ((j : Nat) : Int).toNat = j by omega]; exact h4 j (by omega)) ?_; conv => whnf
          refine ⟨rfl, ⟨by omega, by omega⟩, ?_⟩; conv => whnf
          refine stV (h2o.sup bo _ (upd_same ..)) rfl (by show 0 + (gN G j).toNat < (putR L G X j).length; omega) (hfo (0 + (gN G j).toNat) (by omega)) (by rfl) ?_; conv => whnf
          refine ⟨rfl, ?_⟩; conv => whnf
          have hset : IsL (putR L G X (j + 1)) ⟨2, 1, (putR L G X j).length, fset fo (0 + (gN G j).toNat) (eI (gI X (j : Int).toNat))⟩ := by
            have := IsL.set (i := (gN G j).toNat) (v := gI X j) hfo
            rw [show 0 + (gN G j).toNat = (gN G j).toNat by omega, show (j : Int).toNat = j by omega]
            exact this
          have hw2 := (besideQ q fl2 Rest).write (y' := ⟨2, 1, (putR L G X j).length, fset fo (0 + (gN G j).toNat) (eI (gI X (j : Int).toNat))⟩) h2o (upd_same ..)
          rw [upd_twice] at hw2
          exact nx hj5 ⟨by rw [wrapN (by omega)], ⟨_, hcl, h1o, _, hset, hw2⟩⟩
        obtain rfl := stop_at h5 hjx
        conv => whnf
        refine ⟨rfl, ?_⟩; conv => whnf
        have hfin := ROut.dropped (besideOQ bo q (putR L G X X.length) fl2 Rest) hR3
        rw [hparts.1] at hfin
        exact ⟨Rest.length, hmeas, _, fl2, putR L G X G.length, by rw [hRest], rfl, hnext, by rw [hRest]; exact hfin⟩
theorem taxC_lens {t : Tax} (h : taxC t = true) : t.zones.length ≤ 20 ∧ ∀ z ∈ t.zones, z.rates.length ≤ 40 := by
  have h' := h
  unfold taxC at h
  simp only [Bool.and_eq_true, Bool.not_eq_true', Bool.or_eq_false_iff, decide_eq_false_iff_not] at h
  refine ⟨by omega, fun z hz => ?_⟩
  obtain ⟨k, hk, rfl⟩ := mem_getD hz
  exact (zoneC_ok (allAt_iff.1 h.2.1 k hk)).2.2.1
def wayF (t : Tax) : FuncId := if t.byOrder = true then 76 else 75
def taxedAt (t : Tax) (taxes nets : List Int) (i : Nat) : Int := if t.incl = true then gI nets i - gI taxes i else gI nets i
theorem map_rangeI (f : Nat → Int) (i : Nat) : (List.range (i + 1)).map f = (List.range i).map f ++ [f i] := by rw [List.range_succ, List.map_append]; rfl
theorem zeros_at (n i : Nat) : (List.replicate n (0 : Int)).getD i default = 0 := by
  rw [List.getD_eq_getElem?_getD, List.getElem?_replicate]; split <;> rfl
set_option maxHeartbeats 8000000 in
theorem levy_S {t : Tax} {z : Zone} {s : Str} {cats : List Str} {nets : List Int} {ship : Int} (h : LevyIn t z cats nets ship) (hz : zoneF t.zones s = some z) (exempt : Bool)
    (hTax : ∀ st, S P (wayF t) [eTax t, eInts (cats.map (rateF z)), eInts nets] st fun v st' => v = eInts (taxesB t (cats.map (rateF z)) nets) ∧ st' = st) (st : St) :
    S P 46 [eTax t, eS s, eB exempt, eStrs cats, eInts nets, eI ship] st fun v st' =>
      v = .tuple [eInts (levyB t z exempt cats nets ship).goods, eInts (levyB t z exempt cats nets ship).taxes, eI (levyB t z exempt cats nets ship).ship, eI (levyB t z exempt cats nets ship).shipTax, eI 0] ∧ st' = st := by
  obtain ⟨hr1, hr2⟩ := rates_ok h
  obtain ⟨t1, t2⟩ := taxes_ok (t := t) h.nets hr1 hr2
  obtain ⟨l1, l2⟩ := taxC_lens h.tax
  have hzm : z ∈ t.zones := List.mem_of_find?_eq_some hz
  have hzr := l2 z hzm
  have hn := h.nets.len
  have hcl := h.cats
  have hq := (zoneC_ok h.zone).2.1
  have hm := much_le (t := t) h.ship.1 hq
  have hs := h.ship
  have hM := fun st => lvMay_S h st
  have hZ : ∀ st, S P 73 [eTax t, eS s] st fun v st' => v = .tuple [eZone z, .bool true] ∧ st' = st := fun st => by
    have := ruleZone_S t s (by omega) (fun z hz => by have := l2 z hz; omega) st
    rw [hz] at this; exact this
  have hR := fun c st => ruleRate_S z c (by omega) st
  have hU := fun st => much_S t ship z.ship hq st
  have hL : levyB t z exempt cats nets ship = ⟨(List.range nets.length).map (taxedAt t (taxesB t (cats.map (rateF z)) nets) nets), if exempt = true then List.replicate nets.length 0 else taxesB t (cats.map (rateF z)) nets, if t.incl = true then ship - muchB t ship z.ship else ship, if exempt = true then 0 else muchB t ship z.ship⟩ := rfl
  rw [hL]
  have hnx : ∀ i, i < nets.length → 0 ≤ gI nets i ∧ gI nets i ≤ 10000000000000 := fun i hi => by
    have h1 := h.nets.pos _ (show gI nets i ∈ nets from getD_mem hi)
    have h2 := sumI_mem_le h.nets.pos (show gI nets i ∈ nets from getD_mem hi)
    have h3 := h.nets.sum
    exact ⟨h1, by omega⟩
  have htx : ∀ i, i < nets.length → 0 ≤ gI (taxesB t (cats.map (rateF z)) nets) i ∧ gI (taxesB t (cats.map (rateF z)) nets) i ≤ 10000000000000 := fun i hi => t2 _ (getD_mem (by omega))
  generalize taxesB t (cats.map (rateF z)) nets = TX at hTax t1 htx ⊢
  generalize muchB t ship z.ship = MS at hU hm ⊢
  clear hL t2
  refine S.post (post := fun v s' => ∃ gv tv c1 c2, v = .tuple [gv, tv, eI (if t.incl = true then ship - MS else ship), eI (if exempt = true then 0 else MS), eI 0] ∧
      Shift [gv] s' [eInts ((List.range nets.length).map (taxedAt t TX nets))] c1 ∧ Shift [tv] c1 [eInts (if exempt = true then List.replicate nets.length 0 else TX)] c2 ∧ Sup st c2) ?_
    (fun v s' ⟨gv, tv, c1, c2, h1, h2, h3, h4⟩ => ⟨_, st, ⟨rfl, rfl⟩, by
      rw [h1]
      exact (Shift.tuple (Shift.cons h2 (Shift.cons h3 (Shift.keep _ _))) rfl).trans (h4.shift _)⟩)
  refine S_of_X [6] good mixed Tryz.func46 (by rfl) rfl rfl rfl ?_; conv => whnf
  refine call1 (hM _) ?_; conv => whnf
  refine call1 (hZ _) ?_; conv => whnf
  intro b17 hb17; conv => whnf
  refine stV (upd_same ..) rfl (by omega) rfl (by rfl) ?_
  rw [upd_twice]; conv => whnf
  generalize hst : (upd st b17 _ : St) = S0
  obtain ⟨f17, at17, hf17⟩ : ∃ f17 : Nat → AV, S0 b17 = some ⟨78, 4, 1, f17⟩ ∧ f17 0 = eZone z := by rw [← hst]; exact ⟨_, upd_same .., by rw [fset_same]; rfl⟩
  have hs0 : Sup st S0 := by rw [← hst]; exact (Sup.refl st).upd hb17
  clear hst
  refine lp cats.length [2, 4, 5, 6, 12, 17, 19, 39, 40, 41] (fun i vs u => ∃ sv, vs = [eB exempt, eInts nets, eI ship, .fptr (eTax t) 0, .emp, .optr 4 b17 0 0, sv, eStrs cats, eI cats.length, eI i] ∧ ColL 2 1 eI ((cats.take i).map (rateF z)) S0 sv u) ?_ ?_
  · conv => whnf
    exact ⟨.emp, rfl, ColL.start _ _ _ _⟩
  rintro i vs u hi ⟨sv, rfl, hc⟩
  have hcs := hc.sup
  conv => whnf
  cases h1 : decide ((i : Int) < (cats.length : Int))
  case true =>
    have hi' := go_on h1
    have hln : ((cats.take i).map (rateF z)).length = i := by rw [List.length_map, List.length_take]; omega
    have hRi := fun st => hR (cats.getD (i : Int).toNat default) st
    have htk : (cats.take (i + 1)).map (rateF z) = (cats.take i).map (rateF z) ++ [rateF z (cats.getD (i : Int).toNat default)] := by rw [take_next hi', List.map_append]; rfl
    generalize rateF z (cats.getD (i : Int).toNat default) = RT at hRi htk
    conv => whnf
    refine ⟨rfl, ⟨by omega, by omega⟩, ?_⟩; conv => whnf
    refine ldV (hcs b17 _ at17) rfl (by omega) hf17 ?_; conv => whnf
    refine call1 (hRi _) ?_; conv => whnf
    refine ColL.app (y := RT) (q := r2) rfl rfl rfl rfl rfl (by rfl) (by rw [hln]; show (i + 1) * 8 ≤ 140737488355328; omega) hc (fun sv' t' hc' => ?_); conv => whnf
    refine ⟨rfl, ?_⟩; conv => whnf
    exact nx hi' ⟨sv', by rw [wrapN (by omega)], by rw [htk]; exact hc'⟩
  obtain rfl := stop_at h1 hi
  rw [List.take_length] at hc
  have hTS : Shift [AV.agg [eB t.incl, eB t.byOrder, eI t.round, arrOf 4 eZone t.zones], sv, eInts nets] u [eTax t, eInts (cats.map (rateF z)), eInts nets] S0 := Shift.cons (Shift.keep [eTax t] _) (Shift.cons hc.shift (Shift.keep _ _))
  clear hc hcs hM hZ hR
  generalize cats.map (rateF z) = RS at hTax hTS
  unfold wayF at hTax; conv => whnf
  cases hbo : t.byOrder
  case' false => rw [if_neg (by rw [hbo]; simp)] at hTax
  case' true => rw [if_pos hbo] at hTax
  all_goals
    conv => whnf
    refine call_shift hTS (call1 (hTax _) ?_); conv => whnf
    refine ldV at17 rfl (by omega) hf17 ?_; conv => whnf
    refine call1 (hU _) ?_; conv => whnf
    refine lp nets.length [2, 4, 6, 12, 13, 14, 15, 65, 66, 67] (fun i vs u => ∃ sv, vs = [eB exempt, eInts nets, .fptr (eTax t) 0, sv, eInts TX, eI ship, eI MS, eInts nets, eI nets.length, eI i] ∧ ColL 2 1 eI ((List.range i).map (taxedAt t TX nets)) S0 sv u) ?_ ?_
    · conv => whnf
      exact ⟨.emp, rfl, ColL.start _ _ _ _⟩
    rintro i vs u hi ⟨sv, rfl, hc⟩
    have hcs := hc.sup
    conv => whnf
    cases h1 : decide ((i : Int) < (nets.length : Int))
    case true =>
      have hi' := go_on h1
      have hln : ((List.range i).map (taxedAt t TX nets)).length = i := by rw [List.length_map, List.length_range]
      have hnx1 := hnx i hi'
      have htx1 := htx i hi'
      have htk := map_rangeI (taxedAt t TX nets) i
      have hgA : taxedAt t TX nets i = if t.incl = true then gI nets (i : Int).toNat - gI TX (i : Int).toNat else gI nets (i : Int).toNat := rfl
      have hgw : IntKind.i64.wrap (gI nets (i : Int).toNat - gI TX (i : Int).toNat) = gI nets (i : Int).toNat - gI TX (i : Int).toNat := wrap64_of (show _ ≤ gI nets i - gI TX i by omega) (show gI nets i - gI TX i ≤ _ by omega)
      generalize taxedAt t TX nets i = GA at htk hgA
      conv => whnf
      refine ⟨rfl, ⟨by omega, by omega⟩, ?_⟩; conv => whnf
      cases hin : t.incl
      case' false => rw [if_neg (by rw [hin]; simp)] at hgA
      case' true =>
        rw [if_pos hin] at hgA; conv => whnf
        refine ⟨rfl, ⟨by omega, by omega⟩, ?_⟩; conv => whnf
        rw [hgw]
      all_goals
        conv => whnf
        refine ColL.app (y := GA) (q := r2) rfl rfl rfl rfl rfl (by rw [hgA]; rfl) (by rw [hln]; show (i + 1) * 8 ≤ 140737488355328; omega) hc (fun sv' t' hc' => ?_); conv => whnf
        refine ⟨rfl, ?_⟩; conv => whnf
        exact nx hi' ⟨sv', by rw [wrapN (by omega)], by rw [htk]; exact hc'⟩
    obtain rfl := stop_at h1 hi
    have hwS : IntKind.i64.wrap (ship - MS) = ship - MS := wrap64_of (by omega) (by omega)
    conv => whnf
    cases hin : t.incl
    case' false => rw [if_neg (show ¬ (false = true) by simp)]
    case' true =>
      rw [if_pos rfl]; conv => whnf
      rw [hwS]
    all_goals
      conv => whnf
      cases exempt
      · conv => whnf
        exact ⟨sv, eInts TX, S0, S0, rfl, hc.shift, Shift.keep _ _, hs0⟩
      · conv => whnf
        refine mkO rfl rfl rfl (by show 8 * nets.length ≤ _; omega) (by omega) (by rfl) (fun bz hbz => ?_); conv => whnf
        have hb0 : S0 bz = none := Col.off hc hbz
        have hc2 := Col.under (y := ⟨2, 1, nets.length, fun _ => avOf r2.zero⟩) hc hbz
        refine ⟨sv, .own 1 bz 0 nets.length, upd S0 bz ⟨2, 1, nets.length, fun _ => avOf r2.zero⟩, del (upd S0 bz ⟨2, 1, nets.length, fun _ => avOf r2.zero⟩) bz, rfl, Col.shift hc2, ?_, Sup.del (hs0.upd hb0) (hs0.none hb0)⟩
        have e : eInts (List.replicate nets.length 0) = .arr 1 nets.length (fun k => eI ((List.replicate nets.length (0 : Int)).getD k default)) := by unfold eInts arrOf; rw [List.length_replicate]
        rw [if_pos rfl, e]
        exact shift_own (upd_same ..) rfl (Nat.le_refl _) (fun k hk => by rw [zeros_at]; rfl)
structure Add where
  sku : Str
  qty : Int
  deriving Inhabited
def eAdd (x : Add) : AV := .agg [eS x.sku, eI x.qty]
theorem qsum_S (l : List Int) (h : AmountsIn l) (st : St) : S P 47 [eInts l] st fun v st' => v = eI (sumI l) ∧ st' = st := by
  have hn := h.len
  refine S_of_X [] good mixed Tryz.func47 (by rfl) rfl rfl rfl ?_; conv => whnf
  refine lp l.length [3, 6, 7, 8] (fun i vs t => vs = [eI (sumI (l.take i)), eInts l, eI l.length, eI i] ∧ t = st) ?_ ?_
  · conv => whnf
    exact ⟨rfl, rfl⟩
  · rintro i vs t hi ⟨rfl, rfl⟩
    conv => whnf
    cases h1 : decide ((i : Int) < (l.length : Int))
    · obtain rfl := stop_at h1 hi
      rw [List.take_length]; conv => whnf
      exact ⟨rfl, rfl⟩
    · have hi' := go_on h1
      have hs : IntKind.i64.wrap (sumI (l.take i) + gI l (i : Int).toNat) = sumI (l.take (i + 1)) := h.step hi'
      conv => whnf
      refine ⟨rfl, ⟨by omega, by omega⟩, ?_⟩; conv => whnf
      rw [hs]
      refine ⟨rfl, ?_⟩; conv => whnf
      exact nx hi' ⟨by rw [wrapN (by omega)], rfl⟩
theorem book_S (q : Quote) (h1 : AmountsIn q.goods) (h2 : AmountsIn q.taxes) (st : St) : S P 25 [eQuote q] st fun v st' => v = eBook (bookB q) ∧ st' = st := by
  have c1 := fun s => qsum_S q.goods h1 s
  have c2 := fun s => qsum_S q.taxes h2 s
  have hB : bookB q = ⟨sumI q.goods, sumI q.taxes, q.ship, q.shipTax, 0⟩ := rfl
  rw [hB]
  generalize sumI q.goods = G at c1 ⊢
  generalize sumI q.taxes = T' at c2 ⊢
  refine S_sup ?_
  refine S_of_X [1] good mixed Tryz.func25 (by rfl) rfl rfl rfl ?_; conv => whnf
  intro b2 hb; conv => whnf
  refine ⟨[11], [], List.range 12, by kernel_rfl, ?_⟩; conv => whnf
  refine ⟨_, callQ (c1 _), ?_⟩; conv => whnf
  refine ⟨_, callQ (c2 _), ?_⟩; conv => whnf
  refine stV (upd_same ..) rfl (by omega) rfl (by rfl) ?_; conv => whnf
  refine ldV (upd_same ..) rfl (by omega) (fset_same ..) ?_; conv => whnf
  exact ⟨rfl, ((Sup.refl st).upd hb).over hb⟩
theorem catsB_len (r : Rules) (l : List Line) : (catsB r l).length = l.length := by unfold catsB itemsOf; rw [List.length_map, List.length_map]
theorem four_in {a b c d : Int} (ha : -10000000000000 ≤ a ∧ a ≤ 10000000000000) (hb : -10000000000000 ≤ b ∧ b ≤ 10000000000000) (hc : -10000000000000 ≤ c ∧ c ≤ 10000000000000) (hd : -10000000000000 ≤ d ∧ d ≤ 10000000000000) : AmountsIn [a, b, c, d] := by
  refine ⟨by show 4 ≤ 1000; decide, fun x hx => ?_⟩
  simp only [List.mem_cons, List.not_mem_nil, or_false] at hx
  rcases hx with rfl | rfl | rfl | rfl <;> assumption
theorem shift_four {a b c d : Int} {F : Nat → AV} {st : St} (h0 : F 0 = eI a) (h1 : F 1 = eI b) (h2 : F 2 = eI c) (h3 : F 3 = eI d) : Shift [.arr 1 4 F] st [eInts [a, b, c, d]] st :=
  Shift.arr (g := fun i => eI ([a, b, c, d].getD i default)) fun i hi => by
    match i, hi with
    | 0, _ => exact h0
    | 1, _ => exact h1
    | 2, _ => exact h2
    | 3, _ => exact h3
set_option maxHeartbeats 8000000 in
theorem quote_S {r : Rules} {codes : List Str} {l : List Line} {Pr : Priced} {z : Zone} {zone : Str} (exempt : Bool)
    (hP : ∀ st, S P 44 [eRules r, eStrs codes, arrOf 3 eLine l] st fun v s => v = .tuple [ePriced Pr, eI 0] ∧ s = st)
    (hI : ∀ st, S P 45 [arrOf 4 eItem r.items, arrOf 3 eLine l] st fun v s => v = arrOf 4 eItem (itemsOf r.items l) ∧ s = st)
    (hln : l.length ≤ 1000) (hV : LevyIn r.tax z (catsB r l) Pr.nets Pr.ship) (hz : zoneF r.tax.zones zone = some z)
    (hTax : ∀ st, S P (wayF r.tax) [eTax r.tax, eInts ((catsB r l).map (rateF z)), eInts Pr.nets] st fun v st' => v = eInts (taxesB r.tax ((catsB r l).map (rateF z)) Pr.nets) ∧ st' = st)
    (hsm : sumI (levyB r.tax z exempt (catsB r l) Pr.nets Pr.ship).goods ≤ 10000000000000 ∧ -10000000000000 ≤ sumI (levyB r.tax z exempt (catsB r l) Pr.nets Pr.ship).goods ∧ sumI (levyB r.tax z exempt (catsB r l) Pr.nets Pr.ship).taxes ≤ 10000000000000) (st : St) :
    S P 22 [eRules r, eS zone, eB exempt, eStrs codes, arrOf 3 eLine l] st fun v st' => v = .tuple [eQuote (quoteB r z exempt l Pr), eI 0] ∧ st' = st := by
  have hQ := levy_ok hV exempt Pr.deals
  have hlv := fun s => levy_S hV hz exempt hTax s
  have hq : quoteB r z exempt l Pr = ⟨(levyB r.tax z exempt (catsB r l) Pr.nets Pr.ship).goods, (levyB r.tax z exempt (catsB r l) Pr.nets Pr.ship).taxes, (levyB r.tax z exempt (catsB r l) Pr.nets Pr.ship).ship, (levyB r.tax z exempt (catsB r l) Pr.nets Pr.ship).shipTax, sumI (levyB r.tax z exempt (catsB r l) Pr.nets Pr.ship).goods + sumI (levyB r.tax z exempt (catsB r l) Pr.nets Pr.ship).taxes + (levyB r.tax z exempt (catsB r l) Pr.nets Pr.ship).ship + (levyB r.tax z exempt (catsB r l) Pr.nets Pr.ship).shipTax, Pr.deals⟩ := rfl
  rw [hq]
  have hpos : 0 ≤ sumI (levyB r.tax z exempt (catsB r l) Pr.nets Pr.ship).taxes := sumI_nonneg hQ.pos
  obtain ⟨q1, q2, q3, q4, q5, q6, q7, _⟩ := hQ
  have q1 : AmountsIn (levyB r.tax z exempt (catsB r l) Pr.nets Pr.ship).goods := q1
  have q2 : AmountsIn (levyB r.tax z exempt (catsB r l) Pr.nets Pr.ship).taxes := q2
  have q6 : 0 ≤ (levyB r.tax z exempt (catsB r l) Pr.nets Pr.ship).ship ∧ (levyB r.tax z exempt (catsB r l) Pr.nets Pr.ship).ship ≤ 10000000000000 := q6
  have q7 : 0 ≤ (levyB r.tax z exempt (catsB r l) Pr.nets Pr.ship).shipTax ∧ (levyB r.tax z exempt (catsB r l) Pr.nets Pr.ship).shipTax ≤ 10000000000000 := q7
  clear hq q3 q4 q5 hTax hV hz
  generalize levyB r.tax z exempt (catsB r l) Pr.nets Pr.ship = V at *
  have s1 := fun s => qsum_S V.goods q1 s
  have s2 := fun s => qsum_S V.taxes q2 s
  have s3 := fun s => qsum_S [sumI V.goods, sumI V.taxes, V.ship, V.shipTax] (four_in (by omega) (by omega) (by omega) (by omega)) s
  have e3 : sumI [sumI V.goods, sumI V.taxes, V.ship, V.shipTax] = sumI V.goods + sumI V.taxes + V.ship + V.shipTax := by
    show 0 + sumI V.goods + sumI V.taxes + V.ship + V.shipTax = _; omega
  rw [e3] at s3
  have hil : (itemsOf r.items l).length = l.length := List.length_map ..
  have hcb : catsB r l = (itemsOf r.items l).map Ab.Item.cat := rfl
  rw [hcb] at hlv
  generalize itemsOf r.items l = IT at hI hil hlv
  clear hcb
  refine S_sup ?_
  refine S_of_X [5, 16] good mixed Tryz.func22 (by rfl) rfl rfl rfl ?_; conv => whnf
  intro b10 hb10; conv => whnf
  refine call1 (hP _) ?_; conv => whnf
  intro b12 hb12
  have h02 : b10 ≠ b12 := fun e => by subst e; rw [upd_same] at hb12; cases hb12
  conv => whnf
  refine stV (upd_same ..) rfl (by omega) rfl (by rfl) ?_
  rw [upd_twice]; conv => whnf
  refine call1 (hI _) ?_; conv => whnf
  generalize hst : (upd (upd st b10 _) b12 _ : St) = S0
  obtain ⟨f12, at12, hf12⟩ : ∃ f12 : Nat → AV, S0 b12 = some ⟨92, 4, 1, f12⟩ ∧ f12 0 = ePriced Pr := by rw [← hst]; exact ⟨_, upd_same .., by rw [fset_same]; rfl⟩
  obtain ⟨f10, at10⟩ : ∃ f10 : Nat → AV, S0 b10 = some ⟨59, 6, 1, f10⟩ ∧ f10 0 = avOf r59.zero := by rw [← hst, upd_ne h02]; exact ⟨_, upd_same .., rfl⟩
  obtain ⟨at10, hf10⟩ := at10
  have hs0 : Sup st S0 := by rw [← hst]; exact ((Sup.refl st).upd hb10).upd hb12
  have n12 : st b12 = none := by rw [upd_ne h02.symm] at hb12; exact hb12
  clear hst
  refine lp IT.length [1, 2, 5, 10, 12, 14, 35, 36, 37] (fun i vs u => ∃ sv, vs = [eS zone, eB exempt, .fptr (eRules r) 0, .optr 6 b10 0 0, .optr 4 b12 0 0, sv, arrOf 4 eItem IT, eI IT.length, eI i] ∧ ColL 9 1 eS ((IT.take i).map Ab.Item.cat) S0 sv u) ?_ ?_
  · conv => whnf
    exact ⟨.emp, rfl, ColL.start _ _ _ _⟩
  rintro i vs u hi ⟨sv, rfl, hc⟩
  have hcs := hc.sup
  conv => whnf
  cases h1 : decide ((i : Int) < (IT.length : Int))
  case true =>
    have hi' := go_on h1
    have hln2 : ((IT.take i).map Ab.Item.cat).length = i := by rw [List.length_map, List.length_take]; omega
    have htk : (IT.take (i + 1)).map Ab.Item.cat = (IT.take i).map Ab.Item.cat ++ [(IT.getD (i : Int).toNat default).cat] := by rw [take_next hi', List.map_append]; rfl
    conv => whnf
    refine ⟨rfl, ⟨by omega, by omega⟩, ?_⟩; conv => whnf
    refine ColL.app (y := (IT.getD (i : Int).toNat default).cat) (q := r9) rfl rfl rfl rfl rfl (by rfl) (by rw [hln2]; show (i + 1) * 16 ≤ 140737488355328; omega) hc (fun sv' t' hc' => ?_); conv => whnf
    refine ⟨rfl, ?_⟩; conv => whnf
    exact nx hi' ⟨sv', by rw [wrapN (by omega)], by rw [htk]; exact hc'⟩
  obtain rfl := stop_at h1 hi
  rw [List.take_length] at hc; conv => whnf
  refine ldV (hcs b12 _ at12) rfl (by omega) hf12 ?_; conv => whnf
  refine ldV (hcs b12 _ at12) rfl (by omega) hf12 ?_; conv => whnf
  have hTS : Shift [eTax r.tax, eS zone, eB exempt, sv, eInts Pr.nets, eI Pr.ship] u [eTax r.tax, eS zone, eB exempt, eStrs (IT.map Ab.Item.cat), eInts Pr.nets, eI Pr.ship] S0 :=
    Shift.cons (Shift.keep [eTax r.tax] _) (Shift.cons (Shift.keep [eS zone] _) (Shift.cons (Shift.keep [eB exempt] _) (Shift.cons hc.shift (Shift.keep _ _))))
  refine call_shift hTS (call1 (hlv _) ?_); conv => whnf
  refine ⟨[15], [], List.range 17, by kernel_rfl, ?_⟩; conv => whnf
  refine ⟨_, callQ (s1 _), ?_⟩; conv => whnf
  refine ⟨_, callQ (s2 _), ?_⟩; conv => whnf
  refine ⟨_, ⟨rfl, rfl⟩, ?_⟩; conv => whnf
  refine ⟨_, call_shift (shift_four rfl rfl rfl rfl) (callQ (s3 _)), ?_⟩; conv => whnf
  refine ldV at12 rfl (by omega) hf12 ?_; conv => whnf
  refine stV at10 rfl (by omega) hf10 (by rfl) ?_; conv => whnf
  refine ldV (upd_same ..) rfl (by omega) (fset_same ..) ?_; conv => whnf
  exact ⟨rfl, hs0.over hb10⟩
def badAdd (x : Add) : Bool := decide (x.qty < 1) || decide (x.qty > 100000)
def addLine (items : List Ab.Item) (x : Add) : Line := ⟨x.sku, x.qty, (items.getD (findB items x.sku).toNat default).price⟩
def linesB (items : List Ab.Item) (adds : List Add) : List Line × Int :=
  if adds.length < 1 ∨ adds.length > 1000 then ([], 2) else if (adds.any badAdd) = true then ([], 2) else if (adds.any fun x => decide (findB items x.sku < 0)) = true then ([], 7) else (adds.map (addLine items), 0)
theorem qlines_S (items : List Ab.Item) (adds : List Add) (hi : items.length ≤ 4611686018427387904) (st : St) :
    S P 13 [arrOf 4 eItem items, arrOf 2 eAdd adds] st fun v st' => v = .tuple [arrOf 3 eLine (linesB items adds).1, eI (linesB items adds).2] ∧ st' = st := by
  have hB : linesB items adds = if adds.length < 1 ∨ adds.length > 1000 then ([], 2) else if (adds.any badAdd) = true then ([], 2) else if (adds.any fun x => decide (findB items x.sku < 0)) = true then ([], 7) else (adds.map (addLine items), 0) := rfl
  refine S.post (post := fun v s' => (∃ e, linesB items adds = ([], e) ∧ v = .tuple [.emp, eI e] ∧ Sup st s') ∨ (∃ sv, linesB items adds = (adds.map (addLine items), 0) ∧ v = .tuple [sv, eI 0] ∧ ColL 36 3 eLine (adds.map (addLine items)) st sv s')) ?_ (fun v s' hv => ⟨_, st, ⟨rfl, rfl⟩, by
    rcases hv with ⟨e, h1, rfl, h2⟩ | ⟨sv, h1, rfl, h2⟩
    · rw [h1]; exact (Shift.tuple (Shift.cons (shift_emp 3 _) (Shift.keep _ _)) rfl).trans (h2.shift _)
    · rw [h1]; exact Shift.tuple (Shift.cons h2.shift (Shift.keep _ _)) rfl⟩)
  refine S_of_X [7, 10] good mixed Tryz.func13 (by rfl) rfl rfl rfl ?_; conv => whnf
  refine fork (fun h1 => ?_) (fun h1 => ?_) <;> rw [h1] <;> simp only [decide_eq_true_eq, decide_eq_false_iff_not] at h1
  · rw [if_pos (.inl (by omega))] at hB; conv => whnf
    exact .inl ⟨2, hB, rfl, Sup.refl _⟩
  conv => whnf
  refine fork (fun h2 => ?_) (fun h2 => ?_) <;> rw [h2] <;> simp only [decide_eq_true_eq, decide_eq_false_iff_not] at h2
  · rw [if_pos (.inr (by omega))] at hB; conv => whnf
    exact .inl ⟨2, hB, rfl, Sup.refl _⟩
  rw [if_neg (by omega)] at hB; conv => whnf
  refine lp adds.length [0, 1, 20, 21, 22] (fun i vs t => (∀ j, j < i → badAdd (adds.getD j default) = false) ∧ vs = [arrOf 4 eItem items, arrOf 2 eAdd adds, arrOf 2 eAdd adds, eI adds.length, eI i] ∧ t = st) ?_ ?_
  · conv => whnf
    exact ⟨fun j hj => absurd hj (by omega), rfl, rfl⟩
  rintro i vs t hi' ⟨hno, rfl, rfl⟩
  conv => whnf
  cases h3 : decide ((i : Int) < (adds.length : Int))
  case true =>
    have hi2 := go_on h3
    have hbad : badAdd (adds.getD (i : Int).toNat default) = true → linesB items adds = ([], 2) := fun h => by
      rw [if_pos (List.any_eq_true.2 ⟨_, getD_mem hi2, h⟩)] at hB; exact hB
    conv => whnf
    refine ⟨rfl, ⟨by omega, by omega⟩, ?_⟩; conv => whnf
    refine fork (fun h4 => ?_) (fun h4 => ?_) <;> rw [h4]
    · conv => whnf
      exact .inl ⟨2, hbad (by unfold badAdd; rw [h4]; rfl), rfl, Sup.refl _⟩
    conv => whnf
    refine fork (fun h5 => ?_) (fun h5 => ?_) <;> rw [h5]
    · conv => whnf
      exact .inl ⟨2, hbad (by unfold badAdd; rw [h5, Bool.or_true]), rfl, Sup.refl _⟩
    conv => whnf
    refine ⟨rfl, ?_⟩; conv => whnf
    exact nx hi2 ⟨lt_next hno (show badAdd (adds.getD (i : Int).toNat default) = false by unfold badAdd; rw [h4, h5]; rfl), by rw [wrapN (by omega)], rfl⟩
  obtain rfl := stop_at h3 hi'
  rw [if_neg (by
    rw [Bool.not_eq_true, List.any_eq_false]
    intro x hx
    obtain ⟨j, hj, rfl⟩ := mem_getD hx
    rw [hno j hj]; simp)] at hB
  conv => whnf
  refine lp adds.length [0, 8, 35, 36, 37] (fun i vs s => ∃ sv, (∀ j, j < i → (fun x : Add => decide (findB items x.sku < 0)) (adds.getD j default) = false) ∧ vs = [arrOf 4 eItem items, sv, arrOf 2 eAdd adds, eI adds.length, eI i] ∧ ColL 36 3 eLine ((adds.take i).map (addLine items)) t sv s) ?_ ?_
  · conv => whnf
    exact ⟨.emp, fun j hj => absurd hj (by omega), rfl, ColL.start _ _ _ _⟩
  rintro i vs s hi2 ⟨sv, hno2, rfl, hc⟩
  conv => whnf
  cases h4 : decide ((i : Int) < (adds.length : Int))
  case false =>
    obtain rfl := stop_at h4 hi2
    rw [List.take_length] at hc
    rw [if_neg (by
      rw [Bool.not_eq_true, List.any_eq_false]
      intro x hx
      obtain ⟨j, hj, rfl⟩ := mem_getD hx
      have := hno2 j hj
      simp only at this
      rw [this]; simp)] at hB
    conv => whnf
    exact .inr ⟨sv, hB, rfl, hc⟩
  have hi3 := go_on h4
  have hF := fun u => find_S items (adds.getD (i : Int).toNat default).sku hi u
  have hln : ((adds.take i).map (addLine items)).length = i := by rw [List.length_map, List.length_take]; omega
  have htk : (adds.take (i + 1)).map (addLine items) = (adds.take i).map (addLine items) ++ [addLine items (adds.getD (i : Int).toNat default)] := by rw [take_next hi3, List.map_append]; rfl
  have hrng := idx_lt (fun x : Ab.Item => x.sku.toList == (adds.getD (i : Int).toNat default).sku.toList) items
  have hAL : addLine items (adds.getD (i : Int).toNat default) = ⟨(adds.getD (i : Int).toNat default).sku, (adds.getD (i : Int).toNat default).qty, (items.getD (findB items (adds.getD (i : Int).toNat default).sku).toNat default).price⟩ := rfl
  have hno3 := fun h => lt_next (q := fun j => (fun x : Add => decide (findB items x.sku < 0)) (adds.getD j default) = false) hno2 h
  have hpos : (fun x : Add => decide (findB items x.sku < 0)) (adds.getD (i : Int).toNat default) = true → linesB items adds = ([], 7) := fun h => by
    rw [if_pos (List.any_eq_true.2 ⟨_, getD_mem hi3, h⟩)] at hB; exact hB
  have hf0 : findB items (adds.getD (i : Int).toNat default).sku = findB items (adds.getD i default).sku := rfl
  simp only at hpos hno3
  rw [← hf0] at hno3
  generalize hfv : findB items (adds.getD (i : Int).toNat default).sku = FV at hF hpos hno3 hAL
  have hrng2 : -1 ≤ FV ∧ FV < items.length := by rw [← hfv]; exact hrng
  conv => whnf
  refine ⟨rfl, ⟨by omega, by omega⟩, ?_⟩; conv => whnf
  refine call1 (hF _) ?_; conv => whnf
  refine fork (fun h5 => ?_) (fun h5 => ?_) <;> rw [h5]
  · conv => whnf
    exact .inl ⟨7, hpos h5, rfl, hc.sup⟩
  have h5' := of_decide_eq_false h5
  conv => whnf
  refine ⟨[11, 12], [], List.range 14, by kernel_rfl, ?_⟩; conv => whnf
  refine ⟨rfl, ⟨by omega, by omega⟩, ?_⟩; conv => whnf
  refine ColL.app (y := addLine items (adds.getD (i : Int).toNat default)) (q := r36) rfl rfl rfl rfl rfl (by rw [hAL]; rfl) (by rw [hln]; show (i + 1) * 32 ≤ 140737488355328; omega) hc (fun sv' t' hc' => ?_); conv => whnf
  refine ⟨rfl, ?_⟩; conv => whnf
  exact nx hi3 ⟨sv', hno3 h5, by rw [wrapN (by omega)], by rw [htk]; exact hc'⟩
def aqZ : Zone := ⟨⟨#[122]⟩, [], 1000, 0⟩
def aqI : List Ab.Item := [⟨⟨#[97]⟩, ⟨#[120]⟩, 50, false⟩]
def aqR : Rules := ⟨aqI, [], ⟨false, false, 0, [aqZ]⟩, ⟨0, 0⟩, ⟨0, 0, 1, 0, [], []⟩⟩
def aqL : List Line := [⟨⟨#[97]⟩, 2, 50⟩]
def aqA : List Add := [⟨⟨#[97]⟩, 2⟩]
def aqQ : Quote := ⟨[100], [10], 0, 0, 110, []⟩
theorem aq_lines : linesB aqI aqA = (aqL, 0) := by kernel_rfl
theorem aq_check : priceCheck aqR [] aqL = 0 := by kernel_rfl
theorem aq_price : priceB aqR aqL [] [] = ⟨[100], 100, 0, []⟩ := by kernel_rfl
theorem aq_fit : RulesFit aqR := ⟨Nat.zero_le _, fun p hp => absurd hp List.not_mem_nil, by show 0 < _; decide, by show 0 < _; decide⟩
theorem resO_nil {codes : List Str} {o : List Int} (ho : OrdP [] codes o) : resO [] o = [] := List.perm_nil.1 ((resO_perm [] o).trans ho.1)
theorem aqPrice_S (st : St) : S P 44 [eRules aqR, eStrs [], arrOf 3 eLine aqL] st fun v st' => v = .tuple [ePriced ⟨[100], 100, 0, []⟩, eI 0] ∧ st' = st :=
  (price_S aqR [] aqL aq_fit (by decide) (by decide) (by decide) st).mono fun v s hv => by
    obtain ⟨hv, rfl⟩ := hv
    refine ⟨?_, rfl⟩
    rcases hv with ⟨h, _⟩ | ⟨_, o1, o2, h1, h2, h3⟩
    · exact absurd aq_check h
    · rw [show aqR.promos = [] from rfl] at h1 h2 h3
      rw [resO_nil h1, resO_nil h2, aq_price] at h3
      exact h3
theorem aq_levy : LevyIn aqR.tax aqZ (catsB aqR aqL) [100] 0 := by
  refine ⟨by kernel_rfl, by kernel_rfl, by kernel_rfl, ⟨by decide, fun x hx => ?_, by decide⟩, by decide⟩
  rw [List.mem_singleton.1 hx]; decide
theorem aqQuote_S (st : St) : S P 22 [eRules aqR, eS ⟨#[122]⟩, eB false, eStrs [], arrOf 3 eLine aqL] st fun v st' => v = .tuple [eQuote aqQ, eI 0] ∧ st' = st := by
  have hI : ∀ st, S P 45 [arrOf 4 eItem aqR.items, arrOf 3 eLine aqL] st fun v s => v = arrOf 4 eItem (itemsOf aqR.items aqL) ∧ s = st := fun st => itemsOf_S _ _ (by decide) (by decide) (fun x hx => by rw [List.mem_singleton.1 hx]; kernel_rfl) st
  have h := quote_S (r := aqR) (codes := []) (l := aqL) (Pr := ⟨[100], 100, 0, []⟩) (z := aqZ) (zone := ⟨#[122]⟩) false aqPrice_S hI (by decide) aq_levy (by kernel_rfl) (fun st => byLine_S aqR.tax _ _ (by decide) (by kernel_rfl) (fun x hx => (rates_ok aq_levy).2 x hx) st) (levy_sums aq_levy false) st
  rw [show quoteB aqR aqZ false aqL ⟨[100], 100, 0, []⟩ = aqQ by kernel_rfl] at h
  exact h
theorem awake20_S (st : St) : S P 9 [] st fun v st' => v = .bool true ∧ st' = st := by
  have hLn := fun st => qlines_S aqI aqA (by decide) st
  rw [aq_lines] at hLn
  have hBk := fun st => book_S aqQ ⟨by decide, fun x hx => by rw [List.mem_singleton.1 hx]; decide⟩ ⟨by decide, fun x hx => by rw [List.mem_singleton.1 hx]; decide⟩ st
  refine S_sup ?_
  refine S_of_X [1] good mixed Tryz.func9 (by rfl) rfl rfl rfl ?_; conv => whnf
  refine call_shift ?_ (call1 (hLn st) ?_)
  · refine Shift.cons (Le.shift (Le.arr1 ?_ rfl) _) (Le.shift (Le.arr1 ?_ rfl) _)
    all_goals repeat' first | exact LeL.nil | refine LeL.cons ?_ ?_ | exact Le.refl _
  conv => whnf
  refine call_shift ?_ (call1 (aqQuote_S st) ?_)
  · refine Shift.cons (Le.shift (Le.agg ?_) _) (Shift.cons (Shift.keep [eS ⟨#[122]⟩] _) (Shift.cons (Shift.keep [eB false] _) (Shift.cons (Le.shift (Le.emp _ _) _) (Shift.keep _ _))))
    repeat' first | exact LeL.nil | refine LeL.cons ?_ ?_ | exact Le.refl _ | exact Le.emp _ _ | refine Le.arr1 ?_ rfl
  conv => whnf
  intro b hb; conv => whnf
  refine stV (upd_same ..) rfl (by omega) rfl (by rfl) ?_
  rw [upd_twice]; conv => whnf
  refine ldV (upd_same ..) rfl (by omega) (fset_same ..) ?_; conv => whnf
  refine ldV (upd_same ..) rfl (by omega) (fset_same ..) ?_; conv => whnf
  refine call1 (hBk _) ?_; conv => whnf
  exact ⟨rfl, (Sup.refl st).upd hb⟩
structure ZoneSm (z : Zone) : Prop where
  n : Sm z.rates.length
  s : Sm z.name.size
  r : ∀ x ∈ z.rates, Sm x.cat.size
structure TaxSm (x : Tax) : Prop where
  n : Sm x.zones.length
  z : ∀ z ∈ x.zones, ZoneSm z
structure PromoSm (p : Promo) : Prop where
  id : Sm p.id.size
  group : Sm p.group.size
  code : Sm p.code.size
  scope : ScopeSm p.scope
  parts : Sm p.parts.length
  part : ∀ x ∈ p.parts, ScopeSm x.scope
  tiers : Sm p.tiers.length
def aheadB (a b : Promo) : Bool := if (a.prio != b.prio) = true then decide (a.prio > b.prio) else slt a.id b.id
theorem aheadB_iff (a b : Promo) : aheadB a b = true ↔ a.prio > b.prio ∨ (a.prio = b.prio ∧ slt a.id b.id = true) := by
  unfold aheadB
  split
  · rename_i h; simp only [bne_iff_ne, ne_eq] at h; rw [decide_eq_true_eq]; omega
  · rename_i h; simp only [bne_iff_ne, ne_eq, Classical.not_not] at h; constructor
    · exact fun h2 => .inr ⟨h, h2⟩
    · rintro (h2 | h2)
      · omega
      · exact h2.2
theorem ahead_asymm {a b : Promo} (h : aheadB a b = true) : aheadB b a = false := by
  rw [← Bool.not_eq_true, aheadB_iff]
  rw [aheadB_iff] at h
  rcases h with h | ⟨h1, h2⟩
  · rintro (h3 | h3) <;> omega
  · rintro (h3 | h3)
    · omega
    · rw [slt_asymm h2] at h3; cases h3.2
theorem nahead_trans {a b c : Promo} (h : aheadB b a = false) (k : aheadB c b = false) : aheadB c a = false := by
  rw [← Bool.not_eq_true, aheadB_iff] at *
  rintro (h3 | ⟨h3, h4⟩)
  · by_cases e : b.prio > a.prio
    · exact h (.inl e)
    · exact k (.inl (by omega))
  · by_cases e : b.prio = a.prio
    · have h5 : slt b.id a.id = false := by rw [← Bool.not_eq_true]; exact fun e2 => h (.inr ⟨e, e2⟩)
      have h6 : slt c.id b.id = false := by rw [← Bool.not_eq_true]; exact fun e2 => k (.inr ⟨by omega, e2⟩)
      rw [sle_trans h5 h6] at h4; cases h4
    · by_cases e2 : b.prio > a.prio
      · exact h (.inl e2)
      · exact k (.inl (by omega))
def PrOrd (l : List Promo) (x y : Int) : Prop := aheadB (prAt l y) (prAt l x) = false
theorem netsAt_len (us : List AUnit) (mine : List Int) : (netsAt us mine).length = mine.length := List.length_map ..
theorem Places.take {us : List AUnit} {l : List Int} (h : Places us l) (n : Nat) : Places us (l.take n) := by
  have e : ∀ k, k < (l.take n).length → gI (l.take n) k = gI l k ∧ k < l.length := fun k hk => by
    rw [List.length_take] at hk
    unfold gI
    rw [List.getD_eq_getElem?_getD, List.getD_eq_getElem?_getD, List.getElem?_take_of_lt (by omega)]
    exact ⟨rfl, by omega⟩
  exact ⟨fun k hk => by rw [(e k hk).1]; exact h.rng k (e k hk).2, fun i k hik hk => by rw [(e k hk).1, (e i (by omega)).1]; exact h.ne i k hik (e k hk).2⟩
end Go.Proofs.YtfajkgonocpddaaGreat
