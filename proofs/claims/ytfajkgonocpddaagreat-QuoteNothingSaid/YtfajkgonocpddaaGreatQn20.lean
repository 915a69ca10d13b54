/- Part 20 of the proof: contracts of the functions that the law reaches -/
import Derived.Test.YtfajkgonocpddaaGreatQn19
import Derived.Shelf.SlicesE.Compact
set_option maxRecDepth 100000
set_option linter.unusedVariables false
set_option linter.unusedSimpArgs false
namespace Go.Proofs.YtfajkgonocpddaaGreat
open Go Go.Ab
attribute [local irreducible] upd del
structure MkD where
  p : Promo
  us : List AUnit
  bm : Nat
  bu : Nat
  br : Nat
  n : Nat
  q : Nat → Nat
def IsM (d : MkD) (len : Nat) (y : Blk) : Prop := ∃ f, y = ⟨264, 18, 1, f⟩ ∧ f 0 = .agg (cPromo d.p ++ [eUnits d.us, .own 1 d.bu 0 len, .own 1 d.br 0 d.n])
def IsUsed (used : List Bool) (y : Blk) : Prop := ∃ g, y = ⟨4, 1, used.length, g⟩ ∧ ∀ k, k < used.length → g k = eB (used.getD k default)
def IsRest (d : MkD) (y : Blk) : Prop := ∃ g, y = ⟨162, 1, d.n, g⟩ ∧ ∀ k, k < d.n → g k = .optr 1 (d.q k) 0 0
def MkR (d : MkD) (used : List Bool) (es : Nat → List QE) : St → St → Prop := AddB d.bm (IsM d used.length) (AddB d.bu (IsUsed used) (AddB d.br (IsRest d) (Qs d.n d.q es)))
theorem besideM (d : MkD) (used : List Bool) (es : Nat → List QE) : Beside (MkR d used es) := besideB (besideB (besideB (besideQs _ _ _)))
theorem MkR.facts {d : MkD} {used : List Bool} {es : Nat → List QE} {s t : St} (h : MkR d used es s t) :
    (∃ f, t d.bm = some ⟨264, 18, 1, f⟩ ∧ f 0 = .agg (cPromo d.p ++ [eUnits d.us, .own 1 d.bu 0 used.length, .own 1 d.br 0 d.n])) ∧
    (∃ g, t d.bu = some ⟨4, 1, used.length, g⟩ ∧ ∀ k, k < used.length → g k = eB (used.getD k default)) ∧
    (∃ g, t d.br = some ⟨162, 1, d.n, g⟩ ∧ ∀ k, k < d.n → g k = .optr 1 (d.q k) 0 0) := by
  have b1 := besideQs d.n d.q es
  have b2 : Beside (AddB d.br (IsRest d) (Qs d.n d.q es)) := besideB b1
  have b3 : Beside (AddB d.bu (IsUsed used) (AddB d.br (IsRest d) (Qs d.n d.q es))) := besideB b2
  obtain ⟨y1, ⟨f, rfl, hf⟩, h1⟩ := AddB.at b3 h
  obtain ⟨_, _, _, h⟩ := h
  obtain ⟨y2, ⟨g, rfl, hg⟩, h2⟩ := AddB.at b2 h
  obtain ⟨_, _, _, h⟩ := h
  obtain ⟨y3, ⟨k, rfl, hk⟩, h3⟩ := AddB.at b1 h
  exact ⟨⟨f, h1, hf⟩, ⟨g, h2, hg⟩, ⟨k, h3, hk⟩⟩
theorem MkR.pop_S {d : MkD} {used : List Bool} {es : Nat → List QE} {s t : St} (h : MkR d used es s t) {k : Nat} (hk : k < d.n) {x : QE} {rest : List QE} (he : es k = x :: rest) (htop : ∀ y ∈ rest, prior y x = false) :
    S P 106 [.optr 1 (d.q k) 0 0] t fun v t' => v = .tuple [eI x.1, eI x.2, .bool true] ∧ MkR d used (fupd es k rest) s t' := by
  obtain ⟨h1, y1, e1, h2, y2, e2, h3, y3, e3, hq⟩ := h
  exact (hq.pop_S hk he htop).mono fun v t' hv => ⟨hv.1, h1, y1, e1, h2, y2, e2, h3, y3, e3, hv.2⟩
theorem MkR.pop0_S {d : MkD} {used : List Bool} {es : Nat → List QE} {s t : St} (h : MkR d used es s t) {k : Nat} (hk : k < d.n) (he : es k = []) :
    S P 106 [.optr 1 (d.q k) 0 0] t fun v t' => v = .tuple [eI 0, eI 0, .bool false] ∧ t' = t := by
  obtain ⟨h1, y1, e1, h2, y2, e2, h3, y3, e3, hq⟩ := h
  exact hq.pop0_S hk he
theorem MkR.use {d : MkD} {used : List Bool} {es : Nat → List QE} {s t : St} (h : MkR d used es s t) {i : Nat} (hi : i < used.length) {g : Nat → AV} (hb : t d.bu = some ⟨4, 1, used.length, g⟩) (hg : ∀ k, k < used.length → g k = eB (used.getD k default)) :
    MkR d (used.set i true) es s (upd t d.bu ⟨4, 1, used.length, fset g i (eB true)⟩) := by
  have b1 := besideQs d.n d.q es
  have b2 : Beside (AddB d.br (IsRest d) (Qs d.n d.q es)) := besideB b1
  unfold MkR at h ⊢
  rw [List.length_set]
  refine h.map fun s h => AddB.set b2 h ⟨fset g i (eB true), by rw [List.length_set], fun k hk => ?_⟩
  rw [List.length_set] at hk
  by_cases e : k = i
  · subst e; rw [fset_same]; simp [hi]
  · rw [fset_ne e, hg k hk]
    congr 1
    simp only [List.getD_eq_getElem?_getD]
    rw [List.getElem?_set_ne (fun e' => e e'.symm)]
def takeR (used : List Bool) : List QE → Option Int × List QE
  | [] => (none, [])
  | e :: es => if used.getD e.2.toNat default = true then takeR used es else (some e.2, es)
def useF (used : List Bool) : Option Int → List Bool
  | none => used
  | some i => used.set i.toNat true
def takeV : Option Int → AV
  | none => .tuple [eI 0, eB false]
  | some i => .tuple [eI i, eB true]
theorem fupd_twice {α : Type} (f : Nat → α) (i : Nat) (u v : α) : fupd (fupd f i u) i v = fupd f i v := by
  funext k; unfold fupd; split <;> rfl
theorem fupd_self {α : Type} (f : Nat → α) (i : Nat) : fupd f i (f i) = f := by
  funext k; unfold fupd; split
  · rename_i e; rw [e]
  · rfl
theorem take_S (d : MkD) (used : List Bool) (es : Nat → List QE) (s t : St) (h : MkR d used es s t) (k : Nat) (hk : k < d.n) (hr : ∀ e ∈ es k, 0 ≤ e.2 ∧ e.2.toNat < used.length) (hs : (es k).Pairwise fun a b => prior b a = false) :
    S P 245 [.optr 18 d.bm 0 0, eI k] t fun v t' => v = takeV (takeR used (es k)).1 ∧ MkR d (useF used (takeR used (es k)).1) (fupd es k (takeR used (es k)).2) s t' := by
  refine S_of_X [] good mixed Tryz.func245 (by rfl) rfl rfl rfl ?_; conv => whnf
  refine ⟨[0, 1], fun m vs t' => ∃ l : List QE, m = l.length ∧ vs = [.optr 18 d.bm 0 0, eI k] ∧ takeR used l = takeR used (es k) ∧ (∀ e ∈ l, 0 ≤ e.2 ∧ e.2.toNat < used.length) ∧ (l.Pairwise fun a b => prior b a = false) ∧ MkR d used (fupd es k l) s t', ?_, ?_⟩
  · conv => whnf
    exact ⟨_, es k, rfl, rfl, rfl, hr, hs, by rw [fupd_self]; exact h⟩
  · clear h hr hs
    rintro m vs t' ⟨l, rfl, rfl, hF, hr, hs, h⟩
    rw [← hF]
    obtain ⟨⟨fm, hm, hm0⟩, ⟨fu, hu, huf⟩, ⟨fr, hb, hbf⟩⟩ := h.facts
    conv => whnf
    refine ldV hm rfl (by omega) hm0 ?_; conv => whnf
    refine ⟨rfl, ⟨by omega, by omega⟩, ?_⟩; conv => whnf
    refine ldV hb rfl (by omega) (v := .optr 1 (d.q k) 0 0) (by rw [show 0 + (k : Int).toNat = k by omega]; exact hbf k hk) ?_; conv => whnf
    cases l with
    | nil =>
      refine call1 (h.pop0_S hk (fupd_same ..)) ?_; conv => whnf
      exact ⟨rfl, h⟩
    | cons x l =>
      rw [List.pairwise_cons] at hs
      refine call (h.pop_S hk (fupd_same ..) hs.1) (fun v t2 hv => ?_)
      obtain ⟨rfl, h'⟩ := hv
      rw [fupd_twice] at h'
      obtain ⟨⟨fm', hm', hm0'⟩, ⟨fu', hu', huf'⟩, _⟩ := h'.facts
      have hx := hr x (List.mem_cons_self ..)
      have hux : fu' (0 + x.2.toNat) = eB (used.getD x.2.toNat default) := by rw [Nat.zero_add]; exact huf' _ hx.2
      conv => whnf
      refine ldV hm' rfl (by omega) hm0' ?_; conv => whnf
      refine ⟨rfl, ⟨by omega, by omega⟩, ?_⟩; conv => whnf
      refine ldV hu' rfl (by omega) hux ?_; conv => whnf
      cases hx1 : used.getD x.2.toNat default with
      | true =>
        conv => whnf
        refine ⟨rfl, ?_⟩; conv => whnf
        refine ⟨l.length, Nat.lt_succ_self _, l, rfl, rfl, ?_, fun e he => hr e (List.mem_cons_of_mem _ he), hs.2, h'⟩
        show _ = if used.getD x.2.toNat default = true then takeR used l else (some x.2, l)
        rw [hx1, if_pos rfl]
      | false =>
        have hT : takeR used (x :: l) = (some x.2, l) := by
          show (if used.getD x.2.toNat default = true then takeR used l else (some x.2, l)) = _
          rw [hx1, if_neg (by simp)]
        rw [hT]; conv => whnf
        refine ldV hm' rfl (by omega) hm0' ?_; conv => whnf
        refine ⟨rfl, ⟨by omega, by omega⟩, ?_⟩; conv => whnf
        refine stV hu' rfl (by omega) hux (by rfl) ?_; conv => whnf
        refine ⟨rfl, ?_⟩
        rw [Nat.zero_add]
        exact h'.use hx.2 hu' huf'
end Go.Proofs.YtfajkgonocpddaaGreat
namespace Go.Proofs.YtfajkgonocpddaaGreat
open Go Go.Ab Go.Proofs Go.Sort
attribute [local irreducible] upd del
def sortI (l : List Int) : List Int := l.mergeSort fun x y => decide (x ≤ y)
theorem sortI_perm (l : List Int) : (sortI l).Perm l := List.mergeSort_perm ..
theorem sortI_len (l : List Int) : (sortI l).length = l.length := (sortI_perm l).length_eq
def soBlk (l : List Int) : Blk := ⟨3, 1, l.length, fun k => eI (gI (sortI l) k)⟩
theorem sort_evo {st : St} {w : World} {b n : Nat} {l : List Int} {os : Array Obj} (hb : HasI st b l) (hS : RelS st w) :
    Evo st w (upd st b (soBlk l)) (grow (putRow (Value.int .i64) (Sort.ahead w n) b 0 (sortI l).toArray) os) ∧ RelS (upd st b (soBlk l)) (grow (putRow (Value.int .i64) (Sort.ahead w n) b 0 (sortI l).toArray) os) := by
  obtain ⟨f, hst, hf⟩ := hb
  obtain ⟨cs, hok⟩ := hS b _ hst
  have hbl : b < w.heap.size := (Array.getElem?_eq_some_iff.1 hok.heap).1
  have hsz : l.length * 1 ≤ cs.size := hok.size
  have hheap : ∀ c, c < w.heap.size → (grow (putRow (Value.int .i64) (Sort.ahead w n) b 0 (sortI l).toArray) os).heap[c]? = if b = c then some (.cells (putCells (Value.int .i64) 0 (sortI l).toArray cs) 3 (0, 0)) else w.heap[c]? := fun c hc => by
    show ((w.heap.modify b (onCells (putCells (Value.int .i64) 0 (sortI l).toArray))) ++ os)[c]? = _
    rw [Array.getElem?_append_left (by simpa using hc), Array.getElem?_modify]
    split
    · rename_i e; subst e; rw [hok.heap]; rfl
    · rfl
  have hev : Evo st w (upd st b (soBlk l)) (grow (putRow (Value.int .i64) (Sort.ahead w n) b 0 (sortI l).toArray) os) := by
    refine ⟨rfl, rfl, rfl, ?_, fun c hc hs => ?_, fun c => ?_⟩
    · show w.heap.size ≤ ((w.heap.modify b _) ++ os).size
      simp
    · have hne : b ≠ c := fun e => by subst e; rw [hst] at hs; cases hs
      rw [hheap c hc, if_neg hne]
      exact ⟨rfl, by rw [upd_ne hne.symm]; exact hs⟩
    · by_cases hc : c < w.heap.size
      · unfold szOf
        rw [hheap c hc]
        by_cases e : b = c
        · subst e
          rw [hok.heap, if_pos rfl]
          simp [putCells]
        · rw [if_neg e]; exact Nat.le_refl _
      · unfold szOf
        rw [Array.getElem?_eq_none (by omega)]
        exact Nat.zero_le _
  refine ⟨hev, fun c x hx => ?_⟩
  by_cases e : c = b
  · subst e
    rw [upd_same] at hx
    cases hx
    refine ⟨putCells (Value.int .i64) 0 (sortI l).toArray cs, ?_, ?_, fun i hi => rfl, fun i hi => rfl, fun i j y hi hy => ?_⟩
    · rw [hheap c hbl, if_pos rfl]; rfl
    · show l.length * 1 ≤ _
      simpa [putCells] using hsz
    · have hi' : i < l.length := hi
      cases j with
      | succ j => simp [soBlk, cellsOf] at hy
      | zero =>
        have hy' : y = eI (gI (sortI l) i) := by simpa [soBlk, cellsOf] using hy.symm
        subst hy'
        refine ⟨.int .i64 (gI (sortI l) i), ?_, .int _ _⟩
        show (putCells (Value.int .i64) 0 (sortI l).toArray cs)[i * 1 + 0]? = _
        unfold putCells
        rw [Array.getElem?_mapIdx, Nat.mul_one, Nat.add_zero, Array.getElem?_eq_getElem (by omega), Option.map_some]
        rw [if_pos ⟨by omega, by simp [sortI_len]; omega⟩, Nat.sub_zero]
        have : (sortI l).toArray[i]! = gI (sortI l) i := by
          have hl := sortI_len l
          rw [getElem!_pos _ i (by simp [hl]; omega)]
          simp [gI, show i < (sortI l).length by omega]
        rw [this]
  · rw [upd_ne e] at hx
    obtain ⟨ds, hd⟩ := hS c x hx
    have hcl : c < w.heap.size := (Array.getElem?_eq_some_iff.1 hd.heap).1
    exact ⟨ds, hd.evo hev (by rw [hheap c hcl, if_neg (fun e' => e e'.symm)])⟩
theorem sort_S (b : Nat) (l : List Int) (hl : l.length < 4611686018427387904) (st : St) (hb : HasI st b l) :
    S P 158 [.own 1 b 0 l.length] st fun v st' => v = .tuple [] ∧ st' = upd st b (soBlk l) := by
  refine ⟨soLay.f5.enters rfl, fun cargs w hr hS => ?_⟩
  obtain ⟨hlen, hr⟩ := hr
  have hb' := hb
  obtain ⟨f, hst, hf⟩ := hb'
  obtain ⟨cs, hok⟩ := hS b _ hst
  have h0 : 0 < cargs.size := by rw [← hlen]; exact Nat.one_pos
  have ha := hr 0 _ cargs[0] rfl (Array.getElem?_eq_getElem h0)
  have hc : ∃ c, cargs = #[.slice (some ⟨b, 0, none⟩) l.length c] := by
    generalize hv : cargs[0] = v at ha
    cases ha with
    | own e b off n c hc hs =>
      refine ⟨c, Array.ext (by rw [← hlen]; rfl) fun i h1 h2 => ?_⟩
      have : i = 0 := by simp at h2; exact h2
      subst this; rw [hv]; rfl
  obtain ⟨c, rfl⟩ := hc
  have hH : Holds (Value.int .i64) w b 0 l.toArray := fun j hj => by
    have hj' : j < l.length := by simpa using hj
    obtain ⟨x, hx, hrep⟩ := hok.cell j 0 (eI (gI l j)) hj' (by show (cellsOf (f j))[0]? = _; rw [hf j hj']; rfl)
    have hxx : x = .int .i64 (gI l j) := by cases hrep; rfl
    subst hxx
    have hg : l.toArray[j]! = gI l j := by rw [getElem!_pos _ j (by simpa using hj')]; simp [gI, hj']
    refine ⟨?_, ?_⟩
    · unfold World.cell?
      rw [hok.heap, hg]
      have : cs[j * 1 + 0]? = some (.int .i64 (gI l j)) := hx
      simpa using this
    · unfold World.frozen?
      rw [hok.heap]
      simp
  have hbl : b < w.heap.size := (Array.getElem?_eq_some_iff.1 hok.heap).1
  refine (AnyM.slices_Sort_int soLay b 0 c l w hH hbl hl).mono ?_
  rintro e w' ⟨rfl, n, os, rfl⟩
  obtain ⟨h1, h2⟩ := sort_evo (n := n) (os := os) hb hS
  exact ⟨.tuple [], .tuple #[], _, ⟨rfl, rfl⟩, rfl, .tuple [] #[] rfl (fun j y c hy => by simp at hy), h2, h1⟩
theorem sort0_S (st : St) : S P 158 [.emp] st fun v st' => v = .tuple [] ∧ st' = st := by
  refine ⟨soLay.f5.enters rfl, fun cargs w hr hS => ?_⟩
  obtain ⟨hlen, hr⟩ := hr
  have h0 : 0 < cargs.size := by rw [← hlen]; exact Nat.one_pos
  have ha := hr 0 _ cargs[0] rfl (Array.getElem?_eq_getElem h0)
  have hc : ∃ A, cargs = #[.slice A 0 0] := by
    generalize hv : cargs[0] = v at ha
    cases ha with
    | emp A =>
      refine ⟨A, Array.ext (by rw [← hlen]; rfl) fun i h1 h2 => ?_⟩
      have : i = 0 := by simp at h2; exact h2
      subst this; rw [hv]; rfl
  obtain ⟨A, rfl⟩ := hc
  refine (AnyM.slices_Sort_int_none soLay A 0 w).mono ?_
  rintro e w' ⟨rfl, rfl⟩
  exact ⟨.tuple [], .tuple #[], _, ⟨rfl, rfl⟩, rfl, .tuple [] #[] rfl (fun j y c hy => by simp at hy), hS, Evo.refl _ _⟩
theorem sortOut_S {R : St → St → Prop} (hR : Beside R) {l : List Int} {s t : St} {sv : AV} (hl : l.length < 4611686018427387904) (h : ROut R 3 1 (fun k => eI (gI l k)) l.length s sv t) :
    S P 158 [sv] t fun v t' => v = .tuple [] ∧ ROut R 3 1 (fun k => eI (gI (sortI l) k)) l.length s sv t' := by
  obtain ⟨s0, hc, h⟩ := h
  rcases hc with ⟨h0, rfl, rfl⟩ | ⟨h0, bo, g, h1, rfl, rfl, h3⟩
  · exact (sort0_S t).mono fun v t' hv => ⟨hv.1, by rw [h0]; exact ⟨s0, Col.start _ _ _ _, by rw [hv.2]; exact h⟩⟩
  · have hby := hR.sup h bo _ (upd_same ..)
    refine (sort_S bo l hl t ⟨g, hby, h3⟩).mono fun v t' hv => ⟨hv.1, _, .inr ⟨h0, bo, fun k => eI (gI (sortI l) k), h1, rfl, rfl, fun k hk => rfl⟩, ?_⟩
    rw [hv.2]
    have := hR.write (y' := soBlk l) h (upd_same ..)
    rw [upd_twice] at this; exact this
end Go.Proofs.YtfajkgonocpddaaGreat
namespace Go.Proofs.YtfajkgonocpddaaGreat
open Go Go.Ab
attribute [local irreducible] upd del
structure MSt where
  used : List Bool
  es : Nat → List QE
  l : List Int
def takeF (k : Nat) (s : MSt) : Option MSt := match (takeR s.used (s.es k)).1 with
  | none => none
  | some i => some ⟨s.used.set i.toNat true, fupd s.es k (takeR s.used (s.es k)).2, s.l ++ [i]⟩
def takesF (k : Nat) : Nat → MSt → Option MSt
  | 0, s => some s
  | c + 1, s => (takesF k c s).bind (takeF k)
def partsF (parts : List Part) : Nat → MSt → Option MSt
  | 0, s => some s
  | k + 1, s => (partsF parts k s).bind (takesF k (parts.getD k default).count.toNat)
theorem takesF_none {k : Nat} {s : MSt} : ∀ {c j : Nat}, takesF k j s = none → j ≤ c → takesF k c s = none
  | 0, j, h, hj => by
    have : j = 0 := by omega
    subst this; exact h
  | c + 1, j, h, hj => by
    rcases Nat.lt_or_ge c j with h1 | h1
    · have : j = c + 1 := by omega
      subst this; exact h
    · unfold takesF; rw [takesF_none h h1]; rfl
theorem partsF_none {parts : List Part} {s : MSt} : ∀ {c j : Nat}, partsF parts j s = none → j ≤ c → partsF parts c s = none
  | 0, j, h, hj => by
    have : j = 0 := by omega
    subst this; exact h
  | c + 1, j, h, hj => by
    rcases Nat.lt_or_ge c j with h1 | h1
    · have : j = c + 1 := by omega
      subst this; exact h
    · unfold partsF; rw [partsF_none h h1]; rfl
structure MOk (us : List AUnit) (n : Nat) (s : MSt) : Prop where
  len : s.used.length = us.length
  rng : ∀ k, k < n → ∀ e ∈ s.es k, 0 ≤ e.2 ∧ e.2.toNat < us.length
  srt : ∀ k, k < n → (s.es k).Pairwise fun a b => prior b a = false
  mem : ∀ x ∈ s.l, 0 ≤ x ∧ x.toNat < us.length
theorem takeR_spec (used : List Bool) (l : List QE) : (∃ pre, l = pre ++ (match (takeR used l).1 with | none => [] | some i => (match l.find? (fun e => !used.getD e.2.toNat default) with | none => [] | some e => [e])) ++ (takeR used l).2) ∧
    (∀ i, (takeR used l).1 = some i → ∃ e ∈ l, e.2 = i ∧ used.getD i.toNat default = false) ∧ ((takeR used l).2.Sublist l) ∧ ((takeR used l).1 ≠ none → (takeR used l).2.length < l.length) := by
  induction l with
  | nil => exact ⟨⟨[], rfl⟩, (fun i h => by cases h), List.Sublist.refl _, fun h => absurd rfl h⟩
  | cons e l ih =>
    obtain ⟨⟨pre, h1⟩, h2, h3, h4⟩ := ih
    by_cases hu : used.getD e.2.toNat default = true
    · have ht : takeR used (e :: l) = takeR used l := by
        show (if used.getD e.2.toNat default = true then takeR used l else (some e.2, l)) = _
        rw [if_pos hu]
      rw [ht]
      refine ⟨⟨e :: pre, ?_⟩, fun i hi => ?_, h3.cons _, fun h => by have := h4 h; simp; omega⟩
      · rw [List.find?_cons_of_neg (by rw [hu]; simp)]
        rw [List.cons_append, List.cons_append, ← h1]
      · obtain ⟨x, hx, hx2⟩ := h2 i hi
        exact ⟨x, List.mem_cons_of_mem _ hx, hx2⟩
    · have ht : takeR used (e :: l) = (some e.2, l) := by
        show (if used.getD e.2.toNat default = true then takeR used l else (some e.2, l)) = _
        rw [if_neg hu]
      rw [ht]
      refine ⟨⟨[], ?_⟩, fun i hi => ?_, List.sublist_cons_self _ _, fun _ => by simp⟩
      · rw [List.find?_cons_of_pos (by rw [Bool.eq_false_iff.2 hu]; rfl)]; rfl
      · have : e.2 = i := by simpa using hi
        exact ⟨e, List.mem_cons_self .., this, by rw [← this]; exact Bool.eq_false_iff.2 hu⟩
theorem MOk.take {us : List AUnit} {n : Nat} {s s' : MSt} (h : MOk us n s) {k : Nat} (hk : k < n) (ht : takeF k s = some s') : MOk us n s' := by
  obtain ⟨_, t2, t3, _⟩ := takeR_spec s.used (s.es k)
  unfold takeF at ht
  split at ht
  · cases ht
  · rename_i i hi
    cases ht
    obtain ⟨e, he, rfl, hu⟩ := t2 i hi
    have hr := h.rng k hk e he
    refine ⟨by rw [List.length_set]; exact h.len, fun j hj x hx => ?_, fun j hj => ?_, fun x hx => ?_⟩
    · by_cases ej : j = k
      · subst ej; rw [show (MSt.es _ j) = _ from rfl] at hx; simp only [fupd_same] at hx; exact h.rng j hj x (t3.subset hx)
      · simp only [fupd_ne ej] at hx; exact h.rng j hj x hx
    · by_cases ej : j = k
      · subst ej; simp only [fupd_same]; exact (h.srt j hj).sublist t3
      · simp only [fupd_ne ej]; exact h.srt j hj
    · rcases List.mem_append.1 hx with hx | hx
      · exact h.mem x hx
      · rw [List.mem_singleton] at hx; rw [hx]; exact hr
theorem takeF_len {k : Nat} {s s' : MSt} (ht : takeF k s = some s') : s'.l.length = s.l.length + 1 := by
  unfold takeF at ht
  split at ht
  · cases ht
  · cases ht; simp
theorem takesF_len {k : Nat} {s : MSt} : ∀ {c : Nat} {s' : MSt}, takesF k c s = some s' → s'.l.length = s.l.length + c
  | 0, s', h => by cases h; rfl
  | c + 1, s', h => by
    unfold takesF at h
    obtain ⟨s1, h1, h2⟩ := Option.bind_eq_some_iff.1 h
    rw [takeF_len h2, takesF_len h1]; omega
theorem MOk.takes {us : List AUnit} {n : Nat} {s : MSt} (h : MOk us n s) {k : Nat} (hk : k < n) : ∀ {c : Nat} {s' : MSt}, takesF k c s = some s' → MOk us n s'
  | 0, s', e => by cases e; exact h
  | c + 1, s', e => by
    unfold takesF at e
    obtain ⟨s1, h1, h2⟩ := Option.bind_eq_some_iff.1 e
    exact (h.takes hk h1).take hk h2
structure BunOk (p : Promo) : Prop where
  n1 : 1 ≤ p.parts.length
  n8 : p.parts.length ≤ 8
  cnt : ∀ x ∈ p.parts, 1 ≤ x.count ∧ x.count ≤ 100
  amt : 0 ≤ p.amount ∧ p.amount ≤ 10000000000000
theorem BunOk.at {p : Promo} (h : BunOk p) {k : Nat} (hk : k < p.parts.length) : 1 ≤ (p.parts.getD k default).count ∧ (p.parts.getD k default).count ≤ 100 := h.cnt _ (getD_mem hk)
theorem MOk.parts {us : List AUnit} {p : Promo} {s : MSt} (h : MOk us p.parts.length s) : ∀ {k : Nat} {s' : MSt}, k ≤ p.parts.length → partsF p.parts k s = some s' → MOk us p.parts.length s'
  | 0, s', _, e => by cases e; exact h
  | k + 1, s', hk, e => by
    unfold partsF at e
    obtain ⟨s1, h1, h2⟩ := Option.bind_eq_some_iff.1 e
    exact (MOk.parts h (by omega) h1).takes (by omega) h2
theorem partsF_len {p : Promo} (hp : BunOk p) {s : MSt} : ∀ {k : Nat} {s' : MSt}, k ≤ p.parts.length → partsF p.parts k s = some s' → s'.l.length ≤ s.l.length + 100 * k
  | 0, s', _, e => by cases e; omega
  | k + 1, s', hk, e => by
    unfold partsF at e
    obtain ⟨s1, h1, h2⟩ := Option.bind_eq_some_iff.1 e
    have := partsF_len hp (by omega) h1
    have := takesF_len h2
    have := hp.at (show k < p.parts.length by omega)
    omega
def costL (us : List AUnit) (l : List Int) : Int := sumI (l.map fun i => (gU us i.toNat).net)
theorem costL_app (us : List AUnit) (l : List Int) (i : Int) : costL us (l ++ [i]) = costL us l + (gU us i.toNat).net := by
  unfold costL; rw [List.map_append, sumI_append]; simp [sumI]
theorem costL_bound {us : List AUnit} (hu : UnitsOk us) (l : List Int) (hl : ∀ x ∈ l, 0 ≤ x ∧ x.toNat < us.length) : 0 ≤ costL us l ∧ costL us l ≤ 10000000000000 * l.length := by
  unfold costL
  have c1 : ∀ (y : Int) (r : List Int), sumI (y :: r) = y + sumI r := fun y r => by
    have := sumI_append [y] r
    rw [List.singleton_append] at this
    rw [this]; simp [sumI]
  induction l with
  | nil => exact ⟨Int.le_refl _, by simp [sumI]⟩
  | cons x l ih =>
    have h1 := ih (fun y hy => hl y (List.mem_cons_of_mem _ hy))
    have h2 := hl x (List.mem_cons_self ..)
    have h3 : 0 ≤ (gU us x.toNat).net := hu.pos _ (getD_mem h2.2)
    have h4 : (gU us x.toNat).net ≤ 10000000000000 := hu.le (getD_mem h2.2)
    rw [List.map_cons, c1, List.length_cons]
    omega
theorem next_S (d : MkD) (hn : d.n = d.p.parts.length) (hp : BunOk d.p) (hu : UnitsOk d.us) (ms : MSt) (hl0 : ms.l = []) (hm : MOk d.us d.n ms) (s t : St) (h : MkR d ms.used ms.es s t) :
    S P 206 [.optr 18 d.bm 0 0] t fun v t' => match partsF d.p.parts d.n ms with
      | none => v = .tuple [.emp, eI 0, eB false] ∧ Sup s t'
      | some ms' => v = .tuple [eInts (sortI ms'.l), eI (costL d.us ms'.l - d.p.amount), eB (decide (costL d.us ms'.l > d.p.amount))] ∧ MkR d ms'.used ms'.es s t' := by
  have hB := fun (u : List Bool) (es : Nat → List QE) => besideM d u es
  refine S.post (post := fun v t' => match partsF d.p.parts d.n ms with
      | none => v = .tuple [.emp, eI 0, eB false] ∧ Sup s t'
      | some ms' => ∃ sv, v = .tuple [sv, eI (costL d.us ms'.l - d.p.amount), eB (decide (costL d.us ms'.l > d.p.amount))] ∧ ROut (MkR d ms'.used ms'.es) 3 1 (fun k => eI (gI (sortI ms'.l) k)) ms'.l.length s sv t') ?_
    (fun v t' hv => by
      cases hF : partsF d.p.parts d.n ms with
      | none => rw [hF] at hv; exact ⟨v, t', hv, Shift.refl _ _⟩
      | some ms' =>
        rw [hF] at hv
        obtain ⟨sv, rfl, hout⟩ := hv
        obtain ⟨t'', h1, h2⟩ := hout.shift (hB _ _)
        refine ⟨_, t'', ⟨rfl, h2⟩, Shift.tuple (Shift.cons (h1.trans ?_) (Shift.keep _ _)) rfl⟩
        have e : eInts (sortI ms'.l) = .arr 1 ms'.l.length (fun k => eI (gI (sortI ms'.l) k)) := by unfold eInts arrOf; rw [sortI_len]
        rw [e]; exact Shift.keep _ _)
  have hp8 := hp.n8
  refine S_of_X [8] good mixed Tryz.func206 (by rfl) rfl rfl rfl ?_
  obtain ⟨⟨fm, hmb, hm0⟩, _, _⟩ := h.facts
  conv => whnf
  refine ldV hmb rfl (by omega) hm0 ?_; conv => whnf
  refine ⟨[0, 5, 6, 15, 16, 17], fun m vs t' => ∃ (k : Nat) (ms' : MSt) (sv : AV), k ≤ d.n ∧ m = d.n - k ∧ vs = [.optr 18 d.bm 0 0, sv, eI (costL d.us ms'.l), arrOf 3 ePart d.p.parts, eI d.p.parts.length, eI k] ∧ partsF d.p.parts k ms = some ms' ∧ ROut (MkR d ms'.used ms'.es) 3 1 (fun j => eI (gI ms'.l j)) ms'.l.length s sv t', ?_, ?_⟩
  · conv => whnf
    refine ⟨_, 0, ms, .emp, Nat.zero_le _, rfl, ?_, rfl, ?_⟩
    · rw [hl0]; rfl
    · rw [hl0]; exact ROut.start h _ _ _
  · clear h hmb hm0
    rintro m vs t' ⟨k, ms1, sv, hk, rfl, rfl, hF, hout⟩
    have hok := MOk.parts (hn ▸ hm) (hn ▸ hk) hF
    have hlen := partsF_len hp (hn ▸ hk) hF
    rw [hl0, List.length_nil] at hlen
    have hcb := costL_bound hu ms1.l hok.mem
    conv => whnf
    cases h2 : decide ((k : Int) < (d.p.parts.length : Int))
    · have := of_decide_eq_false h2
      obtain rfl : k = d.n := by omega
      rw [hF]; conv => whnf
      refine call (sortOut_S (hB _ _) (by omega) hout) (fun v t2 hv => ?_)
      obtain ⟨rfl, hout2⟩ := hv
      obtain ⟨⟨fm, hmb, hm0⟩, _, _⟩ := (hout2.dropped (hB _ _)).facts
      conv => whnf
      refine ⟨[], [], [0, 1, 2, 3, 4, 5, 6, 7, 8, 9, 10, 11, 12, 13, 14, 15, 16, 17], by kernel_rfl, ?_⟩; conv => whnf
      refine ldV hmb rfl (by omega) hm0 ?_; conv => whnf
      refine ldV hmb rfl (by omega) hm0 ?_; conv => whnf
      have ha := hp.amt
      have w : IntKind.i64.wrap (costL d.us ms1.l - d.p.amount) = costL d.us ms1.l - d.p.amount := wrap64_of (by omega) (by omega)
      exact ⟨_, by rw [w]; rfl, hout2⟩
    · have hk' : k < d.p.parts.length := by have := of_decide_eq_true h2; omega
      have hcnt := hp.at hk'
      conv => whnf
      refine ⟨rfl, ⟨by omega, by omega⟩, ?_⟩; conv => whnf
      refine ⟨[0, 5, 6, 7, 15, 16, 17, 23, 24], fun m vs t' => ∃ (j : Nat) (ms' : MSt) (sv : AV), (j : Int) ≤ (d.p.parts.getD k default).count ∧ m = (d.p.parts.getD k default).count.toNat - j ∧ vs = [.optr 18 d.bm 0 0, sv, eI (costL d.us ms'.l), eI k, arrOf 3 ePart d.p.parts, eI d.p.parts.length, eI k, eI (d.p.parts.getD k default).count, eI j] ∧ takesF k j ms1 = some ms' ∧ ROut (MkR d ms'.used ms'.es) 3 1 (fun j => eI (gI ms'.l j)) ms'.l.length s sv t', ?_, ?_⟩
      · conv => whnf
        exact ⟨_, 0, ms1, sv, by omega, rfl, rfl, rfl, hout⟩
      · clear hout
        rintro m vs t' ⟨j, ms2, sv, hj, rfl, rfl, hF2, hout⟩
        have hok2 := hok.takes hk' hF2
        have hlen2 := takesF_len hF2
        have hcb2 := costL_bound hu ms2.l hok2.mem
        conv => whnf
        cases h3 : decide ((j : Int) < (d.p.parts.getD k default).count)
        · have := of_decide_eq_false h3
          have ej : j = (d.p.parts.getD k default).count.toNat := by omega
          conv => whnf
          refine ⟨rfl, ?_⟩; conv => whnf
          refine ⟨d.n - (k + 1), by omega, k + 1, ms2, sv, by omega, rfl, by rw [wrapN (by omega)], ?_, hout⟩
          unfold partsF; rw [hF, ← ej]; exact hF2
        · have hj' : (j : Int) < (d.p.parts.getD k default).count := of_decide_eq_true h3
          obtain ⟨s0, hcol, hMk⟩ := hout
          conv => whnf
          refine call (take_S d ms2.used ms2.es s0 t' hMk k (by omega) (fun e he => by rw [hok2.len]; exact hok2.rng k hk' e he) (hok2.srt k hk')) (fun v t2 hv => ?_)
          obtain ⟨rfl, hMk2⟩ := hv
          have hT : takesF k (j + 1) ms1 = takeF k ms2 := by
            show (takesF k j ms1).bind (takeF k) = _
            rw [hF2]; rfl
          have hmem := (takeR_spec ms2.used (ms2.es k)).2.1
          cases hR : (takeR ms2.used (ms2.es k)).1 with
          | none =>
            have h4 : takeF k ms2 = none := by unfold takeF; rw [hR]
            rw [h4] at hT
            have h5 := takesF_none (c := (d.p.parts.getD k default).count.toNat) hT (by omega)
            have h6 : partsF d.p.parts (k + 1) ms = none := by unfold partsF; rw [hF]; exact h5
            have h7 := partsF_none (c := d.n) h6 (by omega)
            rw [h7]; conv => whnf
            exact ⟨rfl, hcol.sup.trans ((hB _ _).sup hMk2)⟩
          | some i =>
            have h4 : takeF k ms2 = some ⟨ms2.used.set i.toNat true, fupd ms2.es k (takeR ms2.used (ms2.es k)).2, ms2.l ++ [i]⟩ := by unfold takeF; rw [hR]
            rw [hR] at hMk2
            obtain ⟨e, he, rfl, _⟩ := hmem i hR
            have hx := hok2.rng k hk' e he
            have hn0 : 0 ≤ (gU d.us e.2.toNat).net := hu.pos _ (getD_mem hx.2)
            have hn1 : (gU d.us e.2.toNat).net ≤ 10000000000000 := hu.le (getD_mem hx.2)
            conv => whnf
            refine ROut.app (q := r3) (hB _ _) rfl rfl rfl rfl rfl (f := fun j => eI (gI (ms2.l ++ [e.2]) j)) (by simp only [gI_last]; rfl) (by show (ms2.l.length + 1) * 8 ≤ 140737488355328; omega) ⟨s0, Col.congr hcol fun j hj => by rw [gI_append hj], hMk2⟩ (fun sv' t3 hout3 => ?_)
            obtain ⟨⟨fm, hmb, hm0⟩, _, _⟩ := (hout3.dropped (hB _ _)).facts
            conv => whnf
            refine ldV hmb rfl (by omega) hm0 ?_; conv => whnf
            refine ⟨rfl, ⟨by show 0 ≤ e.2; omega, by show e.2 < (d.us.length : Int); omega⟩, ?_⟩; conv => whnf
            refine ⟨rfl, ?_⟩; conv => whnf
            have w : IntKind.i64.wrap (costL d.us ms2.l + (gU d.us e.2.toNat).net) = costL d.us (ms2.l ++ [e.2]) := by rw [costL_app]; exact wrap64_of (by omega) (by omega)
            refine ⟨(d.p.parts.getD k default).count.toNat - (j + 1), by omega, j + 1, ⟨ms2.used.set e.2.toNat true, fupd ms2.es k (takeR ms2.used (ms2.es k)).2, ms2.l ++ [e.2]⟩, sv', by omega, rfl, ?_, by rw [hT]; exact h4, ?_⟩
            · rw [wrapN (by omega), ← w]
            · rw [List.length_append]; exact hout3
theorem sumI_cons (y : Int) (r : List Int) : sumI (y :: r) = y + sumI r := by
  have := sumI_append [y] r
  rw [List.singleton_append] at this
  rw [this]; simp [sumI]
theorem sumI_perm {a b : List Int} (h : a.Perm b) : sumI a = sumI b := by
  induction h with
  | nil => rfl
  | cons x _ ih => rw [sumI_cons, sumI_cons, ih]
  | swap x y l => rw [sumI_cons, sumI_cons, sumI_cons, sumI_cons]; omega
  | trans _ _ ih1 ih2 => exact ih1.trans ih2
theorem sumI_ub {l : List Int} {B : Int} (h : ∀ x ∈ l, x ≤ B) : sumI l ≤ l.length * B := by
  induction l with
  | nil => simp [sumI]
  | cons x l ih =>
    have h1 := ih (fun y hy => h y (List.mem_cons_of_mem _ hy))
    have h2 := h x (List.mem_cons_self ..)
    rw [sumI_cons, List.length_cons]
    have : ((l.length + 1 : Nat) : Int) * B = l.length * B + B := by
      rw [show ((l.length + 1 : Nat) : Int) = (l.length : Int) + 1 by omega, Int.add_mul, Int.one_mul]
    omega
theorem bumped_at {qs : List Int} {R : List QE} (hl : ∀ e ∈ R, e.2.toNat < qs.length) (hd : (R.map fun e => e.2.toNat).Nodup) (k : Nat) : gI (bumped qs R) k = gI qs k + if k ∈ R.map (fun e => e.2.toNat) then 1 else 0 := by
  unfold bumped
  induction R generalizing qs with
  | nil => simp
  | cons e R ih =>
    rw [List.map_cons, List.nodup_cons] at hd
    have he := hl e (List.mem_cons_self ..)
    simp only [List.foldl_cons]
    rw [ih (fun x hx => by rw [List.length_set]; exact hl x (List.mem_cons_of_mem _ hx)) hd.2]
    have hs : gI (qs.set e.2.toNat (gI qs e.2.toNat + 1)) k = if k = e.2.toNat then gI qs k + 1 else gI qs k := by
      unfold gI
      simp only [List.getD_eq_getElem?_getD, List.getElem?_set]
      by_cases h : k = e.2.toNat
      · subst h; simp [he]
      · rw [if_neg (fun e' => h e'.symm), if_neg h]
    rw [hs, List.map_cons]
    by_cases h : k = e.2.toNat
    · subst h
      rw [if_pos rfl, if_neg hd.1, if_pos (List.mem_cons_self ..)]; omega
    · rw [if_neg h]
      by_cases h2 : k ∈ R.map (fun e => e.2.toNat)
      · rw [if_pos h2, if_pos (List.mem_cons_of_mem _ h2)]
      · rw [if_neg h2, if_neg (fun h3 => by
          rcases List.mem_cons.1 h3 with h4 | h4
          · exact h h4
          · exact h2 h4)]
theorem top_pos {total : Int} {ws : List Int} (h : Weights total ws) (hS : 0 < sumI ws) {i : Nat} (hi : (i : Int) < shLeft total (sumI ws) ws ws.length) : 0 < ((shR total (sumI ws) ws).getD i default).1 := by
  have hlr := left_range h hS
  have hlen := shR_len total (sumI ws) ws
  have hil : i < (shR total (sumI ws) ws).length := by omega
  refine Int.lt_of_not_ge fun hneg => ?_
  have hsum : sumI ((shR total (sumI ws) ws).map (·.1)) = sumI ws * shLeft total (sumI ws) ws ws.length := by
    have hp := (shR_perm total (sumI ws) ws).map (·.1)
    rw [sumI_perm hp, List.map_map]
    have e := left_eq total (sumI ws) hS ws ws.length (Nat.le_refl _)
    rw [List.take_length] at e
    unfold shLeft
    rw [Int.mul_sub, Int.mul_comm (sumI ws) total]
    have : (List.range ws.length).map ((fun e : QE => e.1) ∘ shE total (sumI ws) ws) = (List.range ws.length).map fun k => total * gI ws k % sumI ws := rfl
    rw [this]; omega
  have hsorted := shR_sorted total (sumI ws) ws
  have hrest : ∀ e ∈ shR total (sumI ws) ws, 0 ≤ e.1 ∧ e.1 ≤ sumI ws - 1 := fun e he => by
    obtain ⟨k, hk, rfl⟩ := List.mem_map.1 ((shR_perm total (sumI ws) ws).subset he)
    have h1 := Int.emod_nonneg (total * gI ws k) (show sumI ws ≠ 0 by omega)
    have h2 := Int.emod_lt_of_pos (total * gI ws k) hS
    show 0 ≤ total * gI ws k % sumI ws ∧ total * gI ws k % sumI ws ≤ sumI ws - 1
    omega
  generalize hR : shR total (sumI ws) ws = R at *
  have hsplit : R = R.take i ++ R.drop i := (List.take_append_drop i R).symm
  have hcons : R.drop i = R.getD i default :: R.drop (i + 1) := by
    rw [List.getD_eq_getElem?_getD, List.getElem?_eq_getElem hil]
    exact List.drop_eq_getElem_cons hil
  have hdrop : sumI ((R.drop i).map (·.1)) ≤ 0 := by
    have : ∀ x ∈ (R.drop i).map (·.1), x ≤ 0 := fun x hx => by
      obtain ⟨e, he, rfl⟩ := List.mem_map.1 hx
      rw [hcons] at he
      rcases List.mem_cons.1 he with rfl | he
      · exact hneg
      · have hs := hsorted.sublist (List.drop_sublist i R)
        rw [hcons, List.pairwise_cons] at hs
        have := (prior_no _ _).1 (hs.1 e he)
        omega
    have := sumI_ub this
    omega
  have htake : sumI ((R.take i).map (·.1)) ≤ i * (sumI ws - 1) := by
    have h1 := sumI_ub (l := (R.take i).map (·.1)) (B := sumI ws - 1) (fun x hx => by
      obtain ⟨e, he, rfl⟩ := List.mem_map.1 hx
      exact (hrest e (List.take_subset _ _ he)).2)
    rw [List.length_map, List.length_take, Nat.min_eq_left (by omega)] at h1
    exact h1
  have hall : sumI (R.map (·.1)) = sumI ((R.take i).map (·.1)) + sumI ((R.drop i).map (·.1)) := by
    conv => lhs; rw [hsplit]
    rw [List.map_append, sumI_append]
  have h2 : sumI ws * ((i : Int) + 1) ≤ sumI ws * shLeft total (sumI ws) ws ws.length := Int.mul_le_mul_of_nonneg_left (by omega) (by omega)
  rw [Int.mul_add, Int.mul_one] at h2
  have h3 : (i : Int) * (sumI ws - 1) = sumI ws * i - i := by rw [Int.mul_sub, Int.mul_one, Int.mul_comm]
  omega
theorem largest_le {total : Int} {ws : List Int} (h : Weights total ws) (ht : total ≤ sumI ws) {k : Nat} (hk : k < ws.length) : gI (largestB total ws) k ≤ gI ws k := by
  have hw := h.w0 _ (getD_mem hk)
  unfold largestB
  split
  · rename_i h0
    have : gI (ws.map fun _ => (0 : Int)) k = 0 := getD_map (fun _ : Int => (0 : Int)) ws hk
    rw [this]; exact hw
  · rename_i h0
    have hS : 0 < sumI ws := by have := sumI_nonneg h.w0; omega
    have hmem : ∀ e ∈ (shR total (sumI ws) ws).take (shLeft total (sumI ws) ws ws.length).toNat, e.2.toNat < ((List.range ws.length).map (shQ total (sumI ws) ws)).length := fun e he => by
      rw [List.length_map, List.length_range]; exact (shR_mem (List.take_subset _ _ he)).2
    have hnd : (((shR total (sumI ws) ws).take (shLeft total (sumI ws) ws ws.length).toNat).map fun e => e.2.toNat).Nodup := by
      have h1 : ((shR total (sumI ws) ws).map fun e => e.2.toNat).Nodup := by
        have hp := (shR_perm total (sumI ws) ws).map fun e => e.2.toNat
        refine hp.nodup_iff.2 ?_
        rw [List.map_map]
        have : (List.range ws.length).map ((fun e : QE => e.2.toNat) ∘ shE total (sumI ws) ws) = (List.range ws.length).map id := by
          refine List.map_congr_left fun k _ => ?_
          show (k : Int).toNat = k
          omega
        rw [this, List.map_id]
        exact List.nodup_range
      exact h1.sublist ((List.take_sublist _ _).map _)
    rw [bumped_at hmem hnd, gI_map_range _ hk]
    have e1 := Int.mul_ediv_add_emod (total * gI ws k) (sumI ws)
    have e2 := Int.emod_nonneg (total * gI ws k) (show sumI ws ≠ 0 by omega)
    have e3 : total * gI ws k ≤ sumI ws * gI ws k := Int.mul_le_mul_of_nonneg_right ht hw
    have e4 : shQ total (sumI ws) ws k = total * gI ws k / sumI ws := rfl
    split
    · rename_i hin
      obtain ⟨e, he, hek⟩ := List.mem_map.1 hin
      obtain ⟨i, hi, rfl⟩ := mem_getD he
      rw [List.length_take] at hi
      have hle := left_range h hS
      have hpos := top_pos h hS (i := i) (by omega)
      have hti : ((shR total (sumI ws) ws).take (shLeft total (sumI ws) ws ws.length).toNat).getD i default = (shR total (sumI ws) ws).getD i default := by
        rw [List.getD_eq_getElem?_getD, List.getD_eq_getElem?_getD, List.getElem?_take_of_lt (by omega)]
      rw [hti] at hek
      have hm2 : (shR total (sumI ws) ws).getD i default ∈ shR total (sumI ws) ws := getD_mem (by omega)
      obtain ⟨j, hj, hje⟩ := List.mem_map.1 ((shR_perm total (sumI ws) ws).subset hm2)
      have hjk : j = k := by rw [← hek, ← hje]; show j = (j : Int).toNat; omega
      subst hjk
      rw [← hje] at hpos
      have hpos' : 0 < total * gI ws j % sumI ws := hpos
      have h5 : sumI ws * (total * gI ws j / sumI ws) < sumI ws * gI ws j := by omega
      have h6 : total * gI ws j / sumI ws < gI ws j := Int.lt_of_mul_lt_mul_left h5 (by omega)
      omega
    · have h5 : sumI ws * (total * gI ws k / sumI ws) ≤ sumI ws * gI ws k := by omega
      have h6 : total * gI ws k / sumI ws ≤ gI ws k := Int.le_of_mul_le_mul_left h5 hS
      omega
structure Places (us : List AUnit) (l : List Int) : Prop where
  rng : ∀ k, k < l.length → 0 ≤ gI l k ∧ (gI l k).toNat < us.length
  ne : ∀ i k, i < k → k < l.length → (gI l i).toNat ≠ (gI l k).toNat
theorem MineOk.places {us : List AUnit} {mine : List Int} (h : MineOk us mine) : Places us mine :=
  ⟨h.rng, fun i k hik hk => by
    have h1 := h.lt i k hik hk
    have h2 := (h.rng i (by omega)).1
    omega⟩
theorem takeOffP_net {us : List AUnit} {mine offs : List Int} (hm : Places us mine) : ∀ k, k ≤ mine.length → ∀ j, j < us.length → (∀ i, i < k → j ≠ (gI mine i).toNat) → gU (takeOff us mine offs k) j = gU us j
  | 0, _, j, hj, _ => rfl
  | k + 1, hk, j, hj, hne => by
    have ih := takeOffP_net (offs := offs) hm k (by omega) j hj (fun i hi => hne i (by omega))
    unfold takeOff less1
    rw [gU_set (by rw [takeOff_len]; exact (hm.rng k (by omega)).2), if_neg (hne k (by omega))]
    exact ih
theorem takeOffP_at {us : List AUnit} {mine offs : List Int} (hm : Places us mine) {k : Nat} (hk : k < mine.length) : gU (takeOff us mine offs k) (gI mine k).toNat = gU us (gI mine k).toNat :=
  takeOffP_net hm k (by omega) _ (hm.rng k hk).2 fun i hi => fun e => hm.ne i k hi hk e.symm
theorem takeOff_off {us : List AUnit} (hu : UnitsOk us) {mine offs : List Int} (hm : Places us mine) (hlen : offs.length ≤ mine.length) (h : ∀ k, k < offs.length → 0 ≤ gI offs k ∧ gI offs k ≤ (gU us (gI mine k).toNat).net) : ∀ k, k ≤ offs.length → Off us (takeOff us mine offs k) (sumI (offs.take k))
  | 0, _ => Off.refl hu
  | k + 1, hk => by
    have ih := takeOff_off hu hm hlen h k (by omega)
    have hr := hm.rng k (by omega)
    have hx := h k (by omega)
    rw [sumI_take (by omega)]
    refine ih.trans (Off.less1 (ih.ok hu) (by rw [takeOff_len]; exact hr.2) hx.1 ?_)
    rw [takeOffP_at hm (by omega)]; exact hx.2
def weighF (us : List AUnit) (l : List Int) : List Int := l.map fun i => (gU us i.toNat).net
def lessF (us : List AUnit) (l : List Int) (amount : Int) : List AUnit := takeOff us l (largestB amount (weighF us l)) l.length
theorem lessF_off {us : List AUnit} (hu : UnitsOk us) {l : List Int} (hm : Places us l) {amount : Int} (hW : Weights amount (weighF us l)) (ha : amount ≤ sumI (weighF us l)) : Off us (lessF us l amount) amount := by
  obtain ⟨a, b, c⟩ := largest_sum hW
  have hl : (weighF us l).length = l.length := by unfold weighF; rw [List.length_map]
  have := takeOff_off hu hm (offs := largestB amount (weighF us l)) (by omega) (fun k hk => ⟨c _ (getD_mem hk), by
    have h1 := largest_le hW ha (k := k) (by omega)
    have h2 : gI (weighF us l) k = (gU us (gI l k).toNat).net := getD_map (fun i : Int => (gU us i.toNat).net) l (by omega)
    rw [h2] at h1; exact h1⟩) (largestB amount (weighF us l)).length (Nat.le_refl _)
  rw [List.take_length, a] at this
  unfold lessF
  rw [show l.length = (largestB amount (weighF us l)).length by omega]
  exact this
theorem dless_S (bo : Nat) (us : List AUnit) (hu : UnitsOk us) (l : List Int) (hl : l.length ≤ 100000) (hm : Places us l) (amount : Int) (hW : Weights amount (weighF us l)) (st : St) (hb : HasU st bo us) :
    S P 207 [.own 3 bo 0 us.length, eInts l, eI amount] st fun v st' => v = .tuple [] ∧ ∃ f, st' = upd st bo ⟨136, 3, us.length, f⟩ ∧ ∀ k, k < us.length → f k = eUnit (gU (lessF us l amount) k) := by
  have hul := hu.len
  have hwl : (weighF us l).length = l.length := by unfold weighF; rw [List.length_map]
  obtain ⟨lg1, lg2, lg3⟩ := largest_sum hW
  refine S_of_X [] good mixed Tryz.func207 (by rfl) rfl rfl rfl ?_
  obtain ⟨fu, hst, hfu⟩ := hb
  conv => whnf
  refine ⟨[0, 1, 2, 6, 13, 14, 15], fun m vs st' => ∃ (i : Nat) (sv : AV), i ≤ l.length ∧ m = l.length - i ∧ vs = [.own 3 bo 0 us.length, eInts l, eI amount, sv, eInts l, eI l.length, eI i] ∧ Col 2 1 (fun k => eI (gI (weighF us l) k)) st i sv st', ?_, ?_⟩
  · conv => whnf
    exact ⟨_, 0, .emp, Nat.zero_le _, rfl, rfl, Col.start _ _ _ _⟩
  · rintro m vs st' ⟨i, sv, hi, rfl, rfl, hcol⟩
    have hst' := hcol.sup bo _ hst
    conv => whnf
    cases h : decide ((i : Int) < (l.length : Int))
    · have := of_decide_eq_false h
      obtain rfl : i = l.length := by omega
      conv => whnf
      have hsh : Shift [eI amount, sv] st' [eI amount, eInts (weighF us l)] st := by
        refine Shift.cons (Shift.keep _ _) ?_
        have e : eInts (weighF us l) = .arr 1 l.length (fun k => eI (gI (weighF us l) k)) := by unfold eInts arrOf; rw [hwl]
        rw [e]; exact hcol.shift
      refine call_shift hsh (call1 (largest_S amount (weighF us l) hW st) ?_)
      have hX : ∀ k, k < l.length → 0 ≤ gI (largestB amount (weighF us l)) k ∧ gI (largestB amount (weighF us l)) k ≤ 100000000000000 := fun k hk => by
        have h1 := lg3 _ (getD_mem (show k < (largestB amount (weighF us l)).length by omega))
        have h2 := sumI_mem_le lg3 (getD_mem (show k < (largestB amount (weighF us l)).length by omega))
        have := hW.t1
        exact ⟨h1, by show gI _ _ ≤ _; unfold gI; omega⟩
      have hlf : lessF us l amount = takeOff us l (largestB amount (weighF us l)) l.length := rfl
      have hlen : (largestB amount (weighF us l)).length = l.length := by omega
      rw [hlf]
      generalize largestB amount (weighF us l) = xs at *
      conv => whnf
      refine ⟨[0, 1, 34, 35, 36], fun m vs st' => ∃ (k : Nat) (f : Nat → AV), k ≤ l.length ∧ m = l.length - k ∧ vs = [.own 3 bo 0 us.length, eInts l, eInts xs, eI xs.length, eI k] ∧ st' = upd st bo ⟨136, 3, us.length, f⟩ ∧ ∀ j, j < us.length → f j = eUnit (gU (takeOff us l xs k) j), ?_, ?_⟩
      · conv => whnf
        exact ⟨_, 0, fu, Nat.zero_le _, rfl, rfl, (upd_self hst).symm, hfu⟩
      · rintro m vs st' ⟨k, f, hk, rfl, rfl, rfl, hf⟩
        conv => whnf
        cases h2 : decide ((k : Int) < (xs.length : Int))
        · have := of_decide_eq_false h2
          obtain rfl : k = l.length := by omega
          conv => whnf
          exact ⟨rfl, f, rfl, hf⟩
        · have hk' : k < l.length := by have := of_decide_eq_true h2; omega
          have hr := hm.rng k hk'
          have hat := takeOffP_at (offs := xs) hm hk'
          have hx := hX k hk'
          have hnet0 : 0 ≤ (gU us (gI l k).toNat).net := hu.pos _ (getD_mem hr.2)
          have hnet1 : (gU us (gI l k).toNat).net ≤ 10000000000000 := hu.le (getD_mem hr.2)
          have hfm : f (0 + (gI l k).toNat) = eUnit (gU (takeOff us l xs k) (gI l k).toNat) := by rw [Nat.zero_add]; exact hf _ hr.2
          conv => whnf
          refine ⟨rfl, ⟨by omega, by omega⟩, ?_⟩; conv => whnf
          refine ⟨rfl, ⟨by omega, by omega⟩, ?_⟩; conv => whnf
          refine ⟨rfl, ⟨by show 0 ≤ gI l k; exact hr.1, by show gI l k < (us.length : Int); have := hr.2; have := hr.1; omega⟩, ?_⟩; conv => whnf
          refine ldV (upd_same ..) rfl (by show 0 + (gI l k).toNat < _; have := hr.2; omega) hfm ?_; conv => whnf
          refine ⟨rfl, ⟨by show 0 ≤ gI l k; exact hr.1, by show gI l k < (us.length : Int); have := hr.2; have := hr.1; omega⟩, ?_⟩; conv => whnf
          refine stV (upd_same ..) rfl (by show 0 + (gI l k).toNat < _; have := hr.2; omega) hfm (by rfl) ?_; conv => whnf
          refine ⟨rfl, ?_⟩; conv => whnf
          refine ⟨l.length - (k + 1), by omega, k + 1, _, by omega, rfl, by rw [wrapN (by omega)], upd_twice, fun j hj => ?_⟩
          have w : IntKind.i64.wrap ((gU (takeOff us l xs k) (gI l k).toNat).net - gI xs k) = (gU (takeOff us l xs k) (gI l k).toNat).net - gI xs k := by
            rw [hat]; exact wrap64_of (by omega) (by omega)
          show _ = eUnit (gU (less1 (takeOff us l xs k) (gI l k).toNat (gI xs k)) j)
          unfold less1
          rw [gU_set (by rw [takeOff_len]; exact hr.2)]
          by_cases hj2 : j = (gI l k).toNat
          · rw [if_pos hj2, hj2, ← w]
            show fset f (0 + (gI l k).toNat) _ _ = _
            rw [Nat.zero_add, fset_same]; rfl
          · rw [if_neg hj2]
            show fset f (0 + (gI l k).toNat) _ _ = _
            rw [Nat.zero_add, fset_ne hj2]; exact hf j hj
    · have hi' : i < l.length := by have := of_decide_eq_true h; omega
      have hr := hm.rng i hi'
      have hg : gI (weighF us l) i = (gU us (gI l i).toNat).net := getD_map (fun i : Int => (gU us i.toNat).net) l hi'
      conv => whnf
      refine ⟨rfl, ⟨by omega, by omega⟩, ?_⟩; conv => whnf
      refine ⟨rfl, ⟨by show 0 ≤ gI l i; exact hr.1, by show gI l i < (us.length : Int); have := hr.2; have := hr.1; omega⟩, ?_⟩; conv => whnf
      refine ldV hst' rfl (by show 0 + (gI l i).toNat < _; have := hr.2; omega) (v := eUnit (gU us (gI l i).toNat)) (by show fu (0 + (gI l i).toNat) = _; rw [Nat.zero_add]; exact hfu _ hr.2) ?_; conv => whnf
      refine Col.app (q := r2) rfl rfl rfl rfl rfl (by simp only [hg]; rfl) (by show (i + 1) * 8 ≤ 140737488355328; omega) hcol (fun sv' st'' hcol' => ?_); conv => whnf
      refine ⟨rfl, ?_⟩; conv => whnf
      exact ⟨l.length - (i + 1), by omega, i + 1, sv', by omega, rfl, by rw [wrapN (by omega)], hcol'⟩
end Go.Proofs.YtfajkgonocpddaaGreat
namespace Go.Proofs.YtfajkgonocpddaaGreat
open Go Go.Ab
def tot : Nat → (Nat → List QE) → Nat
  | 0, _ => 0
  | n + 1, es => tot n es + (es n).length
theorem tot_congr {n : Nat} {es es' : Nat → List QE} (h : ∀ i, i < n → (es' i).length = (es i).length) : tot n es' = tot n es := by
  induction n with
  | zero => rfl
  | succ n ih => unfold tot; rw [ih fun i hi => h i (by omega), h n (by omega)]
theorem tot_fupd {n : Nat} {es : Nat → List QE} {k : Nat} (hk : k < n) (l : List QE) : tot n (fupd es k l) + (es k).length = tot n es + l.length := by
  induction n with
  | zero => omega
  | succ n ih =>
    unfold tot
    by_cases e : k = n
    · subst e
      rw [fupd_same, tot_congr (es := es) fun i hi => by rw [fupd_ne (by omega)]]; omega
    · have := ih (by omega)
      rw [fupd_ne (fun e' => e e'.symm)]; omega
theorem takeF_tot {n k : Nat} (hk : k < n) {s s' : MSt} (h : takeF k s = some s') : tot n s'.es + s'.l.length ≤ tot n s.es + s.l.length := by
  have h4 := (takeR_spec s.used (s.es k)).2.2.2
  unfold takeF at h
  split at h
  · cases h
  · rename_i i hi
    cases h
    have := h4 (by rw [hi]; simp)
    have := tot_fupd hk (takeR s.used (s.es k)).2 (es := s.es)
    simp only [List.length_append, List.length_cons, List.length_nil]
    omega
theorem takesF_tot {n k : Nat} (hk : k < n) {s : MSt} : ∀ {c : Nat} {s' : MSt}, takesF k c s = some s' → tot n s'.es + s'.l.length ≤ tot n s.es + s.l.length
  | 0, s', h => by cases h; exact Nat.le_refl _
  | c + 1, s', h => by
    unfold takesF at h
    obtain ⟨s1, h1, h2⟩ := Option.bind_eq_some_iff.1 h
    exact Nat.le_trans (takeF_tot hk h2) (takesF_tot hk h1)
theorem partsF_tot {n : Nat} {parts : List Part} {s : MSt} : ∀ {k : Nat} {s' : MSt}, k ≤ n → partsF parts k s = some s' → tot n s'.es + s'.l.length ≤ tot n s.es + s.l.length
  | 0, s', _, h => by cases h; exact Nat.le_refl _
  | k + 1, s', hk, h => by
    unfold partsF at h
    obtain ⟨s1, h1, h2⟩ := Option.bind_eq_some_iff.1 h
    exact Nat.le_trans (takesF_tot (by omega) h2) (partsF_tot (by omega) h1)
theorem partsF_some {p : Promo} (hp : BunOk p) {s s' : MSt} (h : partsF p.parts p.parts.length s = some s') : s.l.length < s'.l.length := by
  have hn := hp.n1
  obtain ⟨k, hk⟩ : ∃ k, p.parts.length = k + 1 := ⟨p.parts.length - 1, by omega⟩
  have hmono : ∀ {k : Nat} {s' : MSt}, partsF p.parts k s = some s' → s.l.length ≤ s'.l.length := fun {k} => by
    induction k with
    | zero => intro s' h; cases h; exact Nat.le_refl _
    | succ k ih =>
      intro s' h
      unfold partsF at h
      obtain ⟨s1, h1, h2⟩ := Option.bind_eq_some_iff.1 h
      have := ih h1
      have := takesF_len h2
      omega
  rw [hk] at h
  unfold partsF at h
  obtain ⟨s1, h1, h2⟩ := Option.bind_eq_some_iff.1 h
  have h3 := hmono h1
  have h4 := takesF_len h2
  have h5 := hp.at (show k < p.parts.length by omega)
  omega
structure MTrack (u0 : List Bool) (s : MSt) : Prop where
  free : ∀ x ∈ s.l, u0.getD x.toNat default = false
  nd : (s.l.map Int.toNat).Nodup
  used : ∀ j, s.used.getD j default = true ↔ (u0.getD j default = true ∨ j ∈ s.l.map Int.toNat)
theorem MTrack.start (u0 : List Bool) (es : Nat → List QE) : MTrack u0 ⟨u0, es, []⟩ := ⟨fun x hx => by simp at hx, List.nodup_nil, fun j => by simp⟩
theorem MTrack.take {us : List AUnit} {n : Nat} {u0 : List Bool} {s s' : MSt} (h : MTrack u0 s) (hok : MOk us n s) {k : Nat} (hk : k < n) (ht : takeF k s = some s') : MTrack u0 s' := by
  obtain ⟨_, t2, _, _⟩ := takeR_spec s.used (s.es k)
  unfold takeF at ht
  split at ht
  · cases ht
  · rename_i i hi
    cases ht
    obtain ⟨e, he, rfl, hu⟩ := t2 i hi
    have hr := hok.rng k hk e he
    have hfree : u0.getD e.2.toNat default = false ∧ e.2.toNat ∉ s.l.map Int.toNat := by
      have : ¬ (u0.getD e.2.toNat default = true ∨ e.2.toNat ∈ s.l.map Int.toNat) := fun h2 => by
        rw [(h.used _).2 h2] at hu; cases hu
      exact ⟨Bool.eq_false_iff.2 fun h2 => this (.inl h2), fun h2 => this (.inr h2)⟩
    refine ⟨fun x hx => ?_, ?_, fun j => ?_⟩
    · rcases List.mem_append.1 hx with hx | hx
      · exact h.free x hx
      · rw [List.mem_singleton] at hx; rw [hx]; exact hfree.1
    · show ((s.l ++ [e.2]).map Int.toNat).Nodup
      rw [List.map_append]
      refine List.nodup_append.2 ⟨h.nd, by simp, fun a ha b hb => ?_⟩
      simp only [List.map_cons, List.map_nil, List.mem_singleton] at hb
      subst hb
      exact fun e' => hfree.2 (e' ▸ ha)
    · show (s.used.set e.2.toNat true).getD j default = true ↔ (u0.getD j default = true ∨ j ∈ (s.l ++ [e.2]).map Int.toNat)
      rw [List.map_append, List.mem_append, List.map_cons, List.map_nil, List.mem_singleton]
      by_cases ej : j = e.2.toNat
      · subst ej
        have : e.2.toNat < s.used.length := by rw [hok.len]; exact hr.2
        simp [List.getD_eq_getElem?_getD, this]
      · have : (s.used.set e.2.toNat true).getD j default = s.used.getD j default := by
          simp only [List.getD_eq_getElem?_getD]
          rw [List.getElem?_set_ne (fun e' => ej e'.symm)]
        rw [this, h.used j]
        constructor
        · rintro (h1 | h1)
          · exact .inl h1
          · exact .inr (.inl h1)
        · rintro (h1 | h1 | h1)
          · exact .inl h1
          · exact .inr h1
          · exact absurd h1 ej
theorem MTrack.takes {us : List AUnit} {n : Nat} {u0 : List Bool} {s : MSt} (h : MTrack u0 s) (hok : MOk us n s) {k : Nat} (hk : k < n) : ∀ {c : Nat} {s' : MSt}, takesF k c s = some s' → MTrack u0 s'
  | 0, s', e => by cases e; exact h
  | c + 1, s', e => by
    unfold takesF at e
    obtain ⟨s1, h1, h2⟩ := Option.bind_eq_some_iff.1 e
    exact (MTrack.takes h hok hk h1).take (hok.takes hk h1) hk h2
theorem MTrack.parts {us : List AUnit} {p : Promo} {u0 : List Bool} {s : MSt} (h : MTrack u0 s) (hok : MOk us p.parts.length s) : ∀ {k : Nat} {s' : MSt}, k ≤ p.parts.length → partsF p.parts k s = some s' → MTrack u0 s'
  | 0, s', _, e => by cases e; exact h
  | k + 1, s', hk, e => by
    unfold partsF at e
    obtain ⟨s1, h1, h2⟩ := Option.bind_eq_some_iff.1 e
    exact (MTrack.parts h hok (by omega) h1).takes (MOk.parts hok (by omega) h1) (by omega) h2
theorem weigh_le {us : List AUnit} (hu : UnitsOk us) {l : List Int} (hm : Places us l) : sumI (weighF us l) ≤ sumI (netsOf us) := by
  have hl : (weighF us l).length = l.length := by unfold weighF; rw [List.length_map]
  have := takeOff_off hu hm (offs := weighF us l) (by omega) (fun k hk => by
    have h2 : gI (weighF us l) k = (gU us (gI l k).toNat).net := getD_map (fun i : Int => (gU us i.toNat).net) l (by omega)
    rw [h2]
    exact ⟨hu.at0 _, Int.le_refl _⟩) (weighF us l).length (Nat.le_refl _)
  rw [List.take_length] at this
  have h1 := this.sum
  have h2 := sumI_nonneg (this.ok hu).nets0
  omega
theorem places_of {us : List AUnit} {l : List Int} (hm : ∀ x ∈ l, 0 ≤ x ∧ x.toNat < us.length) (hd : (l.map Int.toNat).Nodup) : Places us l := by
  refine ⟨fun k hk => hm _ (getD_mem hk), fun i k hik hk e => ?_⟩
  have hi : (l.map Int.toNat)[i]'(by rw [List.length_map]; omega) = (l.map Int.toNat)[k]'(by rw [List.length_map]; omega) := by
    rw [List.getElem_map, List.getElem_map]
    have h1 : gI l i = l[i] := by simp [gI, show i < l.length by omega]
    have h2 : gI l k = l[k] := by simp [gI, hk]
    rw [← h1, ← h2]; exact e
  exact (List.pairwise_iff_getElem.1 hd i k _ _ hik) hi
structure BSt where
  out : List AUnit
  ms : MSt
  taken : List Int
  all : Int
def bunStep (p : Promo) (us : List AUnit) (b : BSt) : Option BSt := match partsF p.parts p.parts.length ⟨b.ms.used, b.ms.es, []⟩ with
  | none => none
  | some s => if costL us s.l > p.amount then some ⟨lessF b.out (sortI s.l) (costL us s.l - p.amount), s, b.taken ++ sortI s.l, b.all + (costL us s.l - p.amount)⟩ else none
def bunF (p : Promo) (us : List AUnit) : Nat → BSt → BSt
  | 0, b => b
  | m + 1, b => match bunStep p us b with
    | none => b
    | some b' => bunF p us m b'
def bunStart (us : List AUnit) (parts : List (List Int)) : BSt := ⟨us, ⟨List.replicate us.length false, fun k => dearB us (parts.getD k []), []⟩, [], 0⟩
def bundleB (p : Promo) (us : List AUnit) (parts : List (List Int)) : List AUnit × Int :=
  let b := bunF p us (tot p.parts.length (bunStart us parts).ms.es + 1) (bunStart us parts)
  (if p.closes = true then closeB b.out b.taken else b.out, b.all)
structure BOk (p : Promo) (us : List AUnit) (D : Nat) (b : BSt) : Prop where
  off : Off us b.out b.all
  same : ∀ j, b.ms.used.getD j default = false → gU b.out j = gU us j
  ok : MOk us p.parts.length b.ms
  mem : ∀ x ∈ b.taken, 0 ≤ x ∧ x.toNat < us.length
  len : b.taken.length + tot p.parts.length b.ms.es ≤ D
theorem sortI_mem {l : List Int} {x : Int} : x ∈ sortI l ↔ x ∈ l := (sortI_perm l).mem_iff
structure BStep (p : Promo) (us : List AUnit) (b : BSt) (s : MSt) : Prop where
  places : Places b.out (sortI s.l)
  weights : Weights (costL us s.l - p.amount) (weighF b.out (sortI s.l))
  le : costL us s.l - p.amount ≤ sumI (weighF b.out (sortI s.l))
theorem BOk.step {p : Promo} (hp : BunOk p) {us : List AUnit} (hu : UnitsOk us) {D : Nat} {b : BSt} (h : BOk p us D b) {s : MSt} (hs : partsF p.parts p.parts.length ⟨b.ms.used, b.ms.es, []⟩ = some s) (hc : costL us s.l > p.amount) :
    BStep p us b s ∧ BOk p us D ⟨lessF b.out (sortI s.l) (costL us s.l - p.amount), s, b.taken ++ sortI s.l, b.all + (costL us s.l - p.amount)⟩ ∧ tot p.parts.length s.es < tot p.parts.length b.ms.es := by
  have hok0 : MOk us p.parts.length ⟨b.ms.used, b.ms.es, []⟩ := ⟨h.ok.len, h.ok.rng, h.ok.srt, fun x hx => by simp at hx⟩
  have hok := MOk.parts hok0 (Nat.le_refl _) hs
  have htr := MTrack.parts (MTrack.start b.ms.used b.ms.es) hok0 (Nat.le_refl _) hs
  have hlen := partsF_len hp (Nat.le_refl _) hs
  have htot := partsF_tot (n := p.parts.length) (Nat.le_refl _) hs
  have hpos := partsF_some hp hs
  simp only [List.length_nil] at hlen htot hpos
  have hn8 := hp.n8
  have ha := hp.amt
  have hpl : Places b.out (sortI s.l) := places_of (fun x hx => by rw [h.off.len]; exact hok.mem x (sortI_mem.1 hx)) (((sortI_perm s.l).map Int.toNat).nodup_iff.2 htr.nd)
  have hsame : ∀ x ∈ s.l, (gU b.out x.toNat).net = (gU us x.toNat).net := fun x hx => by rw [h.same _ (htr.free x hx)]
  have hw : sumI (weighF b.out (sortI s.l)) = costL us s.l := by
    unfold weighF costL
    rw [sumI_perm ((sortI_perm s.l).map fun i => (gU b.out i.toNat).net)]
    congr 1
    exact List.map_congr_left fun x hx => hsame x hx
  have hou := h.off.ok hu
  have hwl := weigh_le hou hpl
  have hos := hou.sum
  have hcb := costL_bound hu s.l hok.mem
  have hW : Weights (costL us s.l - p.amount) (weighF b.out (sortI s.l)) := by
    refine ⟨by omega, by omega, ?_, fun w hw => ?_, by omega, fun e => by omega⟩
    · unfold weighF; rw [List.length_map, sortI_len]; omega
    · obtain ⟨i, hi, rfl⟩ := List.mem_map.1 hw; exact hou.at0 _
  have hL := lessF_off hou hpl hW (by omega)
  refine ⟨⟨hpl, hW, by omega⟩, ⟨h.off.trans hL, fun j hj => ?_, hok, fun x hx => ?_, ?_⟩, by omega⟩
  · have hnot : ¬ (b.ms.used.getD j default = true ∨ j ∈ s.l.map Int.toNat) := fun h2 => by
      rw [(htr.used j).2 h2] at hj; cases hj
    have hju : b.ms.used.getD j default = false := Bool.eq_false_iff.2 fun h2 => hnot (.inl h2)
    rw [← h.same j hju]
    by_cases hjl : j < b.out.length
    · exact takeOffP_net hpl _ (Nat.le_refl _) j hjl fun i hi e => hnot (.inr (by
        have : gI (sortI s.l) i ∈ s.l := sortI_mem.1 (getD_mem hi)
        rw [e]; exact List.mem_map_of_mem this))
    · have e1 : gU b.out j = default := by unfold gU; rw [List.getD_eq_getElem?_getD, List.getElem?_eq_none (by omega)]; rfl
      have e2 : gU (lessF b.out (sortI s.l) (costL us s.l - p.amount)) j = default := by
        unfold gU; rw [List.getD_eq_getElem?_getD, List.getElem?_eq_none (by rw [hL.len]; omega)]; rfl
      rw [e1]; exact e2
  · rcases List.mem_append.1 hx with hx | hx
    · exact h.mem x hx
    · exact hok.mem x (sortI_mem.1 hx)
  · rw [List.length_append, sortI_len]
    have := h.len
    show _ + tot p.parts.length s.es ≤ D
    omega
theorem bunF_ok {p : Promo} (hp : BunOk p) {us : List AUnit} (hu : UnitsOk us) {D : Nat} : ∀ (m : Nat) {b : BSt}, BOk p us D b → BOk p us D (bunF p us m b)
  | 0, b, h => h
  | m + 1, b, h => by
    unfold bunF bunStep
    cases hs : partsF p.parts p.parts.length ⟨b.ms.used, b.ms.es, []⟩ with
    | none => exact h
    | some s =>
      simp only
      by_cases hc : costL us s.l > p.amount
      · rw [if_pos hc]
        exact bunF_ok hp hu m (h.step hp hu hs hc).2.1
      · rw [if_neg hc]; exact h
theorem bunStart_ok {p : Promo} {us : List AUnit} (hu : UnitsOk us) {parts : List (List Int)} (hl : parts.length = p.parts.length) (hm : ∀ k, k < parts.length → MineOk us (parts.getD k [])) : BOk p us (tot p.parts.length (bunStart us parts).ms.es) (bunStart us parts) := by
  refine ⟨Off.refl hu, fun j hj => rfl, ⟨by simp [bunStart], fun k hk e he => dearB_mem (hm k (by omega)).rng he, fun k hk => sortQ_sorted _, fun x hx => by simp [bunStart] at hx⟩, fun x hx => by simp [bunStart] at hx, ?_⟩
  show 0 + _ ≤ _
  omega
theorem bundleB_off {p : Promo} (hp : BunOk p) {us : List AUnit} (hu : UnitsOk us) {parts : List (List Int)} (hl : parts.length = p.parts.length) (hm : ∀ k, k < parts.length → MineOk us (parts.getD k [])) : Off us (bundleB p us parts).1 (bundleB p us parts).2 := by
  have h := bunF_ok hp hu (tot p.parts.length (bunStart us parts).ms.es + 1) (bunStart_ok hu hl hm)
  unfold bundleB
  simp only
  split
  · have h2 := Off.closeB (h.off.ok hu) (bunF p us (tot p.parts.length (bunStart us parts).ms.es + 1) (bunStart us parts)).taken (fun x hx => by rw [h.off.len]; exact (h.mem x hx).2)
    have h3 := h.off.trans h2
    rw [Int.add_zero] at h3; exact h3
  · exact h.off
end Go.Proofs.YtfajkgonocpddaaGreat
namespace Go.Proofs.YtfajkgonocpddaaGreat
open Go Go.Ab
attribute [local irreducible] upd del
theorem llsIndex_S (l : List (List Int)) (hl : l.length ≤ 9223372036854775807) (g : FuncId) (cs : List AV) (p : (List Int) → Bool) (st : St)
    (hg : ∀ x, x ∈ l → S P g (eInts x :: cs) st fun v st' => v = .bool (p x) ∧ st' = st) :
    S P 259 [arrOf 1 eInts l, .fn (.func g) [] cs] st fun v st' => v = eI (idx p l) ∧ st' = st := by
  refine S_of_X [] good mixed Tryz.func259 (by rfl) rfl rfl rfl ?_; conv => whnf
  refine ⟨[0, 1, 7, 8], fun m vs st' => ∃ i : Nat, i ≤ l.length ∧ (∀ k, k < i → p (l.getD k default) = false) ∧ m = l.length - i ∧ vs = [arrOf 1 eInts l, .fn (.func g) [] cs, eI l.length, eI i] ∧ st' = st, ?_, ?_⟩
  · conv => whnf
    exact ⟨_, 0, Nat.zero_le _, fun k hk => absurd hk (by omega), rfl, rfl, rfl⟩
  · rintro m vs st' ⟨i, hi, hok, rfl, rfl, rfl⟩
    conv => whnf
    cases h : decide ((i : Int) < (l.length : Int))
    · have := of_decide_eq_false h
      conv => whnf
      refine ⟨?_, rfl⟩
      rw [idx_none fun k hk => hok k (by omega)]; rfl
    · have hi' : i < l.length := by have := of_decide_eq_true h; omega
      conv => whnf
      refine ⟨rfl, ⟨by omega, by omega⟩, ?_⟩; conv => whnf
      refine call1 (hg (l.getD (i : Int).toNat default) (by simp [hi'])) ?_
      rw [Int.toNat_natCast]
      cases hp : p (l.getD i default)
      · conv => whnf
        refine ⟨rfl, ?_⟩; conv => whnf
        refine ⟨l.length - (i + 1), by omega, i + 1, by omega, fun k hk => ?_, rfl, by rw [wrapN (by omega)], rfl⟩
        rcases Nat.lt_succ_iff_lt_or_eq.1 hk with h' | h'
        · exact hok k h'
        · rw [h']; exact hp
      · conv => whnf
        refine ⟨?_, rfl⟩
        rw [idx_at hi' hok hp]; rfl
theorem llsHas_S (l : List (List Int)) (hl : l.length ≤ 9223372036854775807) (g : FuncId) (cs : List AV) (p : (List Int) → Bool) (st : St)
    (hg : ∀ x, x ∈ l → S P g (eInts x :: cs) st fun v st' => v = .bool (p x) ∧ st' = st) :
    S P 243 [arrOf 1 eInts l, .fn (.func g) [] cs] st fun v st' => v = .bool (l.any p) ∧ st' = st := by
  refine S_of_X [] good mixed Tryz.func243 (by rfl) rfl rfl rfl ?_; conv => whnf
  refine call1 (llsIndex_S l hl g cs p st hg) ?_; conv => whnf
  refine ⟨?_, rfl⟩
  rw [← idx_any]; rfl
theorem notMay_S (us : List AUnit) (mine : List Int) (h : UnitsOk us) (hm : MineOk us mine) (st : St) : S P 244 [eInts mine, .fptr (eUnits us) 0] st fun v st' => v = .bool false ∧ st' = st := by
  refine S_of_X [] good mixed Tryz.func244 (by rfl) rfl rfl rfl ?_; conv => whnf
  refine call1 (cutMay_S us mine h hm st) ?_; conv => whnf
  exact ⟨rfl, rfl⟩
theorem dmay_S (p : Promo) (us : List AUnit) (parts : List (List Int)) (hfit : PromoFit p) (hright : promoC p = true) (hk : p.kind = 4) (hu : UnitsOk us) (hl : parts.length = p.parts.length) (hl8 : parts.length ≤ 8) (hm : ∀ x ∈ parts, MineOk us x) (st : St) :
    S P 205 [ePromo p, eUnits us, arrOf 1 eInts parts] st fun v st' => v = .bool true ∧ st' = st := by
  refine S_of_X [3, 4] good mixed Tryz.func205 (by rfl) rfl rfl rfl ?_; conv => whnf
  rw [hk]; conv => whnf
  refine call1 (promo_S p hfit st) ?_
  rw [hright]; conv => whnf
  rw [hl]
  have e : ((p.parts.length : Int) != (p.parts.length : Int)) = false := by simp
  rw [e]; conv => whnf
  refine call1 (llsHas_S parts (by omega) _ [.fptr (eUnits us) 0] (fun _ => false) st fun x hx => notMay_S us x hu (hm x hx) st) ?_; conv => whnf
  refine ⟨?_, rfl⟩
  have : (parts.any fun _ => false) = false := by simp
  rw [this]; rfl
theorem upd_none {s : St} {a b : Nat} {y : Blk} (h : a ≠ b) (hs : s a = none) : upd s b y a = none := by rw [upd_ne h]; exact hs
theorem tot_le {n B : Nat} {es : Nat → List QE} (h : ∀ i, i < n → (es i).length ≤ B) : tot n es ≤ n * B := by
  induction n with
  | zero => exact Nat.zero_le _
  | succ n ih =>
    unfold tot
    have h1 := ih fun i hi => h i (by omega)
    have h2 := h n (by omega)
    have h3 : (n + 1) * B = n * B + B := Nat.succ_mul n B
    omega
structure Lay (p : Promo) (us : List AUnit) (E : Nat → List QE) (base : St) (bm bu : Nat) (i : Nat) (q : Nat → Nat) (rv : AV) (t : St) : Prop where
  nbm : base bm = none
  nbu : base bu = none
  ne : bu ≠ bm
  has : ∃ f g, f 0 = .agg (cPromo p ++ [eUnits us, .own 1 bu 0 us.length, rv]) ∧ (∀ k, k < us.length → g k = eB false) ∧
    ROut (Qs i q E) 162 1 (fun k => .optr 1 (q k) 0 0) i (upd (upd base bm ⟨264, 18, 1, f⟩) bu ⟨4, 1, us.length, g⟩) rv t
theorem Lay.mk' {p : Promo} {us : List AUnit} {E : Nat → List QE} {base : St} {bm bu i : Nat} {q : Nat → Nat} {rv : AV} {t : St} (h : Lay p us E base bm bu i q rv t) (hi : 0 < i) :
    ∃ br, rv = .own 1 br 0 i ∧ MkR ⟨p, us, bm, bu, br, i, q⟩ (List.replicate us.length false) E base t := by
  obtain ⟨h1, h2, h3, f, g, hf, hg, s0, hc, hq⟩ := h
  rcases hc with ⟨e, _, _⟩ | ⟨_, br, y, hb, rfl, rfl, hy⟩
  · omega
  refine ⟨br, rfl, h1, _, ⟨f, rfl, by rw [List.length_replicate]; exact hf⟩, upd_none h3 h2, _, ⟨g, by rw [List.length_replicate], fun k hk => ?_⟩, hb, _, ⟨y, rfl, hy⟩, hq⟩
  rw [List.length_replicate] at hk
  rw [hg k hk]; simp [hk]
theorem close0_S (uv : AV) (st : St) : S P 198 [uv, eInts []] st fun v st' => v = .tuple [] ∧ st' = st := by
  refine S_of_X [] good mixed Tryz.func198 (by rfl) rfl rfl rfl ?_; conv => whnf
  refine once [0, 6, 7, 8] ?_; conv => whnf
  intro I; conv => whnf
  exact ⟨rfl, rfl⟩
theorem bundle_S (p : Promo) (us : List AUnit) (parts : List (List Int)) (hfit : PromoFit p) (hright : promoC p = true) (hk : p.kind = 4) (hp : BunOk p) (hu : UnitsOk us) (hl : parts.length = p.parts.length) (hm : ∀ x ∈ parts, MineOk us x) (st : St) :
    S P 160 [ePromo p, eUnits us, arrOf 1 eInts parts] st fun v st' => v = .tuple [eUnits (bundleB p us parts).1, eI (bundleB p us parts).2] ∧ st' = st := by
  refine S.post (post := fun v st' => ∃ sv, v = .tuple [sv, eI (bundleB p us parts).2] ∧ ResU st (bundleB p us parts).1 sv st') ?_
    (fun v st' ⟨sv, hv, hr⟩ => ⟨_, st, ⟨rfl, rfl⟩, by rw [hv]; exact Shift.tuple (Shift.cons hr.shift (Shift.keep _ _)) rfl⟩)
  have hul := hu.len
  have hn1 := hp.n1
  have hn8 := hp.n8
  have hme : ∀ k, k < parts.length → MineOk us (parts.getD k default) := fun k hk => hm _ (getD_mem hk)
  have hst0 := bunStart_ok hu hl (fun k hk => hme k hk)
  generalize hE : (fun k => dearB us (parts.getD k default)) = E at *
  have hEk : ∀ k, E k = dearB us (parts.getD k default) := fun k => by rw [← hE]
  have hbs : bunStart us parts = ⟨us, ⟨List.replicate us.length false, E, []⟩, [], 0⟩ := by rw [← hE]; rfl
  have hD : tot p.parts.length (bunStart us parts).ms.es ≤ 800000 := by
    have := tot_le (n := p.parts.length) (B := 100000) (es := (bunStart us parts).ms.es) (fun i hi => by
      rw [hbs]
      show (E i).length ≤ 100000
      rw [hEk, dearB_len]
      exact Nat.le_trans (hme i (by omega)).len hul)
    have h2 : p.parts.length * 100000 ≤ 8 * 100000 := Nat.mul_le_mul_right _ hn8
    omega
  have hB : bundleB p us parts = (if p.closes = true then closeB (bunF p us (tot p.parts.length (bunStart us parts).ms.es + 1) (bunStart us parts)).out (bunF p us (tot p.parts.length (bunStart us parts).ms.es + 1) (bunStart us parts)).taken else (bunF p us (tot p.parts.length (bunStart us parts).ms.es + 1) (bunStart us parts)).out, (bunF p us (tot p.parts.length (bunStart us parts).ms.es + 1) (bunStart us parts)).all) := rfl
  refine S_of_X [3] good mixed Tryz.func160 (by rfl) rfl rfl rfl ?_; conv => whnf
  refine call (cloneU_S us hul st) (fun sv base hcol => ?_)
  have hres := ResU.ofCol hcol
  conv => whnf
  refine call1 (dmay_S p us parts hfit hright hk hu hl (by omega) hm _) ?_; conv => whnf
  refine ⟨[4, 6], [0], [0, 1, 2, 3, 4, 5, 6, 7], by kernel_rfl, ?_⟩; conv => whnf
  refine ⟨_, fun s _ => ⟨rfl, rfl⟩, ?_⟩; conv => whnf
  refine mkO rfl rfl rfl (by show 1 * us.length ≤ _; omega) (by omega) (by rfl) (fun bu hbu => ?_); conv => whnf
  intro bm hbm
  have hne : bu ≠ bm := fun e => by subst e; rw [upd_same] at hbm; cases hbm
  rw [upd_ne hne.symm] at hbm; conv => whnf
  have hlay0 : Lay p us E base bm bu 0 (fun _ => 0) .emp (upd (upd base bu ⟨4, r4.size, us.length, fun _ => avOf r4.zero⟩) bm ⟨264, 18, 1, fun _ => .agg (cPromo p ++ [eUnits us, .own 1 bu 0 us.length, .emp])⟩) :=
    ⟨hbm, hbu, hne, fun _ => .agg (cPromo p ++ [eUnits us, .own 1 bu 0 us.length, .emp]), fun _ => eB false, rfl, fun _ _ => rfl, by
      rw [upd_comm hne.symm]
      exact ROut.start (Qs.nil (Sup.refl _)) _ _ _⟩
  refine ⟨[1, 3, 8, 9, 32, 33, 34], fun m vs t => ∃ (i : Nat) (q : Nat → Nat) (rv : AV), i ≤ parts.length ∧ m = parts.length - i ∧ vs = [eUnits us, .fptr (ePromo p) 0, sv, .optr 18 bm 0 0, arrOf 1 eInts parts, eI parts.length, eI i] ∧ Lay p us E base bm bu i q rv t, ?_, ?_⟩
  · conv => whnf
    exact ⟨_, 0, _, .emp, Nat.zero_le _, rfl, rfl, hlay0⟩
  · clear hlay0
    rintro m vs t ⟨i, q, rv, hi, rfl, rfl, hlay⟩
    conv => whnf
    cases h : decide ((i : Int) < (parts.length : Int))
    · have := of_decide_eq_false h
      have hin : i = p.parts.length := by omega
      subst hin
      obtain ⟨br, rfl, hMk⟩ := hlay.mk' (by omega)
      clear hlay
      conv => whnf
      refine ⟨[3, 8, 9, 12, 13], fun m vs t => ∃ (b : BSt) (svT : AV) (ba : St), BOk p us (tot p.parts.length (bunStart us parts).ms.es) b ∧ tot p.parts.length b.ms.es < m ∧ bunF p us m b = bunF p us (tot p.parts.length (bunStart us parts).ms.es + 1) (bunStart us parts) ∧ vs = [.fptr (ePromo p) 0, sv, .optr 18 bm 0 0, svT, eI b.all] ∧ ResU st b.out sv ba ∧ ROut (MkR ⟨p, us, bm, bu, br, p.parts.length, q⟩ b.ms.used b.ms.es) 3 1 (fun k => eI (gI b.taken k)) b.taken.length ba svT t, ?_, ?_⟩
      · conv => whnf
        refine ⟨_, bunStart us parts, .emp, base, hst0, Nat.lt_succ_self _, rfl, rfl, hres, ?_⟩
        rw [hbs]
        exact ROut.start hMk _ _ _
      · clear hMk hres
        rintro m vs t' ⟨b, svT, ba, hb, hlt, hF, rfl, hres, hout⟩
        obtain ⟨s0, hcol0, hMk⟩ := hout
        obtain ⟨m, rfl⟩ : ∃ n, m = n + 1 := ⟨m - 1, by omega⟩
        have hbl := hb.len
        -- the end: what is closed
        have fin : ∀ t2, Sup s0 t2 → bunStep p us b = none → (p.closes = true → ∃ v3 t3, (∀ K : KK, (∀ t3, ResU st (closeB b.out b.taken) sv t3 → K (.tuple []) t3) → xCall P 198 [sv, svT] t2 K) ∧ v3 = AV.emp ∧ t3 = t2) ∧ ResU st b.out sv t2 ∧ bundleB p us parts = (if p.closes = true then closeB b.out b.taken else b.out, b.all) := fun t2 hs2 hstep => by
          have hbf : bunF p us (m + 1) b = b := by unfold bunF; rw [hstep]
          rw [hbf] at hF
          refine ⟨fun hc => ⟨.emp, t2, fun K hK => ?_, rfl, rfl⟩, ?_, by rw [hB, ← hF]⟩
          · have hsh : Shift [svT] t2 [eInts b.taken] ba := (hs2.shift _).trans hcol0.shift
            rcases hres.2 with ⟨h5, h6⟩ | ⟨bo, hb0, rfl, hHas⟩
            · subst h6
              have hnil : b.taken = [] := by
                cases hbt : b.taken with
                | nil => rfl
                | cons x l =>
                  have := (hb.mem x (by rw [hbt]; exact List.mem_cons_self ..)).2
                  have h7 := hb.off.len
                  rw [h5, List.length_nil] at h7
                  omega
              rw [hnil] at hsh
              refine call_shift (args' := [.emp, eInts []]) (Shift.cons (Shift.keep _ _) hsh) (call (close0_S _ ba) (fun v t3 hv => ?_))
              obtain ⟨rfl, rfl⟩ := hv
              refine hK _ ?_
              rw [h5, hnil]
              exact ⟨hres.1, .inl ⟨rfl, rfl⟩⟩
            · refine call_shift (args' := [.own 3 bo 0 b.out.length, eInts b.taken]) (Shift.cons (Shift.keep _ _) hsh) (call (close_S bo b.out b.taken (fun x hx => by rw [hb.off.len]; exact hb.mem x hx) (by omega) ba hHas) (fun v t3 hv => ?_))
              obtain ⟨rfl, hH3, hfr⟩ := hv
              refine hK _ ⟨fun x y hx => ?_, .inr ⟨bo, hb0, by rw [closeB_len], hH3⟩⟩
              rw [hfr x (fun e => by subst e; rw [hb0] at hx; cases hx)]; exact hres.1 x y hx
          · have hsup : Sup ba t2 := hcol0.sup.trans hs2
            refine ⟨hres.1.trans hsup, ?_⟩
            rcases hres.2 with h3 | ⟨bo, h3, h4, f, h5, h6⟩
            · exact .inl h3
            · exact .inr ⟨bo, h3, h4, f, hsup bo _ h5, h6⟩
        have hok0 : MOk us p.parts.length ⟨b.ms.used, b.ms.es, []⟩ := ⟨hb.ok.len, hb.ok.rng, hb.ok.srt, fun x hx => by simp at hx⟩
        conv => whnf
        refine call (next_S ⟨p, us, bm, bu, br, p.parts.length, q⟩ rfl hp hu ⟨b.ms.used, b.ms.es, []⟩ rfl hok0 s0 t' hMk) (fun v t2 hv => ?_)
        simp only at hv
        cases hs : partsF p.parts p.parts.length ⟨b.ms.used, b.ms.es, []⟩ with
        | none =>
          rw [hs] at hv
          obtain ⟨rfl, hs2⟩ := hv
          obtain ⟨g1, g2, g3⟩ := fin t2 hs2 (by unfold bunStep; rw [hs])
          rw [g3]; conv => whnf
          cases hc : p.closes with
          | true =>
            obtain ⟨_, _, g4, _, _⟩ := g1 hc
            conv => whnf
            refine g4 _ (fun t3 h3 => ?_); conv => whnf
            exact ⟨_, rfl, h3⟩
          | false =>
            conv => whnf
            exact ⟨_, rfl, g2⟩
        | some s =>
          rw [hs] at hv
          obtain ⟨rfl, hMk2⟩ := hv
          have hBs := besideM ⟨p, us, bm, bu, br, p.parts.length, q⟩ s.used s.es
          by_cases hcost : costL us s.l > p.amount
          · obtain ⟨k1, k2, k3⟩ := hb.step hp hu hs hcost
            have hcost' : decide (costL us s.l > p.amount) = true := decide_eq_true hcost
            have hstep : bunF p us (m + 1) b = bunF p us m ⟨lessF b.out (sortI s.l) (costL us s.l - p.amount), s, b.taken ++ sortI s.l, b.all + (costL us s.l - p.amount)⟩ := by
              conv => lhs; unfold bunF bunStep
              rw [hs]; simp only; rw [if_pos hcost]
            rw [hcost']
            have hlen := partsF_len hp (Nat.le_refl _) hs
            have htot := partsF_tot (n := p.parts.length) (Nat.le_refl _) hs
            have hpos := partsF_some hp hs
            simp only [List.length_nil] at hlen htot hpos
            rcases hres.2 with ⟨h5, h6⟩ | ⟨bo, hb0, rfl, f, hstb, hf⟩
            · exfalso
              have := (k1.places.rng 0 (by rw [sortI_len]; omega)).2
              rw [h5, List.length_nil] at this
              omega
            have hou := hb.off.ok hu
            have hout2 : ROut (MkR ⟨p, us, bm, bu, br, p.parts.length, q⟩ s.used s.es) 3 1 (fun k => eI (gI b.taken k)) b.taken.length ba svT t2 := ⟨s0, hcol0, hMk2⟩
            conv => whnf
            refine call (dless_S bo b.out hou (sortI s.l) (by rw [sortI_len]; omega) k1.places _ k1.weights t2 ⟨f, hout2.sup hBs bo _ hstb, hf⟩) (fun v t3 hv => ?_)
            obtain ⟨rfl, f3, rfl, hf3⟩ := hv
            have hout3 := hout2.write hBs (y' := ⟨136, 3, b.out.length, f3⟩) hstb
            have hll : (lessF b.out (sortI s.l) (costL us s.l - p.amount)).length = b.out.length := by rw [k2.off.len, hb.off.len]
            conv => whnf
            refine ROut.apps (q := r3) (m := s.l.length) (n := b.taken.length) hBs rfl rfl rfl rfl (srcInts (sortI_len s.l) _) (f := fun k => eI (gI (b.taken ++ sortI s.l) k)) (fun i hi => ?_) (by show (b.taken.length + s.l.length) * 8 ≤ 140737488355328; omega) (hout3.congr fun k hk => by rw [gI_append hk]) (fun sv' t4 hout4 => ?_)
            · show eI (gI (sortI s.l) i) = eI (gI (b.taken ++ sortI s.l) (b.taken.length + i))
              unfold gI
              rw [List.getD_eq_getElem?_getD, List.getD_eq_getElem?_getD, List.getElem?_append_right (by omega), Nat.add_sub_cancel_left]
            have hX1 := hb.off.pos
            have hX3 := k2.off.sum
            have hX4 := sumI_nonneg (k2.off.ok hu).nets0
            have hX5 := hu.sum
            have hX6 := k1.weights.t0
            simp only at hX3 hX4
            conv => whnf
            refine ⟨rfl, ?_⟩; conv => whnf
            refine ⟨m, Nat.lt_succ_self _, ⟨lessF b.out (sortI s.l) (costL us s.l - p.amount), s, b.taken ++ sortI s.l, b.all + (costL us s.l - p.amount)⟩, sv', upd ba bo ⟨136, 3, b.out.length, f3⟩, k2, by show tot p.parts.length s.es < m; omega, by rw [← hstep]; exact hF, ?_, ?_, ?_⟩
            · have w : IntKind.i64.wrap (b.all + (costL us s.l - p.amount)) = b.all + (costL us s.l - p.amount) := wrap64_of (by omega) (by omega)
              show [AV.fptr (ePromo p) 0, AV.own 3 bo 0 b.out.length, AV.optr 18 bm 0 0, sv', eI (IntKind.i64.wrap (b.all + (costL us s.l - p.amount)))] = _
              rw [w]
            · exact ⟨hres.1.over hb0, .inr ⟨bo, hb0, by show AV.own 3 bo 0 b.out.length = _; rw [hll], f3, by rw [upd_same, hll], by rw [hll]; exact hf3⟩⟩
            · show ROut _ _ _ _ (b.taken ++ sortI s.l).length _ _ _
              rw [List.length_append, sortI_len]; exact hout4
          · have hcost' : decide (costL us s.l > p.amount) = false := decide_eq_false hcost
            obtain ⟨g1, g2, g3⟩ := fin t2 (hBs.sup hMk2) (by unfold bunStep; rw [hs]; simp only; rw [if_neg hcost])
            rw [g3, hcost']; conv => whnf
            cases hc : p.closes with
            | true =>
              obtain ⟨_, _, g4, _, _⟩ := g1 hc
              conv => whnf
              refine g4 _ (fun t3 h3 => ?_); conv => whnf
              exact ⟨_, rfl, h3⟩
            | false =>
              conv => whnf
              exact ⟨_, rfl, g2⟩
    · have hi' : i < parts.length := by have := of_decide_eq_true h; omega
      have hmi := hme i hi'
      have hml := hmi.len
      obtain ⟨l1, l2, l3, f, g, hf, hg, hout⟩ := hlay
      have hbmS : ∀ {n : Nat} {q : Nat → Nat} {E : Nat → List QE} {rv : AV} {fo : Nat → AV} {n' : Nat} {t : St}, ROut (Qs n q E) 162 1 fo n' (upd (upd base bm ⟨264, 18, 1, f⟩) bu ⟨4, 1, us.length, g⟩) rv t → t bm = some ⟨264, 18, 1, f⟩ := fun h =>
        h.sup (besideQs _ _ _) bm _ (by rw [upd_ne l3.symm, upd_same])
      -- what is behind the call and the append
      have after : ∀ (q' : Nat) (t2 : St), QSt t q' true (dearB us (parts.getD i default)) t2 → ROut (Qs (i + 1) (fupd q i q') E) 162 1 (fun k => .optr 1 (fupd q i q' k) 0 0) i (upd (upd base bm ⟨264, 18, 1, f⟩) bu ⟨4, 1, us.length, g⟩) rv t2 := fun q' t2 hq' => by
        obtain ⟨s0, hc, hqs⟩ := hout
        refine ⟨s0, Col.congr hc fun k hk => by rw [fupd_ne (by omega)], ?_⟩
        refine (hqs.add hq').congr (fun _ _ => rfl) fun k hk => ?_
        by_cases e : k = i
        · subst e; rw [fupd_same, hEk]
        · rw [fupd_ne e]
      conv => whnf
      refine ⟨rfl, ⟨by omega, by omega⟩, ?_⟩; conv => whnf
      refine ⟨[4, 7, 9, 12], [], [], .qui 0 (.qui 1 (.qui 2 (.qui 3 (.qui 5 (.qui 6 (.two 4 7 (.gen 7 (.qui 8 (.gen 9 (.qui 10 (.qui 11 (.gen 12 .done)))))) (.qui 4 (.qui 8 (.gen 9 (.qui 10 (.qui 11 (.gen 12 .done)))))))))))), by kernel_rfl, ?_⟩; conv => whnf
      have stored : ∀ (q' : Nat) (rv' : AV) (t4 : St), ROut (Qs (i + 1) (fupd q i q') E) 162 1 (fun k => .optr 1 (fupd q i q' k) 0 0) (i + 1) (upd (upd base bm ⟨264, 18, 1, f⟩) bu ⟨4, 1, us.length, g⟩) rv' t4 → Lay p us E base bm bu (i + 1) (fupd q i q') rv' (upd t4 bm ⟨264, 18, 1, fset f 0 (.agg (cPromo p ++ [eUnits us, .own 1 bu 0 us.length, rv']))⟩) := fun q' rv' t4 h4 => by
        refine ⟨l1, l2, l3, fset f 0 (.agg (cPromo p ++ [eUnits us, .own 1 bu 0 us.length, rv'])), g, fset_same .., hg, ?_⟩
        have h5 := h4.write (besideQs _ _ _) (b := bm) (y' := ⟨264, 18, 1, fset f 0 (.agg (cPromo p ++ [eUnits us, .own 1 bu 0 us.length, rv']))⟩) (by rw [upd_ne l3.symm, upd_same])
        rw [upd_comm l3, upd_twice] at h5
        exact h5
      have fin3 : ∀ (q' : Nat) (rv' : AV) (t5 : St), Lay p us E base bm bu (i + 1) (fupd q i q') rv' t5 → ∃ m', m' < parts.length - i ∧ ∃ (i_1 : Nat) (q : Nat → Nat) (rv : AV), i_1 ≤ parts.length ∧ m' = parts.length - i_1 ∧ [eUnits us, AV.fptr (ePromo p) 0, sv, AV.optr 18 bm 0 0, arrOf 1 eInts parts, eI parts.length, eI (IntKind.i64.wrap ((i : Int) + 1))] = [eUnits us, .fptr (ePromo p) 0, sv, .optr 18 bm 0 0, arrOf 1 eInts parts, eI parts.length, eI i_1] ∧ Lay p us E base bm bu i_1 q rv t5 :=
        fun q' rv' t5 h5 => ⟨parts.length - (i + 1), by omega, i + 1, _, rv', by omega, rfl, by rw [wrapN (by omega)], h5⟩
      rcases hout.head with rfl | ⟨br, rfl⟩ <;> conv => whnf
      all_goals constructor
      all_goals conv => whnf
      case inl.left | inr.left =>
        refine ldV (hbmS hout) rfl (by omega) hf ?_; conv => whnf
        refine call (dearest_S us (parts.getD i default) hul (by omega) hmi.rng t) (fun v t2 hv => ?_)
        obtain ⟨q', rfl, hq'⟩ := hv
        have hout2 := after q' t2 hq'
        conv => whnf
        refine ⟨_, ⟨rfl, rfl⟩, ?_⟩; conv => whnf
        refine ROut.app (q := r162) (besideQs _ _ _) rfl rfl rfl rfl rfl (by simp only [fupd_same]; rfl) (by show (i + 1) * 8 ≤ 140737488355328; omega) hout2 (fun rv' t4 hout4 => ?_)
        rcases hout4.head with e | ⟨br', e⟩ <;> subst e
        all_goals conv => whnf
        all_goals refine stV (hbmS hout4) rfl (by omega) hf (by rfl) ?_
        all_goals conv => whnf
        all_goals refine ⟨rfl, ?_⟩
        all_goals conv => whnf
        all_goals exact fin3 _ _ _ (stored q' _ _ hout4)
      case inl.right | inr.right =>
        refine call (dearest_S us (parts.getD i default) hul (by omega) hmi.rng t) (fun v t2 hv => ?_)
        obtain ⟨q', rfl, hq'⟩ := hv
        have hout2 := after q' t2 hq'
        conv => whnf
        refine ldV (hbmS hout2) rfl (by omega) hf ?_; conv => whnf
        refine ⟨_, ⟨rfl, rfl⟩, ?_⟩; conv => whnf
        refine ROut.app (q := r162) (besideQs _ _ _) rfl rfl rfl rfl rfl (by simp only [fupd_same]; rfl) (by show (i + 1) * 8 ≤ 140737488355328; omega) hout2 (fun rv' t4 hout4 => ?_)
        rcases hout4.head with e | ⟨br', e⟩ <;> subst e
        all_goals conv => whnf
        all_goals refine stV (hbmS hout4) rfl (by omega) hf (by rfl) ?_
        all_goals conv => whnf
        all_goals refine ⟨rfl, ?_⟩
        all_goals conv => whnf
        all_goals exact fin3 _ _ _ (stored q' _ _ hout4)
def inB (l : List Str) (s : Str) : Bool := l.any fun y => s.toList == y.toList
theorem nhas_S (l : List Str) (s : Str) (hl : l.length ≤ 9223372036854775807) (st : St) : S P 227 [eStrs l, eS s] st fun v st' => v = .bool (inB l s) ∧ st' = st := by
  refine S_of_X [] good mixed Tryz.func227 (by rfl) rfl rfl rfl ?_; conv => whnf
  refine call1 (namesIn_S l hl s st) ?_; conv => whnf
  exact ⟨rfl, rfl⟩
def hasB (s : Scope) (x : Ab.Item) : Bool := (s.skus.length + s.cats.length == 0) || inB s.skus x.sku || inB s.cats x.cat
theorem shas_S (s : Scope) (x : Ab.Item) (h1 : s.skus.length ≤ 20) (h2 : s.cats.length ≤ 20) (st : St) : S P 193 [eScope s, eItem x] st fun v st' => v = .bool (hasB s x) ∧ st' = st := by
  refine S_of_X [2, 3] good mixed Tryz.func193 (by rfl) rfl rfl rfl ?_; conv => whnf
  have w : IntKind.i64.wrap ((s.skus.length : Int) + (s.cats.length : Int)) = ((s.skus.length + s.cats.length : Nat) : Int) := by rw [wrap64_of (by omega) (by omega)]; omega
  rw [w, nat_eq0]
  refine fork (fun h => ?_) (fun h => ?_) <;> rw [h]
  · conv => whnf
    refine ⟨?_, rfl⟩
    unfold hasB; rw [h]; rfl
  · conv => whnf
    refine call1 (nhas_S s.skus x.sku (by omega) st) ?_; conv => whnf
    refine fork (fun h3 => ?_) (fun h3 => ?_) <;> rw [h3]
    · conv => whnf
      refine ⟨?_, rfl⟩
      unfold hasB; rw [h, h3]; rfl
    · conv => whnf
      refine call1 (nhas_S s.cats x.cat (by omega) st) ?_; conv => whnf
      refine ⟨?_, rfl⟩
      unfold hasB; rw [h, h3]; rfl
theorem besideSup : Beside Sup where
  sup := fun h => h
  begin := fun {s t b y} h hb => fun c x hc => by
    by_cases e : c = b
    · subst e; rw [upd_same] at hc ⊢; exact hc
    · rw [upd_ne e] at hc ⊢; exact h c x hc
  grow := fun {s t b b' y y'} h h0 hb => by
    have hsub : ∀ c x, s c = some x → c ≠ b ∧ t c = some x := fun c x hc => by
      have hne : c ≠ b := fun e => by subst e; rw [h0] at hc; cases hc
      exact ⟨hne, h c x (by rw [upd_ne hne]; exact hc)⟩
    have hb' : s b' = none := by
      rcases hb with e | e
      · rw [e]; exact h0
      · cases hx : s b' with
        | none => rfl
        | some x => rw [(hsub _ _ hx).2] at e; cases e
    refine ⟨hb', fun c x hc => ?_⟩
    by_cases e : c = b'
    · subst e; rw [upd_same] at hc ⊢; exact hc
    · rw [upd_ne e] at hc ⊢
      rw [del_ne (hsub c x hc).1]; exact (hsub c x hc).2
  write := fun {s t b y y'} h hb => Sup.write (y := y) h
  forget := fun {s t b y} h h0 => fun c x hc => by
    have hne : c ≠ b := fun e => by subst e; rw [h0] at hc; cases hc
    rw [del_ne hne]; exact h c x (by rw [upd_ne hne]; exact hc)
  drop := fun {s t b y} h h0 => Sup.drop h h0
theorem besideEx {ι : Type} {R : ι → St → St → Prop} (h : ∀ i, Beside (R i)) : Beside fun s t => ∃ i, R i s t where
  sup := fun ⟨i, hi⟩ => (h i).sup hi
  begin := fun ⟨i, hi⟩ hb => ⟨i, (h i).begin hi hb⟩
  grow := fun ⟨i, hi⟩ h0 hb => ⟨((h i).grow (y' := ⟨0, 0, 0, fun _ => .junk⟩) hi h0 hb).1, i, ((h i).grow hi h0 hb).2⟩
  write := fun ⟨i, hi⟩ hb => ⟨i, (h i).write hi hb⟩
  forget := fun ⟨i, hi⟩ h0 => ⟨i, (h i).forget hi h0⟩
  drop := fun ⟨i, hi⟩ h0 => ⟨i, (h i).drop hi h0⟩
theorem Col.off {ty e n : Nat} {fo : Nat → AV} {s s0 : St} {sv : AV} (h : Col ty e fo s n sv s0) {b : Nat} (hb : s0 b = none) : s b = none := by
  rcases h with ⟨_, _, rfl⟩ | ⟨_, bo, g, h1, _, rfl, _⟩
  · exact hb
  · by_cases e : b = bo
    · subst e; exact h1
    · rw [upd_ne e] at hb; exact hb
theorem Col.under {ty e n : Nat} {fo : Nat → AV} {s s0 : St} {sv : AV} (h : Col ty e fo s n sv s0) {b : Nat} {y : Blk} (hb : s0 b = none) : Col ty e fo (upd s b y) n sv (upd s0 b y) := by
  rcases h with ⟨rfl, rfl, rfl⟩ | ⟨h0, bo, g, h1, rfl, rfl, h3⟩
  · exact Col.start _ _ _ _
  · have hne : bo ≠ b := fun e => by subst e; rw [upd_same] at hb; cases hb
    exact .inr ⟨h0, bo, g, by rw [upd_ne hne]; exact h1, rfl, upd_comm hne, h3⟩
theorem Col.split {ty e n : Nat} {fo : Nat → AV} {s s0 : St} {sv : AV} {b : Nat} {y : Blk} (h : Col ty e fo (upd s b y) n sv s0) (hb : s b = none) : ∃ s1, s1 b = none ∧ s0 = upd s1 b y ∧ Col ty e fo s n sv s1 := by
  rcases h with ⟨rfl, rfl, rfl⟩ | ⟨h0, bo, g, h1, rfl, rfl, h3⟩
  · exact ⟨s, hb, rfl, Col.start _ _ _ _⟩
  · have hne : bo ≠ b := fun e => by subst e; rw [upd_same] at h1; cases h1
    rw [upd_ne hne] at h1
    exact ⟨upd s bo ⟨ty, e, n, g⟩, by rw [upd_ne hne.symm]; exact hb, upd_comm hne.symm, .inr ⟨h0, bo, g, h1, rfl, rfl, h3⟩⟩
theorem besideOut {R : St → St → Prop} (hR : Beside R) (ty e : Nat) (fo : Nat → AV) (n : Nat) (sv : AV) : Beside fun s t => ROut R ty e fo n s sv t where
  sup := fun h => h.sup hR
  begin := fun {s t b y} ⟨s0, hc, h⟩ hb => ⟨upd s0 b y, Col.under hc ((hR.sup h).none hb), hR.begin h hb⟩
  grow := fun {s t b b' y y'} ⟨s0, hc, h⟩ h0 hb => by
    obtain ⟨s1, h1, rfl, hc1⟩ := Col.split hc h0
    obtain ⟨g1, g2⟩ := hR.grow (y' := y') h h1 hb
    exact ⟨Col.off hc1 g1, _, Col.under hc1 g1, g2⟩
  write := fun {s t b y y'} ⟨s0, hc, h⟩ hb => ⟨_, Col.write hc hb, hR.write h (hc.sup b y hb)⟩
  forget := fun {s t b y} ⟨s0, hc, h⟩ h0 => by
    obtain ⟨s1, h1, rfl, hc1⟩ := Col.split hc h0
    exact ⟨s1, hc1, hR.forget h h1⟩
  drop := fun {s t b y} ⟨s0, hc, h⟩ h0 => by
    obtain ⟨s1, h1, rfl, hc1⟩ := Col.split hc h0
    exact ⟨s1, hc1, hR.drop h h1⟩
structure PSt where
  us : List AUnit
  deals : List Deal
  groups : List Str
abbrev fDeals (l : List Deal) : Nat → AV := fun k => eDeal (l.getD k default)
abbrev fStrs (l : List Str) : Nat → AV := fun k => eS (l.getD k default)
def IsP (items : List Ab.Item) (us : List AUnit) (dv gv : AV) (y : Blk) : Prop := ∃ f, y = ⟨131, 4, 1, f⟩ ∧ f 0 = .agg [arrOf 4 eItem items, eUnits us, dv, gv]
def RG (groups : List Str) (gv : AV) : St → St → Prop := fun s t => ROut Sup 9 1 (fStrs groups) groups.length s gv t
def RD (deals : List Deal) (groups : List Str) (dv gv : AV) : St → St → Prop := fun s t => ROut (RG groups gv) 70 2 (fDeals deals) deals.length s dv t
def PxR (bx : Nat) (items : List Ab.Item) (p : PSt) : St → St → Prop := fun s t => ∃ v : AV × AV, AddB bx (IsP items p.us v.1 v.2) (RD p.deals p.groups v.1 v.2) s t
theorem besideG (groups : List Str) (gv : AV) : Beside (RG groups gv) := besideOut besideSup _ _ _ _ _
theorem besideD (deals : List Deal) (groups : List Str) (dv gv : AV) : Beside (RD deals groups dv gv) := besideOut (besideG groups gv) _ _ _ _ _
theorem besideP (bx : Nat) (items : List Ab.Item) (p : PSt) : Beside (PxR bx items p) := besideEx fun _ => besideB (besideD _ _ _ _)
theorem PxR.at {bx : Nat} {items : List Ab.Item} {p : PSt} {s t : St} (h : PxR bx items p s t) : ∃ dv gv f, t bx = some ⟨131, 4, 1, f⟩ ∧ f 0 = .agg [arrOf 4 eItem items, eUnits p.us, dv, gv] ∧ (dv = .emp ∨ ∃ b, dv = .own 2 b 0 p.deals.length) ∧ (gv = .emp ∨ ∃ b, gv = .own 1 b 0 p.groups.length) := by
  obtain ⟨⟨dv, gv⟩, h⟩ := h
  obtain ⟨y, ⟨f, rfl, hf⟩, hy⟩ := AddB.at (besideD _ _ _ _) h
  obtain ⟨_, _, _, hd⟩ := h
  obtain ⟨s0, hc, hg⟩ := hd
  refine ⟨dv, gv, f, hy, hf, ?_, ?_⟩
  · exact (show ROut (RG p.groups gv) _ _ _ _ _ dv t from ⟨s0, hc, hg⟩).head
  · exact hg.head
def openIn (sc : Scope) (items : List Ab.Item) (u : AUnit) : Bool := u.opn && hasB sc (items.getD u.line.toNat default)
def mineB (sc : Scope) (items : List Ab.Item) (us : List AUnit) (i : Nat) : List Int := ((List.range i).filter fun k => openIn sc items (gU us k)).map Int.ofNat
theorem mineB_succ (sc : Scope) (items : List Ab.Item) (us : List AUnit) (i : Nat) : mineB sc items us (i + 1) = mineB sc items us i ++ (if openIn sc items (gU us i) = true then [(i : Int)] else []) := by
  unfold mineB
  rw [List.range_succ, List.filter_append, List.map_append]
  congr 1
  by_cases h : openIn sc items (gU us i) = true
  · rw [if_pos h, List.filter_cons_of_pos (p := fun k => openIn sc items (gU us k)) h]; rfl
  · rw [if_neg h, List.filter_cons_of_neg (p := fun k => openIn sc items (gU us k)) h]; rfl
theorem mineB_len (sc : Scope) (items : List Ab.Item) (us : List AUnit) (i : Nat) : (mineB sc items us i).length ≤ i := by
  unfold mineB
  rw [List.length_map]
  exact Nat.le_trans (List.length_filter_le ..) (by simp)
theorem mineB_ok (sc : Scope) (items : List Ab.Item) (us : List AUnit) : MineOk us (mineB sc items us us.length) := by
  have hmem : ∀ k, k < (mineB sc items us us.length).length → ∃ j : Nat, gI (mineB sc items us us.length) k = (j : Int) ∧ j < us.length ∧ openIn sc items (gU us j) = true := fun k hk => by
    have h := getD_mem (l := mineB sc items us us.length) hk
    obtain ⟨j, hj, he⟩ := List.mem_map.1 h
    obtain ⟨h1, h2⟩ := List.mem_filter.1 hj
    exact ⟨j, he.symm, List.mem_range.1 h1, h2⟩
  refine ⟨fun k hk => ?_, fun k hk => ?_, fun k hk => ?_⟩
  · obtain ⟨j, e, h1, h2⟩ := hmem k hk
    rw [e]; omega
  · obtain ⟨j, e, h1, h2⟩ := hmem k hk
    rw [e]
    unfold openIn at h2
    rw [Bool.and_eq_true] at h2
    exact h2.1
  · have hs : (mineB sc items us us.length).Pairwise (· < ·) := by
      unfold mineB
      refine List.Pairwise.map _ (fun a b h => ?_) ((List.pairwise_lt_range (n := us.length)).filter _)
      show (a : Int) < (b : Int)
      omega
    have := List.pairwise_iff_getElem.1 hs k (k + 1) (by omega) hk (by omega)
    simpa [gI, hk, show k < (mineB sc items us us.length).length by omega] using this
theorem mine_S (bx : Nat) (items : List Ab.Item) (p : PSt) (sc : Scope) (h1 : sc.skus.length ≤ 20) (h2 : sc.cats.length ≤ 20) (hu : p.us.length ≤ 100000) (hi : items.length ≤ 100000) (hl : ∀ u ∈ p.us, 0 ≤ u.line ∧ u.line.toNat < items.length) (s t : St) (h : PxR bx items p s t) :
    S P 154 [.optr 4 bx 0 0, eScope sc] t fun v t' => v = eInts (mineB sc items p.us p.us.length) ∧ t' = t := by
  refine S.post (post := fun v t' => ∃ t1, Sup t t1 ∧ Col 3 1 (fun k => eI (gI (mineB sc items p.us p.us.length) k)) t1 (mineB sc items p.us p.us.length).length v t') ?_
    (fun v t' ⟨t1, hs, hc⟩ => ⟨_, t, ⟨rfl, rfl⟩, hc.shift.trans (hs.shift _)⟩)
  obtain ⟨dv, gv, fx, hx, hx0, hdv, hgv⟩ := h.at
  refine S_of_X [3, 7, 10] good mixed Tryz.func154 (by rfl) rfl rfl rfl ?_; conv => whnf
  refine ldV hx rfl (by omega) hx0 ?_; conv => whnf
  refine ⟨[0, 3, 5, 14, 15, 16], fun m vs t' => ∃ (i : Nat) (sv : AV), i ≤ items.length ∧ m = items.length - i ∧ vs = [.optr 4 bx 0 0, .fptr (eScope sc) 0, sv, arrOf 4 eItem items, eI items.length, eI i] ∧ Col 4 1 (fun k => eB (hasB sc (items.getD k default))) t i sv t', ?_, ?_⟩
  · conv => whnf
    exact ⟨_, 0, .emp, Nat.zero_le _, rfl, rfl, Col.start _ _ _ _⟩
  · rintro m vs t' ⟨i, sv, hi2, rfl, rfl, hcol⟩
    conv => whnf
    cases hd : decide ((i : Int) < (items.length : Int))
    · have := of_decide_eq_false hd
      obtain rfl : i = items.length := by omega
      have hx' := hcol.sup bx _ hx
      conv => whnf
      refine ldV hx' rfl (by omega) hx0 ?_; conv => whnf
      refine ⟨[5, 8, 30, 31, 32], fun m vs t2 => ∃ (k : Nat) (sv2 : AV), k ≤ p.us.length ∧ m = p.us.length - k ∧ vs = [sv, sv2, eUnits p.us, eI p.us.length, eI k] ∧ Col 3 1 (fun j => eI (gI (mineB sc items p.us k) j)) t' (mineB sc items p.us k).length sv2 t2, ?_, ?_⟩
      · conv => whnf
        exact ⟨_, 0, .emp, Nat.zero_le _, rfl, rfl, Col.start _ _ _ _⟩
      · rintro m vs t2 ⟨k, sv2, hk, rfl, rfl, hcol2⟩
        have hpl := mineB_len sc items p.us k
        conv => whnf
        cases hd2 : decide ((k : Int) < (p.us.length : Int))
        · have := of_decide_eq_false hd2
          obtain rfl : k = p.us.length := by omega
          conv => whnf
          exact ⟨t', hcol.sup, hcol2⟩
        · have hk' : k < p.us.length := by have := of_decide_eq_true hd2; omega
          have hlk : 0 ≤ (gU p.us k).line ∧ (gU p.us k).line.toNat < items.length := hl _ (getD_mem (l := p.us) hk')
          have es := mineB_succ sc items p.us k
          conv => whnf
          refine ⟨rfl, ⟨by omega, by omega⟩, ?_⟩; conv => whnf
          have fin : ∀ (sv3 : AV) (t3 : St), Col 3 1 (fun j => eI (gI (mineB sc items p.us (k + 1)) j)) t' (mineB sc items p.us (k + 1)).length sv3 t3 → ∃ m', m' < p.us.length - k ∧ ∃ (k_1 : Nat) (sv2 : AV), k_1 ≤ p.us.length ∧ m' = p.us.length - k_1 ∧ [sv, sv3, eUnits p.us, eI p.us.length, eI (IntKind.i64.wrap ((k : Int) + 1))] = [sv, sv2, eUnits p.us, eI p.us.length, eI k_1] ∧ Col 3 1 (fun j => eI (gI (mineB sc items p.us k_1) j)) t' (mineB sc items p.us k_1).length sv2 t3 :=
            fun sv3 t3 hc => ⟨p.us.length - (k + 1), by omega, k + 1, sv3, by omega, rfl, by rw [wrapN (by omega)], hc⟩
          refine fork (fun h3 => ?_) (fun h3 => ?_) <;> rw [h3]
          · rcases hcol with ⟨h0, rfl, rfl⟩ | ⟨h0, b, g, hb, rfl, rfl, hg⟩
            · exfalso; omega
            have hbt := hcol2.sup b _ (upd_same ..)
            have hgk : g (0 + (gU p.us k).line.toNat) = eB (hasB sc (items.getD (gU p.us k).line.toNat default)) := by rw [Nat.zero_add]; exact hg _ hlk.2
            conv => whnf
            refine ⟨rfl, ⟨by show 0 ≤ (gU p.us k).line; exact hlk.1, by show (gU p.us k).line < (items.length : Int); have := hlk.2; have := hlk.1; omega⟩, ?_⟩; conv => whnf
            refine ldV hbt rfl (by show 0 + (gU p.us k).line.toNat < _; have := hlk.2; omega) hgk ?_; conv => whnf
            refine fork (fun h4 => ?_) (fun h4 => ?_) <;> rw [h4]
            · have ho : openIn sc items (gU p.us k) = true := by
                unfold openIn; rw [show (gU p.us k).opn = true from h3, h4]; rfl
              rw [if_pos ho] at es
              have el : (mineB sc items p.us (k + 1)).length = (mineB sc items p.us k).length + 1 := by rw [es]; simp
              conv => whnf
              refine Col.app (q := r3) rfl rfl rfl rfl rfl (f := fun j => eI (gI (mineB sc items p.us (k + 1)) j)) (by simp only [es, gI_last]; rfl) (by show ((mineB sc items p.us k).length + 1) * 8 ≤ 140737488355328; omega) (hcol2.congr fun j hj => by rw [es, gI_append hj]) (fun sv3 t3 hc3 => ?_); conv => whnf
              refine ⟨rfl, ?_⟩; conv => whnf
              exact fin sv3 t3 (by rw [el]; exact hc3)
            · have ho : ¬ openIn sc items (gU p.us k) = true := by
                unfold openIn; rw [h4]; simp
              rw [if_neg ho, List.append_nil] at es; conv => whnf
              refine ⟨rfl, ?_⟩; conv => whnf
              exact fin sv2 t2 (by rw [es]; exact hcol2)
          · have ho : ¬ openIn sc items (gU p.us k) = true := by
              unfold openIn; rw [show (gU p.us k).opn = false from h3]; simp
            rw [if_neg ho, List.append_nil] at es; conv => whnf
            refine ⟨rfl, ?_⟩; conv => whnf
            exact fin sv2 t2 (by rw [es]; exact hcol2)
    · have hi' : i < items.length := by have := of_decide_eq_true hd; omega
      conv => whnf
      refine ⟨rfl, ⟨by omega, by omega⟩, ?_⟩; conv => whnf
      refine call1 (shas_S sc (items.getD i default) h1 h2 _) ?_; conv => whnf
      refine Col.app (q := r4) rfl rfl rfl rfl rfl rfl (by show (i + 1) * 1 ≤ 140737488355328; omega) hcol (fun sv' t2 hcol' => ?_); conv => whnf
      refine ⟨rfl, ?_⟩; conv => whnf
      exact ⟨items.length - (i + 1), by omega, i + 1, sv', by omega, rfl, by rw [wrapN (by omega)], hcol'⟩
end Go.Proofs.YtfajkgonocpddaaGreat
namespace Go.Proofs.YtfajkgonocpddaaGreat
open Go Go.Ab Go.Proofs Go.Sort Go.Lib
attribute [local irreducible] upd del
def scF (x : Nat) : Nat := match x with
  | 43 => 159
  | n => n
def scT (x : Nat) : Nat := match x with
  | 22 => 45
  | 23 => 3
  | 0 => 0
  | 3 => 3
  | 4 => 4
  | n => n
def scRen : Go.Shelf.Ren := { f := scF, t := scT, g := fun n => n }
theorem scLay : SlLaysE.n43 Tryz.prog scRen where
  mixed := by kernel_rfl
  f43 := ⟨"slices.Compact[[]int,int]", by decide, Tryz.func159.trans (congrArg some (by kernel_rfl))⟩
  t0 := Tryz.underlying0
  a0 := Tryz.isAgg0
  z0 := Tryz.sizeOf0
  v0 := Tryz.zeroValue0
  t3 := Tryz.underlying3
  a3 := Tryz.isAgg3
  z3 := Tryz.sizeOf3
  v3 := Tryz.zeroValue3
  t4 := Tryz.underlying4
  a4 := Tryz.isAgg4
  z4 := Tryz.sizeOf4
  v4 := Tryz.zeroValue4
  t22 := Tryz.underlying45
  a22 := Tryz.isAgg45
  z22 := Tryz.sizeOf45
  v22 := Tryz.zeroValue45
  a23 := Tryz.isAgg3
  z23 := Tryz.sizeOf3
def compI (l : List Int) : List Int := compactUpTo l.toArray l.length
def compZ (l : List Int) : List Int := compI l ++ List.replicate (l.length - (compI l).length) 0
theorem compI_len (l : List Int) : (compI l).length ≤ l.length := by
  unfold compI compactUpTo
  rw [List.length_map]
  exact Nat.le_trans (List.length_filter_le ..) (by simp)
theorem compZ_len (l : List Int) : (compZ l).length = l.length := by
  have := compI_len l
  unfold compZ; rw [List.length_append, List.length_replicate]; omega
def rowBlk (l' : List Int) : Blk := ⟨3, 1, l'.length, fun k => eI (gI l' k)⟩
theorem row_evo {st : St} {w : World} {b n : Nat} {l l' : List Int} (hl : l'.length = l.length) (hb : HasI st b l) (hS : RelS st w) :
    Evo st w (upd st b (rowBlk l')) (putRow (Value.int .i64) (Sort.ahead w n) b 0 l'.toArray) ∧ RelS (upd st b (rowBlk l')) (putRow (Value.int .i64) (Sort.ahead w n) b 0 l'.toArray) := by
  obtain ⟨f, hst, hf⟩ := hb
  obtain ⟨cs, hok⟩ := hS b _ hst
  have hbl : b < w.heap.size := (Array.getElem?_eq_some_iff.1 hok.heap).1
  have hsz : l.length * 1 ≤ cs.size := hok.size
  have hheap : ∀ c, c < w.heap.size → (putRow (Value.int .i64) (Sort.ahead w n) b 0 l'.toArray).heap[c]? = if b = c then some (.cells (putCells (Value.int .i64) 0 l'.toArray cs) 3 (0, 0)) else w.heap[c]? := fun c hc => by
    show (w.heap.modify b (onCells (putCells (Value.int .i64) 0 l'.toArray)))[c]? = _
    rw [Array.getElem?_modify]
    split
    · rename_i e; subst e; rw [hok.heap]; rfl
    · rfl
  have hev : Evo st w (upd st b (rowBlk l')) (putRow (Value.int .i64) (Sort.ahead w n) b 0 l'.toArray) := by
    refine ⟨rfl, rfl, rfl, ?_, fun c hc hs => ?_, fun c => ?_⟩
    · show w.heap.size ≤ (w.heap.modify b _).size
      simp
    · have hne : b ≠ c := fun e => by subst e; rw [hst] at hs; cases hs
      rw [hheap c hc, if_neg hne]
      exact ⟨rfl, by rw [upd_ne hne.symm]; exact hs⟩
    · by_cases hc : c < w.heap.size
      · unfold szOf
        rw [hheap c hc]
        by_cases e : b = c
        · subst e
          rw [hok.heap, if_pos rfl]
          simp [putCells]
        · rw [if_neg e]; exact Nat.le_refl _
      · unfold szOf
        rw [Array.getElem?_eq_none (by omega)]
        exact Nat.zero_le _
  refine ⟨hev, fun c x hx => ?_⟩
  by_cases e : c = b
  · subst e
    rw [upd_same] at hx
    cases hx
    refine ⟨putCells (Value.int .i64) 0 l'.toArray cs, ?_, ?_, fun i hi => rfl, fun i hi => rfl, fun i j y hi hy => ?_⟩
    · rw [hheap c hbl, if_pos rfl]; rfl
    · show l'.length * 1 ≤ _
      rw [hl]
      simpa [putCells] using hsz
    · have hi' : i < l'.length := hi
      cases j with
      | succ j => simp [rowBlk, cellsOf] at hy
      | zero =>
        have hy' : y = eI (gI l' i) := by simpa [rowBlk, cellsOf] using hy.symm
        subst hy'
        refine ⟨.int .i64 (gI l' i), ?_, .int _ _⟩
        show (putCells (Value.int .i64) 0 l'.toArray cs)[i * 1 + 0]? = _
        unfold putCells
        rw [Array.getElem?_mapIdx, Nat.mul_one, Nat.add_zero, Array.getElem?_eq_getElem (by omega), Option.map_some]
        rw [if_pos ⟨by omega, by simp; omega⟩, Nat.sub_zero]
        have : l'.toArray[i]! = gI l' i := by
          rw [getElem!_pos _ i (by simp; omega)]
          simp [gI, hi']
        rw [this]
  · rw [upd_ne e] at hx
    obtain ⟨ds, hd⟩ := hS c x hx
    have hcl : c < w.heap.size := (Array.getElem?_eq_some_iff.1 hd.heap).1
    exact ⟨ds, hd.evo hev (by rw [hheap c hcl, if_neg (fun e' => e e'.symm)])⟩
theorem oneInt : OneCell (Value.int .i64) := fun x => rfl
theorem compact_S (b : Nat) (l : List Int) (hl : l.length ≤ 4611686018427387904) (st : St) (hb : HasI st b l) :
    S P 159 [.own 1 b 0 l.length] st fun v st' => v = .own 1 b 0 (compI l).length ∧ st' = upd st b (rowBlk (compZ l)) := by
  refine ⟨scLay.f43.enters rfl, fun cargs w hr hS => ?_⟩
  obtain ⟨hlen, hr⟩ := hr
  have hb' := hb
  obtain ⟨f, hst, hf⟩ := hb'
  obtain ⟨cs, hok⟩ := hS b _ hst
  have h0 : 0 < cargs.size := by rw [← hlen]; exact Nat.one_pos
  have ha := hr 0 _ cargs[0] rfl (Array.getElem?_eq_getElem h0)
  have hc : ∃ c, l.length ≤ c ∧ c ≤ szOf w b ∧ cargs = #[.slice (some ⟨b, 0, none⟩) l.length c] := by
    generalize hv : cargs[0] = v at ha
    cases ha with
    | own e b off n c hc hs =>
      refine ⟨c, hc, by simpa using hs, Array.ext (by rw [← hlen]; rfl) fun i h1 h2 => ?_⟩
      have : i = 0 := by simp at h2; exact h2
      subst this; rw [hv]; rfl
  obtain ⟨c, hlc, hcs, rfl⟩ := hc
  have hH : Holds (Value.int .i64) w b 0 l.toArray := fun j hj => by
    have hj' : j < l.length := by simpa using hj
    obtain ⟨x, hx, hrep⟩ := hok.cell j 0 (eI (gI l j)) hj' (by show (cellsOf (f j))[0]? = _; rw [hf j hj']; rfl)
    have hxx : x = .int .i64 (gI l j) := by cases hrep; rfl
    subst hxx
    have hg : l.toArray[j]! = gI l j := by rw [getElem!_pos _ j (by simpa using hj')]; simp [gI, hj']
    refine ⟨?_, ?_⟩
    · unfold World.cell?
      rw [hok.heap, hg]
      have : cs[j * 1 + 0]? = some (.int .i64 (gI l j)) := hx
      simpa using this
    · unfold World.frozen?
      rw [hok.heap]
      simp
  have hcl := compI_len l
  have hK := AnyE.slices_Compact scLay (Value.int .i64) oneInt (EqlAt.intD P _ .i64) (NeqAt.intD P _ .i64) 0 Tryz.zeroValue3 b 0 c l.toArray w hH (by simp; omega) (by simpa using hlc)
  rw [show l.toArray.size = l.length from by simp] at hK
  refine hK.mono ?_
  rintro e w' ⟨rfl, n, rfl⟩
  obtain ⟨h1, h2⟩ := row_evo (n := n) (compZ_len l) hb hS
  refine ⟨.own 1 b 0 (compI l).length, _, _, ⟨rfl, rfl⟩, rfl, ?_, h2, h1⟩
  have hr2 : RepW w st (.own 1 b 0 (compI l).length) (.slice (some ⟨b, 0 * 1, none⟩) (compI l).length c) := .own 1 b 0 _ c (Nat.le_trans hcl hlc) (by simpa using hcs)
  exact h1.rep hr2
theorem compact0_S (st : St) : S P 159 [.emp] st fun v st' => v = .emp ∧ st' = st := by
  refine S_of_X [] good mixed Tryz.func159 (by rfl) rfl rfl rfl ?_; conv => whnf
  exact ⟨rfl, rfl⟩
theorem gI_comp {l : List Int} {k : Nat} (h : k < (compI l).length) : gI (compZ l) k = gI (compI l) k := by
  unfold compZ; exact gI_append h
end Go.Proofs.YtfajkgonocpddaaGreat
