/- Part 22 of the proof: contracts of the functions that the law reaches -/
import Derived.Test.YtnekegdhpjplbaaGreatPa21
import Derived.Shelf.SlicesE.Compact
set_option maxRecDepth 100000
set_option linter.unusedVariables false
set_option linter.unusedSimpArgs false
namespace Go.Proofs.YtnekegdhpjplbaaGreat
open Go Go.Ab
attribute [local irreducible] upd del
def inB (l : List Str) (s : Str) : Bool := l.any fun y => s.toList == y.toList
theorem nhas_S (l : List Str) (s : Str) (hl : l.length ≤ 9223372036854775807) (st : St) : S P 205 [eStrs l, eS s] st fun v st' => v = .bool (inB l s) ∧ st' = st := by
 refine S_of_X [] good mixed Tryz.func205 (by rfl) rfl rfl rfl ?_; conv => whnf
 refine call1 (namesIn_S l hl s st) ?_; conv => whnf
 exact ⟨rfl, rfl⟩
def hasB (s : Scope) (x : Ab.Item) : Bool := (s.skus.length + s.cats.length == 0) || inB s.skus x.sku || inB s.cats x.cat
theorem shas_S (s : Scope) (x : Ab.Item) (h1 : s.skus.length ≤ 20) (h2 : s.cats.length ≤ 20) (st : St) : S P 208 [eScope s, eItem x] st fun v st' => v = .bool (hasB s x) ∧ st' = st := by
 refine S_of_X [2, 3] good mixed Tryz.func208 (by rfl) rfl rfl rfl ?_; conv => whnf
 have w : IntKind.i64.wrap ((s.skus.length : Int) + (s.cats.length : Int)) = ((s.skus.length + s.cats.length : Nat) : Int) := by rw [wrap64_of (by omega) (by omega)]; omega
 rw [w, nat_eq0]
 refine fork (fun h => ?_) (fun h => ?_) <;> rw [h]
 · conv => whnf
   refine ⟨?_, rfl⟩
   unfold hasB; rw [h]; rfl
 · conv => whnf
   refine call1 (nhas_S s.skus x.sku (by omega) st) ?_; conv => whnf
   refine fork (fun h3 => ?_) (fun h3 => ?_) <;> rw [h3]
   · conv => whnf
     refine ⟨?_, rfl⟩
     unfold hasB; rw [h, h3]; rfl
   · conv => whnf
     refine call1 (nhas_S s.cats x.cat (by omega) st) ?_; conv => whnf
     refine ⟨?_, rfl⟩
     unfold hasB; rw [h, h3]; rfl
theorem besideSup : Beside Sup where
 sup := fun h => h
 begin := fun {s t b y} h hb => fun c x hc => by
   by_cases e : c = b
   · subst e; rw [upd_same] at hc ⊢; exact hc
   · rw [upd_ne e] at hc ⊢; exact h c x hc
 grow := fun {s t b b' y y'} h h0 hb => by
   have hsub : ∀ c x, s c = some x → c ≠ b ∧ t c = some x := fun c x hc => by
     have hne : c ≠ b := fun e => by subst e; rw [h0] at hc; cases hc
     exact ⟨hne, h c x (by rw [upd_ne hne]; exact hc)⟩
   have hb' : s b' = none := by
     rcases hb with e | e
     · rw [e]; exact h0
     · cases hx : s b' with
       | none => rfl
       | some x => rw [(hsub _ _ hx).2] at e; cases e
   refine ⟨hb', fun c x hc => ?_⟩
   by_cases e : c = b'
   · subst e; rw [upd_same] at hc ⊢; exact hc
   · rw [upd_ne e] at hc ⊢
     rw [del_ne (hsub c x hc).1]; exact (hsub c x hc).2
 write := fun {s t b y y'} h hb => Sup.write (y := y) h
 forget := fun {s t b y} h h0 => fun c x hc => by
   have hne : c ≠ b := fun e => by subst e; rw [h0] at hc; cases hc
   rw [del_ne hne]; exact h c x (by rw [upd_ne hne]; exact hc)
 drop := fun {s t b y} h h0 => Sup.drop h h0
theorem besideEx {ι : Type} {R : ι → St → St → Prop} (h : ∀ i, Beside (R i)) : Beside fun s t => ∃ i, R i s t where
 sup := fun ⟨i, hi⟩ => (h i).sup hi
 begin := fun ⟨i, hi⟩ hb => ⟨i, (h i).begin hi hb⟩
 grow := fun ⟨i, hi⟩ h0 hb => ⟨((h i).grow (y' := ⟨0, 0, 0, fun _ => .junk⟩) hi h0 hb).1, i, ((h i).grow hi h0 hb).2⟩
 write := fun ⟨i, hi⟩ hb => ⟨i, (h i).write hi hb⟩
 forget := fun ⟨i, hi⟩ h0 => ⟨i, (h i).forget hi h0⟩
 drop := fun ⟨i, hi⟩ h0 => ⟨i, (h i).drop hi h0⟩
theorem Col.off {ty e n : Nat} {fo : Nat → AV} {s s0 : St} {sv : AV} (h : Col ty e fo s n sv s0) {b : Nat} (hb : s0 b = none) : s b = none := by
 rcases h with ⟨_, _, rfl⟩ | ⟨_, bo, g, h1, _, rfl, _⟩
 · exact hb
 · by_cases e : b = bo
   · subst e; exact h1
   · rw [upd_ne e] at hb; exact hb
theorem Col.under {ty e n : Nat} {fo : Nat → AV} {s s0 : St} {sv : AV} (h : Col ty e fo s n sv s0) {b : Nat} {y : Blk} (hb : s0 b = none) : Col ty e fo (upd s b y) n sv (upd s0 b y) := by
 rcases h with ⟨rfl, rfl, rfl⟩ | ⟨h0, bo, g, h1, rfl, rfl, h3⟩
 · exact Col.start _ _ _ _
 · have hne : bo ≠ b := fun e => by subst e; rw [upd_same] at hb; cases hb
   exact .inr ⟨h0, bo, g, by rw [upd_ne hne]; exact h1, rfl, upd_comm hne, h3⟩
theorem Col.split {ty e n : Nat} {fo : Nat → AV} {s s0 : St} {sv : AV} {b : Nat} {y : Blk} (h : Col ty e fo (upd s b y) n sv s0) (hb : s b = none) : ∃ s1, s1 b = none ∧ s0 = upd s1 b y ∧ Col ty e fo s n sv s1 := by
 rcases h with ⟨rfl, rfl, rfl⟩ | ⟨h0, bo, g, h1, rfl, rfl, h3⟩
 · exact ⟨s, hb, rfl, Col.start _ _ _ _⟩
 · have hne : bo ≠ b := fun e => by subst e; rw [upd_same] at h1; cases h1
   rw [upd_ne hne] at h1
   exact ⟨upd s bo ⟨ty, e, n, g⟩, by rw [upd_ne hne.symm]; exact hb, upd_comm hne.symm, .inr ⟨h0, bo, g, h1, rfl, rfl, h3⟩⟩
theorem besideOut {R : St → St → Prop} (hR : Beside R) (ty e : Nat) (fo : Nat → AV) (n : Nat) (sv : AV) : Beside fun s t => ROut R ty e fo n s sv t where
 sup := fun h => h.sup hR
 begin := fun {s t b y} ⟨s0, hc, h⟩ hb => ⟨upd s0 b y, Col.under hc ((hR.sup h).none hb), hR.begin h hb⟩
 grow := fun {s t b b' y y'} ⟨s0, hc, h⟩ h0 hb => by
   obtain ⟨s1, h1, rfl, hc1⟩ := Col.split hc h0
   obtain ⟨g1, g2⟩ := hR.grow (y' := y') h h1 hb
   exact ⟨Col.off hc1 g1, _, Col.under hc1 g1, g2⟩
 write := fun {s t b y y'} ⟨s0, hc, h⟩ hb => ⟨_, Col.write hc hb, hR.write h (hc.sup b y hb)⟩
 forget := fun {s t b y} ⟨s0, hc, h⟩ h0 => by
   obtain ⟨s1, h1, rfl, hc1⟩ := Col.split hc h0
   exact ⟨s1, hc1, hR.forget h h1⟩
 drop := fun {s t b y} ⟨s0, hc, h⟩ h0 => by
   obtain ⟨s1, h1, rfl, hc1⟩ := Col.split hc h0
   exact ⟨s1, hc1, hR.drop h h1⟩
structure PSt where
 us : List AUnit
 deals : List Deal
 groups : List Str
abbrev fDeals (l : List Deal) : Nat → AV := fun k => eDeal (l.getD k default)
abbrev fStrs (l : List Str) : Nat → AV := fun k => eS (l.getD k default)
def IsP (items : List Ab.Item) (us : List AUnit) (dv gv : AV) (y : Blk) : Prop := ∃ f, y = ⟨109, 4, 1, f⟩ ∧ f 0 = .agg [arrOf 4 eItem items, eUnits us, dv, gv]
def RG (groups : List Str) (gv : AV) : St → St → Prop := fun s t => ROut Sup 9 1 (fStrs groups) groups.length s gv t
def RD (deals : List Deal) (groups : List Str) (dv gv : AV) : St → St → Prop := fun s t => ROut (RG groups gv) 61 2 (fDeals deals) deals.length s dv t
def PxR (bx : Nat) (items : List Ab.Item) (p : PSt) : St → St → Prop := fun s t => ∃ v : AV × AV, AddB bx (IsP items p.us v.1 v.2) (RD p.deals p.groups v.1 v.2) s t
theorem besideG (groups : List Str) (gv : AV) : Beside (RG groups gv) := besideOut besideSup _ _ _ _ _
theorem besideD (deals : List Deal) (groups : List Str) (dv gv : AV) : Beside (RD deals groups dv gv) := besideOut (besideG groups gv) _ _ _ _ _
theorem besideP (bx : Nat) (items : List Ab.Item) (p : PSt) : Beside (PxR bx items p) := besideEx fun _ => besideB (besideD _ _ _ _)
theorem PxR.at {bx : Nat} {items : List Ab.Item} {p : PSt} {s t : St} (h : PxR bx items p s t) : ∃ dv gv f, t bx = some ⟨109, 4, 1, f⟩ ∧ f 0 = .agg [arrOf 4 eItem items, eUnits p.us, dv, gv] ∧ (dv = .emp ∨ ∃ b, dv = .own 2 b 0 p.deals.length) ∧ (gv = .emp ∨ ∃ b, gv = .own 1 b 0 p.groups.length) := by
 obtain ⟨⟨dv, gv⟩, h⟩ := h
 obtain ⟨y, ⟨f, rfl, hf⟩, hy⟩ := AddB.at (besideD _ _ _ _) h
 obtain ⟨_, _, _, hd⟩ := h
 obtain ⟨s0, hc, hg⟩ := hd
 refine ⟨dv, gv, f, hy, hf, ?_, ?_⟩
 · exact (show ROut (RG p.groups gv) _ _ _ _ _ dv t from ⟨s0, hc, hg⟩).head
 · exact hg.head
def openIn (sc : Scope) (items : List Ab.Item) (u : AUnit) : Bool := u.opn && hasB sc (items.getD u.line.toNat default)
def mineB (sc : Scope) (items : List Ab.Item) (us : List AUnit) (i : Nat) : List Int := ((List.range i).filter fun k => openIn sc items (gU us k)).map Int.ofNat
theorem mineB_succ (sc : Scope) (items : List Ab.Item) (us : List AUnit) (i : Nat) : mineB sc items us (i + 1) = mineB sc items us i ++ (if openIn sc items (gU us i) = true then [(i : Int)] else []) := by
 unfold mineB
 rw [List.range_succ, List.filter_append, List.map_append]
 congr 1
 by_cases h : openIn sc items (gU us i) = true
 · rw [if_pos h, List.filter_cons_of_pos (p := fun k => openIn sc items (gU us k)) h]; rfl
 · rw [if_neg h, List.filter_cons_of_neg (p := fun k => openIn sc items (gU us k)) h]; rfl
theorem mineB_len (sc : Scope) (items : List Ab.Item) (us : List AUnit) (i : Nat) : (mineB sc items us i).length ≤ i := by
 unfold mineB
 rw [List.length_map]
 exact Nat.le_trans (List.length_filter_le ..) (by simp)
theorem mineB_ok (sc : Scope) (items : List Ab.Item) (us : List AUnit) : MineOk us (mineB sc items us us.length) := by
 have hmem : ∀ k, k < (mineB sc items us us.length).length → ∃ j : Nat, gI (mineB sc items us us.length) k = (j : Int) ∧ j < us.length ∧ openIn sc items (gU us j) = true := fun k hk => by
   have h := getD_mem (l := mineB sc items us us.length) hk
   obtain ⟨j, hj, he⟩ := List.mem_map.1 h
   obtain ⟨h1, h2⟩ := List.mem_filter.1 hj
   exact ⟨j, he.symm, List.mem_range.1 h1, h2⟩
 refine ⟨fun k hk => ?_, fun k hk => ?_, fun k hk => ?_⟩
 · obtain ⟨j, e, h1, h2⟩ := hmem k hk
   rw [e]; omega
 · obtain ⟨j, e, h1, h2⟩ := hmem k hk
   rw [e]
   unfold openIn at h2
   rw [Bool.and_eq_true] at h2
   exact h2.1
 · have hs : (mineB sc items us us.length).Pairwise (· < ·) := by
     unfold mineB
     refine List.Pairwise.map _ (fun a b h => ?_) ((List.pairwise_lt_range (n := us.length)).filter _)
     show (a : Int) < (b : Int)
     omega
   have := List.pairwise_iff_getElem.1 hs k (k + 1) (by omega) hk (by omega)
   simpa [gI, hk, show k < (mineB sc items us us.length).length by omega] using this
theorem mine_S (bx : Nat) (items : List Ab.Item) (p : PSt) (sc : Scope) (h1 : sc.skus.length ≤ 20) (h2 : sc.cats.length ≤ 20) (hu : p.us.length ≤ 100000) (hi : items.length ≤ 100000) (hl : ∀ u ∈ p.us, 0 ≤ u.line ∧ u.line.toNat < items.length) (s t : St) (h : PxR bx items p s t) :
   S P 164 [.optr 4 bx 0 0, eScope sc] t fun v t' => v = eInts (mineB sc items p.us p.us.length) ∧ t' = t := by
 refine S.post (post := fun v t' => ∃ t1, Sup t t1 ∧ Col 3 1 (fun k => eI (gI (mineB sc items p.us p.us.length) k)) t1 (mineB sc items p.us p.us.length).length v t') ?_
   (fun v t' ⟨t1, hs, hc⟩ => ⟨_, t, ⟨rfl, rfl⟩, hc.shift.trans (hs.shift _)⟩)
 obtain ⟨dv, gv, fx, hx, hx0, hdv, hgv⟩ := h.at
 refine S_of_X [3, 7, 10] good mixed Tryz.func164 (by rfl) rfl rfl rfl ?_; conv => whnf
 refine ldV hx rfl (by omega) hx0 ?_; conv => whnf
 refine ⟨[0, 3, 5, 14, 15, 16], fun m vs t' => ∃ (i : Nat) (sv : AV), i ≤ items.length ∧ m = items.length - i ∧ vs = [.optr 4 bx 0 0, .fptr (eScope sc) 0, sv, arrOf 4 eItem items, eI items.length, eI i] ∧ Col 4 1 (fun k => eB (hasB sc (items.getD k default))) t i sv t', ?_, ?_⟩
 · conv => whnf
   exact ⟨_, 0, .emp, Nat.zero_le _, rfl, rfl, Col.start _ _ _ _⟩
 · rintro m vs t' ⟨i, sv, hi2, rfl, rfl, hcol⟩
   conv => whnf
   cases hd : decide ((i : Int) < (items.length : Int))
   · have := of_decide_eq_false hd
     obtain rfl : i = items.length := by omega
     have hx' := hcol.sup bx _ hx
     conv => whnf
     refine ldV hx' rfl (by omega) hx0 ?_; conv => whnf
     refine ⟨[5, 8, 30, 31, 32], fun m vs t2 => ∃ (k : Nat) (sv2 : AV), k ≤ p.us.length ∧ m = p.us.length - k ∧ vs = [sv, sv2, eUnits p.us, eI p.us.length, eI k] ∧ Col 3 1 (fun j => eI (gI (mineB sc items p.us k) j)) t' (mineB sc items p.us k).length sv2 t2, ?_, ?_⟩
     · conv => whnf
       exact ⟨_, 0, .emp, Nat.zero_le _, rfl, rfl, Col.start _ _ _ _⟩
     · rintro m vs t2 ⟨k, sv2, hk, rfl, rfl, hcol2⟩
       have hpl := mineB_len sc items p.us k
       conv => whnf
       cases hd2 : decide ((k : Int) < (p.us.length : Int))
       · have := of_decide_eq_false hd2
         obtain rfl : k = p.us.length := by omega
         conv => whnf
         exact ⟨t', hcol.sup, hcol2⟩
       · have hk' : k < p.us.length := by have := of_decide_eq_true hd2; omega
         have hlk : 0 ≤ (gU p.us k).line ∧ (gU p.us k).line.toNat < items.length := hl _ (getD_mem (l := p.us) hk')
         have es := mineB_succ sc items p.us k
         conv => whnf
         refine ⟨rfl, ⟨by omega, by omega⟩, ?_⟩; conv => whnf
         have fin : ∀ (sv3 : AV) (t3 : St), Col 3 1 (fun j => eI (gI (mineB sc items p.us (k + 1)) j)) t' (mineB sc items p.us (k + 1)).length sv3 t3 → ∃ m', m' < p.us.length - k ∧ ∃ (k_1 : Nat) (sv2 : AV), k_1 ≤ p.us.length ∧ m' = p.us.length - k_1 ∧ [sv, sv3, eUnits p.us, eI p.us.length, eI (IntKind.i64.wrap ((k : Int) + 1))] = [sv, sv2, eUnits p.us, eI p.us.length, eI k_1] ∧ Col 3 1 (fun j => eI (gI (mineB sc items p.us k_1) j)) t' (mineB sc items p.us k_1).length sv2 t3 :=
           fun sv3 t3 hc => ⟨p.us.length - (k + 1), by omega, k + 1, sv3, by omega, rfl, by rw [wrapN (by omega)], hc⟩
         refine fork (fun h3 => ?_) (fun h3 => ?_) <;> rw [h3]
         · rcases hcol with ⟨h0, rfl, rfl⟩ | ⟨h0, b, g, hb, rfl, rfl, hg⟩
           · exfalso; omega
           have hbt := hcol2.sup b _ (upd_same ..)
           have hgk : g (0 + (gU p.us k).line.toNat) = eB (hasB sc (items.getD (gU p.us k).line.toNat default)) := by rw [Nat.zero_add]; exact hg _ hlk.2
           conv => whnf
           refine ⟨rfl, ⟨by show 0 ≤ (gU p.us k).line; exact hlk.1, by show (gU p.us k).line < (items.length : Int); have := hlk.2; have := hlk.1; omega⟩, ?_⟩; conv => whnf
           refine ldV hbt rfl (by show 0 + (gU p.us k).line.toNat < _; have := hlk.2; omega) hgk ?_; conv => whnf
           refine fork (fun h4 => ?_) (fun h4 => ?_) <;> rw [h4]
           · have ho : openIn sc items (gU p.us k) = true := by
               unfold openIn; rw [show (gU p.us k).opn = true from h3, h4]; rfl
             rw [if_pos ho] at es
             have el : (mineB sc items p.us (k + 1)).length = (mineB sc items p.us k).length + 1 := by rw [es]; simp
             conv => whnf
             refine Col.app (q := r3) rfl rfl rfl rfl rfl (f := fun j => eI (gI (mineB sc items p.us (k + 1)) j)) (by simp only [es, gI_last]; rfl) (by show ((mineB sc items p.us k).length + 1) * 8 ≤ 140737488355328; omega) (hcol2.congr fun j hj => by rw [es, gI_append hj]) (fun sv3 t3 hc3 => ?_); conv => whnf
             refine ⟨rfl, ?_⟩; conv => whnf
             exact fin sv3 t3 (by rw [el]; exact hc3)
           · have ho : ¬ openIn sc items (gU p.us k) = true := by
               unfold openIn; rw [h4]; simp
             rw [if_neg ho, List.append_nil] at es; conv => whnf
             refine ⟨rfl, ?_⟩; conv => whnf
             exact fin sv2 t2 (by rw [es]; exact hcol2)
         · have ho : ¬ openIn sc items (gU p.us k) = true := by
             unfold openIn; rw [show (gU p.us k).opn = false from h3]; simp
           rw [if_neg ho, List.append_nil] at es; conv => whnf
           refine ⟨rfl, ?_⟩; conv => whnf
           exact fin sv2 t2 (by rw [es]; exact hcol2)
   · have hi' : i < items.length := by have := of_decide_eq_true hd; omega
     conv => whnf
     refine ⟨rfl, ⟨by omega, by omega⟩, ?_⟩; conv => whnf
     refine call1 (shas_S sc (items.getD i default) h1 h2 _) ?_; conv => whnf
     refine Col.app (q := r4) rfl rfl rfl rfl rfl rfl (by show (i + 1) * 1 ≤ 140737488355328; omega) hcol (fun sv' t2 hcol' => ?_); conv => whnf
     refine ⟨rfl, ?_⟩; conv => whnf
     exact ⟨items.length - (i + 1), by omega, i + 1, sv', by omega, rfl, by rw [wrapN (by omega)], hcol'⟩
end Go.Proofs.YtnekegdhpjplbaaGreat
namespace Go.Proofs.YtnekegdhpjplbaaGreat
open Go Go.Ab Go.Proofs Go.Sort Go.Lib
attribute [local irreducible] upd del
def scF (x : Nat) : Nat := match x with
 | 43 => 168
 | n => n
def scT (x : Nat) : Nat := match x with
 | 22 => 29
 | 23 => 3
 | 0 => 0
 | 3 => 3
 | 4 => 4
 | n => n
def scRen : Go.Shelf.Ren := { f := scF, t := scT, g := fun n => n }
theorem scLay : SlLaysE.n43 Tryz.prog scRen where
 mixed := by kernel_rfl
 f43 := ⟨"slices.Compact[[]int,int]", by decide, Tryz.func168.trans (congrArg some (by kernel_rfl))⟩
 t0 := Tryz.underlying0
 a0 := Tryz.isAgg0
 z0 := Tryz.sizeOf0
 v0 := Tryz.zeroValue0
 t3 := Tryz.underlying3
 a3 := Tryz.isAgg3
 z3 := Tryz.sizeOf3
 v3 := Tryz.zeroValue3
 t4 := Tryz.underlying4
 a4 := Tryz.isAgg4
 z4 := Tryz.sizeOf4
 v4 := Tryz.zeroValue4
 t22 := Tryz.underlying29
 a22 := Tryz.isAgg29
 z22 := Tryz.sizeOf29
 v22 := Tryz.zeroValue29
 a23 := Tryz.isAgg3
 z23 := Tryz.sizeOf3
def compI (l : List Int) : List Int := compactUpTo l.toArray l.length
def compZ (l : List Int) : List Int := compI l ++ List.replicate (l.length - (compI l).length) 0
theorem compI_len (l : List Int) : (compI l).length ≤ l.length := by
 unfold compI compactUpTo
 rw [List.length_map]
 exact Nat.le_trans (List.length_filter_le ..) (by simp)
theorem compZ_len (l : List Int) : (compZ l).length = l.length := by
 have := compI_len l
 unfold compZ; rw [List.length_append, List.length_replicate]; omega
def rowBlk (l' : List Int) : Blk := ⟨3, 1, l'.length, fun k => eI (gI l' k)⟩
theorem row_evo {st : St} {w : World} {b n : Nat} {l l' : List Int} (hl : l'.length = l.length) (hb : HasI st b l) (hS : RelS st w) :
   Evo st w (upd st b (rowBlk l')) (putRow (Value.int .i64) (Sort.ahead w n) b 0 l'.toArray) ∧ RelS (upd st b (rowBlk l')) (putRow (Value.int .i64) (Sort.ahead w n) b 0 l'.toArray) := by
 obtain ⟨f, hst, hf⟩ := hb
 obtain ⟨cs, hok⟩ := hS b _ hst
 have hbl : b < w.heap.size := (Array.getElem?_eq_some_iff.1 hok.heap).1
 have hsz : l.length * 1 ≤ cs.size := hok.size
 have hheap : ∀ c, c < w.heap.size → (putRow (Value.int .i64) (Sort.ahead w n) b 0 l'.toArray).heap[c]? = if b = c then some (.cells (putCells (Value.int .i64) 0 l'.toArray cs) 3 (0, 0)) else w.heap[c]? := fun c hc => by
   show (w.heap.modify b (onCells (putCells (Value.int .i64) 0 l'.toArray)))[c]? = _
   rw [Array.getElem?_modify]
   split
   · rename_i e; subst e; rw [hok.heap]; rfl
   · rfl
 have hev : Evo st w (upd st b (rowBlk l')) (putRow (Value.int .i64) (Sort.ahead w n) b 0 l'.toArray) := by
   refine ⟨rfl, rfl, rfl, ?_, fun c hc hs => ?_, fun c => ?_⟩
   · show w.heap.size ≤ (w.heap.modify b _).size
     simp
   · have hne : b ≠ c := fun e => by subst e; rw [hst] at hs; cases hs
     rw [hheap c hc, if_neg hne]
     exact ⟨rfl, by rw [upd_ne hne.symm]; exact hs⟩
   · by_cases hc : c < w.heap.size
     · unfold szOf
       rw [hheap c hc]
       by_cases e : b = c
       · subst e
         rw [hok.heap, if_pos rfl]
         simp [putCells]
       · rw [if_neg e]; exact Nat.le_refl _
     · unfold szOf
       rw [Array.getElem?_eq_none (by omega)]
       exact Nat.zero_le _
 refine ⟨hev, fun c x hx => ?_⟩
 by_cases e : c = b
 · subst e
   rw [upd_same] at hx
   cases hx
   refine ⟨putCells (Value.int .i64) 0 l'.toArray cs, ?_, ?_, fun i hi => rfl, fun i hi => rfl, fun i j y hi hy => ?_⟩
   · rw [hheap c hbl, if_pos rfl]; rfl
   · show l'.length * 1 ≤ _
     rw [hl]
     simpa [putCells] using hsz
   · have hi' : i < l'.length := hi
     cases j with
     | succ j => simp [rowBlk, cellsOf] at hy
     | zero =>
       have hy' : y = eI (gI l' i) := by simpa [rowBlk, cellsOf] using hy.symm
       subst hy'
       refine ⟨.int .i64 (gI l' i), ?_, .int _ _⟩
       show (putCells (Value.int .i64) 0 l'.toArray cs)[i * 1 + 0]? = _
       unfold putCells
       rw [Array.getElem?_mapIdx, Nat.mul_one, Nat.add_zero, Array.getElem?_eq_getElem (by omega), Option.map_some]
       rw [if_pos ⟨by omega, by simp; omega⟩, Nat.sub_zero]
       have : l'.toArray[i]! = gI l' i := by
         rw [getElem!_pos _ i (by simp; omega)]
         simp [gI, hi']
       rw [this]
 · rw [upd_ne e] at hx
   obtain ⟨ds, hd⟩ := hS c x hx
   have hcl : c < w.heap.size := (Array.getElem?_eq_some_iff.1 hd.heap).1
   exact ⟨ds, hd.evo hev (by rw [hheap c hcl, if_neg (fun e' => e e'.symm)])⟩
theorem oneInt : OneCell (Value.int .i64) := fun x => rfl
theorem compact_S (b : Nat) (l : List Int) (hl : l.length ≤ 4611686018427387904) (st : St) (hb : HasI st b l) :
   S P 168 [.own 1 b 0 l.length] st fun v st' => v = .own 1 b 0 (compI l).length ∧ st' = upd st b (rowBlk (compZ l)) := by
 refine ⟨scLay.f43.enters rfl, fun cargs w hr hS => ?_⟩
 obtain ⟨hlen, hr⟩ := hr
 have hb' := hb
 obtain ⟨f, hst, hf⟩ := hb'
 obtain ⟨cs, hok⟩ := hS b _ hst
 have h0 : 0 < cargs.size := by rw [← hlen]; exact Nat.one_pos
 have ha := hr 0 _ cargs[0] rfl (Array.getElem?_eq_getElem h0)
 have hc : ∃ c, l.length ≤ c ∧ c ≤ szOf w b ∧ cargs = #[.slice (some ⟨b, 0, none⟩) l.length c] := by
   generalize hv : cargs[0] = v at ha
   cases ha with
   | own e b off n c hc hs =>
     refine ⟨c, hc, by simpa using hs, Array.ext (by rw [← hlen]; rfl) fun i h1 h2 => ?_⟩
     have : i = 0 := by simp at h2; exact h2
     subst this; rw [hv]; rfl
 obtain ⟨c, hlc, hcs, rfl⟩ := hc
 have hH : Holds (Value.int .i64) w b 0 l.toArray := fun j hj => by
   have hj' : j < l.length := by simpa using hj
   obtain ⟨x, hx, hrep⟩ := hok.cell j 0 (eI (gI l j)) hj' (by show (cellsOf (f j))[0]? = _; rw [hf j hj']; rfl)
   have hxx : x = .int .i64 (gI l j) := by cases hrep; rfl
   subst hxx
   have hg : l.toArray[j]! = gI l j := by rw [getElem!_pos _ j (by simpa using hj')]; simp [gI, hj']
   refine ⟨?_, ?_⟩
   · unfold World.cell?
     rw [hok.heap, hg]
     have : cs[j * 1 + 0]? = some (.int .i64 (gI l j)) := hx
     simpa using this
   · unfold World.frozen?
     rw [hok.heap]
     simp
 have hcl := compI_len l
 have hK := AnyE.slices_Compact scLay (Value.int .i64) oneInt (EqlAt.intD P _ .i64) (NeqAt.intD P _ .i64) 0 Tryz.zeroValue3 b 0 c l.toArray w hH (by simp; omega) (by simpa using hlc)
 rw [show l.toArray.size = l.length from by simp] at hK
 refine hK.mono ?_
 rintro e w' ⟨rfl, n, rfl⟩
 obtain ⟨h1, h2⟩ := row_evo (n := n) (compZ_len l) hb hS
 refine ⟨.own 1 b 0 (compI l).length, _, _, ⟨rfl, rfl⟩, rfl, ?_, h2, h1⟩
 have hr2 : RepW w st (.own 1 b 0 (compI l).length) (.slice (some ⟨b, 0 * 1, none⟩) (compI l).length c) := .own 1 b 0 _ c (Nat.le_trans hcl hlc) (by simpa using hcs)
 exact h1.rep hr2
theorem compact0_S (st : St) : S P 168 [.emp] st fun v st' => v = .emp ∧ st' = st := by
 refine S_of_X [] good mixed Tryz.func168 (by rfl) rfl rfl rfl ?_; conv => whnf
 exact ⟨rfl, rfl⟩
theorem gI_comp {l : List Int} {k : Nat} (h : k < (compI l).length) : gI (compZ l) k = gI (compI l) k := by
 unfold compZ; exact gI_append h
end Go.Proofs.YtnekegdhpjplbaaGreat
namespace Go.Proofs.YtnekegdhpjplbaaGreat
open Go Go.Ab
attribute [local irreducible] upd del
def netF (us : List AUnit) (l : List Int) : Int := sumI (l.map fun i => (gU us i.toNat).net)
theorem netF_take {us : List AUnit} (hu : UnitsOk us) {l : List Int} (hl : ∀ k, k < l.length → 0 ≤ gI l k ∧ (gI l k).toNat < us.length) (hn : l.length ≤ 800000) {i : Nat} (hi : i < l.length) :
   IntKind.i64.wrap (netF us (l.take i) + (gU us (gI l i).toNat).net) = netF us (l.take (i + 1)) := by
 have hc := costL_bound hu (l.take i) (fun x hx => by obtain ⟨k, hk, rfl⟩ := mem_getD (List.take_subset _ _ hx); exact hl k hk)
 have h3 : 0 ≤ (gU us (gI l i).toNat).net := hu.pos _ (getD_mem (hl i hi).2)
 have h4 : (gU us (gI l i).toNat).net ≤ 10000000000000 := hu.le (getD_mem (hl i hi).2)
 have e : netF us (l.take (i + 1)) = netF us (l.take i) + (gU us (gI l i).toNat).net := by
   unfold netF; rw [take_next hi, List.map_append, sumI_append]; simp [sumI]
 have hcl : (l.take i).length ≤ 800000 := by rw [List.length_take]; omega
 have e2 : costL us (l.take i) = netF us (l.take i) := rfl
 rw [e]
 exact wrap64_of (by omega) (by omega)
theorem net_S (bx : Nat) (items : List Ab.Item) (p : PSt) (hu : UnitsOk p.us) (l : List Int) (hn : l.length ≤ 800000) (hl : ∀ k, k < l.length → 0 ≤ gI l k ∧ (gI l k).toNat < p.us.length) (s t : St) (h : PxR bx items p s t) :
   S P 165 [.optr 4 bx 0 0, eInts l] t fun v t' => v = eI (netF p.us l) ∧ t' = t := by
 obtain ⟨dv, gv, fx, hx, hx0, hdv, hgv⟩ := h.at
 refine S_of_X [] good mixed Tryz.func165 (by rfl) rfl rfl rfl ?_; conv => whnf
 refine ⟨[0, 5, 8, 9, 10], fun m vs t' => ∃ i : Nat, i ≤ l.length ∧ m = l.length - i ∧ vs = [.optr 4 bx 0 0, eI (netF p.us (l.take i)), eInts l, eI l.length, eI i] ∧ t' = t, ?_, ?_⟩
 · conv => whnf
   exact ⟨_, 0, Nat.zero_le _, rfl, rfl, rfl⟩
 · rintro m vs t' ⟨i, hi, rfl, rfl, rfl⟩
   conv => whnf
   cases h2 : decide ((i : Int) < (l.length : Int))
   · have := of_decide_eq_false h2
     obtain rfl : i = l.length := by omega
     rw [List.take_length]; conv => whnf
     exact ⟨rfl, rfl⟩
   · have hi' : i < l.length := by have := of_decide_eq_true h2; omega
     have hr := hl i hi'
     conv => whnf
     refine ⟨rfl, ⟨by omega, by omega⟩, ?_⟩; conv => whnf
     refine ldV hx rfl (by omega) hx0 ?_; conv => whnf
     refine ⟨rfl, ⟨by show 0 ≤ gI l i; exact hr.1, by show gI l i < (p.us.length : Int); have := hr.2; have := hr.1; omega⟩, ?_⟩; conv => whnf
     refine ⟨rfl, ?_⟩; conv => whnf
     exact ⟨l.length - (i + 1), by omega, i + 1, by omega, rfl, by rw [wrapN (by omega), ← netF_take hu hl hn hi']; rfl, rfl⟩
theorem netO_S (bx : Nat) (items : List Ab.Item) (p : PSt) (hu : UnitsOk p.us) (l : List Int) (hn : l.length ≤ 800000) (hl : ∀ k, k < l.length → 0 ≤ gI l k ∧ (gI l k).toNat < p.us.length) (s t : St) (h : PxR bx items p s t)
   (b : Nat) (m0 : Nat) (f : Nat → AV) (hm0 : l.length ≤ m0) (hb : t b = some ⟨3, 1, m0, f⟩) (hf : ∀ k, k < l.length → f k = eI (gI l k)) :
   S P 165 [.optr 4 bx 0 0, .own 1 b 0 l.length] t fun v t' => v = eI (netF p.us l) ∧ t' = t := by
 obtain ⟨dv, gv, fx, hx, hx0, hdv, hgv⟩ := h.at
 refine S_of_X [] good mixed Tryz.func165 (by rfl) rfl rfl rfl ?_; conv => whnf
 refine ⟨[0, 5, 8, 9, 10], fun m vs t' => ∃ i : Nat, i ≤ l.length ∧ m = l.length - i ∧ vs = [.optr 4 bx 0 0, eI (netF p.us (l.take i)), .own 1 b 0 l.length, eI l.length, eI i] ∧ t' = t, ?_, ?_⟩
 · conv => whnf
   exact ⟨_, 0, Nat.zero_le _, rfl, rfl, rfl⟩
 · rintro m vs t' ⟨i, hi, rfl, rfl, rfl⟩
   conv => whnf
   cases h2 : decide ((i : Int) < (l.length : Int))
   · have := of_decide_eq_false h2
     obtain rfl : i = l.length := by omega
     rw [List.take_length]; conv => whnf
     exact ⟨rfl, rfl⟩
   · have hi' : i < l.length := by have := of_decide_eq_true h2; omega
     have hr := hl i hi'
     conv => whnf
     refine ⟨rfl, ⟨by omega, by omega⟩, ?_⟩; conv => whnf
     refine ldV hb rfl (by omega) (v := eI (gI l i)) (by rw [show 0 + (i : Int).toNat = i by omega]; exact hf i hi') ?_; conv => whnf
     refine ldV hx rfl (by omega) hx0 ?_; conv => whnf
     refine ⟨rfl, ⟨by show 0 ≤ gI l i; exact hr.1, by show gI l i < (p.us.length : Int); have := hr.2; have := hr.1; omega⟩, ?_⟩; conv => whnf
     refine ⟨rfl, ?_⟩; conv => whnf
     exact ⟨l.length - (i + 1), by omega, i + 1, by omega, rfl, by rw [wrapN (by omega), ← netF_take hu hl hn hi'], rfl⟩
def noteF (p : PSt) (pr : Promo) (off : Int) : PSt := ⟨p.us, p.deals ++ [⟨pr.id, off⟩], p.groups ++ (if isNil pr.group = true then [] else [pr.group])⟩
theorem getD_app {α : Type} [Inhabited α] {a b : List α} {k : Nat} (h : k < a.length) : (a ++ b).getD k default = a.getD k default := by
 rw [List.getD_eq_getElem?_getD, List.getD_eq_getElem?_getD, List.getElem?_append_left h]
theorem getD_lst {α : Type} [Inhabited α] (a : List α) (x : α) : (a ++ [x]).getD a.length default = x := by
 simp [List.getD_eq_getElem?_getD]
theorem RD.at {bx : Nat} {dl : List Deal} {gr : List Str} {dv gv : AV} {s t : St} {f : Nat → AV} (h : RD dl gr dv gv (upd s bx ⟨109, 4, 1, f⟩) t) : t bx = some ⟨109, 4, 1, f⟩ := (besideD _ _ _ _).sup h bx _ (upd_same ..)
theorem RD.put {bx : Nat} {dl : List Deal} {gr : List Str} {dv gv : AV} {s t : St} {f f' : Nat → AV} (h : RD dl gr dv gv (upd s bx ⟨109, 4, 1, f⟩) t) : RD dl gr dv gv (upd s bx ⟨109, 4, 1, f'⟩) (upd t bx ⟨109, 4, 1, f'⟩) := by
 have := (besideD dl gr dv gv).write (y' := ⟨109, 4, 1, f'⟩) h (upd_same ..)
 rw [upd_twice] at this; exact this
theorem RD.of {dl : List Deal} {gr : List Str} {dv gv : AV} {s t : St} {d : Deal} (h : ROut (RG gr gv) 61 2 (fDeals (dl ++ [d])) (dl.length + 1) s dv t) : RD (dl ++ [d]) gr dv gv s t := by
 unfold RD; rw [List.length_append]; exact h
theorem RD.grp {K : KK} {X : Prop} {dl : List Deal} {gr : List Str} {dv gv : AV} {s t : St} (h : RD dl gr dv gv s t) (g : Str)
   (happ : ∀ {s1 : St}, ROut Sup 9 1 (fStrs (gr ++ [g])) gr.length s1 gv t → (∀ gv' t', ROut Sup 9 1 (fStrs (gr ++ [g])) (gr.length + 1) s1 gv' t' → K gv' t') → X)
   (hk : ∀ gv' t', RD dl (gr ++ [g]) dv gv' s t' → (gv' = .emp ∨ ∃ b, gv' = .own 1 b 0 (gr ++ [g]).length) → K gv' t') : X := by
 obtain ⟨s1, hc, hg⟩ := h
 refine happ (s1 := s1) (hg.congr fun k hk => by simp only [fStrs]; rw [getD_app hk]) (fun gv' t' hg' => ?_)
 have hg2 : RG (gr ++ [g]) gv' s1 t' := by unfold RG; rw [List.length_append]; exact hg'
 exact hk gv' t' ⟨s1, hc, hg2⟩ (ROut.head hg2)
theorem PxR.mk' {bx : Nat} {items : List Ab.Item} {p : PSt} {dv gv : AV} {s t : St} {f : Nat → AV} (hbx : s bx = none) (hf : f 0 = .agg [arrOf 4 eItem items, eUnits p.us, dv, gv]) (h : RD p.deals p.groups dv gv (upd s bx ⟨109, 4, 1, f⟩) t) : PxR bx items p s t :=
 ⟨(dv, gv), hbx, _, ⟨f, rfl, hf⟩, h⟩
theorem PxR.fin {bx : Nat} {items : List Ab.Item} {us : List AUnit} {dl : List Deal} {gr : List Str} {dv gv : AV} {s t : St} {f : Nat → AV} (hbx : s bx = none) (h : RD dl gr dv gv (upd s bx ⟨109, 4, 1, f⟩) t) (f' : Nat → AV) (hf : f' 0 = .agg [arrOf 4 eItem items, eUnits us, dv, gv]) :
   PxR bx items ⟨us, dl, gr⟩ s (upd t bx ⟨109, 4, 1, f'⟩) := PxR.mk' hbx hf (RD.put h)
theorem note_S (bx : Nat) (items : List Ab.Item) (p : PSt) (pr : Promo) (off : Int) (hd : p.deals.length ≤ 1000) (hg : p.groups.length ≤ 1000) (s t : St) (h : PxR bx items p s t) :
   S P 104 [.optr 4 bx 0 0, ePromo pr, eI off] t fun v t' => v = .tuple [] ∧ PxR bx items (noteF p pr off) s t' := by
 obtain ⟨⟨dv, gv⟩, hbx, y, ⟨f, rfl, hf⟩, hRD⟩ := h
 simp only at hf hRD
 refine S_of_X [4] good mixed Tryz.func104 (by rfl) rfl rfl rfl ?_; conv => whnf
 refine ⟨[10, 13], [], [0, 1, 2, 3, 4, 5, 6, 7, 8, 9, 10, 11, 12, 13], by kernel_rfl, ?_⟩
 have hdv : dv = .emp ∨ ∃ b, dv = .own 2 b 0 p.deals.length := ROut.head hRD
 have hgv : gv = .emp ∨ ∃ b, gv = .own 1 b 0 p.groups.length := by obtain ⟨s0, hc, hgg⟩ := hRD; exact ROut.head hgg
 rcases hdv with rfl | ⟨bd, rfl⟩ <;> rcases hgv with rfl | ⟨bg, rfl⟩
 all_goals
   conv => whnf
   refine ldV hRD.at rfl (by omega) hf ?_; conv => whnf
   refine ⟨_, ⟨rfl, rfl⟩, ?_⟩; conv => whnf
   refine ROut.app (q := r61) (besideG _ _) rfl rfl rfl rfl rfl (f := fDeals (p.deals ++ [⟨pr.id, off⟩])) (by simp only [fDeals, getD_lst]; rfl) (by show (p.deals.length + 1) * 24 ≤ 140737488355328; omega) (hRD.congr fun k hk => by simp only [fDeals]; rw [getD_app hk]) (fun dv' t2 hRD2 => ?_)
   have hRD2' := RD.of hRD2
   rcases ROut.head hRD2' with rfl | ⟨bd', rfl⟩
   all_goals
     conv => whnf
     refine stV hRD2'.at rfl (by omega) hf (by rfl) ?_; conv => whnf
     have hnil : (ByteArray.toList pr.group == ByteArray.toList ⟨#[]⟩) = isNil pr.group := rfl
     rw [hnil]
     cases hgr : isNil pr.group
     · conv => whnf
       refine ⟨[8, 11], [], [0, 1, 2, 3, 4, 5, 6, 7, 8, 9, 10, 11], by kernel_rfl, ?_⟩; conv => whnf
       refine ldV (RD.put hRD2').at rfl (by omega) (by rw [fset_same]) ?_; conv => whnf
       refine ⟨_, ⟨rfl, rfl⟩, ?_⟩; conv => whnf
       refine RD.grp (RD.put hRD2') pr.group (fun happ => ROut.app (q := r9) besideSup rfl rfl rfl rfl rfl (by simp only [fStrs, getD_lst]; rfl) (by show (p.groups.length + 1) * 16 ≤ 140737488355328; omega) happ) (fun gv' t4 hRD4 hh => ?_)
       rcases hh with rfl | ⟨bg', rfl⟩
       all_goals
         conv => whnf
         refine stV hRD4.at rfl (by omega) (by rw [fset_same]) (by rfl) ?_; conv => whnf
         refine ⟨rfl, ?_⟩
         unfold noteF
         rw [hgr]
         exact PxR.fin hbx hRD4 _ (by rw [fset_same]; rfl)
     · conv => whnf
       refine ⟨rfl, ?_⟩
       unfold noteF
       rw [hgr]
       simp only [if_true, List.append_nil]
       exact PxR.fin hbx hRD2' _ (by rw [fset_same]; rfl)
end Go.Proofs.YtnekegdhpjplbaaGreat
namespace Go.Proofs.YtnekegdhpjplbaaGreat
open Go Go.Ab
theorem upB_iff {lo hi x : Int} : upB lo hi x = true ↔ lo ≤ x ∧ x ≤ hi := by
 unfold upB; simp only [Bool.and_eq_true, decide_eq_true_eq, ge_iff_le]
theorem allAt_iff {α : Type} [Inhabited α] {l : List α} {p : Nat → α → Bool} : allAt l p = true ↔ ∀ k, k < l.length → p k (l.getD k default) = true := by
 unfold allAt
 rw [List.all_eq_true]
 exact ⟨fun h k hk => h k (List.mem_range.2 hk), fun h k hk => h k (List.mem_range.1 hk)⟩
structure PromoOk (p : Promo) : Prop where
 kind : 1 ≤ p.kind ∧ p.kind < 8
 skus : p.scope.skus.length ≤ 20
 cats : p.scope.cats.length ≤ 20
 least : 0 ≤ p.least ∧ p.least ≤ 10000000000000
 buy : p.kind = 3 → BuyOk p
 bun : p.kind = 4 → BunOk p ∧ ∀ x ∈ p.parts, x.scope.skus.length ≤ 20 ∧ x.scope.cats.length ≤ 20
 ask : PromoFit p → p.kind = 1 ∨ p.kind = 2 ∨ p.kind = 5 ∨ p.kind = 6 → AskOk p
 ship : p.kind = 7 → 1 ≤ p.rate ∧ p.rate ≤ 10000
theorem tiersC_ok {l : List Tier} (h : tiersC l = true) : TiersOk l := by
 unfold tiersC at h
 simp only [Bool.and_eq_true, Bool.not_eq_true', Bool.or_eq_false_iff, decide_eq_false_iff_not] at h
 refine ⟨by omega, fun t ht => ?_⟩
 obtain ⟨k, hk, rfl⟩ := mem_getD ht
 have h2 := allAt_iff.1 h.2 k hk
 unfold tierAt at h2
 simp only [Bool.not_eq_true', Bool.or_eq_false_iff, decide_eq_false_iff_not] at h2
 omega
theorem promoOk {p : Promo} (h : promoC p = true) : PromoOk p := by
 have h0 := h
 unfold promoC at h
 simp only [Bool.and_eq_true, decide_eq_true_eq] at h
 obtain ⟨⟨⟨⟨hk1, hk2⟩, hh⟩, hp⟩, hkd⟩ := h
 have hl := pHead_len hh
 simp only [pHead, Bool.and_eq_true, upB_iff] at hh
 unfold pKind at hkd
 refine ⟨⟨hk1, hk2⟩, hl.1, hl.2, hh.2, fun e => ?_, fun e => ?_, fun hf e => ?_, fun e => ?_⟩
 · rw [e] at hkd
   simp [pBuyGet, pRate, upB_iff] at hkd
   exact ⟨hkd.2.1, hkd.2.2, ⟨by omega, hkd.1.2⟩⟩
 · rw [e] at hkd
   simp only [show ¬ (4 : Int) = 1 by decide, show ¬ (4 : Int) = 2 by decide, show ¬ (4 : Int) = 3 by decide, if_false, if_true] at hkd
   unfold pBundle at hkd
   simp only [Bool.and_eq_true, Bool.not_eq_true', Bool.or_eq_false_iff, decide_eq_false_iff_not, List.any_eq_false] at hkd
   obtain ⟨⟨⟨⟨a1, a2⟩, a3⟩, a4⟩, a5⟩ := hkd
   have hpt : ∀ x ∈ p.parts, partC x = true := fun x hx => by simpa using a5 x hx
   refine ⟨⟨by omega, by omega, fun x hx => ?_, by omega, by omega⟩, fun x hx => ?_⟩
   · have := hpt x hx
     unfold partC at this
     simp only [Bool.and_eq_true, Bool.not_eq_true', Bool.or_eq_false_iff, decide_eq_false_iff_not] at this
     omega
   · have := hpt x hx
     unfold partC at this
     simp only [Bool.and_eq_true] at this
     exact scopeB_len this.1
 · refine ⟨hf, h0, e, fun e2 => ?_, fun e2 => ?_⟩
   · rcases e2 with e2 | e2 <;> rw [e2] at hkd <;> simp at hkd <;> exact tiersC_ok hkd
   · rw [e2] at hkd
     simp [pAmount, upB_iff] at hkd
     omega
 · rw [e] at hkd
   simp [pRate, upB_iff] at hkd
   exact hkd
theorem offs_le {p : Promo} (hp : AskOk p) {nets : List Int} (h0 : ∀ x ∈ nets, 0 ≤ x) (hs : sumI nets ≤ 10000000000000) (hl : nets.length ≤ 100000) : ∀ k, k < (offsOf p nets).length → gI (offsOf p nets) k ≤ gI nets k := fun k hk => by
 have hn := sumI_nonneg h0
 have hlen := (offs_bound hp h0 hs hl).2.1
 have hx : 0 ≤ gI nets k := h0 _ (getD_mem (by omega))
 have hkn : k < nets.length := by omega
 unfold offsOf at hk ⊢
 have hmap : ∀ (r a : Int), 0 ≤ a → gI (nets.map fun x => offC x r a) k ≤ gI nets k := fun r a ha => by
   rw [show gI (nets.map fun x => offC x r a) k = offC (gI nets k) r a from getD_map (fun x => offC x r a) nets hkn]
   exact (offC_bound hx ha).2
 rcases hp.kind with e | e | e | e
 · rw [if_pos e] at hk ⊢; exact hmap _ _ (Int.le_refl _)
 · rw [if_neg (by omega), if_pos e] at hk ⊢; exact hmap _ _ (hp.amount e).1
 · rw [if_neg (by omega), if_neg (by omega), if_pos e] at hk ⊢
   have hok := reached_ok (hp.tiers (.inl e)) (sumI nets)
   unfold offsS at hk ⊢
   split at hk
   · simp at hk
   · rename_i t hr
     rw [hr] at hok
     have hob : 0 ≤ offC (sumI nets) t.rate t.amount ∧ offC (sumI nets) t.rate t.amount ≤ sumI nets := offC_bound hn hok.1
     have hW : Weights (offC (sumI nets) t.rate t.amount) nets := ⟨hob.1, by omega, hl, h0, by omega, fun e => by omega⟩
     have hll := (largest_sum hW).2.1
     exact largest_le hW hob.2 (by omega)
 · rw [if_neg (by omega), if_neg (by omega), if_neg (by omega)] at hk ⊢
   have hok := reached_ok (hp.tiers (.inr e)) nets.length
   unfold offsC at hk ⊢
   split at hk
   · simp at hk
   · rename_i t hr
     rw [hr] at hok
     exact hmap _ _ hok.1
theorem netsAt_weigh (us : List AUnit) (mine : List Int) : netsAt us mine = weighF us mine := rfl
theorem applyB_off {p : Promo} (hp : AskOk p) {us : List AUnit} (hu : UnitsOk us) {mine : List Int} (hm : MineOk us mine) : Off us (applyB p us mine).1 (applyB p us mine).2 := by
 have hnl : (netsAt us mine).length = mine.length := List.length_map ..
 have hml := hm.len
 have hul := hu.len
 have hn0 : ∀ x ∈ netsAt us mine, 0 ≤ x := fun x hx => by
   obtain ⟨i, hi, rfl⟩ := List.mem_map.1 hx
   exact hu.at0 _
 have hwl := weigh_le hu hm.places
 have hus := hu.sum
 have hns : sumI (netsAt us mine) ≤ 10000000000000 := by rw [netsAt_weigh]; omega
 obtain ⟨ob1, ob2, ob3⟩ := offs_bound hp hn0 hns (by omega)
 have hle := offs_le hp hn0 hns (by omega)
 have h1 := takeOff_off hu hm.places (offs := offsOf p (netsAt us mine)) (by omega) (fun k hk => ⟨ob3 _ (getD_mem hk), by
   have := hle k hk
   rw [show gI (netsAt us mine) k = (gU us (gI mine k).toNat).net from getD_map (fun i : Int => (gU us i.toNat).net) mine (by omega)] at this
   exact this⟩) (offsOf p (netsAt us mine)).length (Nat.le_refl _)
 rw [List.take_length] at h1
 unfold applyB
 simp only
 split
 · have h2 := Off.closeB (h1.ok hu) mine (fun x hx => by
     obtain ⟨k, hk, rfl⟩ := mem_getD hx
     rw [h1.len]; exact (hm.rng k hk).2)
   have h3 := h1.trans h2
   rw [Int.add_zero] at h3; exact h3
 · exact h1
end Go.Proofs.YtnekegdhpjplbaaGreat
namespace Go.Proofs.YtnekegdhpjplbaaGreat
open Go Go.Ab
attribute [local irreducible] upd del
theorem PxR.more {bx : Nat} {items : List Ab.Item} {p : PSt} {s t t' : St} (h : PxR bx items p s t) (hs : Sup t t') : PxR bx items p s t' := by
 obtain ⟨v, h1, y, h2, s1, h3, s2, h4, h5⟩ := h
 exact ⟨v, h1, y, h2, s1, h3, s2, h4, h5.trans hs⟩
structure UsOk (items : List Ab.Item) (us : List AUnit) : Prop where
 ok : UnitsOk us
 few : items.length ≤ 100000
 line : ∀ u ∈ us, 0 ≤ u.line ∧ u.line.toNat < items.length
theorem UsOk.off {items : List Ab.Item} {us us' : List AUnit} {x : Int} (h : UsOk items us) (ho : Off us us' x) : UsOk items us' :=
 ⟨ho.ok h.ok, h.few, fun u hu => by
   obtain ⟨k, hk, rfl⟩ := mem_getD hu
   have h1 := ho.line k
   have h2 := h.line (gU us k) (getD_mem (by rw [← ho.len]; exact hk))
   show 0 ≤ (gU us' k).line ∧ (gU us' k).line.toNat < items.length
   rw [h1]; exact h2⟩
def singleB (items : List Ab.Item) (us : List AUnit) (pr : Promo) : List AUnit × Int :=
 if netF us (mineB pr.scope items us us.length) < pr.least then ([], 0)
 else if pr.kind = 3 then buyGetB pr us (mineB pr.scope items us us.length) else applyB pr us (mineB pr.scope items us us.length)
theorem call1s {P : Program} {f : FuncId} {args : List AV} {st st1 : St} {v : AV} {K : KK} (h : S P f args st fun v' st' => v' = v ∧ st' = st1) (hK : K v st1) : xCall P f args st K := call h fun v' st' ⟨e1, e2⟩ => by rw [e1, e2]; exact hK
theorem single_S (bx : Nat) (items : List Ab.Item) (p : PSt) (pr : Promo) (hfit : PromoFit pr) (hright : promoC pr = true) (hk : pr.kind ≠ 4 ∧ pr.kind ≠ 7) (hu : UsOk items p.us) (s t : St) (h : PxR bx items p s t) :
   S P 102 [.optr 4 bx 0 0, ePromo pr] t fun v t' => v = .tuple [eUnits (singleB items p.us pr).1, eI (singleB items p.us pr).2] ∧ t' = t := by
 have hok := promoOk hright
 have hm := mineB_ok pr.scope items p.us
 have hml := hm.len
 have hul := hu.ok.len
 refine S.post (post := fun v t' => (v = .tuple [eUnits (singleB items p.us pr).1, eI (singleB items p.us pr).2] ∨ (singleB items p.us pr = ([], 0) ∧ v = .tuple [.emp, eI 0])) ∧ t' = t) ?_ (fun v t' ⟨hv, ht⟩ => by
   subst ht
   rcases hv with rfl | ⟨h1, rfl⟩
   · exact ⟨_, _, ⟨rfl, rfl⟩, Shift.refl _ _⟩
   · exact ⟨_, _, ⟨rfl, rfl⟩, by rw [h1]; exact Shift.tuple (Shift.cons (shift_emp 3 _) (Shift.keep _ _)) rfl⟩)
 obtain ⟨dv, gv, fx, hx, hx0, hdv, hgv⟩ := h.at
 refine S_of_X [3] good mixed Tryz.func102 (by rfl) rfl rfl rfl ?_; conv => whnf
 refine call1 (mine_S bx items p pr.scope hok.skus hok.cats hul hu.few hu.line s t h) ?_; conv => whnf
 refine ⟨[], [], [0, 1, 2, 3, 4, 5], by kernel_rfl, ?_⟩; conv => whnf
 refine ⟨_, callQ (net_S bx items p hu.ok _ (by omega) hm.rng s t h), ?_⟩
 have hS : singleB items p.us pr = if netF p.us (mineB pr.scope items p.us p.us.length) < pr.least then ([], 0) else if pr.kind = 3 then buyGetB pr p.us (mineB pr.scope items p.us p.us.length) else applyB pr p.us (mineB pr.scope items p.us p.us.length) := rfl
 conv => whnf
 refine fork (fun h1 => ?_) (fun h1 => ?_) <;> rw [h1] <;> simp only [decide_eq_true_eq, decide_eq_false_iff_not] at h1
 · rw [if_pos h1] at hS; conv => whnf
   exact ⟨.inr ⟨hS, rfl⟩, rfl⟩
 rw [if_neg h1] at hS; conv => whnf
 refine fork (fun h2 => ?_) (fun h2 => ?_) <;> rw [h2] <;> simp only [beq_iff_eq, beq_eq_false_iff_ne] at h2
 · rw [if_pos h2] at hS; conv => whnf
   refine ⟨[], [], [0, 1, 2, 3, 4, 5, 6, 7, 8, 9, 10], by kernel_rfl, ?_⟩; conv => whnf
   refine ldV hx rfl (by omega) hx0 ?_; conv => whnf
   refine ⟨_, callQ (buyGet_S pr p.us _ hfit hright h2 (hok.buy h2) hu.ok hm t), ?_⟩; conv => whnf
   exact ⟨.inl (by rw [hS]; rfl), rfl⟩
 · rw [if_neg h2] at hS
   have hask : AskOk pr := hok.ask hfit (by have := hok.kind; have := hk.1; have := hk.2; omega)
   conv => whnf
   refine ⟨[], [], [0, 1, 2, 3, 4, 5, 6, 7, 8, 9, 10], by kernel_rfl, ?_⟩; conv => whnf
   refine ldV hx rfl (by omega) hx0 ?_; conv => whnf
   refine ⟨_, callQ (apply_S pr p.us _ hask hu.ok hm t), ?_⟩; conv => whnf
   exact ⟨.inl (by rw [hS]; rfl), rfl⟩
theorem gI_right (a b : List Int) (j : Nat) : gI (a ++ b) (a.length + j) = gI b j := by
 unfold gI
 rw [List.getD_eq_getElem?_getD, List.getD_eq_getElem?_getD, List.getElem?_append_right (by omega), Nat.add_sub_cancel_left]
theorem netE_S (bx : Nat) (t : St) : S P 165 [.optr 4 bx 0 0, .emp] t fun v t' => v = eI 0 ∧ t' = t := by
 refine S_of_X [] good mixed Tryz.func165 (by rfl) rfl rfl rfl ?_; conv => whnf
 refine once [0, 5, 8, 9, 10] ?_; conv => whnf
 intro I; conv => whnf
 exact ⟨rfl, rfl⟩
def partsM (items : List Ab.Item) (us : List AUnit) (pr : Promo) : List (List Int) := pr.parts.map fun x => mineB x.scope items us us.length
def allM (items : List Ab.Item) (us : List AUnit) (pr : Promo) (i : Nat) : List Int := ((partsM items us pr).take i).flatten
def bundleP (items : List Ab.Item) (us : List AUnit) (pr : Promo) : List AUnit × Int :=
 if netF us (compI (sortI (allM items us pr pr.parts.length))) < pr.least then ([], 0) else bundleB pr us (partsM items us pr)
theorem allM_succ (items : List Ab.Item) (us : List AUnit) (pr : Promo) {i : Nat} (hi : i < pr.parts.length) : allM items us pr (i + 1) = allM items us pr i ++ mineB (pr.parts.getD i default).scope items us us.length := by
 unfold allM
 have hl : (partsM items us pr).length = pr.parts.length := List.length_map ..
 rw [take_next (by omega), List.flatten_append]
 congr 1
 have : (partsM items us pr).getD i default = mineB (pr.parts.getD i default).scope items us us.length := getD_map (fun x : Part => mineB x.scope items us us.length) pr.parts hi
 rw [this]; simp
theorem allM_len (items : List Ab.Item) (us : List AUnit) (pr : Promo) : ∀ i, i ≤ pr.parts.length → (allM items us pr i).length ≤ i * us.length
 | 0, _ => by simp [allM]
 | i + 1, h => by
   have ih := allM_len items us pr i (by omega)
   rw [allM_succ items us pr (by omega), List.length_append]
   have := mineB_len (pr.parts.getD i default).scope items us us.length
   have e : (i + 1) * us.length = i * us.length + us.length := Nat.succ_mul i us.length
   omega
theorem compI_mem {l : List Int} {x : Int} (h : x ∈ compI l) : x ∈ l := by
 unfold compI Go.Lib.compactUpTo at h
 obtain ⟨k, hk, rfl⟩ := List.mem_map.1 h
 have hk2 : k < l.length := List.mem_range.1 (List.mem_filter.1 hk).1
 have : l.toArray[k]! = l[k] := by rw [getElem!_pos _ k (by simpa using hk2)]; simp
 rw [this]; exact List.getElem_mem hk2
theorem allM_mem {items : List Ab.Item} {us : List AUnit} {pr : Promo} {i : Nat} {x : Int} (h : x ∈ allM items us pr i) : 0 ≤ x ∧ x.toNat < us.length := by
 unfold allM at h
 obtain ⟨l, hl, hx⟩ := List.mem_flatten.1 h
 obtain ⟨q, hq, rfl⟩ := List.mem_map.1 (List.take_subset _ _ hl)
 obtain ⟨k, hk, rfl⟩ := mem_getD hx
 exact (mineB_ok q.scope items us).rng k hk
theorem pbundle_S (bx : Nat) (items : List Ab.Item) (p : PSt) (pr : Promo) (hfit : PromoFit pr) (hright : promoC pr = true) (hk : pr.kind = 4) (hu : UsOk items p.us) (s t : St) (h : PxR bx items p s t) :
   S P 103 [.optr 4 bx 0 0, ePromo pr] t fun v t' => v = .tuple [eUnits (bundleP items p.us pr).1, eI (bundleP items p.us pr).2] ∧ t' = t := by
 have hok := promoOk hright
 obtain ⟨hbun, hsc⟩ := hok.bun hk
 have hn8 := hbun.n8
 have hul := hu.ok.len
 have hpl : (partsM items p.us pr).length = pr.parts.length := List.length_map ..
 have hpm : ∀ x ∈ partsM items p.us pr, MineOk p.us x := fun x hx => by
   obtain ⟨q, hq, rfl⟩ := List.mem_map.1 hx
   exact mineB_ok _ _ _
 refine S.post (post := fun v t' => (v = .tuple [eUnits (bundleP items p.us pr).1, eI (bundleP items p.us pr).2] ∨ (bundleP items p.us pr = ([], 0) ∧ v = .tuple [.emp, eI 0])) ∧ Sup t t') ?_ (fun v t' ⟨hv, ht⟩ => by
   rcases hv with rfl | ⟨h1, rfl⟩
   · exact ⟨_, _, ⟨rfl, rfl⟩, ht.shift _⟩
   · exact ⟨_, _, ⟨rfl, rfl⟩, by rw [h1]; exact (ht.shift _).trans (Shift.tuple (Shift.cons (shift_emp 3 _) (Shift.keep _ _)) rfl)⟩)
 have hBi := fun (n : Nat) (sv : AV) (fo : Nat → AV) => besideOut besideSup 3 1 fo n sv
 refine S_of_X [3, 9] good mixed Tryz.func103 (by rfl) rfl rfl rfl ?_; conv => whnf
 refine ⟨[0, 3, 6, 7, 12, 13, 14], fun m vs t' => ∃ (i : Nat) (sv1 sv2 : AV), i ≤ pr.parts.length ∧ m = pr.parts.length - i ∧ vs = [.optr 4 bx 0 0, .fptr (ePromo pr) 0, sv1, sv2, arrOf 3 ePart pr.parts, eI pr.parts.length, eI i] ∧
   ROut (fun s t' => ROut Sup 3 1 (fun k => eI (gI (allM items p.us pr i) k)) (allM items p.us pr i).length s sv2 t') 29 1 (fun k => eInts ((partsM items p.us pr).getD k default)) i t sv1 t', ?_, ?_⟩
 · conv => whnf
   exact ⟨_, 0, .emp, .emp, Nat.zero_le _, rfl, rfl, ROut.start (ROut.start (Sup.refl _) _ _ _) _ _ _⟩
 · rintro m vs t' ⟨i, sv1, sv2, hi, rfl, rfl, hout⟩
   have hal := allM_len items p.us pr i hi
   have hal2 : i * p.us.length ≤ 8 * 100000 := Nat.mul_le_mul (by omega) hul
   have hsup : Sup t t' := hout.sup (hBi _ _ _)
   conv => whnf
   cases hd : decide ((i : Int) < (pr.parts.length : Int))
   · have := of_decide_eq_false hd
     obtain rfl : i = pr.parts.length := by omega
     obtain ⟨s1, hc1, hout2⟩ := hout
     generalize hA : allM items p.us pr pr.parts.length = A at *
     have hAm : ∀ x ∈ A, 0 ≤ x ∧ x.toNat < p.us.length := fun x hx => allM_mem (by rw [hA]; exact hx)
     have hSl : (sortI A).length = A.length := sortI_len A
     have hCl := compI_len (sortI A)
     have hCm : ∀ k, k < (compI (sortI A)).length → 0 ≤ gI (compI (sortI A)) k ∧ (gI (compI (sortI A)) k).toNat < p.us.length := fun k hk => hAm _ (sortI_mem.1 (compI_mem (getD_mem hk)))
     conv => whnf
     refine call (sortOut_S besideSup (by omega) hout2) (fun v t2 hv => ?_)
     obtain ⟨rfl, hout3⟩ := hv
     have hsup2 : Sup s1 t2 := hout3.sup besideSup
     have hB : bundleP items p.us pr = if netF p.us (compI (sortI A)) < pr.least then ([], 0) else bundleB pr p.us (partsM items p.us pr) := by unfold bundleP; rw [hA]
     -- what is behind the two, with the store as it is then
     have fin : ∀ t3, Sup s1 t3 → ∀ K : KK, (∀ v, v = .tuple [eUnits (bundleB pr p.us (partsM items p.us pr)).1, eI (bundleB pr p.us (partsM items p.us pr)).2] → K v t) → xCall P 169 [ePromo pr, eUnits p.us, sv1] t3 K := fun t3 h3 K hK => by
       have hsh : Shift [ePromo pr, eUnits p.us, sv1] t3 [ePromo pr, eUnits p.us, arrOf 1 eInts (partsM items p.us pr)] t := by
         refine Shift.cons (Shift.keep _ _) (Shift.cons (Shift.keep _ _) ?_)
         have e : arrOf 1 eInts (partsM items p.us pr) = .arr 1 pr.parts.length (fun k => eInts ((partsM items p.us pr).getD k default)) := by unfold arrOf; rw [hpl]
         rw [e]
         exact (h3.shift _).trans hc1.shift
       refine call_shift hsh (call (bundle_S pr p.us (partsM items p.us pr) hfit hright hk hbun hu.ok hpl hpm t) (fun v t4 hv => ?_))
       rw [hv.2]; exact hK v hv.1
     have hpx : ∀ t3, Sup s1 t3 → PxR bx items p s t3 := fun t3 h3 => h.more (hc1.sup.trans h3)
     conv => whnf
     refine ⟨[2, 5], [], [], .qui 0 (.qui 1 (.qui 4 (.two 2 5 (.qui 5 (.qui 3 (.qui 6 .done))) (.gen 2 (.qui 3 (.qui 6 .done)))))), by kernel_rfl, ?_⟩
     obtain ⟨s2, hc2, hs2⟩ := hout3
     rcases hc2 with ⟨h0, rfl, rfl⟩ | ⟨h0, b2, g2, hb2, rfl, rfl, hg2⟩
     · have hA0 : A = [] := List.eq_nil_of_length_eq_zero h0
       have hnet : netF p.us (compI (sortI A)) = 0 := by
         have : compI (sortI A) = [] := List.eq_nil_of_length_eq_zero (by omega)
         rw [this]; rfl
       rw [hnet] at hB; conv => whnf
       constructor
       all_goals conv => whnf
       all_goals refine call1 (compact0_S _) ?_
       all_goals conv => whnf
       all_goals refine ⟨_, callQ (netE_S bx _), ?_⟩
       all_goals conv => whnf
       all_goals refine fork (fun h1 => ?_) (fun h1 => ?_) <;> rw [h1] <;> simp only [decide_eq_true_eq, decide_eq_false_iff_not] at h1
       all_goals first
         | (rw [if_pos h1] at hB
            conv => whnf
            exact ⟨.inr ⟨hB, rfl⟩, hc1.sup.trans hs2⟩)
         | (rw [if_neg h1] at hB
            obtain ⟨dv, gv, fx, hx, hx0, _, _⟩ := (hpx _ hs2).at
            conv => whnf
            refine ⟨[6], [], [0, 1, 2, 3, 4, 5, 6, 7, 8, 9, 10], by kernel_rfl, ?_⟩; conv => whnf
            refine ldV hx rfl (by omega) hx0 ?_; conv => whnf
            refine fin _ hs2 _ (fun v hv => ?_)
            subst hv; conv => whnf
            exact ⟨.inl (by rw [hB]; rfl), Sup.refl _⟩)
     · have hb2t := hs2 b2 _ (upd_same ..)
       have hC := compact_S b2 (sortI A) (by omega) t2 ⟨g2, by rw [hb2t, hSl], fun k hk => hg2 k (by omega)⟩
       rw [hSl] at hC
       have hs3 : ∀ y, Sup s1 (upd t2 b2 y) := fun y => hsup2.over hb2
       have hN := fun t3 (h3 : Sup s1 t3) (e3 : t3 = upd t2 b2 (rowBlk (compZ (sortI A)))) => netO_S bx items p hu.ok (compI (sortI A)) (by omega) hCm s t3 (hpx t3 h3) b2 (compZ (sortI A)).length (fun k => eI (gI (compZ (sortI A)) k)) (by rw [compZ_len]; omega) (by rw [e3, upd_same]; rfl) (fun k hk => by rw [gI_comp hk])
       conv => whnf
       constructor
       all_goals conv => whnf
       all_goals refine call1s hC ?_
       all_goals conv => whnf
       all_goals refine ⟨_, callQ (hN _ (hs3 _) rfl), ?_⟩
       all_goals conv => whnf
       all_goals refine fork (fun h1 => ?_) (fun h1 => ?_) <;> rw [h1] <;> simp only [decide_eq_true_eq, decide_eq_false_iff_not] at h1
       all_goals first
         | (rw [if_pos h1] at hB
            conv => whnf
            exact ⟨.inr ⟨hB, rfl⟩, hc1.sup.trans (hs3 _)⟩)
         | (rw [if_neg h1] at hB
            obtain ⟨dv, gv, fx, hx, hx0, _, _⟩ := (hpx _ (hs3 (rowBlk (compZ (sortI A))))).at
            conv => whnf
            refine ⟨[6], [], [0, 1, 2, 3, 4, 5, 6, 7, 8, 9, 10], by kernel_rfl, ?_⟩; conv => whnf
            refine ldV hx rfl (by omega) hx0 ?_; conv => whnf
            refine fin _ (hs3 _) _ (fun v hv => ?_)
            subst hv; conv => whnf
            exact ⟨.inl (by rw [hB]; rfl), Sup.refl _⟩)
   · have hi' : i < pr.parts.length := by have := of_decide_eq_true hd; omega
     have hq := hsc (pr.parts.getD i default) (getD_mem hi')
     have hpk : (partsM items p.us pr).getD i default = mineB (pr.parts.getD i default).scope items p.us p.us.length := getD_map (fun x : Part => mineB x.scope items p.us p.us.length) pr.parts hi'
     have hls := allM_succ items p.us pr hi'
     have hml := mineB_len (pr.parts.getD i default).scope items p.us p.us.length
     conv => whnf
     refine ⟨rfl, ⟨by omega, by omega⟩, ?_⟩; conv => whnf
     refine call1 (mine_S bx items p (pr.parts.getD i default).scope hq.1 hq.2 hul hu.few hu.line s t' (h.more hsup)) ?_; conv => whnf
     refine ROut.app (q := r29) (hBi _ _ _) rfl rfl rfl rfl rfl (by simp only [hpk]; rfl) (by show (i + 1) * 24 ≤ 140737488355328; omega) hout (fun sv1' t2 hout2 => ?_); conv => whnf
     obtain ⟨s1, hc1, hin⟩ := hout2
     refine ROut.apps (q := r3) (n := (allM items p.us pr i).length) (m := (mineB (pr.parts.getD i default).scope items p.us p.us.length).length) besideSup rfl rfl rfl rfl (srcInts rfl _) (f := fun k => eI (gI (allM items p.us pr (i + 1)) k)) (fun j hj => ?_) (by show ((allM items p.us pr i).length + (mineB (pr.parts.getD i default).scope items p.us p.us.length).length) * 8 ≤ 140737488355328; omega) (hin.congr fun k hk => by rw [hls, gI_append hk]) (fun sv2' t3 hout3 => ?_)
     · rw [hls]
       show eI (gI (mineB (pr.parts.getD i default).scope items p.us p.us.length) j) = eI (gI _ _)
       rw [gI_right]
     conv => whnf
     refine ⟨rfl, ?_⟩; conv => whnf
     refine ⟨pr.parts.length - (i + 1), by omega, i + 1, sv1', sv2', by omega, rfl, by rw [wrapN (by omega)], s1, hc1, ?_⟩
     rw [hls, List.length_append, ← hls]; exact hout3
def wayB (items : List Ab.Item) (us : List AUnit) (pr : Promo) : List AUnit × Int := if pr.kind = 4 then bundleP items us pr else singleB items us pr
def askB (items : List Ab.Item) (p : PSt) (pr : Promo) : PSt :=
 if (wayB items p.us pr).2 > 0 then noteF ⟨(wayB items p.us pr).1, p.deals, p.groups⟩ pr (wayB items p.us pr).2 else p
theorem way_off {items : List Ab.Item} {us : List AUnit} (hu : UsOk items us) {pr : Promo} (hfit : PromoFit pr) (hright : promoC pr = true) (hk : pr.kind ≠ 7) : wayB items us pr = ([], 0) ∨ Off us (wayB items us pr).1 (wayB items us pr).2 := by
 have hok := promoOk hright
 unfold wayB
 split
 · rename_i h4
   unfold bundleP
   split
   · exact .inl rfl
   · right
     have hpl : (partsM items us pr).length = pr.parts.length := List.length_map ..
     exact bundleB_off (hok.bun h4).1 hu.ok hpl fun k hk => by
       have hm := getD_mem (l := partsM items us pr) hk
       obtain ⟨q, hq, he⟩ := List.mem_map.1 hm
       rw [show (partsM items us pr).getD k [] = (partsM items us pr).getD k default from rfl, ← he]
       exact mineB_ok _ _ _
 · rename_i h4
   unfold singleB
   split
   · exact .inl rfl
   · right
     split
     · rename_i h3
       exact buyGetB_off (hok.buy h3) hu.ok (mineB_ok _ _ _)
     · rename_i h3
       exact applyB_off (hok.ask hfit (by have := hok.kind; omega)) hu.ok (mineB_ok _ _ _)
theorem askB_off {items : List Ab.Item} {p : PSt} (hu : UsOk items p.us) {pr : Promo} (hfit : PromoFit pr) (hright : promoC pr = true) (hk : pr.kind ≠ 7) : ∃ x, Off p.us (askB items p pr).us x := by
 unfold askB
 split
 · rename_i h0
   rcases way_off hu hfit hright hk with e | e
   · rw [e] at h0; exact absurd h0 (by decide)
   · exact ⟨_, e⟩
 · exact ⟨0, Off.refl hu.ok⟩
theorem ask_S (bx : Nat) (items : List Ab.Item) (p : PSt) (pr : Promo) (hfit : PromoFit pr) (hright : promoC pr = true) (hk : pr.kind ≠ 7) (hu : UsOk items p.us) (hd : p.deals.length ≤ 1000) (hg : p.groups.length ≤ 1000) (s t : St) (h : PxR bx items p s t) :
   S P 60 [.optr 4 bx 0 0, ePromo pr] t fun v t' => v = .tuple [] ∧ PxR bx items (askB items p pr) s t' := by
 have key : ∀ K : KK, (∀ v, v = .tuple [eUnits (wayB items p.us pr).1, eI (wayB items p.us pr).2] → K v t) → xCall P (if pr.kind = 4 then 103 else 102) [.optr 4 bx 0 0, ePromo pr] t K := fun K hK => by
   unfold wayB at hK
   split
   · rename_i h4
     rw [if_pos h4] at hK
     exact call (pbundle_S bx items p pr hfit hright h4 hu s t h) (fun v t' hv => by rw [hv.2]; exact hK v hv.1)
   · rename_i h4
     rw [if_neg h4] at hK
     exact call (single_S bx items p pr hfit hright ⟨h4, hk⟩ hu s t h) (fun v t' hv => by rw [hv.2]; exact hK v hv.1)
 obtain ⟨⟨dv, gv⟩, hbx, y, ⟨f, rfl, hf⟩, hRD⟩ := h
 simp only at hf hRD
 have hA : askB items p pr = if (wayB items p.us pr).2 > 0 then noteF ⟨(wayB items p.us pr).1, p.deals, p.groups⟩ pr (wayB items p.us pr).2 else p := rfl
 have h0 : PxR bx items p s t := ⟨(dv, gv), hbx, _, ⟨f, rfl, hf⟩, hRD⟩
 refine S_of_X [3] good mixed Tryz.func60 (by rfl) rfl rfl rfl ?_; conv => whnf
 refine fork (fun h4 => ?_) (fun h4 => ?_) <;> rw [h4] <;> simp only [beq_iff_eq, beq_eq_false_iff_ne] at h4
 · rw [if_pos h4] at key; conv => whnf
   refine key _ (fun v hv => ?_)
   subst hv; conv => whnf
   refine fork (fun h5 => ?_) (fun h5 => ?_) <;> rw [h5] <;> simp only [decide_eq_true_eq, decide_eq_false_iff_not] at h5
   · rw [if_pos h5] at hA
     rw [hA]; conv => whnf
     refine stV hRD.at rfl (by omega) hf (by rfl) ?_; conv => whnf
     refine call (note_S bx items ⟨(wayB items p.us pr).1, p.deals, p.groups⟩ pr _ hd hg s _ (PxR.fin hbx hRD _ (by rw [fset_same]; rfl))) (fun v t' hv => ?_)
     obtain ⟨rfl, h6⟩ := hv
     conv => whnf
     exact ⟨rfl, h6⟩
   · rw [if_neg h5] at hA
     rw [hA]; conv => whnf
     exact ⟨rfl, h0⟩
 · rw [if_neg h4] at key; conv => whnf
   refine key _ (fun v hv => ?_)
   subst hv; conv => whnf
   refine fork (fun h5 => ?_) (fun h5 => ?_) <;> rw [h5] <;> simp only [decide_eq_true_eq, decide_eq_false_iff_not] at h5
   · rw [if_pos h5] at hA
     rw [hA]; conv => whnf
     refine stV hRD.at rfl (by omega) hf (by rfl) ?_; conv => whnf
     refine call (note_S bx items ⟨(wayB items p.us pr).1, p.deals, p.groups⟩ pr _ hd hg s _ (PxR.fin hbx hRD _ (by rw [fset_same]; rfl))) (fun v t' hv => ?_)
     obtain ⟨rfl, h6⟩ := hv
     conv => whnf
     exact ⟨rfl, h6⟩
   · rw [if_neg h5] at hA
     rw [hA]; conv => whnf
     exact ⟨rfl, h0⟩
def shipB (p : PSt) (pr : Promo) (net ship : Int) : Int × PSt :=
 if net < pr.least then (ship, p) else (ship - half ship pr.rate, if half ship pr.rate > 0 then noteF p pr (half ship pr.rate) else p)
theorem shipping_S (bx : Nat) (items : List Ab.Item) (p : PSt) (pr : Promo) (net ship : Int) (h0 : 0 ≤ ship) (h1 : ship ≤ 10000000000000) (hd : p.deals.length ≤ 1000) (hg : p.groups.length ≤ 1000) (s t : St) (h : PxR bx items p s t) :
   S P 63 [.optr 4 bx 0 0, ePromo pr, eI net, eI ship] t fun v t' => v = eI (shipB p pr net ship).1 ∧ PxR bx items (shipB p pr net ship).2 s t' := by
 have hS : shipB p pr net ship = if net < pr.least then (ship, p) else (ship - half ship pr.rate, if half ship pr.rate > 0 then noteF p pr (half ship pr.rate) else p) := rfl
 have hb := half_bound ship pr.rate
 have w : IntKind.i64.wrap (ship - half ship pr.rate) = ship - half ship pr.rate := wrap64_of (by omega) (by omega)
 refine S_of_X [5] good mixed Tryz.func63 (by rfl) rfl rfl rfl ?_; conv => whnf
 refine fork (fun h2 => ?_) (fun h2 => ?_) <;> rw [h2] <;> simp only [decide_eq_true_eq, decide_eq_false_iff_not] at h2
 · rw [if_pos h2] at hS
   rw [hS]; conv => whnf
   exact ⟨rfl, h⟩
 rw [if_neg h2] at hS
 rw [hS]; conv => whnf
 refine call1 (rate_S ship pr.rate 1 t) ?_; conv => whnf
 refine fork (fun h3 => ?_) (fun h3 => ?_) <;> rw [h3] <;> simp only [decide_eq_true_eq, decide_eq_false_iff_not] at h3
 · conv => whnf
   refine call (note_S bx items p pr _ hd hg s t h) (fun v t' hv => ?_)
   obtain ⟨rfl, h4⟩ := hv
   conv => whnf
   have h3' : half ship pr.rate > 0 := h3
   rw [if_pos h3']
   refine ⟨?_, h4⟩
   show AV.int .i64 (IntKind.i64.wrap (ship - half ship pr.rate)) = _
   rw [w]
 · conv => whnf
   have h3' : ¬ half ship pr.rate > 0 := h3
   rw [if_neg h3']
   refine ⟨?_, h⟩
   show AV.int .i64 (IntKind.i64.wrap (ship - half ship pr.rate)) = _
   rw [w]
def feeB (s : Ab.Ship) (units net : Int) : Int := if units = 0 ∨ (s.free > 0 ∧ net ≥ s.free) then 0 else s.fee
theorem fee_S (s : Ab.Ship) (units net : Int) (t : St) : S P 61 [eShip s, eI units, eI net] t fun v t' => v = eI (feeB s units net) ∧ t' = t := by
 refine S_of_X [3] good mixed Tryz.func61 (by rfl) rfl rfl rfl ?_; conv => whnf
 refine fork (fun h1 => ?_) (fun h1 => ?_) <;> rw [h1] <;> simp only [beq_iff_eq, beq_eq_false_iff_ne] at h1
 · conv => whnf
   exact ⟨by unfold feeB; rw [if_pos (.inl h1)]; rfl, rfl⟩
 conv => whnf
 refine fork (fun h2 => ?_) (fun h2 => ?_) <;> rw [h2] <;> simp only [decide_eq_true_eq, decide_eq_false_iff_not] at h2
 · conv => whnf
   refine fork (fun h3 => ?_) (fun h3 => ?_) <;> rw [h3] <;> simp only [decide_eq_true_eq, decide_eq_false_iff_not] at h3
   · conv => whnf
     exact ⟨by unfold feeB; rw [if_pos (.inr ⟨h2, h3⟩)]; rfl, rfl⟩
   · conv => whnf
     exact ⟨by unfold feeB; rw [if_neg (by rintro (e | ⟨_, e⟩) <;> contradiction)]; rfl, rfl⟩
 · conv => whnf
   exact ⟨by unfold feeB; rw [if_neg (by rintro (e | ⟨e, _⟩) <;> contradiction)]; rfl, rfl⟩
theorem isShip_S (pr : Promo) (t : St) : S P 57 [ePromo pr] t fun v t' => v = .bool (pr.kind == 7) ∧ t' = t := by
 refine S_of_X [1] good mixed Tryz.func57 (by rfl) rfl rfl rfl ?_; conv => whnf
 exact ⟨rfl, rfl⟩
theorem noShip_S (pr : Promo) (t : St) : S P 59 [ePromo pr, .fptr (.fn (.func 57) [] []) 0] t fun v t' => v = .bool (!(pr.kind == 7)) ∧ t' = t := by
 refine S_of_X [2] good mixed Tryz.func59 (by rfl) rfl rfl rfl ?_; conv => whnf
 refine call1 (isShip_S pr t) ?_; conv => whnf
 exact ⟨rfl, rfl⟩
theorem queue_under {R R' : St → St → Prop} (hR : Beside R) (hm : ∀ s t t', R s t → Sup t t' → R s t') (hR' : Beside R') {f : FuncId} {args : List AV} {w : AV} {s t0 t : St} {q : Nat} {fl : Bool} {es : List QE} (h : R s t0) (hq : QSt t0 q fl es t)
   (hS : ∀ u, R u t → S P f args t fun v t' => v = w ∧ R' u t') : S P f args t fun v t' => v = w ∧ ∃ t0', R' s t0' ∧ QSt t0' q fl es t' := by
 obtain ⟨bo, hF, hn⟩ := hq.foot
 obtain ⟨y1, hy1⟩ := hF.some (.inl rfl)
 have hq0 := hn q (.inl rfl)
 have hsq : s q = none := (hR.sup h).none hq0
 cases bo with
 | none =>
   have h1 : R (upd s q y1) t := hm _ _ _ (hR.begin (y := y1) h hq0) (fun c x hc => by
     by_cases e : c = q
     · subst e; rw [upd_same] at hc; rw [hy1]; exact hc
     · rw [upd_ne e] at hc; exact hq.sup c x hc)
   refine (hS _ h1).mono fun v t' hv => ⟨hv.1, del t' q, hR'.forget hv.2 hsq, ?_⟩
   have hF' : QF q none fl es t' := hF.frame fun c hc => by
     rcases hc with rfl | hc
     · rw [hR'.sup hv.2 c y1 (upd_same ..), hy1]
     · cases hc
   exact hF'.qst (fun c x hc => by
     by_cases e : c = q
     · subst e; rw [del_same] at hc; cases hc
     · rw [del_ne e] at hc; exact hc) (fun c hc => by
       rcases hc with rfl | hc
       · exact del_same ..
       · cases hc)
 | some b =>
   obtain ⟨y2, hy2⟩ := hF.some (c := b) (.inr rfl)
   have hb0 := hn b (.inr rfl)
   have hqb : q ≠ b := by
     obtain ⟨sv, _, h3⟩ := hF.has
     rcases h3 with ⟨_, _, e⟩ | ⟨b', l, n, e, hne, _⟩
     · cases e
     · cases e; exact hne
   have hsb : s b = none := (hR.sup h).none hb0
   have h1 : R (upd (upd s b y2) q y1) t := hm _ _ _ (hR.begin (y := y1) (hR.begin (y := y2) h hb0) (by rw [upd_ne hqb]; exact hq0)) (fun c x hc => by
     by_cases e : c = q
     · subst e; rw [upd_same] at hc; rw [hy1]; exact hc
     · rw [upd_ne e] at hc
       by_cases e2 : c = b
       · subst e2; rw [upd_same] at hc; rw [hy2]; exact hc
       · rw [upd_ne e2] at hc; exact hq.sup c x hc)
   refine (hS _ h1).mono fun v t' hv => ⟨hv.1, del (del t' q) b, hR'.forget (hR'.forget hv.2 (by rw [upd_ne hqb]; exact hsq)) hsb, ?_⟩
   have hs' := hR'.sup hv.2
   have hF' : QF q (some b) fl es t' := hF.frame fun c hc => by
     rcases hc with rfl | hc
     · rw [hs' c y1 (upd_same ..), hy1]
     · cases hc
       rw [hs' b y2 (by rw [upd_ne hqb.symm, upd_same]), hy2]
   exact hF'.qst (fun c x hc => by
     by_cases e : c = b
     · subst e; rw [del_same] at hc; cases hc
     · rw [del_ne e] at hc
       by_cases e2 : c = q
       · subst e2; rw [del_same] at hc; cases hc
       · rw [del_ne e2] at hc; exact hc) (fun c hc => by
       rcases hc with rfl | hc
       · rw [del_ne hqb]; exact del_same ..
       · cases hc; exact del_same ..)
theorem strsPlaceO_S (l : List Str) (hl : l.length ≤ 100000) (v : Str) (st : St) (b : Nat) (f : Nat → AV) (hb : st b = some ⟨9, 1, l.length, f⟩) (hf : ∀ k, k < l.length → f k = fStrs l k) :
   S P 163 [.own 1 b 0 l.length, eS v] st fun r st' => r = eI (idx (fun y : Str => v.toList == y.toList) l) ∧ st' = st := by
 refine S_of_X [] good mixed Tryz.func163 (by rfl) rfl rfl rfl ?_; conv => whnf
 refine ⟨[0, 1, 7, 8], fun m vs st' => ∃ i : Nat, i ≤ l.length ∧ (∀ k, k < i → (v.toList == (l.getD k default).toList) = false) ∧ m = l.length - i ∧ vs = [.own 1 b 0 l.length, eS v, eI l.length, eI i] ∧ st' = st, ?_, ?_⟩
 · conv => whnf
   exact ⟨_, 0, Nat.zero_le _, fun k hk => absurd hk (by omega), rfl, rfl, rfl⟩
 · rintro m vs st' ⟨i, hi, hok, rfl, rfl, rfl⟩
   conv => whnf
   cases h : decide ((i : Int) < (l.length : Int))
   · have := of_decide_eq_false h
     conv => whnf
     refine ⟨?_, rfl⟩
     rw [idx_none (p := fun y : Str => v.toList == y.toList) fun k hk => hok k (by omega)]; rfl
   · have hi' : i < l.length := by have := of_decide_eq_true h; omega
     conv => whnf
     refine ⟨rfl, ⟨by omega, by omega⟩, ?_⟩; conv => whnf
     refine ldV hb rfl (by omega) (v := eS (l.getD i default)) (by rw [show 0 + (i : Int).toNat = i by omega]; exact hf i hi') ?_; conv => whnf
     cases hp : (v.toList == (l.getD i default).toList)
     · conv => whnf
       refine ⟨rfl, ?_⟩; conv => whnf
       refine ⟨l.length - (i + 1), by omega, i + 1, by omega, fun k hk => ?_, rfl, by rw [wrapN (by omega)], rfl⟩
       rcases Nat.lt_succ_iff_lt_or_eq.1 hk with h' | h'
       · exact hok k h'
       · rw [h']; exact hp
     · conv => whnf
       refine ⟨?_, rfl⟩
       rw [idx_at (p := fun y : Str => v.toList == y.toList) hi' hok hp]; rfl
theorem strsInO_S (l : List Str) (hl : l.length ≤ 100000) (v : Str) (st : St) (b : Nat) (f : Nat → AV) (hb : st b = some ⟨9, 1, l.length, f⟩) (hf : ∀ k, k < l.length → f k = fStrs l k) :
   S P 101 [.own 1 b 0 l.length, eS v] st fun r st' => r = .bool (inB l v) ∧ st' = st := by
 refine S_of_X [] good mixed Tryz.func101 (by rfl) rfl rfl rfl ?_; conv => whnf
 refine call1 (strsPlaceO_S l hl v st b f hb hf) ?_; conv => whnf
 refine ⟨?_, rfl⟩
 unfold inB
 rw [← idx_any]; rfl
theorem strsPlace0_S (v : Str) (st : St) : S P 163 [.emp, eS v] st fun r st' => r = eI (-1) ∧ st' = st := by
 refine S_of_X [] good mixed Tryz.func163 (by rfl) rfl rfl rfl ?_; conv => whnf
 refine once [0, 1, 7, 8] ?_; conv => whnf
 intro I; conv => whnf
 exact ⟨rfl, rfl⟩
theorem strsIn0_S (v : Str) (st : St) : S P 101 [.emp, eS v] st fun r st' => r = .bool false ∧ st' = st := by
 refine S_of_X [] good mixed Tryz.func101 (by rfl) rfl rfl rfl ?_; conv => whnf
 refine call1 (strsPlace0_S v st) ?_; conv => whnf
 exact ⟨rfl, rfl⟩
theorem PxR.groups {bx : Nat} {items : List Ab.Item} {p : PSt} {s t : St} (h : PxR bx items p s t) (hg : p.groups.length ≤ 1000) : ∃ dv gv f, t bx = some ⟨109, 4, 1, f⟩ ∧ f 0 = .agg [arrOf 4 eItem items, eUnits p.us, dv, gv] ∧ (gv = .emp ∨ ∃ b, gv = .own 1 b 0 p.groups.length) ∧
   ∀ (g : Str), S P 101 [gv, eS g] t fun r t' => r = .bool (inB p.groups g) ∧ t' = t := by
 obtain ⟨⟨dv, gv⟩, h⟩ := h
 obtain ⟨y, ⟨f, rfl, hf⟩, hy⟩ := AddB.at (besideD _ _ _ _) h
 obtain ⟨_, _, _, hd⟩ := h
 obtain ⟨s0, hc, hg0⟩ := hd
 refine ⟨dv, gv, f, hy, hf, hg0.head, fun g => ?_⟩
 obtain ⟨s1, hc1, hs1⟩ := hg0
 rcases hc1 with ⟨h0, h1, rfl⟩ | ⟨h0, b, g0, hb, h1, rfl, hgg⟩
 · have : p.groups = [] := List.eq_nil_of_length_eq_zero h0
   subst h1
   rw [this]
   exact strsIn0_S g t
 · subst h1
   exact strsInO_S p.groups (by omega) g t b g0 (hs1 b _ (upd_same ..)) hgg
def goB {σ : Type} (px : σ → PSt) (step : σ → Promo → σ) (a : σ) (pr : Promo) : σ := if isNil pr.group || !inB (px a).groups pr.group then step a pr else a
def eachF {σ : Type} (px : σ → PSt) (step : σ → Promo → σ) (sm : Promo → Bool) (l : List Promo) (a : σ) (o : List Int) : σ := (o.filter fun x => sm (prAt l x)).foldl (fun a x => goB px step a (prAt l x)) a
def pushed (sm : Promo → Bool) (l : List Promo) (o : List Int) (i : Nat) : List QE := ((List.range i).filter fun k => sm (prAt l (gI o k))).map fun (k : Nat) => (-(k : Int), gI o k)
theorem pushed_succ (sm : Promo → Bool) (l : List Promo) (o : List Int) (i : Nat) : pushed sm l o (i + 1) = pushed sm l o i ++ (if sm (prAt l (gI o i)) = true then [(-(i : Int), gI o i)] else []) := by
 unfold pushed
 rw [List.range_succ, List.filter_append, List.map_append]
 congr 1
 by_cases h : sm (prAt l (gI o i)) = true
 · rw [if_pos h, List.filter_cons_of_pos (p := fun k => sm (prAt l (gI o k))) h]; rfl
 · rw [if_neg h, List.filter_cons_of_neg (p := fun k => sm (prAt l (gI o k))) h]; rfl
theorem pushed_len (sm : Promo → Bool) (l : List Promo) (o : List Int) (i : Nat) : (pushed sm l o i).length ≤ i := by
 unfold pushed
 rw [List.length_map]
 exact Nat.le_trans (List.length_filter_le ..) (by simp)
theorem pushed_snd (sm : Promo → Bool) (l : List Promo) (o : List Int) : ∀ i, i ≤ o.length → (pushed sm l o i).map (·.2) = (o.take i).filter fun x => sm (prAt l x)
 | 0, _ => by simp [pushed]
 | i + 1, h => by
   rw [pushed_succ, List.map_append, pushed_snd sm l o i (by omega), take_next (show i < o.length by omega), List.filter_append]
   congr 1
   show List.map (fun x => x.2) (if sm (prAt l (gI o i)) = true then [(-(i : Int), gI o i)] else []) = List.filter (fun x => sm (prAt l x)) [gI o i]
   by_cases hs : sm (prAt l (gI o i)) = true
   · rw [if_pos hs, List.filter_cons_of_pos (p := fun x => sm (prAt l x)) hs]; rfl
   · rw [if_neg hs, List.filter_cons_of_neg (p := fun x => sm (prAt l x)) hs]; rfl
theorem pushed_sorted (sm : Promo → Bool) (l : List Promo) (o : List Int) (i : Nat) : (pushed sm l o i).Pairwise fun a b => prior b a = false := by
 unfold pushed
 refine List.Pairwise.map _ (fun a b h => ?_) ((List.pairwise_lt_range (n := i)).filter _)
 rw [prior_no]
 show ¬ (-(b : Int) > -(a : Int) ∨ (-(b : Int) = -(a : Int) ∧ _))
 omega
theorem resO_mem {l : List Promo} {codes : List Str} {o : List Int} (ho : OrdP l codes o) {x : Int} (hx : x ∈ resO l o) : 0 ≤ x ∧ x.toNat < l.length := by
 obtain ⟨e, he, rfl⟩ := List.mem_map.1 hx
 have h := ranked_mem he
 exact places_lt (ho.1.subset (getD_mem h.2))
theorem peach_S {σ : Type} (bx : Nat) (items : List Ab.Item) (R : σ → St → St → Prop) (px : σ → PSt) (hR : ∀ a, Beside (R a)) (hmore : ∀ a s t t', R a s t → Sup t t' → R a s t') (hP : ∀ a s t, R a s t → ∃ s', PxR bx items (px a) s' t)
   (l : List Promo) (codes : List Str) (hl : l.length ≤ 60) (hc : codes.length ≤ 9223372036854775807) (h20 : (places l codes l.length).length ≤ 20)
   (g : FuncId) (cs : List AV) (sm : Promo → Bool) (hsome : ∀ (pr : Promo) (t : St), S P g (ePromo pr :: cs) t fun v t' => v = .bool (sm pr) ∧ t' = t)
   (f : FuncId) (fs ds : List AV) (step : σ → Promo → σ) (Inv : σ → Nat → Prop) (hgr : ∀ a n, Inv a n → (px a).groups.length ≤ 1000) (hle : ∀ a n, Inv a (n + 1) → Inv a n)
   (hdo : ∀ (a : σ) (n : Nat) (pr : Promo) (s t : St), pr ∈ l → sm pr = true → Inv a (n + 1) → R a s t → S P f (fs ++ [ePromo pr] ++ ds) t fun v t' => v = .tuple [] ∧ R (step a pr) s t')
   (hinv : ∀ (a : σ) (n : Nat) (pr : Promo), pr ∈ l → sm pr = true → Inv a (n + 1) → Inv (step a pr) n) (a0 : σ) (hI : Inv a0 60) (s t : St) (h : R a0 s t) :
   S P 58 [.optr 4 bx 0 0, arrOf 15 ePromo l, eStrs codes, .fn (.func g) [] cs, .fn (.func f) fs ds] t fun v t' => v = .tuple [] ∧ ∃ o, OrdP l codes o ∧ R (eachF px step sm l a0 (resO l o)) s t' := by
 refine S_of_X [] good mixed Tryz.func58 (by rfl) rfl rfl rfl ?_; conv => whnf
 refine call (qnew_S t) (fun v t1 hv => ?_)
 obtain ⟨q, rfl, hq⟩ := hv
 conv => whnf
 refine call (order_S l codes hl hc h20 t1) (fun v t2 hv => ?_)
 obtain ⟨⟨o, ho, rfl⟩, rfl⟩ := hv
 have hmem := fun {x : Int} (hx : x ∈ resO l o) => resO_mem ho hx
 have hrl : (resO l o).length ≤ 60 := by
   rw [List.length_map, ranked_len, ho.1.length_eq]
   have := places_len l codes l.length; omega
 obtain ⟨r, hr⟩ : ∃ r : List Int, r = resO l o := ⟨_, rfl⟩
 rw [← hr] at hrl
 have hmem' : ∀ x ∈ r, 0 ≤ x ∧ x.toNat < l.length := fun x hx => hmem (by rw [← hr]; exact hx)
 have hInvle : ∀ (a : σ) (n m : Nat), m ≤ n → Inv a n → Inv a m := fun a n m hmn h => by
   induction n with
   | zero => have : m = 0 := by omega
             subst this; exact h
   | succ n ih =>
     rcases Nat.lt_or_ge n m with h1 | h1
     · have : m = n + 1 := by omega
       subst this; exact h
     · exact ih h1 (hle a n h)
 have hfin : ∀ t', R (eachF px step sm l a0 r) s t' → ∃ o, OrdP l codes o ∧ R (eachF px step sm l a0 (resO l o)) s t' := fun t' h => ⟨o, ho, by rw [← hr]; exact h⟩
 have hv : eInts (resO l o) = eInts r := by rw [hr]
 rw [hv]
 clear hv
 conv => whnf
 refine ⟨[0, 1, 3, 4, 10, 19, 20, 21], fun m vs t' => ∃ i : Nat, i ≤ r.length ∧ m = r.length - i ∧ vs = [.optr 4 bx 0 0, arrOf 15 ePromo l, .fn (.func g) [] cs, .fn (.func f) fs ds, .optr 1 q 0 0, eInts r, eI r.length, eI i] ∧ QSt t q true (pushed sm l r i) t', ?_, ?_⟩
 · conv => whnf
   exact ⟨_, 0, Nat.zero_le _, rfl, rfl, hq⟩
 · clear hq
   rintro m vs t' ⟨i, hi, rfl, rfl, hq⟩
   have hpl := pushed_len sm l r i
   conv => whnf
   cases hd : decide ((i : Int) < (r.length : Int))
   · have := of_decide_eq_false hd
     obtain rfl : i = r.length := by omega
     have hsnd := pushed_snd sm l r r.length (Nat.le_refl _)
     rw [List.take_length] at hsnd; conv => whnf
     refine ⟨[0, 1, 4, 10], fun m vs t' => ∃ (a : σ) (rest : List QE) (fl : Bool) (t0 : St), m = rest.length ∧ vs = [.optr 4 bx 0 0, arrOf 15 ePromo l, .fn (.func f) fs ds, .optr 1 q 0 0] ∧ (rest.map (·.2)).foldl (fun a x => goB px step a (prAt l x)) a = eachF px step sm l a0 r ∧ (∀ e ∈ rest, (0 ≤ e.2 ∧ e.2.toNat < l.length) ∧ sm (prAt l e.2) = true) ∧ (rest.Pairwise fun a b => prior b a = false) ∧ Inv a rest.length ∧ R a s t0 ∧ QSt t0 q fl rest t', ?_, ?_⟩
     · conv => whnf
       refine ⟨_, a0, pushed sm l r r.length, true, t, rfl, rfl, by rw [hsnd]; rfl, fun e he => ?_, pushed_sorted sm l r r.length, hInvle a0 60 _ (by omega) hI, h, hq⟩
       have : e.2 ∈ (pushed sm l r r.length).map (·.2) := List.mem_map_of_mem he
       rw [hsnd] at this
       obtain ⟨h1, h2⟩ := List.mem_filter.1 this
       exact ⟨hmem' _ h1, h2⟩
     · clear hq
       rintro m vs t' ⟨a, rest, fl, t0, rfl, rfl, hF, hrm, hsort, hIa, hRa, hq⟩
       conv => whnf
       refine call1 (qlen_S _ _ _ _ _ hq) ?_; conv => whnf
       cases rest with
       | nil =>
         conv => whnf
         refine ⟨rfl, hfin t' ?_⟩
         rw [← hF]
         exact hmore _ _ _ _ hRa hq.sup
       | cons x rest =>
         rw [List.pairwise_cons] at hsort
         have hx := hrm x (List.mem_cons_self ..)
         have hlen0 : decide (((x :: rest).length : Int) > 0) = true := decide_eq_true (by rw [List.length_cons]; omega)
         rw [hlen0]; conv => whnf
         refine call (qpop_S _ _ _ _ _ _ hq hsort.1) (fun v t2 hv => ?_)
         obtain ⟨rfl, hq2⟩ := hv
         have hpr : prAt l x.2 ∈ l := getD_mem hx.1.2
         have hgl := hgr a _ hIa
         obtain ⟨s', hpx⟩ := hP a s t2 (hmore _ _ _ _ hRa hq2.sup)
         obtain ⟨dv, gv, fx, hbx, hfx, hgv, hcont⟩ := hpx.groups hgl
         conv => whnf
         -- what is behind the round
         have hgo : goB px step a (prAt l x.2) = if isNil (prAt l x.2).group || !inB (px a).groups (prAt l x.2).group then step a (prAt l x.2) else a := rfl
         have hF2 : (rest.map (·.2)).foldl (fun a x => goB px step a (prAt l x)) (goB px step a (prAt l x.2)) = eachF px step sm l a0 r := by rw [← hF]; rfl
         have round : ∀ (b : σ) (t3 : St), b = goB px step a (prAt l x.2) → Inv b rest.length → (∃ t0', R b s t0' ∧ QSt t0' q false rest t3) → ∃ m', m' < rest.length + 1 ∧ ∃ (a : σ) (rest_1 : List QE) (fl : Bool) (t0 : St), m' = rest_1.length ∧ [AV.optr 4 bx 0 0, arrOf 15 ePromo l, .fn (.func f) fs ds, .optr 1 q 0 0] = [AV.optr 4 bx 0 0, arrOf 15 ePromo l, .fn (.func f) fs ds, .optr 1 q 0 0] ∧ (rest_1.map (·.2)).foldl (fun a x => goB px step a (prAt l x)) a = eachF px step sm l a0 r ∧ (∀ e ∈ rest_1, (0 ≤ e.2 ∧ e.2.toNat < l.length) ∧ sm (prAt l e.2) = true) ∧ (rest_1.Pairwise fun a b => prior b a = false) ∧ Inv a rest_1.length ∧ R a s t0 ∧ QSt t0 q fl rest_1 t3 :=
           fun b t3 hb hib ⟨t0', h1, h2⟩ => ⟨rest.length, Nat.lt_succ_self _, b, rest, false, t0', rfl, rfl, by rw [hb]; exact hF2, fun e he => hrm e (List.mem_cons_of_mem _ he), hsort.2, hib, h1, h2⟩
         -- the call itself
         have doit : ∀ K : KK, (∀ t3, (∃ t0', R (step a (prAt l x.2)) s t0' ∧ QSt t0' q false rest t3) → K (.tuple []) t3) → xCall P f (fs ++ [ePromo (prAt l x.2)] ++ ds) t2 K := fun K hK => by
           refine call (queue_under (hR a) (hmore a) (hR _) hRa hq2 (fun u hu => hdo a rest.length (prAt l x.2) u t2 hpr hx.2 (by simpa using hIa) hu)) (fun v t3 hv => ?_)
           rw [hv.1]; exact hK t3 hv.2
         refine ⟨[], [], [0, 1, 2, 3, 4, 5, 6, 7, 8, 9, 10, 11, 12, 13, 14, 15, 16, 17, 18], by kernel_rfl, ?_⟩; conv => whnf
         refine ⟨rfl, ⟨by omega, by omega⟩, ?_⟩; conv => whnf
         have hnil : (ByteArray.toList (l.getD x.2.toNat default).group == ByteArray.toList ⟨#[]⟩) = isNil (prAt l x.2).group := rfl
         have hyes : (isNil (prAt l x.2).group || !inB (px a).groups (prAt l x.2).group) = true → ∀ K : KK, (∀ t3, (∃ (b : σ), b = goB px step a (prAt l x.2) ∧ Inv b rest.length ∧ ∃ t0', R b s t0' ∧ QSt t0' q false rest t3) → K (.tuple []) t3) → xCall P f (fs ++ [ePromo (prAt l x.2)] ++ ds) t2 K := fun hy K hK =>
           doit K fun t3 h3 => hK t3 ⟨_, by rw [hgo, if_pos hy], hinv a _ _ hpr hx.2 (by simpa using hIa), h3⟩
         rw [hnil]
         cases hg : isNil (prAt l x.2).group with
         | true =>
           conv => whnf
           refine ⟨rfl, ⟨by omega, by omega⟩, ?_⟩; conv => whnf
           rw [appK_eq, appK_eq]
           refine hyes (by rw [hg]; rfl) _ (fun t3 h3 => ?_); conv => whnf
           refine ⟨rfl, ?_⟩; conv => whnf
           obtain ⟨b, h4, h5, h6⟩ := h3
           exact round b t3 h4 h5 h6
         | false =>
           rcases hgv with rfl | ⟨bg, rfl⟩
           all_goals
             conv => whnf
             refine ldV hbx rfl (by omega) hfx ?_; conv => whnf
             refine ⟨rfl, ⟨by omega, by omega⟩, ?_⟩; conv => whnf
             refine ⟨_, callQ (hcont (prAt l x.2).group), ?_⟩; conv => whnf
             cases hi : inB (px a).groups (prAt l x.2).group with
             | false =>
               conv => whnf
               refine ⟨rfl, ⟨by omega, by omega⟩, ?_⟩; conv => whnf
               rw [appK_eq, appK_eq]
               refine hyes (by rw [hi]; simp) _ (fun t3 h3 => ?_); conv => whnf
               refine ⟨rfl, ?_⟩; conv => whnf
               obtain ⟨b, h4, h5, h6⟩ := h3
               exact round b t3 h4 h5 h6
             | true =>
               conv => whnf
               refine ⟨rfl, ?_⟩; conv => whnf
               refine round a t2 (by rw [hgo, if_neg (by rw [hg, hi]; simp)]) (hle a _ (by simpa using hIa)) ⟨t0, hRa, hq2⟩
   · have hi' : i < r.length := by have := of_decide_eq_true hd; omega
     have hm := hmem' _ (getD_mem hi')
     have es := pushed_succ sm l r i
     conv => whnf
     refine ⟨rfl, ⟨by omega, by omega⟩, ?_⟩; conv => whnf
     refine ⟨rfl, ⟨by show 0 ≤ gI r i; exact hm.1, by show gI r i < (l.length : Int); have h1 := hm.1; have h2 := hm.2; show gI r i < _; have : (gI r i).toNat < l.length := h2; have : 0 ≤ gI r i := h1; omega⟩, ?_⟩; conv => whnf
     refine call1 (hsome (prAt l (gI r i)) t') ?_; conv => whnf
     refine fork (fun h3 => ?_) (fun h3 => ?_) <;> rw [h3]
     · rw [if_pos h3] at es
       have w : IntKind.i64.wrap (0 - (i : Int)) = -(i : Int) := by rw [show 0 - (i : Int) = -(i : Int) by omega]; exact wrap64_of (by omega) (by omega)
       conv => whnf
       rw [w]
       refine call (qpush_S t q _ (-(i : Int)) (gI r i) _ hq (by omega)) (fun v t2 hv => ?_)
       obtain ⟨rfl, hq'⟩ := hv
       conv => whnf
       refine ⟨rfl, ?_⟩; conv => whnf
       exact ⟨r.length - (i + 1), by omega, i + 1, by omega, rfl, by rw [wrapN (by omega)], by rw [es]; exact hq'⟩
     · have h3' : ¬ sm (prAt l (gI r i)) = true := by rw [h3]; simp
       rw [if_neg h3', List.append_nil] at es; conv => whnf
       refine ⟨rfl, ?_⟩; conv => whnf
       exact ⟨r.length - (i + 1), by omega, i + 1, by omega, rfl, by rw [wrapN (by omega)], by rw [es]; exact hq⟩
def priceCheck (r : Rules) (codes : List Str) (l : List Line) : Int :=
 if rulesC r = false then 10 else if codesC codes = false then 2 else checkE (known r.items) l
theorem pcheck_S (r : Rules) (codes : List Str) (l : List Line) (hf : RulesFit r) (hc : codes.length ≤ Big) (hi : r.items.length ≤ 4611686018427387904) (st : St) :
   S P 54 [eRules r, eStrs codes, arrOf 3 eLine l] st fun v st' => v = eI (priceCheck r codes l) ∧ st' = st := by
 refine S_of_X [3] good mixed Tryz.func54 (by rfl) rfl rfl rfl ?_; conv => whnf
 refine call1 (rules_S r hf st) ?_; conv => whnf
 have hP : priceCheck r codes l = if rulesC r = false then 10 else if codesC codes = false then 2 else checkE (known r.items) l := rfl
 cases h1 : rulesC r
 · rw [if_pos h1] at hP; conv => whnf
   exact ⟨by rw [hP]; rfl, rfl⟩
 · rw [if_neg (by rw [h1]; simp)] at hP; conv => whnf
   refine call1 (codes_S codes hc st) ?_; conv => whnf
   cases h2 : codesC codes
   · rw [if_pos h2] at hP; conv => whnf
     exact ⟨by rw [hP]; rfl, rfl⟩
   · rw [if_neg (by rw [h2]; simp)] at hP; conv => whnf
     refine call1 (Check_S r.items l hi st) ?_; conv => whnf
     exact ⟨by rw [hP]; rfl, rfl⟩
abbrev usOf (l : List Line) : List AUnit := unitsUp l l.length
structure LinesOk (items : List Ab.Item) (l : List Line) : Prop where
 len : l.length ≤ 1000
 line : ∀ x ∈ l, lineC x = true
 known : ∀ x ∈ l, known items x.sku = true
 units : unitsN l ≤ 100000
 gross : grossN l ≤ 10000000000000
theorem linesOk {items : List Ab.Item} {l : List Line} (h : checkE (known items) l = 0) : LinesOk items l := by
 unfold checkE at h
 split at h
 · cases h
 · rename_i hl
   split at h
   · rename_i x hx
     split at h <;> cases h
   · rename_i hf
     have hall : ∀ x ∈ l, badLine (Go.Proofs.YtnekegdhpjplbaaGreat.known items) x = false := fun x hx => Bool.eq_false_iff.2 (List.find?_eq_none.1 hf x hx)
     have hb : ∀ x ∈ l, Go.Proofs.YtnekegdhpjplbaaGreat.known items x.sku = true ∧ lineC x = true := fun x hx => by
       have := hall x hx
       unfold badLine at this
       simpa using this
     split at h
     · cases h
     · rename_i hg
       simp only [Bool.or_eq_true, decide_eq_true_eq, not_or] at hg
       exact ⟨by omega, fun x hx => (hb x hx).2, fun x hx => (hb x hx).1, by omega, by omega⟩
theorem LinesOk.may {items : List Ab.Item} {l : List Line} (h : LinesOk items l) : (checkE (fun _ => true) l == 0) = true := by
 have : checkE (fun _ => true) l = 0 := by
   unfold checkE
   rw [if_neg (by have := h.len; omega)]
   have hf : l.find? (badLine fun _ => true) = none := List.find?_eq_none.2 fun x hx => by
     unfold badLine; rw [h.line x hx]; simp
   rw [hf]
   simp only
   rw [if_neg]
   have := h.units
   have := h.gross
   simp only [Bool.or_eq_true, decide_eq_true_eq, not_or]
   omega
 rw [this]; rfl
theorem unitsUp_net (l : List Line) (hl : ∀ x ∈ l, lineC x = true) : ∀ k, k ≤ l.length → ((unitsUp l k).length : Int) = unitsN (l.take k) ∧ sumI (netsOf (unitsUp l k)) = grossN (l.take k) ∧ (∀ u ∈ unitsUp l k, 0 ≤ u.net ∧ 0 ≤ u.line ∧ u.line.toNat < k ∧ u.opn = true)
 | 0, _ => ⟨rfl, rfl, fun u hu => by simp [unitsUp] at hu⟩
 | k + 1, h => by
   obtain ⟨h1, h2, h3⟩ := unitsUp_net l hl k (by omega)
   have hx := (lineC_iff _).1 (hl _ (getD_mem (show k < l.length by omega)))
   have eN : unitsN (l.take (k + 1)) = unitsN (l.take k) + (l.getD k default).qty := foldl_next (by omega) _ _
   have eG : grossN (l.take (k + 1)) = grossN (l.take k) + (l.getD k default).qty * (l.getD k default).price := foldl_next (by omega) _ _
   have hup : unitsUp l (k + 1) = unitsUp l k ++ List.replicate (l.getD k default).qty.toNat (lnU l k) := rfl
   have hsr : ∀ (n : Nat) (c : Int), sumI (List.replicate n c) = n * c := fun n c => by
     induction n with
     | zero => simp [sumI]
     | succ n ih => rw [List.replicate_succ, sumI_cons, ih, show ((n + 1 : Nat) : Int) = (n : Int) + 1 by omega, Int.add_mul, Int.one_mul]; omega
   refine ⟨?_, ?_, fun u hu => ?_⟩
   · rw [hup, List.length_append, List.length_replicate, eN, ← h1]; omega
   · unfold netsOf at h2 ⊢
     rw [hup, List.map_append, sumI_append, h2, List.map_replicate, hsr, eG]
     show _ + ((l.getD k default).qty.toNat : Int) * (l.getD k default).price = _
     rw [Int.toNat_of_nonneg hx.1.1]
   · rw [hup] at hu
     rcases List.mem_append.1 hu with hu | hu
     · have := h3 u hu; exact ⟨this.1, this.2.1, by omega, this.2.2.2⟩
     · rw [List.eq_of_mem_replicate hu]
       refine ⟨hx.2.1, ?_, ?_, rfl⟩
       · show (0 : Int) ≤ (k : Int); omega
       · show ((k : Int)).toNat < k + 1; omega
theorem usOf_ok {items : List Ab.Item} {l : List Line} (h : LinesOk items l) : UsOk (itemsOf items l) (usOf l) := by
 obtain ⟨h1, h2, h3⟩ := unitsUp_net l h.line l.length (Nat.le_refl _)
 rw [List.take_length] at h1 h2
 have hN := h.units
 have hG := h.gross
 have hlen : (itemsOf items l).length = l.length := List.length_map ..
 exact ⟨⟨by show (unitsUp l l.length).length ≤ 100000; omega, fun u hu => (h3 u hu).1, by show sumI (netsOf (unitsUp l l.length)) ≤ _; omega⟩, by rw [hlen]; have := h.len; omega, fun u hu => ⟨(h3 u hu).2.1, by rw [hlen]; exact (h3 u hu).2.2.1⟩⟩
def IsPr (bn n : Nat) (net ship : Int) (y : Blk) : Prop := ∃ f, y = ⟨44, 4, 1, f⟩ ∧ f 0 = .agg [.own 1 bn 0 n, eI net, eI ship, .emp]
def R2 (bx bp bn n : Nat) (items : List Ab.Item) (net : Int) (a : PSt × Int) : St → St → Prop := AddB bp (IsPr bn n net a.2) (PxR bx items a.1)
theorem besideR2 (bx bp bn n : Nat) (items : List Ab.Item) (net : Int) (a : PSt × Int) : Beside (R2 bx bp bn n items net a) := besideB (besideP _ _ _)
theorem R2.more {bx bp bn n : Nat} {items : List Ab.Item} {net : Int} {a : PSt × Int} {s t t' : St} (h : R2 bx bp bn n items net a s t) (hs : Sup t t') : R2 bx bp bn n items net a s t' := by
 obtain ⟨h1, y, h2, h3⟩ := h
 exact ⟨h1, y, h2, h3.more hs⟩
def shipStep (net : Int) (a : PSt × Int) (pr : Promo) : PSt × Int := ((shipB a.1 pr net a.2).2, (shipB a.1 pr net a.2).1)
theorem ship_closure_S (bx bp bn n : Nat) (items : List Ab.Item) (net : Int) (a : PSt × Int) (pr : Promo) (h0 : 0 ≤ a.2) (h1 : a.2 ≤ 10000000000000) (hd : a.1.deals.length ≤ 1000) (hg : a.1.groups.length ≤ 1000) (s t : St) (h : R2 bx bp bn n items net a s t) :
   S P 62 [ePromo pr, .fptr (.optr 4 bx 0 0) 0, .optr 4 bp 0 0] t fun v t' => v = .tuple [] ∧ R2 bx bp bn n items net (shipStep net a pr) s t' := by
 obtain ⟨hbp, y, ⟨f, rfl, hf⟩, hP⟩ := h
 have hat : t bp = some ⟨44, 4, 1, f⟩ := (besideP _ _ _).sup hP bp _ (upd_same ..)
 refine S_of_X [3] good mixed Tryz.func62 (by rfl) rfl rfl rfl ?_; conv => whnf
 refine ldV hat rfl (by omega) hf ?_; conv => whnf
 refine ldV hat rfl (by omega) hf ?_; conv => whnf
 refine call (shipping_S bx items a.1 pr net a.2 h0 h1 hd hg _ t hP) (fun v t2 hv => ?_)
 obtain ⟨rfl, hP2⟩ := hv
 have hat2 : t2 bp = some ⟨44, 4, 1, f⟩ := (besideP _ _ _).sup hP2 bp _ (upd_same ..)
 conv => whnf
 refine stV hat2 rfl (by omega) hf (by rfl) ?_; conv => whnf
 refine ⟨rfl, ?_⟩
 exact AddB.set (besideP _ _ _) (Q := fun y => y = ⟨44, 4, 1, f⟩) ⟨hbp, _, rfl, hP2⟩ ⟨_, rfl, by rw [fset_same]; rfl⟩
def lineNet (us : List AUnit) (j : Nat) : Int := sumI ((us.filter fun u => u.line.toNat == j).map AUnit.net)
def lineNets (n : Nat) (us : List AUnit) : List Int := (List.range n).map (lineNet us)
theorem lineNet_next {us : List AUnit} {k : Nat} (hk : k < us.length) (j : Nat) : lineNet (us.take (k + 1)) j = if (gU us k).line.toNat = j then lineNet (us.take k) j + (gU us k).net else lineNet (us.take k) j := by
 unfold lineNet
 rw [take_next hk, List.filter_append, List.map_append, sumI_append]
 by_cases h : (gU us k).line.toNat = j
 · rw [if_pos h, List.filter_cons_of_pos (by show ((gU us k).line.toNat == j) = true; rw [h]; simp)]
   simp [sumI]
 · rw [if_neg h, List.filter_cons_of_neg (by show ¬ ((gU us k).line.toNat == j) = true; simpa using h)]
   simp [sumI]
theorem lineNet_bound {us : List AUnit} (h : UnitsOk us) (k j : Nat) : 0 ≤ lineNet (us.take k) j ∧ lineNet (us.take k) j ≤ sumI (netsOf us) := by
 have hsub : ((us.take k).filter fun u => u.line.toNat == j).Sublist us := List.filter_sublist.trans (List.take_sublist _ _)
 have hgen : ∀ {a b : List AUnit}, a.Sublist b → (∀ u ∈ b, 0 ≤ u.net) → 0 ≤ sumI (a.map AUnit.net) ∧ sumI (a.map AUnit.net) ≤ sumI (b.map AUnit.net) := fun {a b} hs => by
   induction hs with
   | slnil => intro _; exact ⟨Int.le_refl _, Int.le_refl _⟩
   | cons x _ ih =>
     intro hb
     have h1 := ih fun u hu => hb u (List.mem_cons_of_mem _ hu)
     have h2 := hb x (List.mem_cons_self ..)
     rw [List.map_cons, sumI_cons]; omega
   | cons_cons x _ ih =>
     intro hb
     have h1 := ih fun u hu => hb u (List.mem_cons_of_mem _ hu)
     have h2 := hb x (List.mem_cons_self ..)
     rw [List.map_cons, List.map_cons, sumI_cons, sumI_cons]; omega
 exact hgen hsub h.pos
end Go.Proofs.YtnekegdhpjplbaaGreat
