/- Part 1 of the proof: contracts of the functions that the law reaches -/
import Derived.Test.YtnekegdhpjplbaaGreatPl0
import Derived.Orders
import Derived.Below
/- The abstract machine, part 10: regions whose order is open: what an operation hangs on. -/
set_option linter.unusedVariables false
set_option linter.unusedSimpArgs false
namespace Go.Ab
open Go

theorem ev_put {A : List AV} {d : Option Tmp} {v : AV} {x : Operand} (h : ∀ t, d = some t → x ≠ .tmp t) : ev (putA A d v) x = ev A x := by
  cases d with
  | none => rfl
  | some t =>
    cases x with
    | tmp u =>
      have hne : t ≠ u := fun e => h t rfl (e ▸ rfl)
      simp [ev, putA, List.getElem?_set_ne hne]
    | _ => rfl
theorem aTarget_congr {A B : List AV} {f : Operand} {args : List AV} (h : ev A f = ev B f) : aTarget A (.value f) args = aTarget B (.value f) args := by
  simp only [aTarget, h]
theorem map_congr_ops {A B : List AV} {xs : Array Operand} (h : ∀ x ∈ xs, ev A x = ev B x) : xs.toList.map (ev A) = xs.toList.map (ev B) :=
  List.map_congr_left fun x hx => h x (by simpa using hx)
theorem aOp_congr {P : Program} {T : Tab} {M : MTab} {o : Oper} {A B : List AV} (h : ∀ x ∈ o.op.operands, ev A x = ev B x) (st : St) (k : KK) : aOp P T M o A st k = aOp P T M o B st k := by
  obtain ⟨dst, op, type, pos, after, guard⟩ := o
  have pairs : ∀ ps : Array (Nat × Operand), (∀ x ∈ ps.map (·.2), ev A x = ev B x) → evP A ps = evP B ps := fun ps hp =>
    List.map_congr_left fun p hm => by rw [hp p.2 (Array.mem_map.2 ⟨p, by simpa using hm, rfl⟩)]
  cases op <;> simp only [Op.operands] at h <;> simp only [aOp]
  case build t ps => rw [pairs ps fun x hx => h x (by simpa using hx)]
  case buildSlice t n ps => rw [pairs ps fun x hx => h x (by simpa using hx)]
  case makeFunc fn first captured =>
    rw [map_congr_ops (xs := first) fun x hx => h x (by simp [hx]), map_congr_ops (xs := captured) fun x hx => h x (by simp [hx])]
  case call c =>
    have hargs := map_congr_ops (A := A) (B := B) (xs := c.args) fun x hx => h x (by simp [Call.operands, hx])
    obtain ⟨callee, args, ts⟩ := c
    cases callee with
    | builtin b => simp only at hargs ⊢; rw [hargs]
    | invoke r name =>
      have hr : ev A r = ev B r := h r (by simp [Call.operands])
      simp only at hargs ⊢; rw [hargs, hr]
    | value f =>
      have hf : ev A f = ev B f := h f (by simp [Call.operands])
      simp only at hargs ⊢; rw [hargs, aTarget_congr hf]
  case slice t x lo hi mx => cases lo <;> cases hi <;> cases mx <;> simp_all
  all_goals (first | rfl | (simp_all; done))
section
variable {ops : Array Oper}
theorem aOp_put {P : Program} {T : Tab} {M : MTab} (o : Oper) (A : List AV) (dst : Option Tmp) (v : AV) (h : ∀ d, dst = some d → d ∉ o.looksAt ops) (st : St) (k : KK) :
    aOp P T M o (putA A dst v) st k = aOp P T M o A st k :=
  aOp_congr (fun x hx => ev_put fun d hd hxd => h d hd (by
    subst hxd
    exact List.mem_append_left _ (List.mem_filterMap.2 ⟨.tmp d, by simpa using hx, rfl⟩))) st k
theorem aWant_put (o : Oper) (A : List AV) (dst : Option Tmp) (v : AV) (h : ∀ d, dst = some d → d ∉ o.looksAt ops) : aWant ops.toList o (putA A dst v) = aWant ops.toList o A := by
  cases dst with
  | none => rfl
  | some d =>
    unfold aWant
    cases hg : o.guard with
    | none => rfl
    | some gw =>
      obtain ⟨g, want⟩ := gw
      simp only
      cases hp : ops.toList[g]? with
      | none => rfl
      | some p =>
        simp only
        cases ht : p.dst with
        | none => rfl
        | some t =>
          have hp' : ops[g]? = some p := by rw [← Array.getElem?_toList]; exact hp
          have hne : d ≠ t := fun e => h d rfl (by subst e; simp [Oper.looksAt, hg, hp', ht])
          simp only [putA, List.getElem?_set_ne hne]
theorem putA_comm (A : List AV) {x y : Option Tmp} (v u : AV) (h : ∀ d, x = some d → y ≠ some d) : putA (putA A x v) y u = putA (putA A y u) x v := by
  cases x with
  | none => rfl
  | some d =>
    cases y with
    | none => rfl
    | some e =>
      have hne : d ≠ e := fun he => h d rfl (he ▸ rfl)
      simp only [putA]; exact List.set_comm _ _ hne
end

/-! ### Every order -/
/-- More blocks than before; those that were known are as they were. -/
def Ext (st st' : St) : Prop := ∀ b x, st b = some x → st' b = some x
theorem Ext.refl (st : St) : Ext st st := fun _ _ h => h
/-- The operation yields v and leaves the store. -/
def Yq (P : Program) (T : Tab) (M : MTab) (ops : Array Oper) (o : Oper) (v : AV) (A : List AV) (st : St) : Prop :=
  (aWant ops.toList o A = some true ∧ aOp P T M o A st fun v' st' => v' = v ∧ st' = st) ∨ (aWant ops.toList o A = some false ∧ v = .tuple [])
/-- 'eff': which operations may turn the store. -/
def nOp (P : Program) (T : Tab) (M : MTab) (ops : Array Oper) (eff : Nat → Bool) (i : Nat) (K : KA) (A : List AV) (st : St) : Prop :=
  match ops[i]? with
  | none => K A st
  | some o => if eff i then (match aWant ops.toList o A with
      | none => False
      | some b => (b = true → aOp P T M o A st fun v st' => K (putA A o.dst v) st') ∧ (b = false → K (putA A o.dst (.tuple [])) st))
    else ∃ v, Yq P T M ops o v A st ∧ K (putA A o.dst v) st
def nAny (P : Program) (T : Tab) (M : MTab) (ops : Array Oper) (eff : Nat → Bool) (Q : KA) : Nat → Array Bool → KA
  | 0, listed, A, st => Region.ready .any ops listed = [] ∧ Q A st
  | fuel + 1, listed, A, st => (Region.ready .any ops listed = [] → Q A st) ∧ ∀ i ∈ Region.ready .any ops listed, nOp P T M ops eff i (fun A' st' => nAny P T M ops eff Q fuel (listed.setIfInBounds i true) A' st') A st
section
variable {P : Program} {T : Tab} {M : MTab} {ops : Array Oper} {eff : Nat → Bool}
theorem so_nOp (hG : Good P T M) {i : Nat} {K : KA} {A : List AV} {a : Act} {st : St} {w : World} {st0 : St} {w0 : World} {next : Act → World → Prop} {Q : Exit → Act → World → Prop} (hA : RelA w st A a) (hS : RelS st w) (he : Evo st0 w0 st w) (h : nOp P T M ops eff i K A st)
    (hn : ∀ A' st' a' w', K A' st' → RelA w' st' A' a' → RelS st' w' → Evo st0 w0 st' w' → next a' w') : wpOp P ops Q i next a w := by
  unfold nOp at h
  unfold wpOp
  split at h
  · rename_i ho; rw [ho]; exact hn _ _ _ _ h hA hS he
  · rename_i o ho
    rw [ho]
    simp only
    split at h
    · split at h
      · exact h.elim
      · rename_i b hb
        have hw := aWant_ok hA hb
        rw [hw]
        cases b with
        | true =>
          rw [if_pos rfl]
          exact .inl (so_op hG hA hS (h.1 rfl) fun v c st' w' hk hv hS' he' => hn _ _ _ _ hk ((hA.evo he').put o.dst hv) hS' (he.trans he'))
        | false =>
          rw [if_neg (by simp)]
          exact hn _ _ _ _ (h.2 rfl) (hA.put o.dst (rep_undef _ _)) hS he
    · obtain ⟨v, hy, hk⟩ := h
      rcases hy with ⟨hb, hop⟩ | ⟨hb, rfl⟩
      · rw [aWant_ok hA hb, if_pos rfl]
        refine .inl (so_op hG hA hS hop fun v' c st' w' hk' hv hS' he' => ?_)
        obtain ⟨rfl, rfl⟩ := hk'
        exact hn _ _ _ _ hk ((hA.evo he').put o.dst hv) hS' (he.trans he')
      · rw [aWant_ok hA hb, if_neg (by simp)]
        exact hn _ _ _ _ hk (hA.put o.dst (rep_undef _ _)) hS he
theorem so_nAny (hG : Good P T M) (K : Exit → KA) (st0 : St) (w0 : World) : ∀ (fuel : Nat) (listed : Array Bool) (A : List AV) (a : Act) (st : St) (w : World), RelA w st A a → RelS st w → Evo st0 w0 st w →
    nAny P T M ops eff (fun A' st' => K .normal A' st') fuel listed A st → wpAny P .any ops (Lift K st0 w0) fuel listed a w
  | 0, listed, A, a, st, w, hA, hS, he, h => ⟨h.1, A, st, h.2, hA, hS, he⟩
  | fuel + 1, listed, A, a, st, w, hA, hS, he, h => ⟨fun h0 => ⟨A, st, h.1 h0, hA, hS, he⟩, fun i hi => so_nOp hG hA hS he (h.2 i hi) fun A' st' a' w' hk hA' hS' he' => so_nAny hG K st0 w0 fuel _ A' a' st' w' hA' hS' he' hk⟩
theorem Yq.put {o oj : Oper} {v u : AV} {A : List AV} {st : St} (h : Yq P T M ops o v A st) (hne : ∀ d, oj.dst = some d → d ∉ o.looksAt ops) : Yq P T M ops o v (putA A oj.dst u) st := by
  unfold Yq at *
  rw [aWant_put o A oj.dst u hne, aOp_put o A oj.dst u hne]; exact h
/-- An operation that keeps a class of stores, whatever follows. -/
def Keeps (P : Program) (T : Tab) (M : MTab) (ops : Array Oper) (eff : Nat → Bool) (C : St → Prop) (j : Nat) : Prop :=
  ∀ K A st, C st → nOp P T M ops eff j K A st → nOp P T M ops eff j (fun A' st' => K A' st' ∧ C st') A st
theorem nOp_mono {i : Nat} {K K' : KA} {A : List AV} {st : St} (hq : eff i = false) (h : ∀ A st, K A st → K' A st) (hh : nOp P T M ops eff i K A st) : nOp P T M ops eff i K' A st := by
  unfold nOp at *
  rw [hq] at hh ⊢
  split
  · rename_i ho; simp only [ho] at hh; exact h _ _ hh
  · rename_i o ho
    simp only [ho, Bool.false_eq_true, if_false] at hh ⊢
    obtain ⟨v, hy, hk⟩ := hh
    exact ⟨v, hy, h _ _ hk⟩
theorem keeps_quiet {C : St → Prop} {j : Nat} (hq : eff j = false) : Keeps P T M ops eff C j := fun K A st hC h => by
  unfold nOp at *
  rw [hq] at h ⊢
  split
  · rename_i ho; simp only [ho] at h; exact ⟨h, hC⟩
  · rename_i o ho
    simp only [ho, Bool.false_eq_true, if_false] at h ⊢
    obtain ⟨v, hy, hk⟩ := h
    exact ⟨v, hy, hk, hC⟩
end
theorem pick_mono {r : TRow} {cs : List AV} {o : Nat} {k k' : AV → Prop} (hk : ∀ v, k v → k' v) (h : pick r cs o k) : pick r cs o k' := by
  unfold pick at *
  split at h
  · exact ⟨h.1, hk _ h.2⟩
  · split at h
    · exact hk _ h
    · exact h.elim
theorem aLoad_mono {T : Tab} {t : TypeId} {p : AV} {st : St} {k k' : KK} (hk : ∀ v, k v st → k' v st) (h : aLoad T t p st k) : aLoad T t p st k' := by
  unfold aLoad at *
  split at h
  · exact h.elim
  · split at h
    · exact pick_mono hk h
    · split at h
      · exact ⟨h.1, h.2.1, pick_mono hk h.2.2⟩
      · exact h.elim
    · exact h.elim
theorem aCallF_mono {P : Program} {f : FuncId} {args : List AV} {st : St} {k k' : KK} (hk : ∀ v st, k v st → k' v st) (h : aCallF P f args st k) : aCallF P f args st k' := by
  obtain ⟨a, s, h1, h2⟩ := h
  exact ⟨a, s, h1, h2.mono hk⟩
theorem aOp_mono {P : Program} {T : Tab} {M : MTab} {o : Oper} {A : List AV} {st : St} {k k' : KK} (hk : ∀ v st, k v st → k' v st) (h : aOp P T M o A st k) : aOp P T M o A st k' := by
  unfold aOp at *
  split at h
  · exact hk _ _ h
  · exact hk _ _ h
  · split at h
    · exact ⟨fun e => hk _ _ (h.1 e), fun e => hk _ _ (h.2 e)⟩
    · exact h.elim
  · split at h
    · exact hk _ _ h
    · exact h.elim
  · split at h
    · exact hk _ _ h
    · exact h.elim
  · exact aLoad_mono (fun v => hk v st) h
  · refine ⟨h.1, ?_⟩
    have h := h.2
    unfold aStore at *
    split at h
    · exact h.elim
    · split at h
      · split at h
        · obtain ⟨h1, h2, h3, h4, h5, h6⟩ := h
          exact ⟨h1, h2, h3, h4, h5, hk _ _ h6⟩
        · exact h.elim
      · exact h.elim
  · split at h
    · exact ⟨h.1, h.2.1, h.2.2.imp (hk _ _) fun h b hb => hk _ _ (h b hb)⟩
    · exact h.elim
  · exact ⟨h.1, h.2.1, h.2.2.imp (hk _ _) fun h b hb => hk _ _ (h b hb)⟩
  · unfold aBuild at *
    split at h
    · exact h.elim
    · split at h
      · split at h
        · exact h.elim
        · split at h
          · exact hk _ _ h
          · exact h.elim
      · split at h
        · exact h.elim
        · split at h
          · exact hk _ _ h
          · exact h.elim
      · exact h.elim
  · split at h
    · unfold aRow0 at *
      split at h
      · exact h.elim
      · split at h
        · split at h
          · exact h.elim
          · split at h
            · exact hk _ _ h
            · exact h.elim
        · exact h.elim
    unfold aBuildSlice at *
    split at h
    · exact h.elim
    · split at h
      · split at h
        · exact h.elim
        · obtain ⟨h1, h2, h3, h4, h⟩ := h
          refine ⟨h1, h2, h3, h4, ?_⟩
          split at h
          · exact ⟨h.1, h.2.imp (hk _ _) fun h b hb => hk _ _ (h b hb)⟩
          · exact h.elim
      · exact h.elim
  · exact ⟨h.1, hk _ _ h.2⟩
  · split at h
    · exact hk _ _ h
    · exact h.elim
  · exact ⟨h.1, hk _ _ h.2⟩
  · exact hk _ _ h
  · unfold aMake at *
    split at h
    · exact h.elim
    · split at h
      · split at h
        · exact h.elim
        · split at h
          · obtain ⟨h1, h2, h3, h4, h5, h6, h7⟩ := h
            exact ⟨h1, h2, h3, h4, h5, h6, fun b hb => hk _ _ (h7 b hb)⟩
          · exact h.elim
      · exact h.elim
  · unfold aSlice at *
    split at h
    · exact h.elim
    · split at h
      · split at h
        · exact h.elim
        · split at h
          · exact ⟨h.1, h.2.1, h.2.2.1, h.2.2.2.1, hk _ _ h.2.2.2.2⟩
          · split at h
            · split at h
              · exact ⟨h.1, h.2.1, hk _ _ h.2.2⟩
              · exact h.elim
            · split at h
              · exact ⟨h.1, h.2.1, h.2.2.1, hk _ _ h.2.2.2⟩
              · exact h.elim
            · split at h
              · exact ⟨h.1, h.2.1, hk _ _ h.2.2⟩
              · exact h.elim
            · exact h.elim
      · split at h
        · split at h
          · exact ⟨h.1, hk _ _ h.2⟩
          · exact h.elim
        · exact h.elim
      · exact h.elim
  · unfold aFieldAddr at *
    split at h
    · exact h.elim
    · split at h
      · split at h
        · exact h.elim
        · split at h
          · exact h.elim
          · refine ⟨h.1, ?_⟩
            have h := h.2
            split at h
            · exact hk _ _ h
            · exact hk _ _ h
            · exact h.elim
      · exact h.elim
  · unfold aField at *
    split at h
    · exact h.elim
    · split at h
      · split at h
        · exact h.elim
        · split at h
          · exact h.elim
          · split at h
            · exact pick_mono (fun v => hk v st) h
            · exact h.elim
      · exact h.elim
  · unfold aIndexAddr at *
    split at h
    · exact h.elim
    · split at h
      · split at h
        · exact h.elim
        · split at h
          · split at h
            · exact ⟨h.1, h.2.1, hk _ _ h.2.2⟩
            · exact ⟨h.1, h.2.1, hk _ _ h.2.2⟩
            · exact h.elim
          · exact h.elim
      · split at h
        · exact h.elim
        · split at h
          · refine ⟨h.1, ?_⟩
            have h := h.2
            split at h
            · exact hk _ _ h
            · exact hk _ _ h
            · exact h.elim
          · exact h.elim
      · exact h.elim
  · unfold aIndex at *
    split at h
    · exact h.elim
    · split at h
      · exact ⟨h.1, hk _ _ h.2⟩
      · exact h.elim
  · split at h
    · exact hk _ _ h
    · exact h.elim
  · unfold aExtract at *
    split at h
    · split at h
      · exact hk _ _ h
      · exact h.elim
    · exact h.elim
  · split at h
    · unfold aBuiltin at *
      split at h
      · split at h
        · split at h
          · split at h
            · exact hk _ _ h
            · exact h.elim
          · exact h.elim
        · exact h.elim
      · split at h
        · split at h
          · exact hk _ _ h
          · exact h.elim
        · exact h.elim
      · split at h
        · split at h
          · exact hk _ _ h
          · exact h.elim
        · exact h.elim
      · split at h
        · refine ⟨h.1, ?_⟩
          have h := h.2
          unfold aAppend at *
          split at h
          · exact h.elim
          · split at h
            · split at h
              · exact h.elim
              · obtain ⟨h1, h2, h3, h⟩ := h
                refine ⟨h1, h2, h3, ?_⟩
                split at h
                · exact h.elim
                · split at h
                  · exact ⟨fun e => hk _ _ (h.1 e), fun e => ⟨(h.2 e).1, fun b hb => hk _ _ ((h.2 e).2 b hb)⟩⟩
                  · obtain ⟨h4, h5, h⟩ := h
                    refine ⟨h4, h5, ?_⟩
                    split at h
                    · obtain ⟨h6, h7, h8, h9, h10⟩ := h
                      exact ⟨h6, h7, h8, fun e => hk _ _ (h9 e), fun e => ⟨(h10 e).1, fun b hb => hk _ _ ((h10 e).2 b hb)⟩⟩
                    · exact h.elim
                  · exact h.elim
            · exact h.elim
        · exact h.elim
      · exact h.elim
    · unfold aInvoke at *
      split at h
      · split at h
        · exact aCallF_mono hk h
        · exact aLoad_mono (fun v h => aCallF_mono hk h) h
        · exact h.elim
      · exact h.elim
    · split at h
      · exact aCallF_mono hk h
      · exact h.elim
  · exact h.elim
section
variable {P : Program} {T : Tab} {M : MTab} {ops : Array Oper} {eff : Nat → Bool}
theorem nOp_mono' {i : Nat} {K K' : KA} {A : List AV} {st : St} (h : ∀ A st, K A st → K' A st) (hh : nOp P T M ops eff i K A st) : nOp P T M ops eff i K' A st := by
  unfold nOp at *
  split at hh
  · exact h _ _ hh
  · split at hh
    · rename_i he
      rw [if_pos he]
      split at hh
      · exact hh.elim
      · exact ⟨fun e => aOp_mono (fun v st => h _ _) (hh.1 e), fun e => h _ _ (hh.2 e)⟩
    · rename_i he
      rw [if_neg he]
      obtain ⟨v, hy, hk⟩ := hh
      exact ⟨v, hy, h _ _ hk⟩
theorem nOp_put {j : Nat} {oi oj : Oper} {v : AV} {C : St → Prop} (hj : ops[j]? = some oj) (hap : oi.apart ops oj = true) {K : KA} {A : List AV} {st : St}
    (hy : ∀ st', C st' → Yq P T M ops oi v A st') (h : nOp P T M ops eff j K (putA A oi.dst v) st) :
    nOp P T M ops eff j (fun A' st' => (∀ st'', C st'' → Yq P T M ops oi v A' st'') ∧ K (putA A' oi.dst v) st') A st := by
  obtain ⟨h1, h2, h3⟩ := Oper.apart_spec hap
  unfold nOp at *
  simp only [hj] at h ⊢
  rw [aWant_put oj A oi.dst v h1] at h
  split at h
  · rename_i he
    rw [if_pos he]
    split at h
    · exact h.elim
    · rename_i b hb
      refine ⟨fun e => ?_, fun e => ⟨fun st'' hc => (hy st'' hc).put h3, by rw [putA_comm A (.tuple []) v (fun d hd he => h2 d he hd)]; exact h.2 e⟩⟩
      have h4 := h.1 e
      rw [aOp_put oj A oi.dst v h1] at h4
      exact aOp_mono (fun u st' hk => ⟨fun st'' hc => (hy st'' hc).put h3, by rw [putA_comm A u v (fun d hd he => h2 d he hd)]; exact hk⟩) h4
  · rename_i he
    rw [if_neg he]
    obtain ⟨u, hyu, hk⟩ := h
    refine ⟨u, ?_, fun st'' hc => (hy st'' hc).put h3, by rw [putA_comm A u v (fun d hd he => h2 d he hd)]; exact hk⟩
    unfold Yq at *
    rw [aWant_put oj A oi.dst v h1, aOp_put oj A oi.dst v h1] at hyu
    exact hyu
theorem nOp_of_Yq {i : Nat} {oi : Oper} {v : AV} {K : KA} {A : List AV} {st : St} (hi : ops[i]? = some oi) (hy : Yq P T M ops oi v A st) (hk : K (putA A oi.dst v) st) : nOp P T M ops eff i K A st := by
  unfold nOp
  rw [hi]
  simp only
  split
  · rcases hy with ⟨h1, h2⟩ | ⟨h1, rfl⟩
    · rw [h1]; exact ⟨fun _ => aOp_mono (fun v' st' ⟨e1, e2⟩ => by rw [e1, e2]; exact hk) h2, fun e => (by cases e)⟩
    · rw [h1]; exact ⟨fun e => (by cases e), fun _ => hk⟩
  · exact ⟨v, hy, hk⟩
theorem nAny_first {Q : KA} {C : St → Prop} {i : Nat} {oi : Oper} {v : AV} (hi : ops[i]? = some oi) (Wt : Nat → Prop)
    (hW : ∀ j, Wt j → ∃ oj, ops[j]? = some oj ∧ ∃ e ∈ oj.after, Region.binds .any e = true ∧ (e.on = i ∨ Wt e.on)) (base : Array Bool) (hkeep : ∀ j, j ≠ i → ¬ Wt j → base.getD j true = false → Keeps P T M ops eff C j) :
    ∀ (fuel : Nat) (listed : Array Bool) (A : List AV) (st : St), (∀ k, listed.getD k true = false → base.getD k true = false) →
      (∀ j oj, ops[j]? = some oj → j ≠ i → listed.getD j true = false → (∀ e ∈ oj.after, Region.binds .any e = true → e.on ≠ i) → oi.apart ops oj = true) →
      (∀ j, Wt j → listed.getD j false = false) →
      i ∈ Region.ready .any ops listed → C st → (∀ st', C st' → Yq P T M ops oi v A st') →
      nAny P T M ops eff Q fuel (listed.setIfInBounds i true) (putA A oi.dst v) st → nAny P T M ops eff Q (fuel + 1) listed A st := by
  intro fuel
  induction fuel with
  | zero =>
    intro listed A st _ _ hWl hr hC hy H
    refine ⟨fun h => (by rw [h] at hr; cases hr), fun j hj => ?_⟩
    by_cases hji : j = i
    · subst hji
      exact nOp_of_Yq hi (hy st hC) H
    · have := ready_mono hj hji
      rw [H.1] at this
      cases this
  | succ fuel ih =>
    intro listed A st hbase hfree hWl hr hC hy H
    refine ⟨fun h => (by rw [h] at hr; cases hr), fun j hj => ?_⟩
    by_cases hji : j = i
    · subst hji
      exact nOp_of_Yq hi (hy st hC) H
    · have h1 := H.2 j (ready_mono hj hji)
      obtain ⟨hjun, oj, hoj, hall⟩ := mem_ready.1 hj
      have hiun := (mem_ready.1 hr).1
      have hii : listed.getD i false = false := by
        rcases Nat.lt_or_ge i listed.size with h' | h'
        · simp [h'] at hiun ⊢; exact hiun
        · simp [Array.getElem?_eq_none h']
      have hnot : ∀ e ∈ oj.after, Region.binds .any e = true → e.on ≠ i := fun e he hb heq => by
        have h1 := hall e he hb
        rw [heq, hii] at h1
        cases h1
      have hnW : ¬ Wt j := fun hw => by
        obtain ⟨oj', hoj', e, he, hb, hon⟩ := hW j hw
        rw [hoj] at hoj'
        cases hoj'
        have h2 := hall e he hb
        rcases hon with hon | hon
        · rw [hon, hii] at h2; cases h2
        · rw [hWl _ hon] at h2; cases h2
      have h2 := hkeep j hji hnW (hbase j hjun) _ _ _ hC (nOp_put hoj (hfree j oj hoj hji hjun hnot) hy h1)
      have hfree' : ∀ k ok, ops[k]? = some ok → k ≠ i → (listed.setIfInBounds j true).getD k true = false →
          (∀ e ∈ ok.after, Region.binds .any e = true → e.on ≠ i) → oi.apart ops ok = true := fun k ok hk hki hun hno => by
        refine hfree k ok hk hki ?_ hno
        by_cases hjk : j = k
        · subst hjk; exact hjun
        · rw [getD_set_ne true hjk] at hun; exact hun
      have hWl' : ∀ k, Wt k → (listed.setIfInBounds j true).getD k false = false := fun k hk => by
        rw [getD_set_ne false (fun (e : j = k) => hnW (by rw [e]; exact hk))]; exact hWl k hk
      refine nOp_mono' (fun A' st' h3 => ih (listed.setIfInBounds j true) A' st' (fun k hk => hbase k (by
        by_cases hjk : j = k
        · subst hjk; exact hjun
        · rw [getD_set_ne true hjk] at hk; exact hk)) hfree' hWl' (ready_mono hr (Ne.symm hji)) h3.2 h3.1.1 ?_) h2
      rw [Array.setIfInBounds_comm _ _ hji]
      exact h3.1.2
end

/-! ### The rule -/
def isPure : Op → Bool
  | .move _ | .assign _ | .pick .. | .binOp .. | .unOp .. | .convert .. | .makeInterface .. | .makeFunc .. | .fieldAddr .. | .field .. | .indexAddr .. | .index .. | .extract .. | .typeAssert .. | .nilCheck _ | .build .. | .slice .. => true
  | .call c => match c.callee with | .builtin b => (match b with | .len | .min | .max => true | _ => false) | _ => false
  | _ => false
def isNew : Op → Bool
  | .alloc _ | .box .. | .makeSlice .. => true
  | _ => false
theorem pure_any {P : Program} {T : Tab} {M : MTab} {o : Oper} (hp : isPure o.op = true) {A : List AV} {st st' : St} {v : AV} (h : aOp P T M o A st fun v' s => v' = v ∧ s = st) : aOp P T M o A st' fun v' s => v' = v ∧ s = st' := by
  obtain ⟨dst, op, type, pos, after, guard⟩ := o
  cases op <;> simp only [isPure, Bool.false_eq_true] at hp <;> simp only [aOp, and_true] at h ⊢ <;> try exact h
  case call c =>
    obtain ⟨callee, args, ts⟩ := c
    cases callee <;> simp only [Bool.false_eq_true] at hp
    rename_i b
    cases b <;> simp only [Bool.false_eq_true] at hp <;> simp only [aBuiltin, and_true] at h ⊢ <;> exact h
def waitsB (ops : Array Oper) (i : Nat) : Nat → Nat → Bool
  | 0, _ => false
  | n + 1, j => match ops[j]? with
    | none => false
    | some o => o.after.any fun e => Region.binds .any e && (e.on == i || waitsB ops i n e.on)
theorem waitsB_mono {ops : Array Oper} {i : Nat} : ∀ (n j : Nat), waitsB ops i n j = true → waitsB ops i (n + 1) j = true
  | 0, j, h => by simp [waitsB] at h
  | n + 1, j, h => by
    unfold waitsB at h ⊢
    split at h
    · cases h
    · rename_i o ho
      obtain ⟨e, he, hb⟩ := Array.any_eq_true'.1 h
      refine Array.any_eq_true'.2 ⟨e, he, ?_⟩
      simp only [Bool.and_eq_true, Bool.or_eq_true] at hb ⊢
      exact ⟨hb.1, hb.2.imp id (waitsB_mono n e.on)⟩
theorem waitsB_step {ops : Array Oper} {i n j : Nat} (h : waitsB ops i n j = true) : ∃ oj, ops[j]? = some oj ∧ ∃ e ∈ oj.after, Region.binds .any e = true ∧ (e.on = i ∨ waitsB ops i n e.on = true) := by
  cases n with
  | zero => simp [waitsB] at h
  | succ n =>
    unfold waitsB at h
    split at h
    · cases h
    · rename_i o ho
      obtain ⟨e, he, hb⟩ := Array.any_eq_true'.1 h
      simp only [Bool.and_eq_true, Bool.or_eq_true, beq_iff_eq] at hb
      exact ⟨o, ho, e, he, hb.1, hb.2.imp id (waitsB_mono n e.on)⟩
/-- Waits, straight or by way of an operation that turns something. -/
def waitsC (ops : Array Oper) (eff : List Nat) (i j : Nat) : Bool := waitsB ops i 4 j || eff.any fun m => waitsB ops i 4 m && waitsB ops m 4 j
theorem waitsC_step {ops : Array Oper} {eff : List Nat} {i j : Nat} (h : waitsC ops eff i j = true) : ∃ oj, ops[j]? = some oj ∧ ∃ e ∈ oj.after, Region.binds .any e = true ∧ (e.on = i ∨ waitsC ops eff i e.on = true) := by
  unfold waitsC at h
  rw [Bool.or_eq_true, List.any_eq_true] at h
  rcases h with h | ⟨m, hm, h⟩
  · obtain ⟨oj, h1, e, h2, h3, h4⟩ := waitsB_step h
    exact ⟨oj, h1, e, h2, h3, h4.imp id fun h => by unfold waitsC; rw [h]; rfl⟩
  · rw [Bool.and_eq_true] at h
    obtain ⟨oj, h1, e, h2, h3, h4⟩ := waitsB_step h.2
    refine ⟨oj, h1, e, h2, h3, .inr ?_⟩
    unfold waitsC
    rw [Bool.or_eq_true, List.any_eq_true]
    rcases h4 with h4 | h4
    · exact .inl (by rw [h4]; exact h.1)
    · exact .inr ⟨m, hm, by rw [Bool.and_eq_true]; exact ⟨h.1, h4⟩⟩
/-- The order in which a region is walked serves every order. -/
def ordOk (ops : Array Oper) (eff ext : List Nat) : List Nat → Array Bool → Bool
  | [], listed => (Region.ready .any ops listed).isEmpty
  | i :: ord, listed => (match ops[i]? with
      | none => false
      | some o =>
        if eff.contains i then Region.ready .any ops listed == [i]
        else (Region.ready .any ops listed).contains i && Region.free .any ops listed i &&
          (isPure o.op || eff.all fun j => listed.getD j true || waitsC ops eff i j || (ext.contains i && ((ops[j]?).map (isNew ·.op)).getD false))) &&
      ordOk ops eff ext ord (listed.setIfInBounds i true)
def dRun (P : Program) (T : Tab) (M : MTab) (ops : List Oper) (eff ext : List Nat) : List Nat → List AV → St → KA → Prop
  | [], A, st, k => k A st
  | i :: ord, A, st, k => match ops[i]? with
    | none => False
    | some o => match aWant ops o A with
      | none => False
      | some b => (b = true → match eff.contains i with
            | true => aOp P T M o A st fun v st' => dRun P T M ops eff ext ord (putA A o.dst v) st' k
            | false => ∃ v, (match ext.contains i with
                | true => ∀ st', Ext st st' → aOp P T M o A st' fun v' st'' => v' = v ∧ st'' = st'
                | false => aOp P T M o A st fun v' st'' => v' = v ∧ st'' = st) ∧ dRun P T M ops eff ext ord (putA A o.dst v) st k) ∧
          (b = false → dRun P T M ops eff ext ord (putA A o.dst (.tuple [])) st k)
/-- An order that forks: 'gen' does the one operation that is ready, 'qui' one that turns nothing, 'two' tries two both ways. -/
inductive OT where
  | done
  | gen (i : Nat) (t : OT)
  | qui (i : Nat) (t : OT)
  | two (i j : Nat) (t u : OT)
def okT (ops : Array Oper) (eff : List Nat) : OT → Nat → Array Bool → Bool
  | .done, n, listed => n == 0 && (Region.ready .any ops listed).isEmpty
  | .gen i t, n, listed => eff.contains i && (Region.ready .any ops listed == [i]) && Nat.blt 0 n && okT ops eff t (n - 1) (listed.setIfInBounds i true)
  | .qui i t, n, listed => (match ops[i]? with
      | none => false
      | some o => (Region.ready .any ops listed).contains i && Region.free .any ops listed i &&
          (isPure o.op || eff.all fun j => listed.getD j true || (j == i || waitsC ops eff i j))) && Nat.blt 0 n && okT ops eff t (n - 1) (listed.setIfInBounds i true)
  | .two i j t u, n, listed => eff.contains i && eff.contains j && (Region.ready .any ops listed == [i, j]) && Nat.blt 0 n && okT ops eff t (n - 1) (listed.setIfInBounds i true) && okT ops eff u (n - 1) (listed.setIfInBounds j true)
def dGen (P : Program) (T : Tab) (M : MTab) (ops : List Oper) (i : Nat) (K : KA) (A : List AV) (st : St) : Prop :=
  match ops[i]? with
  | none => False
  | some o => match aWant ops o A with
    | none => False
    | some b => (b = true → aOp P T M o A st fun v st' => K (putA A o.dst v) st') ∧ (b = false → K (putA A o.dst (.tuple [])) st)
def dQui (P : Program) (T : Tab) (M : MTab) (ops : List Oper) (i : Nat) (K : KA) (A : List AV) (st : St) : Prop :=
  match ops[i]? with
  | none => False
  | some o => match aWant ops o A with
    | none => False
    | some b => (b = true → ∃ v, (aOp P T M o A st fun v' st'' => v' = v ∧ st'' = st) ∧ K (putA A o.dst v) st) ∧ (b = false → K (putA A o.dst (.tuple [])) st)
def dRunT (P : Program) (T : Tab) (M : MTab) (ops : List Oper) : OT → List AV → St → KA → Prop
  | .done, A, st, k => k A st
  | .gen i t, A, st, k => dGen P T M ops i (fun A' st' => dRunT P T M ops t A' st' k) A st
  | .qui i t, A, st, k => dQui P T M ops i (fun A' st' => dRunT P T M ops t A' st' k) A st
  | .two i j t u, A, st, k => dGen P T M ops i (fun A' st' => dRunT P T M ops t A' st' k) A st ∧ dGen P T M ops j (fun A' st' => dRunT P T M ops u A' st' k) A st
def Dr (P : Program) (T : Tab) (M : MTab) (ops : List Oper) (A : List AV) (st : St) (k : KA) : Prop :=
  ∃ eff ext ord : List Nat, match ord with
    | [] => ∃ t : OT, (Region.noSelect ops.toArray && okT ops.toArray eff t ops.length (Array.replicate ops.length false)) = true ∧ dRunT P T M ops t A st k
    | _ :: _ => (Region.noSelect ops.toArray && ordOk ops.toArray eff ext ord (Array.replicate ops.length false) && (ord.length == ops.length)) = true ∧ dRun P T M ops eff ext ord A st k
section
variable {P : Program} {T : Tab} {M : MTab} {ops : Array Oper}
theorem keeps_new {eff : Nat → Bool} {st0 : St} {j : Nat} {oj : Oper} (hj : ops[j]? = some oj) (hn : isNew oj.op = true) : Keeps P T M ops eff (Ext st0) j := fun K A st hC h => by
  have hext : ∀ b x, st b = none → Ext st0 (upd st b x) := fun b x hb c y hc => by
    unfold upd
    split
    · rename_i e; subst e; rw [hC _ _ hc] at hb; cases hb
    · exact hC _ _ hc
  by_cases he : eff j = true
  · unfold nOp at h ⊢
    simp only [hj, he, if_true] at h ⊢
    split at h
    · exact h.elim
    · refine ⟨fun e => ?_, fun e => ⟨h.2 e, hC⟩⟩
      have h1 := h.1 e
      unfold aOp at h1 ⊢
      split at h1
      case h_8 =>
        split at h1
        · exact ⟨h1.1, h1.2.1, h1.2.2.imp (fun h => ⟨h, hC⟩) fun h b hb => ⟨h b hb, hext _ _ hb⟩⟩
        · exact h1.elim
      case h_9 => exact ⟨h1.1, h1.2.1, h1.2.2.imp (fun h => ⟨h, hC⟩) fun h b hb => ⟨h b hb, hext _ _ hb⟩⟩
      all_goals first | exact h1.elim | (rename_i ho; rw [ho] at hn; simp [isNew] at hn; done) | (
        unfold aMake at h1 ⊢
        split at h1
        · exact h1.elim
        · split at h1
          · split at h1
            · exact h1.elim
            · split at h1
              · exact ⟨h1.1, h1.2.1, h1.2.2.1, h1.2.2.2.1, h1.2.2.2.2.1, h1.2.2.2.2.2.1, fun b hb => ⟨h1.2.2.2.2.2.2 b hb, hext _ _ hb⟩⟩
              · exact h1.elim
          · exact h1.elim)
  · exact keeps_quiet (by simpa using he) K A st hC h
/-- What is listed has all listed that it waits for. -/
def Down (ops : Array Oper) (listed : Array Bool) : Prop := ∀ j o, listed.getD j false = true → ops[j]? = some o → ∀ e ∈ o.after, Region.binds .any e = true → listed.getD e.on false = true
theorem Down.set {listed : Array Bool} (h : Down ops listed) {i : Nat} (hr : i ∈ Region.ready .any ops listed) : Down ops (listed.setIfInBounds i true) := fun j o hj ho e he hb => by
  by_cases hij : i = j
  · subst hij
    obtain ⟨_, o', ho', hall⟩ := mem_ready.1 hr
    rw [ho] at ho'
    cases ho'
    exact getD_set_true (hall e he hb)
  · rw [getD_set_ne false hij] at hj
    exact getD_set_true (h j o hj ho e he hb)
theorem Down.waits {listed : Array Bool} (h : Down ops listed) {i : Nat} (hi : listed.getD i false = false) : ∀ (n j : Nat), waitsB ops i n j = true → listed.getD j false = false
  | 0, j, hw => by simp [waitsB] at hw
  | n + 1, j, hw => by
    unfold waitsB at hw
    split at hw
    · cases hw
    · rename_i o ho
      obtain ⟨e, he, hb⟩ := Array.any_eq_true'.1 hw
      simp only [Bool.and_eq_true, Bool.or_eq_true, beq_iff_eq] at hb
      cases hl : listed.getD j false with
      | false => rfl
      | true =>
        have h1 := h j o hl ho e he hb.1
        rcases hb.2 with h2 | h2
        · rw [h2, hi] at h1; cases h1
        · rw [h.waits hi n e.on h2] at h1; cases h1
theorem Down.waitsC {listed : Array Bool} (h : Down ops listed) {eff : List Nat} {i j : Nat} (hi : listed.getD i false = false) (hw : waitsC ops eff i j = true) : listed.getD j false = false := by
  unfold Go.Ab.waitsC at hw
  rw [Bool.or_eq_true, List.any_eq_true] at hw
  rcases hw with hw | ⟨m, _, hw⟩
  · exact h.waits hi 4 j hw
  · rw [Bool.and_eq_true] at hw
    exact h.waits (h.waits hi 4 m hw.1) 4 j hw.2
theorem getD_false_of_true {listed : Array Bool} {i : Nat} (h : listed.getD i true = false) : listed.getD i false = false := by
  rcases Nat.lt_or_ge i listed.size with h' | h'
  · simp [h'] at h ⊢; exact h
  · simp [Array.getElem?_eq_none h']
theorem dRun_any {eff ext : List Nat} {Q : KA} (hs : Region.noSelect ops = true) : ∀ (ord : List Nat) (listed : Array Bool) (A : List AV) (st : St), Down ops listed → ordOk ops eff ext ord listed = true → dRun P T M ops.toList eff ext ord A st Q →
    nAny P T M ops (fun j => eff.contains j) Q ord.length listed A st
  | [], listed, A, st, hD, hO, h => ⟨by simpa [ordOk] using hO, h⟩
  | i :: ord, listed, A, st, hD, hO, h => by
    unfold ordOk at hO
    simp only [Bool.and_eq_true] at hO
    obtain ⟨hO, hO'⟩ := hO
    unfold dRun at h
    rw [Array.getElem?_toList] at h
    cases ho : ops[i]? with
    | none => rw [ho] at hO; cases hO
    | some o =>
      rw [ho] at hO h
      simp only at hO h
      split at h
      · exact h.elim
      rename_i b hb
      cases hc : eff.contains i with
      | true =>
        rw [hc] at hO h
        simp only [if_true, beq_iff_eq] at hO
        have hr : i ∈ Region.ready .any ops listed := by rw [hO]; simp
        have ih := fun A' st' hh => dRun_any (eff := eff) (ext := ext) (Q := Q) hs ord (listed.setIfInBounds i true) A' st' (hD.set hr) hO' hh
        refine ⟨fun h0 => (by rw [hO] at h0; cases h0), fun j hj => ?_⟩
        rw [hO] at hj
        simp only [List.mem_singleton] at hj
        subst hj
        unfold nOp
        simp only [ho, hc, if_true, hb]
        exact ⟨fun e => aOp_mono (fun v st' hk => ih _ _ hk) (h.1 e), fun e => ih _ _ (h.2 e)⟩
      | false =>
        rw [hc] at hO h
        simp only [Bool.false_eq_true, if_false, Bool.and_eq_true] at hO
        obtain ⟨⟨hr, hf⟩, hcls⟩ := hO
        have hr' : i ∈ Region.ready .any ops listed := by simpa using hr
        have ih := fun A' st' hh => dRun_any (eff := eff) (ext := ext) (Q := Q) hs ord (listed.setIfInBounds i true) A' st' (hD.set hr') hO' hh
        have hiun := getD_false_of_true (mem_ready.1 hr').1
        have hfree := Region.free_spec ho hf
        -- one value
        suffices hmain : ∃ (v : AV) (C : St → Prop), C st ∧ (∀ st', C st' → Yq P T M ops o v A st') ∧ (∀ j, j ≠ i → ¬ waitsC ops eff i j = true → listed.getD j true = false → Keeps P T M ops (fun j => eff.contains j) C j) ∧ dRun P T M ops.toList eff ext ord (putA A o.dst v) st Q by
          obtain ⟨v, C, h1, h2, h3, h4⟩ := hmain
          exact nAny_first (eff := fun j => eff.contains j) ho (fun j => waitsC ops eff i j = true) (fun j hj => waitsC_step hj) listed h3 ord.length listed A st (fun k hk => hk) hfree (fun j hj => hD.waitsC hiun hj) hr' h1 h2 (ih _ _ h4)
        have htrue : ∀ j, Keeps P T M ops (fun j => eff.contains j) (fun _ => True) j := fun j K A st _ hh => nOp_mono' (fun _ _ hk => ⟨hk, trivial⟩) hh
        cases b with
        | false => exact ⟨.tuple [], fun _ => True, trivial, fun st' _ => .inr ⟨hb, rfl⟩, fun j _ _ _ => htrue j, h.2 rfl⟩
        | true =>
          obtain ⟨v, hv, hrest⟩ := h.1 rfl
          by_cases hp : isPure o.op = true
          · refine ⟨v, fun _ => True, trivial, fun st' _ => .inl ⟨hb, ?_⟩, fun j _ _ _ => htrue j, hrest⟩
            have hst : aOp P T M o A st fun v' s => v' = v ∧ s = st := by
              split at hv
              · exact hv st (Ext.refl st)
              · exact hv
            exact pure_any hp hst
          · have hcls' : ∀ j, eff.contains j = true → listed.getD j true = false → ¬ waitsC ops eff i j = true → ext.contains i = true ∧ ∃ oj, ops[j]? = some oj ∧ isNew oj.op = true := fun j hj hjl hjw => by
              simp only [hp, Bool.false_or, List.all_eq_true] at hcls
              have := hcls j (by simpa using hj)
              simp only [hjl, Bool.false_or, Bool.or_eq_true, Bool.and_eq_true] at this
              rcases this with h5 | h5
              · exact absurd h5 hjw
              · refine ⟨h5.1, ?_⟩
                cases hoj : ops[j]? with
                | none => rw [hoj] at h5; simp at h5
                | some oj => rw [hoj] at h5; exact ⟨oj, rfl, by simpa using h5.2⟩
            cases hx : ext.contains i with
            | true =>
              rw [hx] at hv
              refine ⟨v, Ext st, Ext.refl st, fun st' hst' => .inl ⟨hb, hv st' hst'⟩, fun j hji hjw hjl => ?_, hrest⟩
              by_cases hej : eff.contains j = true
              · obtain ⟨_, oj, hoj, hnew⟩ := hcls' j hej hjl hjw
                exact keeps_new hoj hnew
              · exact keeps_quiet (by simpa using hej)
            | false =>
              rw [hx] at hv
              refine ⟨v, fun s => s = st, rfl, fun st' hst' => .inl ⟨hb, by rw [hst']; exact hv⟩, fun j hji hjw hjl => ?_, hrest⟩
              by_cases hej : eff.contains j = true
              · obtain ⟨h6, _⟩ := hcls' j hej hjl hjw
                rw [hx] at h6; cases h6
              · exact keeps_quiet (by simpa using hej)
theorem dGen_n {eff : List Nat} {i : Nat} {K : KA} {A : List AV} {st : St} (hc : eff.contains i = true) (h : dGen P T M ops.toList i K A st) : nOp P T M ops (fun j => eff.contains j) i K A st := by
  unfold dGen at h
  rw [Array.getElem?_toList] at h
  unfold nOp
  cases ho : ops[i]? with
  | none => rw [ho] at h; exact h.elim
  | some o =>
    rw [ho] at h
    simp only [hc, if_true] at h ⊢
    split at h
    · exact h.elim
    · rename_i b hb
      exact h
theorem dRunT_any {eff : List Nat} {Q : KA} : ∀ (t : OT) (n : Nat) (listed : Array Bool) (A : List AV) (st : St), Down ops listed → okT ops eff t n listed = true → dRunT P T M ops.toList t A st Q →
    nAny P T M ops (fun j => eff.contains j) Q n listed A st
  | .done, n, listed, A, st, hD, hO, h => by
    unfold okT at hO
    simp only [Bool.and_eq_true, beq_iff_eq] at hO
    obtain ⟨rfl, hO⟩ := hO
    exact ⟨by simpa using hO, h⟩
  | .gen i t, n, listed, A, st, hD, hO, h => by
    unfold okT at hO
    simp only [Bool.and_eq_true, beq_iff_eq, Nat.blt_eq] at hO
    obtain ⟨⟨⟨hc, hr⟩, hn⟩, hO'⟩ := hO
    obtain ⟨n, rfl⟩ : ∃ m, n = m + 1 := ⟨n - 1, by omega⟩
    have hr' : i ∈ Region.ready .any ops listed := by rw [hr]; simp
    refine ⟨fun h0 => (by rw [hr] at h0; cases h0), fun j hj => ?_⟩
    rw [hr] at hj
    simp only [List.mem_singleton] at hj
    subst hj
    exact nOp_mono' (fun A' st' hk => dRunT_any t n _ A' st' (hD.set hr') hO' hk) (dGen_n hc h)
  | .two i j t u, n, listed, A, st, hD, hO, h => by
    unfold okT at hO
    simp only [Bool.and_eq_true, beq_iff_eq, Nat.blt_eq] at hO
    obtain ⟨⟨⟨⟨⟨hc1, hc2⟩, hr⟩, hn⟩, hO1⟩, hO2⟩ := hO
    obtain ⟨n, rfl⟩ : ∃ m, n = m + 1 := ⟨n - 1, by omega⟩
    have hri : i ∈ Region.ready .any ops listed := by rw [hr]; simp
    have hrj : j ∈ Region.ready .any ops listed := by rw [hr]; simp
    obtain ⟨h1, h2⟩ := h
    refine ⟨fun h0 => (by rw [hr] at h0; cases h0), fun k hk => ?_⟩
    rw [hr] at hk
    simp only [List.mem_cons, List.not_mem_nil, or_false] at hk
    rcases hk with rfl | rfl
    · exact nOp_mono' (fun A' st' hk => dRunT_any t n _ A' st' (hD.set hri) hO1 hk) (dGen_n hc1 h1)
    · exact nOp_mono' (fun A' st' hk => dRunT_any u n _ A' st' (hD.set hrj) hO2 hk) (dGen_n hc2 h2)
  | .qui i t, n, listed, A, st, hD, hO, h => by
    unfold okT at hO
    simp only [Bool.and_eq_true, Nat.blt_eq] at hO
    obtain ⟨⟨hO, hn⟩, hO'⟩ := hO
    obtain ⟨n, rfl⟩ : ∃ m, n = m + 1 := ⟨n - 1, by omega⟩
    unfold dRunT dQui at h
    rw [Array.getElem?_toList] at h
    cases ho : ops[i]? with
    | none => rw [ho] at hO; cases hO
    | some o =>
      rw [ho] at hO h
      simp only [Bool.and_eq_true] at hO h
      obtain ⟨⟨hr, hf⟩, hcls⟩ := hO
      have hr' : i ∈ Region.ready .any ops listed := by simpa using hr
      have ih := fun A' st' hh => dRunT_any (eff := eff) (Q := Q) t n (listed.setIfInBounds i true) A' st' (hD.set hr') hO' hh
      have hiun := getD_false_of_true (mem_ready.1 hr').1
      have hfree := Region.free_spec ho hf
      split at h
      · exact h.elim
      rename_i b hb
      suffices hmain : ∃ (v : AV) (C : St → Prop), C st ∧ (∀ st', C st' → Yq P T M ops o v A st') ∧ (∀ j, j ≠ i → ¬ waitsC ops eff i j = true → listed.getD j true = false → Keeps P T M ops (fun j => eff.contains j) C j) ∧ dRunT P T M ops.toList t (putA A o.dst v) st Q by
        obtain ⟨v, C, h1, h2, h3, h4⟩ := hmain
        exact nAny_first (eff := fun j => eff.contains j) ho (fun j => waitsC ops eff i j = true) (fun j hj => waitsC_step hj) listed h3 n listed A st (fun k hk => hk) hfree (fun j hj => hD.waitsC hiun hj) hr' h1 h2 (ih _ _ h4)
      have htrue : ∀ j, Keeps P T M ops (fun j => eff.contains j) (fun _ => True) j := fun j K A st _ hh => nOp_mono' (fun _ _ hk => ⟨hk, trivial⟩) hh
      cases b with
      | false => exact ⟨.tuple [], fun _ => True, trivial, fun st' _ => .inr ⟨hb, rfl⟩, fun j _ _ _ => htrue j, h.2 rfl⟩
      | true =>
        obtain ⟨v, hv, hrest⟩ := h.1 rfl
        by_cases hp : isPure o.op = true
        · exact ⟨v, fun _ => True, trivial, fun st' _ => .inl ⟨hb, pure_any hp hv⟩, fun j _ _ _ => htrue j, hrest⟩
        · refine ⟨v, fun s => s = st, rfl, fun st' hst' => .inl ⟨hb, by rw [hst']; exact hv⟩, fun j hji hjw hjl => ?_, hrest⟩
          by_cases hej : eff.contains j = true
          · exfalso
            simp only [hp, Bool.false_or, List.all_eq_true] at hcls
            have := hcls j (by simpa using hej)
            simp only [hjl, Bool.false_or, Bool.or_eq_true, beq_iff_eq] at this
            rcases this with h5 | h5
            · exact hji h5
            · exact hjw h5
          · exact keeps_quiet (by simpa using hej)
theorem dr_ok (hG : Good P T M) (hm : P.follows .mixedOrders = true) : DrOk P (Dr P T M) := fun id ops K st0 w0 A a st w hA hS he h => by
  obtain ⟨eff, ext, ord, h⟩ := h
  have hD : Down ops (Array.replicate ops.toList.length false) := fun j o hj ho => by
    simp [Array.getElem?_replicate] at hj
    split at hj <;> simp at hj
  have hany : nAny P T M ops (fun j => eff.contains j) (K .normal) ops.toList.length (Array.replicate ops.toList.length false) A st := by
    split at h
    · obtain ⟨t, hok, hrun⟩ := h
      simp only [Bool.and_eq_true] at hok
      exact dRunT_any t _ (Array.replicate ops.toList.length false) A st hD (by simpa using hok.2) hrun
    · obtain ⟨hok, hrun⟩ := h
      simp only [Bool.and_eq_true, beq_iff_eq] at hok
      obtain ⟨⟨hns, hO⟩, hlen⟩ := hok
      have := dRun_any (by simpa using hns) _ (Array.replicate ops.toList.length false) A st hD (by simpa using hO) hrun
      rw [hlen] at this; exact this
  refine wp_region_any hm ?_
  have hA' : RelA { w with drawn := w.drawn + 1 } st A a := ⟨hA.len, fun i v hv => hA.at_ i v hv, hA.defers⟩
  have hS' : RelS st { w with drawn := w.drawn + 1 } := fun b x hx => by
    obtain ⟨cs, h1⟩ := hS b x hx
    exact ⟨cs, ⟨h1.heap, h1.size, h1.len, h1.one, h1.cell⟩⟩
  have he' : Evo st0 w0 st { w with drawn := w.drawn + 1 } := ⟨he.os, he.tape, he.output, he.size, he.blk, he.szm⟩
  have := so_nAny hG K st0 w0 ops.toList.length (Array.replicate ops.toList.length false) A a st { w with drawn := w.drawn + 1 } hA' hS' he' hany
  simpa using this
end
end Go.Ab
/- The abstract machine, part 11: the same, reckoned step by step, for proofs. -/
set_option linter.unusedVariables false
set_option linter.unusedSimpArgs false
namespace Go.Ab
open Go

def getK : List AV → Nat → (AV → Prop) → Prop
  | [], _, k => k .junk
  | a :: _, 0, k => k a
  | _ :: xs, n + 1, k => getK xs n k
def setN : List AV → Nat → AV → (List AV → Prop) → Prop
  | [], _, _, k => k []
  | _ :: xs, 0, v, k => k (v :: xs)
  | a :: xs, n + 1, v, k => setN xs n v fun xs' => k (a :: xs')
def setK (A : List AV) (d : Option Tmp) (v : AV) (k : List AV → Prop) : Prop := match d with | some i => setN A i v k | none => k A
theorem getK_eq : ∀ (A : List AV) (i : Nat) (k : AV → Prop), getK A i k = k (A.getD i .junk)
  | [], _, k => by simp [getK]
  | a :: xs, 0, k => by simp [getK]
  | a :: xs, n + 1, k => by rw [getK, getK_eq xs n k]; simp
theorem setN_eq : ∀ (A : List AV) (i : Nat) (v : AV) (k : List AV → Prop), setN A i v k = k (A.set i v)
  | [], _, v, k => by simp [setN]
  | a :: xs, 0, v, k => by simp [setN]
  | a :: xs, n + 1, v, k => by rw [setN, setN_eq xs n v]; simp
theorem setK_eq (A : List AV) (d : Option Tmp) (v : AV) (k : List AV → Prop) : setK A d v k = k (putA A d v) := by
  cases d with
  | none => rfl
  | some i => exact setN_eq A i v k
def litK (v : Value) (k : AV → Prop) : Prop :=
  match v with
  | .bool b => k (.bool b)
  | .int kk n => k (.int kk n)
  | .string s => k (.str s)
  | .pointer a => (match a with | none => k .nilp | some _ => k .junk)
  | .slice a l c => (match a with | none => (match l, c with | 0, 0 => k .emp | _, _ => k .junk) | some _ => k .junk)
  | .nilFunc => k .nilf
  | .nilIface => k .nili
  | v => k (avOf v)
theorem litK_eq (v : Value) (k : AV → Prop) : litK v k = k (avOf v) := by
  cases v with
  | pointer a => cases a <;> rfl
  | slice a l c => cases a with
    | none => cases l <;> cases c <;> rfl
    | some a => rfl
  | _ => rfl
def evK (A : List AV) (x : Operand) (k : AV → Prop) : Prop :=
  match x with
  | .tmp t => getK A t k
  | .const v => litK v k
  | .global _ => k .junk
  | .func f => k (.fn (.func f) [] [])
theorem evK_eq (A : List AV) (x : Operand) (k : AV → Prop) : evK A x k = k (ev A x) := by
  cases x with
  | tmp t => exact getK_eq A t k
  | const v => exact litK_eq v k
  | _ => rfl
def evsK (A : List AV) : List Operand → (List AV → Prop) → Prop
  | [], k => k []
  | x :: xs, k => evK A x fun v => evsK A xs fun vs => k (v :: vs)
theorem evsK_eq (A : List AV) : ∀ (xs : List Operand) (k : List AV → Prop), evsK A xs k = k (xs.map (ev A))
  | [], k => rfl
  | x :: xs, k => by simp only [evsK, evK_eq, evsK_eq A xs, List.map_cons]
def evPK (A : List AV) : List (Nat × Operand) → (List (Nat × AV) → Prop) → Prop
  | [], k => k []
  | p :: ps, k => evK A p.2 fun v => evPK A ps fun vs => k ((p.1, v) :: vs)
theorem evPK_eq (A : List AV) : ∀ (ps : List (Nat × Operand)) (k : List (Nat × AV) → Prop), evPK A ps k = k (ps.map fun p => (p.1, ev A p.2))
  | [], k => rfl
  | p :: ps, k => by simp only [evPK, evK_eq, evPK_eq A ps, List.map_cons]
def optK (A : List AV) (x : Option Operand) (k : Option AV → Prop) : Prop := match x with | none => k none | some y => evK A y fun v => k (some v)
theorem optK_eq (A : List AV) (x : Option Operand) (k : Option AV → Prop) : optK A x k = k (x.map (ev A)) := by
  cases x with
  | none => rfl
  | some y => exact evK_eq A y _
def forkB (b : Bool) (x y : Prop) : Prop := match b with | true => x | false => y
theorem forkB_iff (b : Bool) (x y : Prop) : forkB b x y ↔ (b = true → x) ∧ (b = false → y) := by cases b <;> simp [forkB]
theorem forkN {b : Bool} {x y : Prop} (h1 : b = false → x) (h2 : b = true → y) : forkB (!b) x y := by cases b; exact h1 rfl; exact h2 rfl
theorem fork {b : Bool} {x y : Prop} (h1 : b = true → x) (h2 : b = false → y) : forkB b x y := by cases b; exact h2 rfl; exact h1 rfl

structure xCall (P : Program) (f : FuncId) (args : List AV) (st : St) (k : KK) : Prop where
  out : aCallF P f args st k
def appK : List AV → List AV → (List AV → Prop) → Prop
  | [], b, k => k b
  | v :: a, b, k => appK a b fun l => k (v :: l)
theorem appK_eq : ∀ (a b : List AV) (k : List AV → Prop), appK a b k = k (a ++ b)
  | [], b, k => rfl
  | v :: a, b, k => by rw [appK, appK_eq a b]; rfl
/-- A length as a number. -/
def lenK : List AV → Nat → (Nat → Prop) → Prop
  | [], n, k => k n
  | _ :: l, n, k => lenK l (n + 1) k
theorem lenK_eq : ∀ (l : List AV) (n : Nat) (k : Nat → Prop), lenK l n k = k (n + l.length)
  | [], n, k => by simp [lenK]
  | a :: l, n, k => by rw [lenK, lenK_eq l]; simp [Nat.add_assoc, Nat.add_comm 1]
def overK : List AV → List AV → (List AV → Prop) → Prop
  | cs, [], k => k cs
  | _ :: cs, v :: new, k => overK cs new fun r => k (v :: r)
  | [], _ :: _, k => k []
def spliceK : List AV → Nat → List AV → (List AV → Prop) → Prop
  | cs, 0, new, k => overK cs new k
  | a :: cs, n + 1, new, k => spliceK cs n new fun r => k (a :: r)
  | [], _ + 1, _, k => k []
theorem overK_eq : ∀ (cs new : List AV) (k : List AV → Prop), new.length ≤ cs.length → overK cs new k = k (new ++ cs.drop new.length)
  | cs, [], k, _ => by simp [overK]
  | c :: cs, v :: new, k, h => by rw [overK, overK_eq cs new _ (by simpa using h)]; simp
  | [], v :: new, k, h => by simp at h
theorem spliceK_eq : ∀ (cs : List AV) (n : Nat) (new : List AV) (k : List AV → Prop), n + new.length ≤ cs.length → spliceK cs n new k = k (cs.take n ++ new ++ cs.drop (n + new.length))
  | cs, 0, new, k, h => by rw [spliceK, overK_eq cs new k (by omega)]; simp
  | a :: cs, n + 1, new, k, h => by
    rw [spliceK, spliceK_eq cs n new _ (by simp at h; omega)]
    simp [show n + 1 + new.length = (n + new.length) + 1 from by omega]
  | [], n + 1, new, k, h => by simp at h
def xFill (place : Nat → Option (Nat × Nat)) : List (Nat × AV) → List AV → (List AV → Prop) → Prop
  | [], cells, k => k cells
  | (i, v) :: rest, cells, k => match place i with
    | none => False
    | some (off, size) => match Nat.beq (cellsOf v).length size && Nat.ble (off + size) cells.length && (cellsOf v).all AV.one && Nat.blt 0 size with
      | true => spliceK cells off (cellsOf v) fun cells' => xFill place rest cells' k
      | false => False
theorem xFill_eq {place : Nat → Option (Nat × Nat)} : ∀ (ps : List (Nat × AV)) (cells : List AV) (k : List AV → Prop), xFill place ps cells k → ∃ out, aFill place cells ps = some out ∧ k out
  | [], cells, k, h => ⟨cells, rfl, h⟩
  | (i, v) :: ps, cells, k, h => by
    unfold xFill at h
    unfold aFill
    split at h
    · exact h.elim
    · rename_i off size hp
      rw [hp]
      simp only
      split at h
      · rename_i hb
        simp only [Bool.and_eq_true, Nat.beq_eq, Nat.ble_eq, Nat.blt_eq] at hb
        obtain ⟨⟨⟨h1, h2⟩, h3⟩, h4⟩ := hb
        rw [spliceK_eq _ _ _ _ (by omega)] at h
        rw [if_neg (by simp only [not_or, Decidable.not_not, Bool.not_eq_false]; exact ⟨h1, by omega, h3, by omega⟩)]
        rw [h1] at h
        exact xFill_eq ps _ k h
      · exact h.elim
def xBuild (T : Tab) (t : TypeId) (ps : List (Nat × AV)) (k : AV → Prop) : Prop :=
  match T t with
  | none => False
  | some r => match r.desc with
    | .struct fs => match places T fs.toList with
      | none => False
      | some pl => xFill (fun i => pl[i]?) ps (cellsOf (avOf r.zero)) fun out => k (.agg out)
    | .array n el => match T el with
      | none => False
      | some q => xFill (fun i => some (i * q.size, q.size)) ps (cellsOf (avOf r.zero)) fun out => k (.agg out)
    | _ => False
theorem xBuild_eq {T : Tab} {t : TypeId} {ps : List (Nat × AV)} {k : AV → Prop} (h : xBuild T t ps k) : aBuild T t ps k := by
  unfold xBuild at h
  unfold aBuild
  split at h
  · exact h.elim
  · rename_i r hr
    rw [hr]
    simp only
    split at h
    · rename_i fs hd
      rw [hd]
      simp only
      split at h
      · exact h.elim
      · rename_i pl hp
        rw [hp]
        simp only
        obtain ⟨out, h1, h2⟩ := xFill_eq _ _ _ h
        rw [h1]; exact h2
    · rename_i n el hd
      rw [hd]
      simp only
      split at h
      · exact h.elim
      · rename_i q hq
        rw [hq]
        simp only
        obtain ⟨out, h1, h2⟩ := xFill_eq _ _ _ h
        rw [h1]; exact h2
    · exact h.elim
def splitK : Nat → List AV → (List AV → List AV → Prop) → Prop
  | 0, l, k => k [] l
  | n + 1, v :: l, k => splitK n l fun a b => k (v :: a) b
  | _ + 1, [], k => k [] []
theorem splitK_eq : ∀ (n : Nat) (l : List AV) (k : List AV → List AV → Prop), splitK n l k = k (l.take n) (l.drop n)
  | 0, l, k => by simp [splitK]
  | n + 1, v :: l, k => by rw [splitK, splitK_eq n l]; simp
  | n + 1, [], k => by simp [splitK]
def groupK (agg : Bool) (e : Nat) : Nat → List AV → (List AV → Prop) → Prop
  | 0, _, k => k []
  | n + 1, out, k => match agg with
    | true => splitK e out fun a b => groupK agg e n b fun r => k (.agg a :: r)
    | false => match out with
      | v :: b => groupK agg e n b fun r => k (v :: r)
      | [] => False
theorem groupA_succ (agg : Bool) (e n : Nat) (out : List AV) (he : agg = false → e = 1) : groupA agg e (n + 1) out = (if agg then .agg (out.take e) else out.getD 0 .junk) :: groupA agg e n (out.drop e) := by
  unfold groupA
  rw [List.range_succ_eq_map, List.map_cons, List.map_map]
  congr 1
  · cases agg <;> simp
  · refine List.map_congr_left fun i _ => ?_
    cases agg with
    | true =>
      simp only [Function.comp, if_true]
      rw [List.drop_drop, show (i + 1) * e = e + i * e from by rw [Nat.add_mul]; omega]
    | false =>
      have := he rfl
      subst this
      simp
theorem groupK_eq {agg : Bool} {e : Nat} (he : agg = false → e = 1) : ∀ (n : Nat) (out : List AV) (k : List AV → Prop), groupK agg e n out k → k (groupA agg e n out)
  | 0, out, k, h => h
  | n + 1, out, k, h => by
    unfold groupK at h
    rw [groupA_succ agg e n out he]
    cases agg with
    | true =>
      simp only [splitK_eq] at h
      exact groupK_eq he n _ _ h
    | false =>
      simp only at h
      have := he rfl
      subst this
      split at h
      · rename_i v b; exact groupK_eq he n _ _ h
      · exact h.elim
/-- A new variable: frozen at once ('fz'), or the store's. -/
def xNew (fz : Bool) (ty : TypeId) (v : AV) (st : St) (k : KK) : Prop :=
  match Nat.blt 0 (cellsOf v).length && (cellsOf v).all AV.one with
  | true => (match fz with
    | true => k (.fptr v 0) st
    | false => lenK (cellsOf v) 0 fun n => ∀ b, st b = none → k (.optr n b 0 0) (upd st b ⟨ty, n, 1, fun _ => v⟩))
  | false => False
theorem xNew_eq {fz : Bool} {ty : TypeId} {v : AV} {st : St} {k : KK} (h : xNew fz ty v st k) : aNew ty v st k := by
  unfold xNew at h
  split at h
  · rename_i hb
    simp only [Bool.and_eq_true, Nat.blt_eq] at hb
    cases fz with
    | true => exact ⟨hb.1, hb.2, .inl h⟩
    | false =>
      simp only [lenK_eq, Nat.zero_add] at h
      exact ⟨hb.1, hb.2, .inr h⟩
  · exact h.elim
def xRow (fz : Bool) (T : Tab) (t : TypeId) (len : Nat) (ps : List (Nat × AV)) (st : St) (k : KK) : Prop :=
  match T t with
  | none => False
  | some r => match r.desc with
    | .slice el => match T el with
      | none => False
      | some q => match Nat.blt 0 (len * q.size) && Nat.ble (len * q.size) 16777216 && Nat.beq q.zero.cells.size q.size && (q.agg || Nat.beq q.size 1) with
        | false => False
        | true => xFill (fun i => some (i * q.size, q.size)) ps ((List.range (len * q.size)).map fun i => (cellsOf (avOf q.zero)).getD (i % q.size) .junk) fun out => match out.all AV.one with
        | false => False
        | true => groupK q.agg q.size len out fun els => match fz with
          | false => k (.arr q.size len (fun i => els.getD i .junk)) st
          | true => ∀ b, st b = none → k (.own q.size b 0 len) (upd st b ⟨el, q.size, len, fun i => els.getD i .junk⟩)
    | _ => False
theorem xRow_eq {fz : Bool} {T : Tab} {t : TypeId} {len : Nat} {ps : List (Nat × AV)} {st : St} {k : KK} (h : xRow fz T t len ps st k) : aBuildSlice T t len ps st k := by
  unfold xRow at h
  unfold aBuildSlice
  split at h
  · exact h.elim
  · rename_i r hr
    rw [hr]
    simp only
    split at h
    · rename_i el hd
      rw [hd]
      simp only
      split at h
      · exact h.elim
      · rename_i q hq
        rw [hq]
        split at h
        · exact h.elim
        rename_i hb
        simp only [Bool.and_eq_true, Nat.blt_eq, Nat.ble_eq, Nat.beq_eq, Bool.or_eq_true] at hb
        obtain ⟨⟨⟨h1, h2⟩, h3⟩, h4'⟩ := hb
        have h4 : q.agg = false → q.size = 1 := fun e => h4'.resolve_left (by simp [e])
        refine ⟨h1, h2, h3, h4, ?_⟩
        obtain ⟨out, ho, h⟩ := xFill_eq _ _ _ h
        rw [ho]
        split at h
        · exact h.elim
        rename_i hone
        have h := groupK_eq h4 _ _ _ h
        refine ⟨hone, ?_⟩
        cases fz with
        | false => exact .inl h
        | true => exact .inr h
    · exact h.elim
def xPick (r : TRow) (cs : List AV) (o : Nat) (k : AV → Prop) : Prop :=
  match r.agg with
  | true => (match Nat.ble (o + r.size) cs.length with
    | true => splitK o cs fun _ b => splitK r.size b fun c _ => k (.agg c)
    | false => False)
  | false => getK cs o fun y => match y with | .junk => False | y => k y
theorem xPick_eq {r : TRow} {cs : List AV} {o : Nat} {k : AV → Prop} (h : xPick r cs o k) : pick r cs o k := by
  unfold xPick at h
  unfold pick
  split at h
  · rename_i e
    rw [e]
    split at h
    · rename_i hb
      simp only [splitK_eq] at h
      exact ⟨by simpa using hb, h⟩
    · exact h.elim
  · rename_i e
    rw [e]
    rw [getK_eq] at h
    simp only
    rw [List.getD_eq_getElem?_getD] at h
    cases hy : cs[o]? with
    | none => rw [hy] at h; exact h.elim
    | some y => rw [hy] at h; simp only [Option.getD_some] at h; split at h; exact h.elim; exact h
structure xLdO (T : Tab) (t : TypeId) (e b i o : Nat) (st : St) (k : KK) : Prop where
  out : aLoad T t (.optr e b i o) st k
def xLoad (T : Tab) (t : TypeId) (v : AV) (st : St) (k : KK) : Prop :=
  match v with
  | .fptr v o => (match T t with | some r => xPick r (cellsOf v) o (fun y => k y st) | none => False)
  | .optr e b i o => xLdO T t e b i o st k
  | _ => False
theorem xLoad_eq {T : Tab} {t : TypeId} {v : AV} {st : St} {k : KK} (h : xLoad T t v st k) : aLoad T t v st k := by
  unfold xLoad at h
  split at h
  · unfold aLoad
    split at h
    · rename_i hr; rw [hr]; exact xPick_eq h
    · exact h.elim
  · exact h.out
  · exact h.elim
structure xStO (T : Tab) (t : TypeId) (e b i o : Nat) (v : AV) (st : St) (k : KK) : Prop where
  out : (match T t with | some r => 0 < r.size | none => False) ∧ aStore T t (.optr e b i o) v st k
def xStore (T : Tab) (t : TypeId) (p v : AV) (st : St) (k : KK) : Prop := match p with | .optr e b i o => xStO T t e b i o v st k | _ => False
structure xApp (T : Tab) (t : TypeId) (s x : AV) (st : St) (k : KK) : Prop where
  out : aAppend T t s x st k
structure xMk (T : Tab) (t : TypeId) (l c : AV) (st : St) (k : KK) : Prop where
  out : aMake T t l c st k
def xBuiltin (T : Tab) (b : Builtin) (args : List AV) (ts : List TypeId) (st : St) (k : KK) : Prop :=
  match b with
  | .append => match args, ts with
    | [s, x], [t, u] => (match Nat.beq t u with | true => xApp T t s x st k | false => False)
    | _, _ => False
  | b => aBuiltin T b args ts st k
theorem xBuiltin_eq {T : Tab} {b : Builtin} {args : List AV} {ts : List TypeId} {st : St} {k : KK} (h : xBuiltin T b args ts st k) : aBuiltin T b args ts st k := by
  unfold xBuiltin at h
  split at h
  · unfold aBuiltin
    split at h
    · split at h
      · rename_i e; exact ⟨Nat.eq_of_beq_eq_true e, h.out⟩
      · exact h.elim
    · exact h.elim
  · exact h
def xInvoke (P : Program) (T : Tab) (M : MTab) (r : AV) (name : String) (args : List AV) (st : St) (k : KK) : Prop :=
  match r with
  | .iface t v => match M t name with
    | some (f, none) => xCall P f (v :: args) st k
    | some (f, some el) => xLoad T el v st (fun u st' => xCall P f (u :: args) st' k)
    | none => False
  | _ => False
theorem xInvoke_eq {P : Program} {T : Tab} {M : MTab} {r : AV} {name : String} {args : List AV} {st : St} {k : KK} (h : xInvoke P T M r name args st k) : aInvoke P T M r name args st k := by
  unfold xInvoke at h
  unfold aInvoke
  split at h
  · rename_i t v
    simp only
    split at h
    · rename_i f hf; rw [hf]; exact h.out
    · rename_i f el hf; rw [hf]; exact aLoad_mono (k := fun u st' => xCall P f (u :: args) st' k) (fun u hu => hu.out) (xLoad_eq h)
    · exact h.elim
  · exact h.elim
def xBin (T : Tab) (op : BinOp) (t : TypeId) (x y : AV) (k : AV → Prop) : Prop :=
  match x, y, op with
  | .int kk a, .int _ b, .shl => forkB (decide (b < 0)) False (k (.int kk (kk.wrap (a * 2 ^ (min b.toNat kk.bits)))))
  | .int kk a, .int _ b, .shr => forkB (decide (b < 0)) False (k (.int kk (a.fdiv (2 ^ (min b.toNat kk.bits)))))
  | .int kk a, .int k' b, .quo => match decide (kk = k') with | true => forkB (decide (b = 0)) False (k (.int kk (kk.wrap (a.tdiv b)))) | false => False
  | .int kk a, .int k' b, .rem => match decide (kk = k') with | true => forkB (decide (b = 0)) False (k (.int kk (a.tmod b))) | false => False
  | x, y, op => match aBin T op t x y with | some z => k z | none => False
theorem xBin_eq {T : Tab} {op : BinOp} {t : TypeId} {x y : AV} {k : AV → Prop} (h : xBin T op t x y k) : match aBin T op t x y with | some z => k z | none => False := by
  unfold xBin at h
  split at h
  · obtain ⟨h1, h2⟩ := (forkB_iff _ _ _).1 h
    rename_i kk a k' b
    by_cases hb : b < 0
    · exact (h1 (decide_eq_true hb)).elim
    · simp only [aBin, aShift, if_neg hb]; exact h2 (decide_eq_false hb)
  · obtain ⟨h1, h2⟩ := (forkB_iff _ _ _).1 h
    rename_i kk a k' b
    by_cases hb : b < 0
    · exact (h1 (decide_eq_true hb)).elim
    · simp only [aBin, aShift, if_neg hb]; exact h2 (decide_eq_false hb)
  · rename_i kk a k' b
    by_cases hk : kk = k'
    · rw [decide_eq_true hk] at h
      obtain ⟨h1, h2⟩ := (forkB_iff _ _ _).1 h
      by_cases hb : b = 0
      · exact (h1 (decide_eq_true hb)).elim
      · simp only [aBin, aInt, if_pos hk, if_neg hb]; exact h2 (decide_eq_false hb)
    · rw [decide_eq_false hk] at h; exact h.elim
  · rename_i kk a k' b
    by_cases hk : kk = k'
    · rw [decide_eq_true hk] at h
      obtain ⟨h1, h2⟩ := (forkB_iff _ _ _).1 h
      by_cases hb : b = 0
      · exact (h1 (decide_eq_true hb)).elim
      · simp only [aBin, aInt, if_pos hk, if_neg hb]; exact h2 (decide_eq_false hb)
    · rw [decide_eq_false hk] at h; exact h.elim
  · exact h
def xBinO (T : Tab) (op : BinOp) (t : TypeId) (y : Operand) (vx vy : AV) (k : AV → Prop) : Prop :=
  match aNil T op t y vx with
  | some z => k z
  | none => xBin T op t vx vy k
theorem xBinO_eq {T : Tab} {op : BinOp} {t : TypeId} {y : Operand} {vx vy : AV} {k : AV → Prop} (h : xBinO T op t y vx vy k) : match aBinO T op t y vx vy with | some z => k z | none => False := by
  unfold xBinO at h
  unfold aBinO
  split at h
  · rename_i z hz; rw [hz]; exact h
  · rename_i hz; rw [hz]; exact xBin_eq h
structure xIdx (s : ByteArray) (j : Int) (k : AV → Prop) : Prop where
  out : ∃ h : 0 ≤ j ∧ j.toNat < s.size, k (.int .u8 ((s[j.toNat]'h.2).toNat : Int))
def xIndex (T : Tab) (t : TypeId) (v i : AV) (k : AV → Prop) : Prop :=
  match T t with
  | none => False
  | some r => match r.desc, v, i with
    | .string, .str s, .int _ j => xIdx s j k
    | _, _, _ => False
theorem xIndex_eq {T : Tab} {t : TypeId} {v i : AV} {k : AV → Prop} (h : xIndex T t v i k) : aIndex T t v i k := by
  unfold xIndex at h
  unfold aIndex
  split at h
  · exact h.elim
  rename_i r hr
  rw [hr]
  simp only
  split at h
  · rename_i s kk j hd
    rw [hd]
    exact h.out
  · exact h.elim
/-- A small number, written as a literal. -/
def natK (n : Nat) (k : Nat → Prop) : Prop :=
  match n with
  | 0 => k 0 | 1 => k 1 | 2 => k 2 | 3 => k 3 | 4 => k 4 | 5 => k 5 | 6 => k 6 | 7 => k 7 | 8 => k 8 | 9 => k 9 | 10 => k 10 | 11 => k 11 | 12 => k 12 | 13 => k 13 | 14 => k 14 | 15 => k 15 | 16 => k 16 | 17 => k 17 | 18 => k 18 | 19 => k 19 | 20 => k 20 | n => k n
theorem natK_eq (n : Nat) (k : Nat → Prop) : natK n k = k n := by unfold natK; split <;> rfl
def xFieldAddr (T : Tab) (s : TypeId) (p : AV) (f : Nat) (k : AV → Prop) : Prop :=
  match T s with
  | none => False
  | some r => match r.desc with
    | .struct fs => match fs[f]? with
      | none => False
      | some fl => match T fl.type with
        | none => False
        | some q => match Nat.blt 0 q.size with
          | true => (match p with
            | .fptr v o => natK (o + fl.offset) fun o' => k (.fptr v o')
            | .optr e b i o => natK (o + fl.offset) fun o' => k (.optr e b i o')
            | _ => False)
          | false => False
    | _ => False
theorem xFieldAddr_eq {T : Tab} {s : TypeId} {p : AV} {f : Nat} {k : AV → Prop} (h : xFieldAddr T s p f k) : aFieldAddr T s p f k := by
  unfold xFieldAddr at h
  unfold aFieldAddr
  split at h
  · exact h.elim
  rename_i r hr
  rw [hr]
  simp only
  split at h
  case h_2 => exact h.elim
  rename_i fs hd
  rw [hd]
  simp only
  split at h
  · exact h.elim
  rename_i fl hf
  rw [hf]
  simp only
  split at h
  · exact h.elim
  rename_i q hq
  rw [hq]
  simp only
  split at h
  · rename_i hb
    refine ⟨by simpa using hb, ?_⟩
    split at h
    · rw [natK_eq] at h; exact h
    · rw [natK_eq] at h; exact h
    · exact h.elim
  · exact h.elim
def xField (T : Tab) (s : TypeId) (v : AV) (f : Nat) (k : AV → Prop) : Prop :=
  match T s with
  | none => False
  | some r => match r.desc with
    | .struct fs => match fs[f]? with
      | none => False
      | some fl => match T fl.type with
        | none => False
        | some q => match v with
          | .agg cs => xPick q cs fl.offset k
          | _ => False
    | _ => False
theorem xField_eq {T : Tab} {s : TypeId} {p : AV} {f : Nat} {k : AV → Prop} (h : xField T s p f k) : aField T s p f k := by
  unfold xField at h
  unfold aField
  split at h
  · exact h.elim
  rename_i r hr
  rw [hr]
  simp only
  split at h
  case h_2 => exact h.elim
  rename_i fs hd
  rw [hd]
  simp only
  split at h
  · exact h.elim
  rename_i fl hf
  rw [hf]
  simp only
  split at h
  · exact h.elim
  rename_i q hq
  rw [hq]
  simp only
  split at h
  · exact xPick_eq h
  · exact h.elim
def xOp (P : Program) (T : Tab) (M : MTab) (fz : Bool) (op : Op) (A : List AV) (st : St) (k : KK) : Prop :=
  match op with
  | .move x => evK A x fun v => k v st
  | .assign x => evK A x fun v => k v st
  | .pick c x y => evK A c fun v => match v with | .bool b => forkB b (evK A x fun u => k u st) (evK A y fun u => k u st) | _ => False
  | .binOp op t x y _ => evK A x fun v => evK A y fun u => xBinO T op t y v u (fun z => k z st)
  | .unOp op _ x => evK A x fun v => match aUn op v with | some z => k z st | none => False
  | .load t x => evK A x fun v => xLoad T t v st k
  | .store t x y => evK A x fun v => evK A y fun u => xStore T t v u st k
  | .alloc t => match T t with | some r => xNew fz t (avOf r.zero) st k | none => False
  | .box t x => evK A x fun v => xNew fz t v st k
  | .build t ps => evPK A ps.toList fun vs => xBuild T t vs (fun v => k v st)
  | .buildSlice t n ps => match n with
    | 0 => evPK A ps.toList fun vs => aRow0 T t vs st k
    | m + 1 => evPK A ps.toList fun vs => xRow fz T t (m + 1) vs st k
  | .nilCheck x => evK A x fun v => match aNilCheck v with | true => k v st | false => False
  | .convert s d x => evK A x fun v => match aConvert T s d v with | some z => k z st | none => False
  | .makeInterface t x => evK A x fun v => match ifaceT T t with | true => k (.iface t v) st | false => False
  | .makeFunc fn fs cs => evsK A fs.toList fun us => evsK A cs.toList fun vs => k (.fn fn us vs) st
  | .makeSlice t l c => evK A l fun v => evK A c fun u => xMk T t v u st k
  | .slice t x lo hi mx => evK A x fun v => optK A lo fun l => optK A hi fun h => optK A mx fun m => aSlice T t v l h m (fun v => k v st)
  | .fieldAddr s x f => evK A x fun v => xFieldAddr T s v f (fun v => k v st)
  | .field s x f => evK A x fun v => xField T s v f (fun v => k v st)
  | .indexAddr t x i => evK A x fun v => evK A i fun u => aIndexAddr T t v u (fun v => k v st)
  | .index t x i => evK A x fun v => evK A i fun u => xIndex T t v u (fun v => k v st)
  | .typeAssert x _ t ok => evK A x fun v => match aAssert T v t ok with | some z => k z st | none => False
  | .extract x i => evK A x fun v => aExtract v i (fun v => k v st)
  | .call c => evsK A c.args.toList fun args => match c.callee with
    | .builtin b => xBuiltin T b args c.argTypes.toList st k
    | .invoke r name => evK A r fun v => xInvoke P T M v name args st k
    | .value f => evK A f fun v => match v with
      | .fn g fs cs => (match g with | .func n => appK fs args fun l => appK l cs fun l => xCall P n l st k | _ => False)
      | _ => False
  | _ => False
theorem xOp_eq {P : Program} {T : Tab} {M : MTab} {fz : Bool} {o : Oper} {A : List AV} {st : St} {k : KK} (h : xOp P T M fz o.op A st k) : aOp P T M o A st k := by
  obtain ⟨dst, op, type, pos, after, guard⟩ := o
  unfold aOp
  cases op <;> simp only [xOp, evK_eq, evsK_eq, evPK_eq, optK_eq, appK_eq] at h ⊢ <;> try exact h
  case alloc t =>
    split at h
    · rename_i r hr; rw [hr]; exact xNew_eq h
    · exact h.elim
  case box t x => exact xNew_eq h
  case fieldAddr t x f => exact xFieldAddr_eq h
  case field t x f => exact xField_eq h
  case binOp op t x y _ => exact xBinO_eq h
  case index t x f => exact xIndex_eq h
  case load t x => exact xLoad_eq h
  case store t x y =>
    unfold xStore at h
    split at h
    · rename_i hv; rw [hv]; exact h.out
    · exact h.elim
  case makeSlice t l c => exact h.out
  case build t ps => exact xBuild_eq h
  case buildSlice t n ps =>
    cases n with
    | zero => simp only [evPK_eq] at h; exact h
    | succ m => simp only [evPK_eq] at h; exact xRow_eq h
  case pick c x y =>
    split at h
    · rename_i b hb
      simp only [hb]
      exact (forkB_iff _ _ _).1 h
    · exact h.elim
  case nilCheck x =>
    split at h
    · rename_i hb; exact ⟨hb, h⟩
    · exact h.elim
  case makeInterface t x =>
    split at h
    · rename_i hb; exact ⟨hb, h⟩
    · exact h.elim
  case call c =>
    obtain ⟨callee, args, ts⟩ := c
    cases callee with
    | builtin b => exact xBuiltin_eq h
    | invoke r name => simp only [evK_eq] at h; exact xInvoke_eq h
    | value f =>
      simp only [evK_eq, appK_eq] at h
      simp only [aTarget]
      split at h
      · rename_i g fs cs hf
        rw [hf]
        simp only
        split at h
        · exact h.out
        · exact h.elim
      · exact h.elim
def xWant (ops : List Oper) (o : Oper) (A : List AV) (x y : Prop) : Prop :=
  match o.guard with
  | none => x
  | some (g, want) => match ops[g]? with
    | none => y
    | some p => match p.dst with
      | none => y
      | some d => getK A d fun v => match v with
        | .bool b => (match want with | true => forkB b x y | false => forkB b y x)
        | .tuple _ => y
        | _ => False
theorem xWant_eq {ops : List Oper} {o : Oper} {A : List AV} {x y : Prop} (h : xWant ops o A x y) : ∃ b, aWant ops o A = some b ∧ (b = true → x) ∧ (b = false → y) := by
  unfold xWant at h
  unfold aWant
  split at h
  · rename_i hg; exact ⟨true, by simp [hg], fun _ => h, fun e => by cases e⟩
  · rename_i g want hg
    simp only [hg]
    split at h
    · rename_i hp; exact ⟨false, by simp [hp], (fun e => by cases e), fun _ => h⟩
    · rename_i p hp
      simp only [hp]
      split at h
      · rename_i hd; exact ⟨false, by simp [hd], (fun e => by cases e), fun _ => h⟩
      · rename_i d hd
        simp only [hd]
        rw [getK_eq] at h
        rw [List.getD_eq_getElem?_getD] at h
        cases hA : A[d]? with
        | none => exact ⟨false, by simp, (fun e => by cases e), fun _ => by rw [hA] at h; exact h.elim⟩
        | some v =>
          rw [hA] at h
          simp only [Option.getD_some] at h
          split at h
          · rename_i b
            cases want with
            | true => exact ⟨b, by simp, (forkB_iff _ _ _).1 h⟩
            | false => exact ⟨!b, by simp, fun e => ((forkB_iff _ _ _).1 h).2 (by simpa using e), fun e => ((forkB_iff _ _ _).1 h).1 (by simpa using e)⟩
          · exact ⟨false, rfl, (fun e => by cases e), fun _ => h⟩
          · exact h.elim
def inF (frz : List Nat) (d : Option Tmp) : Bool := match d with | some p => frz.contains p | none => false
/-- A variable that is made and at once given its value, at a region's end. -/
def pairOf (frz : List Nat) (o1 o2 : Oper) : Option (Tmp × TypeId × TypeId × Operand) :=
  match o1.guard, o2.guard with
  | none, none => match o1.op, o1.dst, o2.op with
    | .alloc t, some p, .store u (.tmp q) y => (match Nat.beq p q && frz.contains p with | true => some (p, t, u, y) | false => none)
    | _, _, _ => none
  | _, _ => none
theorem fptr_congr {rd : Addr → Option Value} {sz : Nat → Nat} {v v' : AV} {r : Nat} {c : Value} (he : cellsOf v = cellsOf v') (h : Rep rd sz (.fptr v r) c) : Rep rd sz (.fptr v' r) c := by
  cases h with
  | fptr v r a g hr hg => exact .fptr v' r a g (fun j hj => hr j (by rw [he]; exact hj)) (fun j y hy => hg j y (by rw [he]; exact hy))
/-- What a made variable that nobody writes again comes to. -/
theorem freezeA {A : List AV} {st : St} {p b : Nat} {d : Option Tmp} {x y : Blk} {v : AV} {e : Nat} (hb : st b = none) (hn : 0 < y.n) (hv : cellsOf (y.f 0) = cellsOf v) (hp : p < A.length) (hd : d ≠ some p) :
    ShiftA (putA (putA A (some p) (.optr e b 0 0)) d (.tuple [])) (upd (upd st b x) b y) (putA (putA A (some p) (.fptr v 0)) d (.tuple [])) st := by
  intro w a hA hS
  have hst : upd (upd st b x) b y b = some y := by simp [upd]
  have hne : ∀ c, c ≠ b → upd (upd st b x) b y c = st c := fun c hc => by simp [upd, hc]
  have he : Evo (upd (upd st b x) b y) w st w := ⟨rfl, rfl, rfl, Nat.le_refl _, fun c _ hs => ⟨rfl, by
    by_cases hc : c = b
    · subst hc; exact hb
    · rw [hne c hc] at hs; exact hs⟩, fun _ => Nat.le_refl _⟩
  obtain ⟨cs, hok⟩ := hS b y hst
  refine ⟨⟨by have := hA.len; simp [putA] at this ⊢; cases d <;> simp_all, fun i u hu => ?_, hA.defers⟩, fun c z hz => ?_, he⟩
  · by_cases hi : i = p
    · subst hi
      have hpt : (putA (putA A (some i) (.optr e b 0 0)) d (.tuple []))[i]? = some (.optr e b 0 0) := by
        cases d with
        | none => simp [putA, hp]
        | some q => simp only [putA]; rw [List.getElem?_set_ne (fun h => hd (by rw [h]))]; simp [hp]
      have hpt' : (putA (putA A (some i) (.fptr v 0)) d (.tuple []))[i]? = some (.fptr v 0) := by
        cases d with
        | none => simp [putA, hp]
        | some q => simp only [putA]; rw [List.getElem?_set_ne (fun h => hd (by rw [h]))]; simp [hp]
      rw [hpt'] at hu
      cases hu
      obtain ⟨c, hc1, hc2⟩ := hA.at_ i _ hpt
      refine ⟨c, hc1, ?_⟩
      cases hc2
      have := fptr_congr hv (fptr_of_blk (hok.evo he rfl) hb hn)
      simpa using this
    · have hsame : (putA (putA A (some p) (.optr e b 0 0)) d (.tuple []))[i]? = (putA (putA A (some p) (.fptr v 0)) d (.tuple []))[i]? := by
        cases d with
        | none => simp only [putA]; rw [List.getElem?_set_ne (fun h => hi h.symm), List.getElem?_set_ne (fun h => hi h.symm)]
        | some q =>
          simp only [putA, List.getElem?_set, List.length_set]
          rw [if_neg (show ¬ p = i from fun h => hi h.symm), if_neg (show ¬ p = i from fun h => hi h.symm)]
      rw [← hsame] at hu
      obtain ⟨c, hc1, hc2⟩ := hA.at_ i u hu
      exact ⟨c, hc1, he.rep hc2⟩
  · have hc : c ≠ b := fun h => by rw [h, hb] at hz; cases hz
    obtain ⟨ds, hd'⟩ := hS c z (by rw [hne c hc]; exact hz)
    exact ⟨ds, hd'.evo he rfl⟩
def notTmp (d : Option Tmp) (p : Tmp) : Bool := match d with | some q => !Nat.beq q p | none => true
def notOp (y : Operand) (p : Tmp) : Bool := match y with | .tmp q => !Nat.beq q p | _ => true
theorem notTmp_ne {d : Option Tmp} {p : Tmp} (h : notTmp d p = true) : d ≠ some p := fun e => by subst e; simp [notTmp] at h
theorem notOp_ne {y : Operand} {p : Tmp} (h : notOp y p = true) : y ≠ .tmp p := fun e => by subst e; simp [notOp] at h
/-- The pair's own step. -/
def xPair (T : Tab) (p : Tmp) (t u : TypeId) (y : Operand) (d : Option Tmp) (A : List AV) (st : St) (k : KA) : Prop :=
  match T t, T u with
  | some r, some q => evK A y fun v => match Nat.blt p A.length && notTmp d p && Nat.blt 0 q.size && Nat.beq (cellsOf (avOf r.zero)).length q.size && (cellsOf (avOf r.zero)).all AV.one && Nat.beq (cellsOf v).length q.size && (cellsOf v).all AV.one && notOp y p with
      | true => setN A p (.fptr v 0) fun A' => setK A' d (.tuple []) fun A'' => k A'' st
      | false => False
  | _, _ => False
theorem setCells_all {v : AV} {cs : List AV} (h : cs.length = (cellsOf v).length) (h1 : cs.all AV.one = true) (h2 : 0 < cs.length) : cellsOf (setCells v 0 cs) = cs := by
  rw [setCells_cells (by omega) h1 h2]
  simp [h]
theorem xPair_alloc {P : Program} {T : Tab} {M : MTab} {frz : List Nat} {o1 o2 : Oper} {p : Tmp} {t u : TypeId} {y : Operand} (hp : pairOf frz o1 o2 = some (p, t, u, y)) {A : List AV} {st : St} {k : KA} (h : xPair T p t u y o2.dst A st k) :
    o1.guard = none ∧ o2.guard = none ∧ aOp P T M o1 A st fun v st' => aOp P T M o2 (putA A o1.dst v) st' fun v' st'' => Seen k (putA (putA A o1.dst v) o2.dst v') st'' := by
  unfold pairOf at hp
  split at hp
  case h_2 => cases hp
  rename_i hg1 hg2
  split at hp
  case h_2 => cases hp
  rename_i t' p' u' q' y' ho1 hd1 ho2
  split at hp
  case h_2 => cases hp
  rename_i hb
  cases hp
  simp only [Bool.and_eq_true] at hb
  obtain rfl := Nat.eq_of_beq_eq_true hb.1
  refine ⟨hg1, hg2, ?_⟩
  unfold xPair at h
  split at h
  case h_2 => exact h.elim
  rename_i r q hr hq
  rw [evK_eq] at h
  split at h
  case h_2 => exact h.elim
  rename_i hb
  simp only [Bool.and_eq_true, Nat.blt_eq, Nat.beq_eq] at hb
  obtain ⟨⟨⟨⟨⟨⟨⟨hlt, hd⟩, hq0⟩, hz1⟩, hz2⟩, hv1⟩, hv2⟩, hy⟩ := hb
  have hd := notTmp_ne hd
  have hy := notOp_ne hy
  rw [setN_eq, setK_eq] at h
  have hk := h
  unfold aOp
  rw [ho1, ho2, hd1]
  simp only [hr, hq]
  refine ⟨by omega, hz2, .inr fun b hb => ⟨hq0, ?_⟩⟩
  have hevp : ev (putA A (some p) (.optr (cellsOf (avOf r.zero)).length b 0 0)) (.tmp p) = .optr (cellsOf (avOf r.zero)).length b 0 0 := by
    simp [ev, putA, hlt]
  have hevy : ev (putA A (some p) (.optr (cellsOf (avOf r.zero)).length b 0 0)) y = ev A y := ev_put fun t ht hyt => by
    cases ht; exact hy hyt
  unfold aStore
  simp only [hq, hevp, hevy]
  have hst : upd st b ⟨t, (cellsOf (avOf r.zero)).length, 1, fun _ => avOf r.zero⟩ b = some ⟨t, (cellsOf (avOf r.zero)).length, 1, fun _ => avOf r.zero⟩ := by simp [upd]
  rw [hst]
  refine ⟨rfl, Nat.one_pos, hv1, hv2, by simp only; omega, _, _, freezeA hb Nat.one_pos ?_ hlt hd, hk⟩
  simp only [fset, if_true]
  exact setCells_all (by omega) hv2 (by omega)
/-- .. with an assignment in between. -/
def tripleOf (frz : List Nat) (o om o2 : Oper) : Option (Tmp × Operand × Tmp × TypeId × TypeId × Operand) :=
  match om.guard, om.op, om.dst, pairOf frz o o2 with
  | none, .assign x, some m, some (p, t, u, y) => (match !Nat.beq m p && notOp x p with | true => some (m, x, p, t, u, y) | false => none)
  | _, _, _, _ => none
def xTriple (T : Tab) (m : Tmp) (x : Operand) (p : Tmp) (t u : TypeId) (y : Operand) (d : Option Tmp) (A : List AV) (st : St) (k : KA) : Prop :=
  evK A x fun v => setN A m v fun A1 => xPair T p t u y d A1 st k
theorem aOp_alloc_any {P : Program} {T : Tab} {M : MTab} {o : Oper} {t : TypeId} (ho : o.op = .alloc t) {A B : List AV} {st : St} {k : KK} (h : aOp P T M o A st k) : aOp P T M o B st k := by
  unfold aOp at *
  rw [ho] at h ⊢
  exact h
theorem xTriple_alloc {P : Program} {T : Tab} {M : MTab} {frz : List Nat} {o1 om o2 : Oper} {m p : Tmp} {x : Operand} {t u : TypeId} {y : Operand} (hp : tripleOf frz o1 om o2 = some (m, x, p, t, u, y)) {A : List AV} {st : St} {k : KA} (h : xTriple T m x p t u y o2.dst A st k) :
    o1.guard = none ∧ om.guard = none ∧ o2.guard = none ∧ aOp P T M o1 A st fun v st' => aOp P T M om (putA A o1.dst v) st' fun v1 st1 => aOp P T M o2 (putA (putA A o1.dst v) om.dst v1) st1 fun v' st'' => Seen k (putA (putA (putA A o1.dst v) om.dst v1) o2.dst v') st'' := by
  unfold tripleOf at hp
  split at hp
  case h_2 => cases hp
  rename_i x' m' p' t' u' y' hg hop hdst hpr
  split at hp
  case h_2 => cases hp
  rename_i hb
  cases hp
  simp only [Bool.and_eq_true, Bool.not_eq_true'] at hb
  have hmp : m ≠ p := fun e => by subst e; simp at hb
  have hxp : x ≠ .tmp p := notOp_ne hb.2
  unfold xTriple at h
  rw [evK_eq, setN_eq] at h
  obtain ⟨g1, g2, h1⟩ := xPair_alloc (P := P) (M := M) hpr h
  have hal : ∃ t0, o1.op = .alloc t0 ∧ o1.dst = some p := by
    unfold pairOf at hpr
    split at hpr
    case h_2 => cases hpr
    split at hpr
    case h_2 => cases hpr
    rename_i t0 p0 u0 q0 y0 ho1 hd1 ho2
    split at hpr
    case h_2 => cases hpr
    cases hpr
    exact ⟨_, ho1, hd1⟩
  obtain ⟨t0, ho1, hd1⟩ := hal
  refine ⟨g1, hg, g2, aOp_mono (fun v st' h2 => ?_) (aOp_alloc_any (B := A) ho1 h1)⟩
  have e1 : ev (putA A (some p) v) x = ev A x := ev_put fun t ht hx => by cases ht; exact hxp hx
  have e2 : putA (putA A (some p) v) (some m) (ev A x) = putA (A.set m (ev A x)) (some p) v := by
    have := putA_comm A (x := some p) (y := some m) v (ev A x) (fun d hd e => by cases hd; cases e; exact hmp rfl)
    exact this
  rw [hd1] at h2 ⊢
  rw [hdst]
  unfold aOp
  rw [hop]
  simp only [e1, e2]
  exact h2
def xOps (P : Program) (T : Tab) (M : MTab) (frz : List Nat) (ops : List Oper) : List Oper → List AV → St → KA → Prop
  | [], A, st, k => k A st
  | o :: rest, A, st, k => match (match rest with | [o2] => pairOf frz o o2 | _ => none) with
    | some (p, t, u, y) => (match rest with | [o2] => xPair T p t u y o2.dst A st k | _ => False)
    | none => match (match rest with | [om, o2] => tripleOf frz o om o2 | _ => none) with
    | some (m, x, p, t, u, y) => (match rest with | [_, o2] => xTriple T m x p t u y o2.dst A st k | _ => False)
    | none => xWant ops o A
      (xOp P T M (inF frz o.dst) o.op A st fun v st' => setK A o.dst v fun A' => xOps P T M frz ops rest A' st' k)
      (setK A o.dst (.tuple []) fun A' => xOps P T M frz ops rest A' st k)
theorem aOps_none {P : Program} {T : Tab} {M : MTab} {ops : List Oper} {o : Oper} {rest : List Oper} {A : List AV} {st : St} {k : KA} (hg : o.guard = none) (h : aOp P T M o A st fun v st' => aOps P T M ops rest (putA A o.dst v) st' k) : aOps P T M ops (o :: rest) A st k := by
  unfold aOps aWant
  rw [hg]
  exact ⟨fun _ => h, fun e => by cases e⟩
theorem xOps_eq {P : Program} {T : Tab} {M : MTab} {frz : List Nat} {ops : List Oper} : ∀ (l : List Oper) (A : List AV) (st : St) (k : KA), xOps P T M frz ops l A st k → aOps P T M ops l A st (Seen k)
  | [], A, st, k, h => ⟨A, st, ShiftA.refl A st, h⟩
  | o :: rest, A, st, k, h => by
    unfold xOps at h
    split at h
    · rename_i p t u y hp
      split at hp
      · rename_i o2
        obtain ⟨g1, g2, h1⟩ := xPair_alloc (P := P) (M := M) hp h
        exact aOps_none g1 (aOp_mono (fun v st' h2 => aOps_none g2 h2) h1)
      · cases hp
    · split at h
      · rename_i m x p t u y hp
        split at hp
        · rename_i om o2
          obtain ⟨g1, g2, g3, h1⟩ := xTriple_alloc (P := P) (M := M) hp h
          exact aOps_none g1 (aOp_mono (fun v st' h2 => aOps_none g2 (aOp_mono (fun v1 st1 h3 => aOps_none g3 h3) h2)) h1)
        · cases hp
      obtain ⟨b, hb, h1, h2⟩ := xWant_eq h
      unfold aOps
      rw [hb]
      refine ⟨fun e => aOp_mono (fun v st' hk => ?_) (xOp_eq (h1 e)), fun e => ?_⟩
      · rw [setK_eq] at hk; exact xOps_eq rest _ _ _ hk
      · have := h2 e; rw [setK_eq] at this; exact xOps_eq rest _ _ _ this

/-! ### regions that draw -/
/-- Operations that come to one value and leave the store. -/
def isDet (op : Op) : Bool := isPure op || (match op with | .load .. => true | _ => false)
theorem pick_one {r : TRow} {cs : List AV} {i : Nat} {k : AV → Prop} (h : pick r cs i k) : ∃ v, (pick r cs i fun v' => v' = v) ∧ k v := by
  unfold pick at *
  split at h
  · exact ⟨_, ⟨h.1, rfl⟩, h.2⟩
  · split at h
    · exact ⟨_, rfl, h⟩
    · exact h.elim
theorem det_one {P : Program} {T : Tab} {M : MTab} {o : Oper} (hd : isDet o.op = true) {A : List AV} {st : St} {k : KK} (h : aOp P T M o A st k) : ∃ v, (aOp P T M o A st fun v' s => v' = v ∧ s = st) ∧ k v st := by
  have fin : ∀ {v : AV}, (aOp P T M o A st fun v' s => v' = v) → isDet o.op = true → True := fun _ _ => trivial
  unfold aOp at *
  split at h
  · exact ⟨_, ⟨rfl, rfl⟩, h⟩
  · exact ⟨_, ⟨rfl, rfl⟩, h⟩
  · split at h
    · rename_i b hb
      cases b with
      | true => exact ⟨_, ⟨fun _ => ⟨rfl, rfl⟩, fun e => by cases e⟩, h.1 rfl⟩
      | false => exact ⟨_, ⟨(fun e => by cases e), fun _ => ⟨rfl, rfl⟩⟩, h.2 rfl⟩
    · exact h.elim
  · split at h
    · exact ⟨_, ⟨rfl, rfl⟩, h⟩
    · exact h.elim
  · split at h
    · exact ⟨_, ⟨rfl, rfl⟩, h⟩
    · exact h.elim
  · unfold aLoad at *
    split at h
    · exact h.elim
    · split at h
      · obtain ⟨v, h1, h2⟩ := pick_one h
        exact ⟨v, pick_mono (fun v' e => ⟨e, rfl⟩) h1, h2⟩
      · split at h
        · obtain ⟨v, h1, h2⟩ := pick_one h.2.2
          exact ⟨v, ⟨h.1, h.2.1, pick_mono (fun v' e => ⟨e, rfl⟩) h1⟩, h2⟩
        · exact h.elim
      · exact h.elim
  · rename_i ho; rw [ho] at hd; cases hd
  · rename_i ho; rw [ho] at hd; cases hd
  · rename_i ho; rw [ho] at hd; cases hd
  · unfold aBuild at *
    split at h
    · exact h.elim
    · split at h
      · split at h
        · exact h.elim
        · split at h
          · exact ⟨_, ⟨rfl, rfl⟩, h⟩
          · exact h.elim
      · split at h
        · exact h.elim
        · split at h
          · exact ⟨_, ⟨rfl, rfl⟩, h⟩
          · exact h.elim
      · exact h.elim
  · rename_i ho; rw [ho] at hd; cases hd
  · exact ⟨_, ⟨h.1, rfl, rfl⟩, h.2⟩
  · split at h
    · exact ⟨_, ⟨rfl, rfl⟩, h⟩
    · exact h.elim
  · exact ⟨_, ⟨h.1, rfl, rfl⟩, h.2⟩
  · exact ⟨_, ⟨rfl, rfl⟩, h⟩
  · rename_i ho; rw [ho] at hd; cases hd
  · unfold aSlice at *
    split at h
    · exact h.elim
    · split at h
      · split at h
        · exact h.elim
        · split at h
          · exact ⟨_, ⟨h.1, h.2.1, h.2.2.1, h.2.2.2.1, rfl, rfl⟩, h.2.2.2.2⟩
          · split at h
            · split at h
              · exact ⟨_, ⟨h.1, h.2.1, rfl, rfl⟩, h.2.2⟩
              · exact h.elim
            · split at h
              · exact ⟨_, ⟨h.1, h.2.1, h.2.2.1, rfl, rfl⟩, h.2.2.2⟩
              · exact h.elim
            · split at h
              · exact ⟨_, ⟨h.1, h.2.1, rfl, rfl⟩, h.2.2⟩
              · exact h.elim
            · exact h.elim
      · split at h
        · split at h
          · exact ⟨_, ⟨h.1, rfl, rfl⟩, h.2⟩
          · exact h.elim
        · exact h.elim
      · exact h.elim
  · unfold aFieldAddr at *
    split at h
    · exact h.elim
    · split at h
      · split at h
        · exact h.elim
        · split at h
          · exact h.elim
          · obtain ⟨h0, h⟩ := h
            split at h
            · exact ⟨_, ⟨h0, rfl, rfl⟩, h⟩
            · exact ⟨_, ⟨h0, rfl, rfl⟩, h⟩
            · exact h.elim
      · exact h.elim
  · unfold aField at *
    split at h
    · exact h.elim
    · split at h
      · split at h
        · exact h.elim
        · split at h
          · exact h.elim
          · split at h
            · obtain ⟨v, h1, h2⟩ := pick_one h
              exact ⟨v, pick_mono (fun v' e => ⟨e, rfl⟩) h1, h2⟩
            · exact h.elim
      · exact h.elim
  · unfold aIndexAddr at *
    split at h
    · exact h.elim
    · split at h
      · split at h
        · exact h.elim
        · split at h
          · split at h
            · exact ⟨_, ⟨h.1, h.2.1, rfl, rfl⟩, h.2.2⟩
            · exact ⟨_, ⟨h.1, h.2.1, rfl, rfl⟩, h.2.2⟩
            · exact h.elim
          · exact h.elim
      · split at h
        · exact h.elim
        · split at h
          · obtain ⟨h0, h⟩ := h
            split at h
            · exact ⟨_, ⟨h0, rfl, rfl⟩, h⟩
            · exact ⟨_, ⟨h0, rfl, rfl⟩, h⟩
            · exact h.elim
          · exact h.elim
      · exact h.elim
  · unfold aIndex at *
    split at h
    · exact h.elim
    · split at h
      · obtain ⟨h0, h⟩ := h
        exact ⟨_, ⟨h0, rfl, rfl⟩, h⟩
      · exact h.elim
  · split at h
    · exact ⟨_, ⟨rfl, rfl⟩, h⟩
    · exact h.elim
  · unfold aExtract at *
    split at h
    · split at h
      · exact ⟨_, ⟨rfl, rfl⟩, h⟩
      · exact h.elim
    · exact h.elim
  · rename_i c ho
    rw [ho] at hd
    split at h
    · rename_i b hb
      simp only [isDet, isPure, hb, Bool.or_false] at hd
      unfold aBuiltin at *
      split at h
      · split at h
        · split at h
          · split at h
            · exact ⟨_, ⟨rfl, rfl⟩, h⟩
            · exact h.elim
          · exact h.elim
        · exact h.elim
      · split at h
        · split at h
          · exact ⟨_, ⟨rfl, rfl⟩, h⟩
          · exact h.elim
        · exact h.elim
      · split at h
        · split at h
          · exact ⟨_, ⟨rfl, rfl⟩, h⟩
          · exact h.elim
        · exact h.elim
      · cases hd
      · exact h.elim
    · rename_i r name hb
      simp [isDet, isPure, hb] at hd
    · rename_i f hb
      simp [isDet, isPure, hb] at hd
  · exact h.elim
def xRun (P : Program) (T : Tab) (M : MTab) (frz : List Nat) (ops : List Oper) (eff ext : List Nat) : List Nat → List AV → St → KA → Prop
  | [], A, st, k => k A st
  | i :: ord, A, st, k => match ops[i]? with
    | none => False
    | some o => match (match ord with | [j] => (match ops[j]? with | some o2 => (match eff.contains i && eff.contains j with | true => pairOf frz o o2 | false => none) | none => none) | _ => none) with
      | some (p, t, u, y) => (match ord with | [j] => (match ops[j]? with | some o2 => xPair T p t u y o2.dst A st k | none => False) | _ => False)
      | none => xWant ops o A
        (match eff.contains i with
          | true => xOp P T M (inF frz o.dst) o.op A st fun v st' => setK A o.dst v fun A' => xRun P T M frz ops eff ext ord A' st' k
          | false => match ext.contains i with
            | true => ∃ v, (∀ st', Ext st st' → xOp P T M (inF frz o.dst) o.op A st' fun v' st'' => v' = v ∧ st'' = st') ∧ setK A o.dst v fun A' => xRun P T M frz ops eff ext ord A' st k
            | false => match isDet o.op with
              | true => xOp P T M (inF frz o.dst) o.op A st fun v _ => setK A o.dst v fun A' => xRun P T M frz ops eff ext ord A' st k
              | false => ∃ v, (xOp P T M (inF frz o.dst) o.op A st fun v' st'' => v' = v ∧ st'' = st) ∧ setK A o.dst v fun A' => xRun P T M frz ops eff ext ord A' st k)
        (setK A o.dst (.tuple []) fun A' => xRun P T M frz ops eff ext ord A' st k)
theorem xRun_eq {P : Program} {T : Tab} {M : MTab} {frz : List Nat} {ops : List Oper} {eff ext : List Nat} : ∀ (ord : List Nat) (A : List AV) (st : St) (k : KA), xRun P T M frz ops eff ext ord A st k → dRun P T M ops eff ext ord A st (Seen k)
  | [], A, st, k, h => ⟨A, st, ShiftA.refl A st, h⟩
  | i :: ord, A, st, k, h => by
    unfold xRun at h
    cases ho : ops[i]? with
    | none => rw [ho] at h; exact h.elim
    | some o =>
      rw [ho] at h
      simp only at h
      split at h
      · rename_i p t u y hp
        split at hp
        · rename_i j
          split at hp
          · rename_i o2 ho2
            split at hp
            · rename_i hee
              simp only [Bool.and_eq_true] at hee
              simp only [ho2] at h
              obtain ⟨g1, g2, h1⟩ := xPair_alloc (P := P) (M := M) hp h
              unfold dRun
              rw [ho]
              have w1 : aWant ops o A = some true := by unfold aWant; rw [g1]
              simp only [w1]
              refine ⟨fun _ => ?_, fun e => by cases e⟩
              rw [hee.1]
              refine aOp_mono (fun v st' h2 => ?_) h1
              unfold dRun
              rw [ho2]
              have w2 : aWant ops o2 (putA A o.dst v) = some true := by unfold aWant; rw [g2]
              simp only [w2]
              refine ⟨fun _ => ?_, fun e => by cases e⟩
              rw [hee.2]
              exact aOp_mono (fun v' st'' h3 => h3) h2
            · cases hp
          · cases hp
        · cases hp
      · unfold dRun
        rw [ho]
        simp only
        obtain ⟨b, hb, h1, h2⟩ := xWant_eq h
        rw [hb]
        simp only
        refine ⟨fun e => ?_, fun e => ?_⟩
        · have h1 := h1 e
          split at h1
          · rename_i hc
            rw [hc]
            exact aOp_mono (fun v st' hk => by rw [setK_eq] at hk; exact xRun_eq ord _ _ _ hk) (xOp_eq h1)
          · rename_i hc
            rw [hc]
            simp only
            split at h1
            · rename_i hx
              rw [hx]
              obtain ⟨v, hv, hk⟩ := h1
              rw [setK_eq] at hk
              exact ⟨v, fun st' hs => xOp_eq (hv st' hs), xRun_eq ord _ _ _ hk⟩
            · rename_i hx
              rw [hx]
              simp only
              split at h1
              · rename_i hdet
                obtain ⟨v, hv, hk⟩ := det_one hdet (xOp_eq h1)
                rw [setK_eq] at hk
                exact ⟨v, hv, xRun_eq ord _ _ _ hk⟩
              · obtain ⟨v, hv, hk⟩ := h1
                rw [setK_eq] at hk
                exact ⟨v, xOp_eq hv, xRun_eq ord _ _ _ hk⟩
        · have := h2 e
          rw [setK_eq] at this
          exact xRun_eq ord _ _ _ this
def xGen (P : Program) (T : Tab) (M : MTab) (frz : List Nat) (ops : List Oper) (i : Nat) (K : KA) (A : List AV) (st : St) : Prop :=
  match ops[i]? with
  | none => False
  | some o => xWant ops o A (xOp P T M (inF frz o.dst) o.op A st fun v st' => setK A o.dst v fun A' => K A' st') (setK A o.dst (.tuple []) fun A' => K A' st)
def xQui (P : Program) (T : Tab) (M : MTab) (frz : List Nat) (ops : List Oper) (i : Nat) (K : KA) (A : List AV) (st : St) : Prop :=
  match ops[i]? with
  | none => False
  | some o => xWant ops o A
    (match isDet o.op with
      | true => xOp P T M (inF frz o.dst) o.op A st fun v _ => setK A o.dst v fun A' => K A' st
      | false => ∃ v, (xOp P T M (inF frz o.dst) o.op A st fun v' st'' => v' = v ∧ st'' = st) ∧ setK A o.dst v fun A' => K A' st)
    (setK A o.dst (.tuple []) fun A' => K A' st)
def xRunT (P : Program) (T : Tab) (M : MTab) (frz : List Nat) (ops : List Oper) : OT → List AV → St → KA → Prop
  | .done, A, st, k => k A st
  | .gen i t, A, st, k => xGen P T M frz ops i (fun A' st' => xRunT P T M frz ops t A' st' k) A st
  | .qui i t, A, st, k => xQui P T M frz ops i (fun A' st' => xRunT P T M frz ops t A' st' k) A st
  | .two i j t u, A, st, k => xGen P T M frz ops i (fun A' st' => xRunT P T M frz ops t A' st' k) A st ∧ xGen P T M frz ops j (fun A' st' => xRunT P T M frz ops u A' st' k) A st
theorem xGen_eq {P : Program} {T : Tab} {M : MTab} {frz : List Nat} {ops : List Oper} {i : Nat} {K K' : KA} {A : List AV} {st : St} (hK : ∀ A st, K A st → K' A st) (h : xGen P T M frz ops i K A st) : dGen P T M ops i K' A st := by
  unfold xGen at h
  unfold dGen
  cases ho : ops[i]? with
  | none => rw [ho] at h; exact h.elim
  | some o =>
    rw [ho] at h
    simp only at h ⊢
    obtain ⟨b, hb, h1, h2⟩ := xWant_eq h
    rw [hb]
    refine ⟨fun e => ?_, fun e => ?_⟩
    · exact aOp_mono (fun v st' hk => by rw [setK_eq] at hk; exact hK _ _ hk) (xOp_eq (h1 e))
    · have := h2 e
      rw [setK_eq] at this; exact hK _ _ this
theorem xQui_eq {P : Program} {T : Tab} {M : MTab} {frz : List Nat} {ops : List Oper} {i : Nat} {K K' : KA} {A : List AV} {st : St} (hK : ∀ A st, K A st → K' A st) (h : xQui P T M frz ops i K A st) : dQui P T M ops i K' A st := by
  unfold xQui at h
  unfold dQui
  cases ho : ops[i]? with
  | none => rw [ho] at h; exact h.elim
  | some o =>
    rw [ho] at h
    simp only at h ⊢
    obtain ⟨b, hb, h1, h2⟩ := xWant_eq h
    rw [hb]
    refine ⟨fun e => ?_, fun e => ?_⟩
    · have h1 := h1 e
      split at h1
      · rename_i hdet
        obtain ⟨v, hv, hk⟩ := det_one hdet (xOp_eq h1)
        rw [setK_eq] at hk
        exact ⟨v, hv, hK _ _ hk⟩
      · obtain ⟨v, hv, hk⟩ := h1
        rw [setK_eq] at hk
        exact ⟨v, xOp_eq hv, hK _ _ hk⟩
    · have := h2 e
      rw [setK_eq] at this; exact hK _ _ this
theorem xRunT_eq {P : Program} {T : Tab} {M : MTab} {frz : List Nat} {ops : List Oper} : ∀ (t : OT) (A : List AV) (st : St) (k : KA), xRunT P T M frz ops t A st k → dRunT P T M ops t A st (Seen k)
  | .done, A, st, k, h => ⟨A, st, ShiftA.refl A st, h⟩
  | .gen i t, A, st, k, h => xGen_eq (fun A st h => xRunT_eq t A st k h) h
  | .qui i t, A, st, k, h => xQui_eq (fun A st h => xRunT_eq t A st k h) h
  | .two i j t u, A, st, k, h => ⟨xGen_eq (fun A st h => xRunT_eq t A st k h) h.1, xGen_eq (fun A st h => xRunT_eq u A st k h) h.2⟩
def xDr (P : Program) (T : Tab) (M : MTab) (frz : List Nat) (ops : List Oper) (A : List AV) (st : St) (k : KA) : Prop :=
  ∃ eff ext ord : List Nat, match ord with
    | [] => ∃ t : OT, (Region.noSelect ops.toArray && okT ops.toArray eff t ops.length (Array.replicate ops.length false)) = true ∧ xRunT P T M frz ops t A st k
    | _ :: _ => (Region.noSelect ops.toArray && ordOk ops.toArray eff ext ord (Array.replicate ops.length false) && (ord.length == ops.length)) = true ∧ xRun P T M frz ops eff ext ord A st k
theorem xDr_eq {P : Program} {T : Tab} {M : MTab} {frz : List Nat} {ops : List Oper} {A : List AV} {st : St} {k : KA} (h : xDr P T M frz ops A st k) : Dr P T M ops A st (Seen k) := by
  obtain ⟨eff, ext, ord, h⟩ := h
  refine ⟨eff, ext, ord, ?_⟩
  split at h
  · obtain ⟨t, h1, h2⟩ := h
    exact ⟨t, h1, xRunT_eq t _ _ _ h2⟩
  · exact ⟨h.1, xRun_eq _ _ _ _ h.2⟩

/-! ### code -/
def replK : Nat → (List AV → Prop) → Prop
  | 0, k => k []
  | n + 1, k => replK n fun A => k (.junk :: A)
theorem replK_eq : ∀ (n : Nat) (k : List AV → Prop), replK n k = k (List.replicate n .junk)
  | 0, k => rfl
  | n + 1, k => by rw [replK, replK_eq n]; rfl
def setsK : List Nat → List AV → List AV → (List AV → Prop) → Prop
  | i :: is, v :: vs, A, k => setN A i v fun A' => setsK is vs A' k
  | _, _, A, k => k A
theorem setsK_eq : ∀ (is : List Nat) (vs A : List AV) (k : List AV → Prop), setsK is vs A k = k ((is.zip vs).foldl (fun A p => A.set p.1 p.2) A)
  | [], vs, A, k => by simp [setsK]
  | i :: is, [], A, k => by simp [setsK]
  | i :: is, v :: vs, A, k => by simp only [setsK, setN_eq, setsK_eq is vs, List.zip_cons_cons, List.foldl_cons]
def getsK (A : List AV) : List Nat → (List AV → Prop) → Prop
  | [], k => k []
  | i :: is, k => getK A i fun v => getsK A is fun vs => k (v :: vs)
theorem getsK_eq (A : List AV) : ∀ (is : List Nat) (k : List AV → Prop), getsK A is k = k (is.map fun i => A.getD i AV.junk)
  | [], k => rfl
  | i :: is, k => by simp only [getsK, getK_eq, getsK_eq A is, List.map_cons]
def X (P : Program) (T : Tab) (M : MTab) (frz : List Nat) : Code → List AV → St → (Exit → KA) → Prop
  | .skip, A, st, K => K .normal A st
  | .region _ ops draw, A, st, K => match draw with
    | false => xOps P T M frz ops.toList ops.toList A st (K .normal)
    | true => xDr P T M frz ops.toList A st (K .normal)
  | .seq x y, A, st, K => X P T M frz x A st fun e A' st' => match e with
    | .normal => X P T M frz y A' st' K
    | e => K e A' st'
  | .cond c x y, A, st, K => evK A c fun v => match v with
    | .bool b => forkB b (X P T M frz x A st K) (X P T M frz y A st K)
    | .ubool => X P T M frz x A st K ∧ X P T M frz y A st K
    | _ => False
  | .block id c, A, st, K => X P T M frz c A st fun e A' st' => match e with
    | .exit j => (match Nat.beq j id with | true => K .normal A' st' | false => K (.exit j) A' st')
    | e => K e A' st'
  | .loop c, A, st, K => ∃ (keep : List Nat) (I : Nat → KA), (getsK A keep fun us => ∃ m, I m us st) ∧ ∀ m vs st', I m vs st' → replK A.length fun B => setsK keep vs B fun A' => X P T M frz c A' st' fun e A'' st'' => match e with
    | .normal => A''.length = A.length ∧ getsK A'' keep fun us => ∃ m', m' < m ∧ I m' us st''
    | e => K e A'' st''
  | .exit id, A, st, K => K (.exit id) A st
  | .ret, A, st, K => K .ret A st
  | _, _, _, _ => False
theorem W_mono {P : Program} {T : Tab} {M : MTab} : ∀ (c : Code) (A : List AV) (st : St) (K K' : Exit → KA), (∀ e A st, K e A st → K' e A st) → W P T M (Dr P T M) c A st K → W P T M (Dr P T M) c A st K' := by
  have hops : ∀ (ops l : List Oper) (A : List AV) (st : St) (k k' : KA), (∀ A st, k A st → k' A st) → aOps P T M ops l A st k → aOps P T M ops l A st k' := by
    intro ops l
    induction l with
    | nil => intro A st k k' hk h; exact hk _ _ h
    | cons o l ih =>
      intro A st k k' hk h
      unfold aOps at h ⊢
      split at h
      · exact h.elim
      · exact ⟨fun e => aOp_mono (fun v st h => ih _ _ _ _ hk h) (h.1 e), fun e => ih _ _ _ _ hk (h.2 e)⟩
  have hrun : ∀ (ops : List Oper) (eff ext ord : List Nat) (A : List AV) (st : St) (k k' : KA), (∀ A st, k A st → k' A st) → dRun P T M ops eff ext ord A st k → dRun P T M ops eff ext ord A st k' := by
    intro ops eff ext ord
    induction ord with
    | nil => intro A st k k' hk h; exact hk _ _ h
    | cons i ord ih =>
      intro A st k k' hk h
      unfold dRun at h ⊢
      split at h
      · exact h
      · split at h
        · exact h
        · refine ⟨fun e => ?_, fun e => ih _ _ _ _ hk (h.2 e)⟩
          have h := h.1 e
          split at h
          · exact aOp_mono (fun v st h => ih _ _ _ _ hk h) h
          · obtain ⟨v, h1, h2⟩ := h
            exact ⟨v, h1, ih _ _ _ _ hk h2⟩
  have hgen : ∀ (ops : List Oper) (i : Nat) (A : List AV) (st : St) (k k' : KA), (∀ A st, k A st → k' A st) → dGen P T M ops i k A st → dGen P T M ops i k' A st := by
    intro ops i A st k k' hk h
    unfold dGen at h ⊢
    split at h
    · exact h
    · split at h
      · exact h
      · exact ⟨fun e => aOp_mono (fun v st h => hk _ _ h) (h.1 e), fun e => hk _ _ (h.2 e)⟩
  have hrunT : ∀ (ops : List Oper) (t : OT) (A : List AV) (st : St) (k k' : KA), (∀ A st, k A st → k' A st) → dRunT P T M ops t A st k → dRunT P T M ops t A st k' := by
    intro ops t
    induction t with
    | done => intro A st k k' hk h; exact hk _ _ h
    | gen i t ih => intro A st k k' hk h; exact hgen _ _ _ _ _ _ (fun A st h => ih _ _ _ _ hk h) h
    | qui i t ih =>
      intro A st k k' hk h
      unfold dRunT dQui at h ⊢
      split at h
      · exact h
      · split at h
        · exact h
        · refine ⟨fun e => ?_, fun e => ih _ _ _ _ hk (h.2 e)⟩
          obtain ⟨v, h1, h2⟩ := h.1 e
          exact ⟨v, h1, ih _ _ _ _ hk h2⟩
    | two i j t u iht ihu => intro A st k k' hk h; exact ⟨hgen _ _ _ _ _ _ (fun A st h => iht _ _ _ _ hk h) h.1, hgen _ _ _ _ _ _ (fun A st h => ihu _ _ _ _ hk h) h.2⟩
  intro c
  induction c with
  | skip => intro A st K K' hK h; exact hK _ _ _ h
  | region id ops draw =>
    intro A st K K' hK h
    unfold W at h ⊢
    cases draw with
    | false => exact hops _ _ _ _ _ _ (fun A st ⟨A', st', h1, h2⟩ => ⟨A', st', h1, hK _ _ _ h2⟩) h
    | true =>
      obtain ⟨eff, ext, ord, h⟩ := h
      refine ⟨eff, ext, ord, ?_⟩
      split at h
      · obtain ⟨t, h1, h2⟩ := h
        exact ⟨t, h1, hrunT _ _ _ _ _ _ (fun A st ⟨A', st', h1, h2⟩ => ⟨A', st', h1, hK _ _ _ h2⟩) h2⟩
      · exact ⟨h.1, hrun _ _ _ _ _ _ _ _ (fun A st ⟨A', st', h1, h2⟩ => ⟨A', st', h1, hK _ _ _ h2⟩) h.2⟩
  | seq x y ihx ihy =>
    intro A st K K' hK h
    unfold W at h ⊢
    refine ihx _ _ _ _ (fun e A st h => ?_) h
    cases e <;> first | exact hK _ _ _ h | exact ihy _ _ _ _ hK h
  | cond c x y ihx ihy =>
    intro A st K K' hK h
    unfold W at h ⊢
    split at h
    · exact ⟨fun e => ihx _ _ _ _ hK (h.1 e), fun e => ihy _ _ _ _ hK (h.2 e)⟩
    · exact ⟨ihx _ _ _ _ hK h.1, ihy _ _ _ _ hK h.2⟩
    · exact h
  | block id c ih =>
    intro A st K K' hK h
    unfold W at h ⊢
    refine ih _ _ _ _ (fun e A st h => ?_) h
    cases e <;> simp only at h ⊢ <;> try exact hK _ _ _ h
    split at h
    · rename_i e; rw [if_pos e]; exact hK _ _ _ h
    · rename_i e; rw [if_neg e]; exact hK _ _ _ h
  | loop c ih =>
    intro A st K K' hK h
    unfold W at h ⊢
    obtain ⟨keep, I, h0, hI⟩ := h
    refine ⟨keep, I, h0, fun m vs st' hi => ih _ _ _ _ (fun e A st h => ?_) (hI m vs st' hi)⟩
    cases e <;> first | exact hK _ _ _ h | exact h
  | exit id => intro A st K K' hK h; exact hK _ _ _ h
  | ret => intro A st K K' hK h; exact hK _ _ _ h
  | rangeFunc _ _ _ _ => intro A st K K' hK h; exact h
  | scope _ => intro A st K K' hK h; exact h
  | label _ => intro A st K K' hK h; exact h
  | goto _ => intro A st K K' hK h; exact h
  | refuse _ => intro A st K K' hK h; exact h
theorem X_W {P : Program} {T : Tab} {M : MTab} {frz : List Nat} : ∀ (c : Code) (A : List AV) (st : St) (K : Exit → KA), X P T M frz c A st K → W P T M (Dr P T M) c A st K := by
  intro c
  induction c with
  | skip => intro A st K h; exact h
  | region id ops draw =>
    intro A st K h
    unfold X at h
    unfold W
    cases draw with
    | false => exact xOps_eq _ _ _ _ h
    | true => exact xDr_eq h
  | seq x y ihx ihy =>
    intro A st K h
    unfold X at h
    unfold W
    refine W_mono _ _ _ _ _ (fun e A st h => ?_) (ihx _ _ _ h)
    cases e <;> first | exact h | exact ihy _ _ _ h
  | cond c x y ihx ihy =>
    intro A st K h
    unfold X at h
    unfold W
    rw [evK_eq] at h
    split at h
    · rename_i b hb
      rw [hb]
      obtain ⟨h1, h2⟩ := (forkB_iff _ _ _).1 h
      exact ⟨fun e => ihx _ _ _ (h1 e), fun e => ihy _ _ _ (h2 e)⟩
    · rename_i hb
      rw [hb]
      exact ⟨ihx _ _ _ h.1, ihy _ _ _ h.2⟩
    · exact h.elim
  | block id c ih =>
    intro A st K h
    unfold X at h
    unfold W
    refine W_mono _ _ _ _ _ (fun e A st h => ?_) (ih _ _ _ h)
    cases e <;> simp only at h ⊢ <;> try exact h
    split at h
    · rename_i e; rw [if_pos (Nat.eq_of_beq_eq_true e)]; exact h
    · rename_i e; rw [if_neg (Nat.ne_of_beq_eq_false e)]; exact h
  | loop c ih =>
    intro A st K h
    unfold X at h
    unfold W
    obtain ⟨keep, I, h0, hI⟩ := h
    rw [getsK_eq] at h0
    refine ⟨keep, I, h0, fun m vs st' hi => ?_⟩
    have h1 := hI m vs st' hi
    rw [replK_eq, setsK_eq] at h1
    refine W_mono _ _ _ _ _ (fun e A st h => ?_) (ih _ _ _ h1)
    cases e <;> first | exact h | (rw [getsK_eq] at h; exact h)
  | exit id => intro A st K h; exact h
  | ret => intro A st K h; exact h
  | rangeFunc _ _ _ _ => intro A st K h; exact h
  | scope _ => intro A st K h; exact h
  | label _ => intro A st K h; exact h
  | goto _ => intro A st K h; exact h
  | refuse _ => intro A st K h; exact h
def xRes1 (T : Tab) (A : List AV) (st : St) (r : ResultVar) (k : AV → Prop) : Prop :=
  match r with
  | .tmp t => getK A t k
  | .cell t ty => getK A t fun p => xLoad T ty p st (fun v _ => k v)
def xRess (T : Tab) (A : List AV) (st : St) : List ResultVar → (List AV → Prop) → Prop
  | [], k => k []
  | r :: rs, k => xRes1 T A st r fun v => xRess T A st rs fun vs => k (v :: vs)
theorem aRess_mono {T : Tab} {A : List AV} {st : St} : ∀ (rs : List ResultVar) (k k' : List AV → Prop), (∀ vs, k vs → k' vs) → aRess T A st rs k → aRess T A st rs k'
  | [], k, k', hk, h => hk _ h
  | r :: rs, k, k', hk, h => by
    simp only [aRess] at h ⊢
    have hin : ∀ v, (aRess T A st rs fun vs => k (v :: vs)) → aRess T A st rs fun vs => k' (v :: vs) := fun v => aRess_mono rs _ _ fun vs => hk _
    cases r with
    | tmp t => exact hin _ h
    | cell t ty =>
      simp only [aRes1] at h ⊢
      exact aLoad_mono (k := fun v _ => aRess T A st rs fun vs => k (v :: vs)) (k' := fun v _ => aRess T A st rs fun vs => k' (v :: vs)) (fun v => hin v) h
theorem xRess_eq {T : Tab} {A : List AV} {st : St} : ∀ (rs : List ResultVar) (k : List AV → Prop), xRess T A st rs k → aRess T A st rs k
  | [], k, h => h
  | r :: rs, k, h => by
    simp only [xRess] at h
    simp only [aRess]
    cases r with
    | tmp t => simp only [xRes1, aRes1, getK_eq] at h ⊢; exact xRess_eq rs _ h
    | cell t ty => simp only [xRes1, aRes1, getK_eq] at h ⊢; exact aLoad_mono (fun v hv => xRess_eq rs _ hv) (xLoad_eq h)
def xEnd (T : Tab) (rs : List ResultVar) (post : KK) : Exit → KA := fun e A st => match e with
  | .normal => xRess T A st rs fun vs => post (pack vs) st
  | .ret => xRess T A st rs fun vs => post (pack vs) st
  | _ => False
def undK : Nat → (List AV → Prop) → Prop
  | 0, k => k []
  | n + 1, k => undK n fun A => k (.tuple [] :: A)
theorem undK_eq : ∀ (n : Nat) (k : List AV → Prop), undK n k = k (List.replicate n (.tuple []))
  | 0, k => rfl
  | n + 1, k => by rw [undK, undK_eq n]; rfl
def startK : List AV → Nat → (List AV → Prop) → Prop
  | [], n, k => undK n k
  | v :: vs, n, k => startK vs (n - 1) fun A => k (v :: A)
theorem startK_eq : ∀ (args : List AV) (n : Nat) (k : List AV → Prop), startK args n k = k (start args n)
  | [], n, k => by rw [startK, undK_eq]; simp [start]
  | v :: vs, n, k => by
    rw [startK, startK_eq vs (n - 1)]
    unfold start
    simp only [List.length_cons, List.cons_append]
    rw [show n - 1 - vs.length = n - (vs.length + 1) from by omega]
theorem S_of_X0 {P : Program} {T : Tab} {M : MTab} (frz : List Nat) (hG : Good P T M) (hm : P.follows .mixedOrders = true) {f : FuncId} {fn : Func} {c : Code} {args : List AV} {st : St} {post : KK} {n : Nat} {rs : Array ResultVar}
    (hf : P.funcs[f]? = some fn) (hname : (fn.name == "runtime.NumGoroutine") = false) (hb : fn.body = some c) (hn : fn.ntmps = n) (hr : fn.results = rs)
    (h : startK args n fun A => X P T M frz c A st (xEnd T rs.toList post)) : S P f args st post := by
  subst hn; subst hr
  rw [startK_eq] at h
  refine S_of_W hG (dr_ok hG hm) hf hname hb (W_mono _ _ _ _ _ (fun e A st h => ?_) (X_W _ _ _ _ h))
  cases e <;> first | exact h | (exact xRess_eq _ _ h)
/-! ### The same by recursors: what is left over of a walk then reads the same for the kernel -/
noncomputable def yOps (P : Program) (T : Tab) (M : MTab) (frz : List Nat) (ops : List Oper) (l : List Oper) : List AV → St → KA → Prop :=
  List.rec (motive := fun _ => List AV → St → KA → Prop) (fun A st k => k A st)
    (fun o rest ih A st k => match (match rest with | [o2] => pairOf frz o o2 | _ => none) with
      | some (p, t, u, y) => (match rest with | [o2] => xPair T p t u y o2.dst A st k | _ => False)
      | none => match (match rest with | [om, o2] => tripleOf frz o om o2 | _ => none) with
      | some (m, x, p, t, u, y) => (match rest with | [_, o2] => xTriple T m x p t u y o2.dst A st k | _ => False)
      | none => xWant ops o A
        (xOp P T M (inF frz o.dst) o.op A st fun v st' => setK A o.dst v fun A' => ih A' st' k)
        (setK A o.dst (.tuple []) fun A' => ih A' st k)) l
theorem yOps_eq {P : Program} {T : Tab} {M : MTab} {frz : List Nat} {ops : List Oper} : ∀ l, yOps P T M frz ops l = xOps P T M frz ops l
  | [] => rfl
  | o :: rest => by
    funext A st k
    conv => rhs; unfold xOps
    rw [← yOps_eq rest]
    rfl
noncomputable def yRun (P : Program) (T : Tab) (M : MTab) (frz : List Nat) (ops : List Oper) (eff ext : List Nat) (ord : List Nat) : List AV → St → KA → Prop :=
  List.rec (motive := fun _ => List AV → St → KA → Prop) (fun A st k => k A st)
    (fun i ord ih A st k => match ops[i]? with
      | none => False
      | some o => match (match ord with | [j] => (match ops[j]? with | some o2 => (match eff.contains i && eff.contains j with | true => pairOf frz o o2 | false => none) | none => none) | _ => none) with
        | some (p, t, u, y) => (match ord with | [j] => (match ops[j]? with | some o2 => xPair T p t u y o2.dst A st k | none => False) | _ => False)
        | none => xWant ops o A
          (match eff.contains i with
            | true => xOp P T M (inF frz o.dst) o.op A st fun v st' => setK A o.dst v fun A' => ih A' st' k
            | false => match ext.contains i with
              | true => ∃ v, (∀ st', Ext st st' → xOp P T M (inF frz o.dst) o.op A st' fun v' st'' => v' = v ∧ st'' = st') ∧ setK A o.dst v fun A' => ih A' st k
              | false => match isDet o.op with
                | true => xOp P T M (inF frz o.dst) o.op A st fun v _ => setK A o.dst v fun A' => ih A' st k
                | false => ∃ v, (xOp P T M (inF frz o.dst) o.op A st fun v' st'' => v' = v ∧ st'' = st) ∧ setK A o.dst v fun A' => ih A' st k)
          (setK A o.dst (.tuple []) fun A' => ih A' st k)) ord
theorem yRun_eq {P : Program} {T : Tab} {M : MTab} {frz : List Nat} {ops : List Oper} {eff ext : List Nat} : ∀ l, yRun P T M frz ops eff ext l = xRun P T M frz ops eff ext l
  | [] => rfl
  | i :: ord => by
    funext A st k
    conv => rhs; unfold xRun
    rw [← yRun_eq ord]
    rfl
noncomputable def yRunT (P : Program) (T : Tab) (M : MTab) (frz : List Nat) (ops : List Oper) (t : OT) : List AV → St → KA → Prop :=
  OT.rec (motive := fun _ => List AV → St → KA → Prop) (fun A st k => k A st)
    (fun i _ ih A st k => xGen P T M frz ops i (fun A' st' => ih A' st' k) A st)
    (fun i _ ih A st k => xQui P T M frz ops i (fun A' st' => ih A' st' k) A st)
    (fun i j _ _ iht ihu A st k => xGen P T M frz ops i (fun A' st' => iht A' st' k) A st ∧ xGen P T M frz ops j (fun A' st' => ihu A' st' k) A st) t
theorem yRunT_eq {P : Program} {T : Tab} {M : MTab} {frz : List Nat} {ops : List Oper} : ∀ t, yRunT P T M frz ops t = xRunT P T M frz ops t
  | .done => rfl
  | .gen i t => by
    funext A st k
    conv => rhs; unfold xRunT
    rw [← yRunT_eq t]; rfl
  | .qui i t => by
    funext A st k
    conv => rhs; unfold xRunT
    rw [← yRunT_eq t]; rfl
  | .two i j t u => by
    funext A st k
    conv => rhs; unfold xRunT
    rw [← yRunT_eq t, ← yRunT_eq u]; rfl
noncomputable def yDr (P : Program) (T : Tab) (M : MTab) (frz : List Nat) (ops : List Oper) (A : List AV) (st : St) (k : KA) : Prop :=
  ∃ eff ext ord : List Nat, match ord with
    | [] => ∃ t : OT, (Region.noSelect ops.toArray && okT ops.toArray eff t ops.length (Array.replicate ops.length false)) = true ∧ yRunT P T M frz ops t A st k
    | _ :: _ => (Region.noSelect ops.toArray && ordOk ops.toArray eff ext ord (Array.replicate ops.length false) && (ord.length == ops.length)) = true ∧ yRun P T M frz ops eff ext ord A st k
theorem yDr_eq {P : Program} {T : Tab} {M : MTab} {frz : List Nat} {ops : List Oper} {A : List AV} {st : St} {k : KA} : yDr P T M frz ops A st k = xDr P T M frz ops A st k := by
  unfold yDr xDr
  simp only [yRun_eq, yRunT_eq]
noncomputable def Y (P : Program) (T : Tab) (M : MTab) (frz : List Nat) (c : Code) : List AV → St → (Exit → KA) → Prop :=
  Code.rec (motive := fun _ => List AV → St → (Exit → KA) → Prop)
    (fun A st K => K .normal A st)
    (fun _ ops draw A st K => match draw with
      | false => yOps P T M frz ops.toList ops.toList A st (K .normal)
      | true => yDr P T M frz ops.toList A st (K .normal))
    (fun _ _ x y A st K => x A st fun e A' st' => match e with
      | .normal => y A' st' K
      | e => K e A' st')
    (fun c _ _ x y A st K => evK A c fun v => match v with
      | .bool b => forkB b (x A st K) (y A st K)
      | .ubool => x A st K ∧ y A st K
      | _ => False)
    (fun id _ c A st K => c A st fun e A' st' => match e with
      | .exit j => (match Nat.beq j id with | true => K .normal A' st' | false => K (.exit j) A' st')
      | e => K e A' st')
    (fun _ c A st K => ∃ (keep : List Nat) (I : Nat → KA), (getsK A keep fun us => ∃ m, I m us st) ∧ ∀ m vs st', I m vs st' → replK A.length fun B => setsK keep vs B fun A' => c A' st' fun e A'' st'' => match e with
      | .normal => A''.length = A.length ∧ getsK A'' keep fun us => ∃ m', m' < m ∧ I m' us st''
      | e => K e A'' st'')
    (fun _ _ _ _ _ _ A st K => False)
    (fun id A st K => K (.exit id) A st)
    (fun _ _ A st K => False)
    (fun _ A st K => False)
    (fun _ A st K => False)
    (fun A st K => K .ret A st)
    (fun _ A st K => False) c
theorem Y_eq {P : Program} {T : Tab} {M : MTab} {frz : List Nat} : ∀ c, Y P T M frz c = X P T M frz c
  | .skip => rfl
  | .region _ ops draw => by
    funext A st K
    conv => rhs; unfold X
    cases draw with
    | false => show yOps _ _ _ _ _ _ _ _ _ = _; rw [yOps_eq]
    | true => show yDr _ _ _ _ _ _ _ _ = _; rw [yDr_eq]
  | .seq x y => by
    funext A st K
    conv => rhs; unfold X
    rw [← Y_eq x, ← Y_eq y]
    rfl
  | .cond c x y => by
    funext A st K
    conv => rhs; unfold X
    rw [← Y_eq x, ← Y_eq y]
    rfl
  | .block id c => by
    funext A st K
    conv => rhs; unfold X
    rw [← Y_eq c]
    rfl
  | .loop c => by
    funext A st K
    conv => rhs; unfold X
    rw [← Y_eq c]
    rfl
  | .exit id => rfl
  | .ret => rfl
  | .rangeFunc _ _ _ _ => rfl
  | .scope _ => rfl
  | .label _ => rfl
  | .goto _ => rfl
  | .refuse _ => rfl
theorem S_of_X {P : Program} {T : Tab} {M : MTab} (frz : List Nat) (hG : Good P T M) (hm : P.follows .mixedOrders = true) {f : FuncId} {fn : Func} {c : Code} {args : List AV} {st : St} {post : KK} {n : Nat} {rs : Array ResultVar}
    (hf : P.funcs[f]? = some fn) (hname : (fn.name == "runtime.NumGoroutine") = false) (hb : fn.body = some c) (hn : fn.ntmps = n) (hr : fn.results = rs)
    (h : startK args n fun A => Y P T M frz c A st (xEnd T rs.toList post)) : S P f args st post := by
  rw [Y_eq] at h
  exact S_of_X0 frz hG hm hf hname hb hn hr h
/-- What a store knows of a block. -/
theorem upd_same (st : St) (b : Nat) (x : Blk) : upd st b x b = some x := by simp [upd]
theorem upd_ne {st : St} {b c : Nat} {x : Blk} (h : c ≠ b) : upd st b x c = st c := by simp [upd, h]
theorem upd_none {st : St} {b c : Nat} {x : Blk} (h : upd st b x c = none) : c ≠ b ∧ st c = none := by
  unfold upd at h
  split at h
  · cases h
  · rename_i e; exact ⟨e, h⟩
theorem upd_upd (st : St) (b : Nat) (x y : Blk) : upd (upd st b x) b y = upd st b y := funext fun c => by unfold upd; split <;> rfl
theorem del_upd {st : St} {b : Nat} (h : st b = none) (x : Blk) : del (upd st b x) b = st := funext fun c => by
  unfold del upd
  split
  · rename_i e; rw [e, h]
  · rfl
theorem call {P : Program} {f : FuncId} {args : List AV} {st : St} {post k : KK} (h : S P f args st post) (hk : ∀ v st', post v st' → k v st') : xCall P f args st k := by
  refine ⟨?_⟩; unfold aCallF; exact ⟨args, st, Shift.refl _ _, h.mono hk⟩
/-- A call that comes to one value and leaves the store. -/
theorem call1 {P : Program} {f : FuncId} {args : List AV} {st : St} {v : AV} {k : KK} (h : S P f args st fun v' st' => v' = v ∧ st' = st) (hk : k v st) : xCall P f args st k :=
  call h fun v' st' ⟨e1, e2⟩ => by rw [e1, e2]; exact hk
theorem call_shift {P : Program} {f : FuncId} {args args' : List AV} {st st' : St} {k : KK} (hs : Shift args st args' st') (h : xCall P f args' st' k) : xCall P f args st k := by
  refine ⟨?_⟩
  have h := h.out
  unfold aCallF at *
  obtain ⟨a, s, h1, h2⟩ := h
  exact ⟨a, s, hs.trans h1, h2⟩
end Go.Ab
/- The abstract machine, part 12: steps on the call's own memory; what a slice that nobody writes again is. -/
set_option linter.unusedVariables false
set_option linter.unusedSimpArgs false
namespace Go.Ab
open Go
theorem ldO {T : Tab} {t : TypeId} {e b i o : Nat} {st : St} {k : KK} {x : Blk} {r : TRow} (h : st b = some x) (hr : T t = some r) (he : e = x.e) (hi : i < x.n) (hk : xPick r (cellsOf (x.f i)) o (fun y => k y st)) : xLdO T t e b i o st k := by
  refine ⟨?_⟩
  unfold aLoad
  rw [hr]
  simp only [h]
  exact ⟨he, hi, xPick_eq hk⟩
theorem stO {T : Tab} {t : TypeId} {e b i o : Nat} {v : AV} {st : St} {k : KK} {x : Blk} {r : TRow} (h : st b = some x) (hr : T t = some r) (he : e = x.e) (hi : i < x.n)
    (hc : (Nat.blt 0 r.size && Nat.beq (cellsOf v).length r.size && (cellsOf v).all AV.one && Nat.ble (o + r.size) x.e) = true)
    (hk : k (.tuple []) (upd st b { x with f := fset x.f i (setCells (x.f i) o (cellsOf v)) })) : xStO T t e b i o v st k := by
  refine ⟨?_⟩
  unfold aStore
  simp only [Bool.and_eq_true, Nat.blt_eq, Nat.beq_eq, Nat.ble_eq] at hc
  obtain ⟨⟨⟨h1, h2⟩, h3⟩, h4⟩ := hc
  rw [hr]
  simp only [h]
  exact ⟨h1, he, hi, h2, h3, h4, hk⟩
theorem mkO {T : Tab} {t : TypeId} {kk kk' : IntKind} {n : Nat} {st : St} {k : KK} {r q : TRow} {el : TypeId} (hr : T t = some r) (hd : r.desc = .slice el) (hq : T el = some q)
    (hb : q.bytes * n ≤ 281474976710656) (hn : n ≤ 281474976710656) (hz : (Nat.beq q.zero.cells.size q.size && (cellsOf (avOf q.zero)).all AV.one) = true)
    (hk : ∀ b, st b = none → k (.own q.size b 0 n) (upd st b ⟨el, q.size, n, fun _ => avOf q.zero⟩)) : xMk T t (.int kk (n : Int)) (.int kk' (n : Int)) st k := by
  refine ⟨?_⟩
  unfold aMake
  simp only [Bool.and_eq_true, Nat.beq_eq] at hz
  rw [hr]
  simp only [hd, hq]
  refine ⟨trivial, by omega, ?_, by omega, hz.1, hz.2, by simpa using hk⟩
  have : ((q.bytes * n : Nat) : Int) ≤ 281474976710656 := by omega
  rwa [Int.natCast_mul] at this
/-- append of one or more elements to a slice without room (nil). -/
theorem apE {T : Tab} {t : TypeId} {x : AV} {st : St} {k : KK} {r q : TRow} {el m : Nat} {f : Nat → AV} (hr : T t = some r) (hd : r.desc = .slice el) (hq : T el = some q)
    (hz : (Nat.blt 0 q.size && Nat.blt 0 q.bytes && Nat.beq q.zero.cells.size q.size) = true) (hs : srcOf q.size st x = some (m, f)) (hb : m * q.bytes ≤ 140737488355328)
    (h0 : m = 0 → k .emp st) (hk : 0 < m → ∀ b, st b = none → k (.own q.size b 0 m) (upd st b ⟨el, q.size, m, f⟩)) : xApp T t .emp x st k := by
  refine ⟨?_⟩
  unfold aAppend
  simp only [Bool.and_eq_true, Nat.blt_eq, Nat.beq_eq] at hz
  rw [hr]
  simp only [hd, hq, hs]
  exact ⟨hz.1.1, hz.1.2, hz.2, h0, fun hm => ⟨hb, hk hm⟩⟩
/-- append to a slice of the call's own. -/
theorem apO {T : Tab} {t : TypeId} {x : AV} {st : St} {k : KK} {r q : TRow} {el m b n : Nat} {f : Nat → AV} {y : Blk} (hr : T t = some r) (hd : r.desc = .slice el) (hq : T el = some q)
    (hz : (Nat.blt 0 q.size && Nat.blt 0 q.bytes && Nat.beq q.zero.cells.size q.size) = true) (hs : srcOf q.size st x = some (m, f)) (hy : st b = some y) (hye : y.e = q.size) (hyt : y.ty = el) (hyn : y.n = n) (hb : (n + m) * q.bytes ≤ 140737488355328)
    (h0 : m = 0 → k (.own q.size b 0 n) st) (hk : 0 < m → ∀ b', (b' = b ∨ st b' = none) → k (.own q.size b' 0 (n + m)) (upd (del st b) b' ⟨el, q.size, n + m, fun i => if i < n then y.f i else f (i - n)⟩)) : xApp T t (.own q.size b 0 n) x st k := by
  refine ⟨?_⟩
  unfold aAppend
  simp only [Bool.and_eq_true, Nat.blt_eq, Nat.beq_eq] at hz
  rw [hr]
  simp only [hd, hq, hs, hy]
  exact ⟨hz.1.1, hz.1.2, hz.2, trivial, trivial, hye, hyt, hyn, h0, fun hm => ⟨hb, hk hm⟩⟩
theorem srcArr (e m : Nat) (f : Nat → AV) (st : St) : srcOf e st (.arr e m f) = some (m, f) := by simp [srcOf]
theorem srcEmp (e : Nat) (st : St) : srcOf e st .emp = some (0, fun _ => .junk) := rfl
theorem srcOwn {e b off m : Nat} {st : St} {y : Blk} (hy : st b = some y) (he : y.e = e) (hm : off + m ≤ y.n) : srcOf e st (.own e b off m) = some (m, fun i => y.f (off + i)) := by simp [srcOf, hy, he, hm]

/-! ### What nobody writes again -/
theorem Rep.arr_congr {rd : Addr → Option Value} {sz : Nat → Nat} {e n : Nat} {f g : Nat → AV} {c : Value} (hfg : ∀ i, i < n → f i = g i) (h : Rep rd sz (.arr e n f) c) : Rep rd sz (.arr e n g) c := by
  cases h with
  | arr e n f A c q hc hA hl ho hr hg => exact .arr e n g A c q hc hA (fun i hi => by rw [← hfg i hi]; exact hl i hi) (fun i hi => by rw [← hfg i hi]; exact ho i hi) hr (fun i j y hi hy => hg i j y hi (by rw [hfg i hi]; exact hy))
/-- A slice of the call's own, seen as one that nobody writes any more: the store forgets the block. -/
theorem freeze_rep {w : World} {st : St} {e b off n : Nat} {y : Blk} {c : Value} (hS : RelS st w) (hy : st b = some y) (he : y.e = e) (hn : off + n ≤ y.n) (h : RepW w st (.own e b off n) c) :
    RelS (del st b) w ∧ Evo st w (del st b) w ∧ RepW w (del st b) (.arr e n (fun i => y.f (off + i))) c := by
  have hev : Evo st w (del st b) w := ⟨rfl, rfl, rfl, Nat.le_refl _, fun c _ hs => ⟨rfl, by unfold del; split; rfl; exact hs⟩, fun _ => Nat.le_refl _⟩
  have hdel : del st b b = none := by simp [del]
  obtain ⟨cs, hok⟩ := hS b y hy
  refine ⟨fun c z hz => ?_, hev, ?_⟩
  · unfold del at hz
    split at hz
    · cases hz
    · obtain ⟨ds, hd⟩ := hS c z hz
      exact ⟨ds, hd.evo hev rfl⟩
  · cases h with
    | own e b off n c hc hs =>
      have := arr_of_blk (hok.evo hev rfl) hdel off n hn c hc
      rw [he] at this; exact this
theorem emp_rep {rd : Addr → Option Value} {sz : Nat → Nat} {c : Value} (e : Nat) (f : Nat → AV) (h : Rep rd sz .emp c) : Rep rd sz (.arr e 0 f) c := by
  cases h with
  | emp A => exact .arr e 0 f A 0 (fun _ _ => undef) (Nat.le_refl _) (fun h => absurd h (by omega)) (fun i hi => absurd hi (by omega)) (fun i hi => absurd hi (by omega)) (fun _ _ i j hi => absurd hi (by omega)) (fun i j y hi => absurd hi (by omega))
theorem Shift.one {v v' : AV} {st st' : St} (h : ∀ w c, RelS st w → RepW w st v c → RelS st' w ∧ Evo st w st' w ∧ RepW w st' v' c) : Shift [v] st [v'] st' := fun w cs hS hR => by
  obtain ⟨hl, hr⟩ := hR
  have hlt : 0 < cs.size := by rw [← hl]; exact Nat.one_pos
  obtain ⟨h1, h2, h3⟩ := h w cs[0] hS (hr 0 v cs[0] rfl (Array.getElem?_eq_getElem hlt))
  refine ⟨h1, ⟨hl, fun j y c hy hc => ?_⟩, h2⟩
  cases j with
  | zero => simp at hy; subst hy; rw [Array.getElem?_eq_getElem hlt] at hc; cases hc; exact h3
  | succ j => simp at hy
/-- The frozen look of a result: 'own' or 'emp' as a plain list. -/
theorem shift_own {st : St} {e b n : Nat} {y : Blk} {f : Nat → AV} (hy : st b = some y) (he : y.e = e) (hn : n ≤ y.n) (hf : ∀ i, i < n → y.f i = f i) : Shift [.own e b 0 n] st [.arr e n f] (del st b) :=
  Shift.one fun w c hS hr => by
    obtain ⟨h1, h2, h3⟩ := freeze_rep hS hy he (by omega) hr
    exact ⟨h1, h2, Rep.arr_congr (fun i hi => by simpa using hf i hi) h3⟩
theorem shift_emp {st : St} (e : Nat) (f : Nat → AV) : Shift [.emp] st [.arr e 0 f] st := Shift.one fun w c hS hr => ⟨hS, Evo.refl _ _, emp_rep e f hr⟩
/-- Several values, one of which is seen otherwise. -/
theorem Shift.tuple {a b : List AV} {st st' : St} (h : Shift a st b st') (hl : a.length = b.length) : Shift [.tuple a] st [.tuple b] st' := Shift.one fun w c hS hr => by
  cases hr with
  | tuple cs vs hlen hg =>
    obtain ⟨h1, h2, h3⟩ := h w vs hS ⟨hlen, hg⟩
    exact ⟨h1, h3, .tuple _ _ h2.1 h2.2⟩
theorem Shift.cons {v v' : AV} {a b : List AV} {s t u : St} (h1 : Shift [v] s [v'] t) (h2 : Shift a t b u) : Shift (v :: a) s (v' :: b) u := fun w cs hS hR => by
  obtain ⟨hl, hr⟩ := hR
  have hlt : 0 < cs.size := by rw [← hl]; simp
  obtain ⟨k1, k2, k3⟩ := h1 w #[cs[0]] hS ⟨rfl, fun j y c hy hc => by
    cases j with
    | zero => simp at hy hc; subst hy; subst hc; exact hr 0 v cs[0] rfl (Array.getElem?_eq_getElem hlt)
    | succ j => simp at hy⟩
  obtain ⟨m1, m2, m3⟩ := h2 w (cs.extract 1 cs.size) k1 ⟨by simp at hl ⊢; omega, fun j y c hy hc => by
    rw [Array.getElem?_extract] at hc
    split at hc
    · exact k3.rep (hr (j + 1) y c (by simpa using hy) (by rw [← hc]; congr 1; omega))
    · cases hc⟩
  refine ⟨m1, ⟨?_, fun j y c hy hc => ?_⟩, k3.trans m3⟩
  · have := m2.1; simp at this hl ⊢; omega
  · cases j with
    | zero =>
      simp at hy; subst hy
      rw [Array.getElem?_eq_getElem hlt] at hc; cases hc
      exact m3.rep (k2.2 0 v' cs[0] rfl rfl)
    | succ j =>
      refine m2.2 j y c (by simpa using hy) ?_
      rw [Array.getElem?_extract, if_pos, ← hc]
      · congr 1; omega
      · have := (Array.getElem?_eq_some_iff.1 hc).1; omega
theorem Shift.keep (a : List AV) (st : St) : Shift a st a st := Shift.refl a st
theorem Shift.nil (st : St) : Shift [] st [] st := Shift.refl _ _
theorem Shift.later {v : AV} {st st' : St} (h : ∀ w c, RelS st w → RepW w st v c → RelS st' w ∧ Evo st w st' w ∧ RepW w st' v c) : Shift [v] st [v] st' := Shift.one h
/-! ### What a call leaves behind and nobody wants -/
def Sup (st st' : St) : Prop := ∀ b x, st b = some x → st' b = some x
theorem Sup.refl (st : St) : Sup st st := fun _ _ h => h
theorem Sup.trans {a b c : St} (h : Sup a b) (k : Sup b c) : Sup a c := fun i x hx => k i x (h i x hx)
theorem Sup.upd {st st' : St} {b : Nat} {x : Blk} (h : Sup st st') (hb : st' b = none) : Sup st (upd st' b x) := fun i y hy => by
  have := h i y hy
  have hn : i ≠ b := fun e => by rw [e, hb] at this; cases this
  rw [upd_ne hn]; exact this
/-- A block that the store did not have at first may be written. -/
theorem Sup.over {st st' : St} {b : Nat} {x : Blk} (h : Sup st st') (hb : st b = none) : Sup st (Ab.upd st' b x) := fun i y hy => by
  have hn : i ≠ b := fun e => by rw [e, hb] at hy; cases hy
  rw [upd_ne hn]; exact h i y hy
theorem Sup.del {st st' : St} {b : Nat} (h : Sup st st') (hb : st b = none) : Sup st (Ab.del st' b) := fun i y hy => by
  have hn : i ≠ b := fun e => by rw [e, hb] at hy; cases hy
  unfold Ab.del; rw [if_neg hn]; exact h i y hy
theorem Sup.none {st st' : St} (h : Sup st st') {b : Nat} (hb : st' b = none) : st b = none := by
  cases hc : st b with
  | none => rfl
  | some x => rw [h b x hc] at hb; cases hb
theorem Sup.shift {st st' : St} (h : Sup st st') (vs : List AV) : Shift vs st' vs st := fun w cs hS hR => by
  have hrd : ∀ a v, rdOf w st' a = some v → rdOf w st a = some v := fun a v hv => by
    unfold rdOf at *
    split at hv
    · rename_i hn; rw [h.none hn]; exact hv
    · cases hv
  refine ⟨fun b x hb => ?_, ⟨hR.1, fun j y c hy hc => (hR.2 j y c hy hc).mono hrd (fun _ => Nat.le_refl _)⟩, ⟨rfl, rfl, rfl, Nat.le_refl _, fun b _ hb => ⟨rfl, h.none hb⟩, fun _ => Nat.le_refl _⟩⟩
  obtain ⟨ds, hk⟩ := hS b x (h b x hb)
  exact ⟨ds, hk.heap, hk.size, hk.len, hk.one, fun i j y hi hy => by
    obtain ⟨c, h1, h2⟩ := hk.cell i j y hi hy
    exact ⟨c, h1, h2.mono hrd (fun _ => Nat.le_refl _)⟩⟩
theorem S_sup {P : Program} {f : FuncId} {args : List AV} {st : St} {q : AV → Prop} (h : S P f args st fun v st' => q v ∧ Sup st st') : S P f args st fun v st' => q v ∧ st' = st :=
  h.post fun v st' ⟨h1, h2⟩ => ⟨v, st, ⟨h1, rfl⟩, h2.shift [v]⟩
/-- A loop that is left in its first round. -/
theorem once {A : List AV} {st : St} (keep : List Nat) {B : List Nat → (Nat → KA) → Nat → List AV → St → Prop} (h : getsK A keep fun us => ∀ I, B keep I 0 us st) :
    ∃ (keep : List Nat) (I : Nat → KA), (getsK A keep fun us => ∃ m, I m us st) ∧ ∀ m vs st', I m vs st' → B keep I m vs st' := by
  rw [getsK_eq] at h
  refine ⟨keep, fun m vs s => m = 0 ∧ vs = keep.map (fun i => A.getD i AV.junk) ∧ s = st, ?_, ?_⟩
  · rw [getsK_eq]; exact ⟨0, rfl, rfl, rfl⟩
  · rintro m vs s ⟨rfl, rfl, rfl⟩
    exact h _
/-! ### Small things that loops ask for -/
theorem wrap64_of {x : Int} (h1 : -9223372036854775808 ≤ x) (h2 : x ≤ 9223372036854775807) : IntKind.i64.wrap x = x := by
  rw [IntKind.wrap_i64]; omega
theorem wrapN {i : Nat} (h : i < 9223372036854775807) : IntKind.i64.wrap ((i : Int) + 1) = ((i + 1 : Nat) : Int) := by
  rw [wrap64_of (by omega) (by omega)]; omega
theorem take_next {α : Type} [Inhabited α] {l : List α} {i : Nat} (h : i < l.length) : l.take (i + 1) = l.take i ++ [l.getD i default] := by
  rw [List.take_succ_eq_append_getElem h]
  simp [h]
theorem foldl_next {α β : Type} [Inhabited α] {l : List α} {i : Nat} (h : i < l.length) (g : β → α → β) (b : β) : (l.take (i + 1)).foldl g b = g ((l.take i).foldl g b) (l.getD i default) := by
  rw [take_next h, List.foldl_append]; rfl
theorem Shift.arr {e n : Nat} {f g : Nat → AV} {st : St} (h : ∀ i, i < n → f i = g i) : Shift [.arr e n f] st [.arr e n g] st :=
  Shift.one fun w c hS hr => ⟨hS, Evo.refl _ _, hr.arr_congr h⟩
end Go.Ab
/- The data of the program, and how they stand as abstract values. -/
set_option linter.unusedVariables false
namespace Go.Ab
open Go
abbrev Str := ByteArray
instance : Inhabited ByteArray := ⟨ByteArray.empty⟩
def arrOf {α : Type} [Inhabited α] (e : Nat) (enc : α → AV) (l : List α) : AV := .arr e l.length (fun i => enc (l.getD i default))
abbrev eI (x : Int) : AV := .int .i64 x
abbrev eS (x : Str) : AV := .str x
abbrev eB (x : Bool) : AV := .bool x
abbrev eInts (l : List Int) : AV := arrOf 1 eI l
abbrev eStrs (l : List Str) : AV := arrOf 1 eS l
abbrev eBools (l : List Bool) : AV := arrOf 1 eB l
structure Item where
  sku : Str
  cat : Str
  price : Int
  final : Bool
  deriving Inhabited
def eItem (x : Item) : AV := .agg [eS x.sku, eS x.cat, eI x.price, eB x.final]
structure Scope where
  skus : List Str
  cats : List Str
  deriving Inhabited
def eScope (x : Scope) : AV := .agg [eStrs x.skus, eStrs x.cats]
structure Part where
  scope : Scope
  count : Int
  deriving Inhabited
def ePart (x : Part) : AV := .agg [eStrs x.scope.skus, eStrs x.scope.cats, eI x.count]
structure Tier where
  least : Int
  rate : Int
  amount : Int
  deriving Inhabited, DecidableEq
def eTier (x : Tier) : AV := .agg [eI x.least, eI x.rate, eI x.amount]
structure Promo where
  id : Str
  kind : Int
  prio : Int
  group : Str
  code : Str
  closes : Bool
  scope : Scope
  least : Int
  rate : Int
  amount : Int
  buy : Int
  get : Int
  parts : List Part
  tiers : List Tier
  deriving Inhabited
def ePromo (x : Promo) : AV := .agg [eS x.id, eI x.kind, eI x.prio, eS x.group, eS x.code, eB x.closes, eStrs x.scope.skus, eStrs x.scope.cats, eI x.least, eI x.rate, eI x.amount, eI x.buy, eI x.get, arrOf 3 ePart x.parts, arrOf 3 eTier x.tiers]
structure CatRate where
  cat : Str
  rate : Int
  deriving Inhabited
def eCatRate (x : CatRate) : AV := .agg [eS x.cat, eI x.rate]
structure Zone where
  name : Str
  rates : List CatRate
  rest : Int
  ship : Int
  deriving Inhabited
def eZone (x : Zone) : AV := .agg [eS x.name, arrOf 2 eCatRate x.rates, eI x.rest, eI x.ship]
structure Tax where
  incl : Bool
  byOrder : Bool
  round : Int
  zones : List Zone
  deriving Inhabited
structure Ship where
  fee : Int
  free : Int
  deriving Inhabited
structure Policy where
  window : Int
  grace : Int
  mode : Int
  restock : Int
  order : List Int
  credit : List Int
  deriving Inhabited
structure Rules where
  items : List Item
  promos : List Promo
  tax : Tax
  ship : Ship
  policy : Policy
  deriving Inhabited
def cTax (x : Tax) : List AV := [eB x.incl, eB x.byOrder, eI x.round, arrOf 4 eZone x.zones]
def cPolicy (p : Policy) : List AV := [eI p.window, eI p.grace, eI p.mode, eI p.restock, eInts p.order, eInts p.credit]
def eTax (x : Tax) : AV := .agg [eB x.incl, eB x.byOrder, eI x.round, arrOf 4 eZone x.zones]
def eShip (x : Ship) : AV := .agg [eI x.fee, eI x.free]
def ePolicy (p : Policy) : AV := .agg [eI p.window, eI p.grace, eI p.mode, eI p.restock, eInts p.order, eInts p.credit]
def eRules (x : Rules) : AV := .agg [arrOf 4 eItem x.items, arrOf 15 ePromo x.promos, eB x.tax.incl, eB x.tax.byOrder, eI x.tax.round, arrOf 4 eZone x.tax.zones, eI x.ship.fee, eI x.ship.free, eI x.policy.window, eI x.policy.grace, eI x.policy.mode, eI x.policy.restock, eInts x.policy.order, eInts x.policy.credit]
structure Line where
  sku : Str
  qty : Int
  price : Int
  deriving Inhabited
def eLine (x : Line) : AV := .agg [eS x.sku, eI x.qty, eI x.price]
structure AUnit where
  line : Int
  net : Int
  opn : Bool
  deriving Inhabited
def eUnit (x : AUnit) : AV := .agg [eI x.line, eI x.net, eB x.opn]
structure Deal where
  id : Str
  off : Int
  deriving Inhabited
def eDeal (x : Deal) : AV := .agg [eS x.id, eI x.off]
structure Priced where
  nets : List Int
  net : Int
  ship : Int
  deals : List Deal
  deriving Inhabited
def ePriced (x : Priced) : AV := .agg [eInts x.nets, eI x.net, eI x.ship, arrOf 2 eDeal x.deals]
end Go.Ab
/- The abstract machine, part 13: from a contract to a walk of the row's own form. -/
set_option linter.unusedVariables false
set_option linter.unusedSimpArgs false
namespace Go.Ab
open Go Go.RowKit
def st0 : St := fun _ => none
theorem relS_st0 (w : World) : RelS st0 w := fun b x h => by cases h
theorem below_of_evo {w w' : World} {st' : St} (h : Evo st0 w st' w') : Below w.heap.size w w' :=
  ⟨h.os, h.tape, h.output, h.size, fun k hk => (h.blk k hk rfl).1⟩
/-- A law's walk, out of its contract. -/
theorem law_of_S {P : Program} {f : FuncId} {args : List AV} {cargs : Array Value} {w : World}
    (h : S P f args st0 fun v st' => v = .bool true) (hr : RepL w st0 args cargs) : Calls P f cargs w fun e w' => e = .returned (.bool true) ∧ Below w.heap.size w w' := by
  refine (h.2 cargs w hr (relS_st0 w)).mono ?_
  rintro e w' ⟨v, c, st', rfl, rfl, h3, h4, h5⟩
  cases h3
  exact ⟨rfl, below_of_evo h5⟩
end Go.Ab
/- Lists that a call collects, element by element. -/
set_option linter.unusedVariables false
set_option linter.unusedSimpArgs false
namespace Go.Ab
open Go
theorem ldV {T : Tab} {t : TypeId} {e b i o ty n : Nat} {st : St} {k : KK} {r : TRow} {f : Nat → AV} {v : AV} (h : st b = some ⟨ty, e, n, f⟩) (hr : T t = some r) (hi : i < n) (hv : f i = v) (hk : xPick r (cellsOf v) o (fun y => k y st)) : xLdO T t e b i o st k :=
  ldO h hr rfl hi (by rw [show (Blk.mk ty e n f).f i = v from hv]; exact hk)
theorem stV {T : Tab} {t : TypeId} {e b i o ty n : Nat} {u v : AV} {st : St} {k : KK} {r : TRow} {f : Nat → AV} (h : st b = some ⟨ty, e, n, f⟩) (hr : T t = some r) (hi : i < n) (hv : f i = v)
    (hc : (Nat.blt 0 r.size && Nat.beq (cellsOf u).length r.size && (cellsOf u).all AV.one && Nat.ble (o + r.size) e) = true)
    (hk : k (.tuple []) (upd st b ⟨ty, e, n, fset f i (setCells v o (cellsOf u))⟩)) : xStO T t e b i o u st k := by
  refine stO h hr rfl hi hc ?_
  rw [show (Blk.mk ty e n f).f i = v from hv]
  exact hk
theorem fset_same (f : Nat → AV) (i : Nat) (v : AV) : fset f i v i = v := by simp [fset]
theorem fset_ne {f : Nat → AV} {i j : Nat} {v : AV} (h : j ≠ i) : fset f i v j = f j := by simp [fset, h]
/-- What has been collected: nothing, or a block of the call's own. -/
def Col (ty e : Nat) (f : Nat → AV) (st : St) (n : Nat) (sv : AV) (st' : St) : Prop :=
  (n = 0 ∧ sv = .emp ∧ st' = st) ∨ (0 < n ∧ ∃ b g, st b = none ∧ sv = .own e b 0 n ∧ st' = upd st b ⟨ty, e, n, g⟩ ∧ ∀ k, k < n → g k = f k)
theorem Col.start (ty e : Nat) (f : Nat → AV) (st : St) : Col ty e f st 0 .emp st := .inl ⟨rfl, rfl, rfl⟩
theorem Col.congr {ty e : Nat} {f f' : Nat → AV} {st : St} {n : Nat} {sv : AV} {st' : St} (h : Col ty e f st n sv st') (hf : ∀ k, k < n → f k = f' k) : Col ty e f' st n sv st' := by
  rcases h with h | ⟨h0, b, g, h1, h2, h3, h4⟩
  · exact .inl h
  · exact .inr ⟨h0, b, g, h1, h2, h3, fun k hk => (h4 k hk).trans (hf k hk)⟩
theorem Col.app {T : Tab} {t : TypeId} {x sv : AV} {st st' : St} {k : KK} {r q : TRow} {el n : Nat} {f g : Nat → AV} (hr : T t = some r) (hd : r.desc = .slice el) (hq : T el = some q)
    (hz : (Nat.blt 0 q.size && Nat.blt 0 q.bytes && Nat.beq q.zero.cells.size q.size) = true) (hs : srcOf q.size st' x = some (1, g)) (hg : g 0 = f n) (hb : (n + 1) * q.bytes ≤ 140737488355328)
    (hc : Col el q.size f st n sv st') (hk : ∀ sv' st'', Col el q.size f st (n + 1) sv' st'' → k sv' st'') : xApp T t sv x st' k := by
  rcases hc with ⟨rfl, rfl, rfl⟩ | ⟨h0, b, y, h1, rfl, rfl, h4⟩
  · refine apE hr hd hq hz hs (by omega) (fun h => by omega) (fun _ b hb => hk _ _ (.inr ⟨by omega, b, g, hb, rfl, rfl, fun k hk => ?_⟩))
    have : k = 0 := by omega
    subst this; exact hg
  · refine apO hr hd hq hz hs (upd_same ..) rfl rfl rfl hb (fun h => by omega) (fun _ b' hb' => ?_)
    rw [del_upd h1]
    have hb'' : st b' = none := by
      rcases hb' with rfl | h
      · exact h1
      · by_cases e : b' = b
        · subst e; exact h1
        · rw [upd_ne e] at h; exact h
    refine hk _ _ (.inr ⟨by omega, b', _, hb'', rfl, rfl, fun k hk => ?_⟩)
    by_cases hkn : k < n
    · simp only [hkn, if_true]; exact h4 k hkn
    · have : k = n := by omega
      subst this
      simp only [hkn, if_false, Nat.sub_self]; exact hg
/-- Several at once: a list that lies still. -/
theorem Col.apps {T : Tab} {t : TypeId} {x sv : AV} {st st' : St} {k : KK} {r q : TRow} {el n m : Nat} {f g : Nat → AV} (hr : T t = some r) (hd : r.desc = .slice el) (hq : T el = some q)
    (hz : (Nat.blt 0 q.size && Nat.blt 0 q.bytes && Nat.beq q.zero.cells.size q.size) = true) (hs : srcOf q.size st' x = some (m, g)) (hg : ∀ i, i < m → g i = f (n + i)) (hb : (n + m) * q.bytes ≤ 140737488355328)
    (hc : Col el q.size f st n sv st') (hk : ∀ sv' st'', Col el q.size f st (n + m) sv' st'' → k sv' st'') : xApp T t sv x st' k := by
  rcases hc with ⟨rfl, rfl, rfl⟩ | ⟨h0, b, y, h1, rfl, rfl, h4⟩
  · refine apE hr hd hq hz hs (by simpa using hb) (fun h => hk _ _ (.inl ⟨by omega, rfl, rfl⟩)) (fun hm b hb => ?_)
    have e : 0 + m = m := Nat.zero_add m
    refine hk _ _ ?_
    rw [e]
    exact .inr ⟨hm, b, g, hb, rfl, rfl, fun k hk => by have := hg k hk; rwa [Nat.zero_add] at this⟩
  · refine apO hr hd hq hz hs (upd_same ..) rfl rfl rfl hb (fun h => hk _ _ ?_) (fun _ b' hb' => ?_)
    · subst h; exact .inr ⟨h0, b, y, h1, rfl, rfl, h4⟩
    rw [del_upd h1]
    have hb'' : st b' = none := by
      rcases hb' with rfl | h
      · exact h1
      · by_cases e : b' = b
        · subst e; exact h1
        · rw [upd_ne e] at h; exact h
    refine hk _ _ (.inr ⟨by omega, b', _, hb'', rfl, rfl, fun k hk => ?_⟩)
    by_cases hkn : k < n
    · simp only [hkn, if_true]; exact h4 k hkn
    · simp only [hkn, if_false]
      have := hg (k - n) (by omega)
      rw [this]; congr 1; omega
theorem Col.shift {ty e : Nat} {f : Nat → AV} {st : St} {n : Nat} {sv : AV} {st' : St} (h : Col ty e f st n sv st') : Shift [sv] st' [.arr e n f] st := by
  rcases h with ⟨rfl, rfl, rfl⟩ | ⟨h0, b, g, h1, rfl, rfl, h4⟩
  · exact shift_emp e f
  · have := shift_own (st := upd st b ⟨ty, e, n, g⟩) (e := e) (b := b) (n := n) (f := f) (upd_same ..) rfl (Nat.le_refl _) h4
    rw [del_upd h1] at this; exact this
theorem Col.sup {ty e : Nat} {f : Nat → AV} {st : St} {n : Nat} {sv : AV} {st' : St} (h : Col ty e f st n sv st') : Sup st st' := by
  rcases h with ⟨rfl, rfl, rfl⟩ | ⟨h0, b, g, h1, rfl, rfl, h4⟩
  · exact Sup.refl _
  · exact (Sup.refl st).upd h1
/-- A function that returns what it collected: it may be seen as one that returns a list that lies still. -/
theorem S_col {P : Program} {F : FuncId} {args : List AV} {st : St} {ty e n : Nat} {f : Nat → AV} (h : S P F args st fun v st' => Col ty e f st n v st') : S P F args st fun v st' => v = .arr e n f ∧ st' = st :=
  h.post fun v st' hc => ⟨.arr e n f, st, ⟨rfl, rfl⟩, hc.shift⟩
/-- Of a list: its elements, seen by a function of its own. -/
theorem arrOf_arr {α : Type} [Inhabited α] (e : Nat) (enc : α → AV) (l : List α) : arrOf e enc l = .arr e l.length (fun i => enc (l.getD i default)) := rfl
theorem getD_map {α β : Type} [Inhabited α] [Inhabited β] (g : α → β) (l : List α) {i : Nat} (h : i < l.length) : (l.map g).getD i default = g (l.getD i default) := by
  simp [List.getD_eq_getElem?_getD, h]
theorem all_range' {n : Nat} {p : Nat → Bool} (h : ∀ k, k < n → p k = true) : (List.range n).all p = true := List.all_eq_true.2 fun k hk => h k (List.mem_range.1 hk)
end Go.Ab
