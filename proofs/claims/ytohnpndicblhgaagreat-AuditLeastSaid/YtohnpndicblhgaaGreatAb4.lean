/- The abstract machine, part 4: arithmetic, comparisons, conversions, function values, interface values. -/
import Derived.Test.YtohnpndicblhgaaGreatAb3
set_option linter.unusedVariables false
set_option linter.unusedSimpArgs false
namespace Go.Ab
open Go

/-! ### arithmetic and comparisons -/
def aInt (op : BinOp) (k : IntKind) (x y : Int) : Option AV :=
  match op with
  | .add => some (.int k (k.wrap (x + y)))
  | .sub => some (.int k (k.wrap (x - y)))
  | .mul => some (.int k (k.wrap (x * y)))
  | .quo => if y = 0 then none else some (.int k (k.wrap (x.tdiv y)))
  | .rem => if y = 0 then none else some (.int k (x.tmod y))
  | .and => some (.int k (k.wrap ((BitVec.ofInt k.bits x &&& BitVec.ofInt k.bits y).toNat : Int)))
  | .or => some (.int k (k.wrap ((BitVec.ofInt k.bits x ||| BitVec.ofInt k.bits y).toNat : Int)))
  | .xor => some (.int k (k.wrap ((BitVec.ofInt k.bits x ^^^ BitVec.ofInt k.bits y).toNat : Int)))
  | .andNot => some (.int k (k.wrap ((BitVec.ofInt k.bits x &&& ~~~ BitVec.ofInt k.bits y).toNat : Int)))
  | .eql => some (.bool (x == y))
  | .neq => some (.bool (x != y))
  | .lss => some (.bool (x < y))
  | .leq => some (.bool (x ≤ y))
  | .gtr => some (.bool (x > y))
  | .geq => some (.bool (x ≥ y))
  | _ => none
def aShift (op : BinOp) (k : IntKind) (x y : Int) : Option AV :=
  if y < 0 then none else
  match op with
  | .shl => some (.int k (k.wrap (x * 2 ^ (min y.toNat k.bits))))
  | .shr => some (.int k (x.fdiv (2 ^ (min y.toNat k.bits))))
  | _ => none
def aStr (op : BinOp) (x y : ByteArray) : Option AV :=
  match op with
  | .add => if ((x.size + y.size : Nat) : Int) > 9223372036854775807 then none else some (.str (x ++ y))
  | .eql => some (.bool (x.toList == y.toList))
  | .neq => some (.bool (!(x.toList == y.toList)))
  | .lss => some (.bool (Op.bytesLess x.toList y.toList))
  | .leq => some (.bool (Op.bytesLess x.toList y.toList || x.toList == y.toList))
  | .gtr => some (.bool (!(Op.bytesLess x.toList y.toList || x.toList == y.toList)))
  | .geq => some (.bool (!Op.bytesLess x.toList y.toList))
  | _ => none
/-- '==' of what is no number and no string. -/
def aSame (d : TypeDesc) (x y : AV) : Option Bool :=
  match d, x, y with
  | .bool, .bool a, .bool b => some (a == b)
  | .pointer _, .nilp, .nilp => some true
  | .pointer _, .nilp, .optr .. => some false
  | .pointer _, .optr .., .nilp => some false
  | .pointer _, .nilp, .fptr .. => some false
  | .pointer _, .fptr .., .nilp => some false
  | .func .., .nilf, .nilf => some true
  | .func .., .nilf, .fn .. => some false
  | .func .., .fn .., .nilf => some false
  | .interface _, .nili, .iface .. => some false
  | .interface _, .iface .., .nili => some false
  | _, _, _ => none
def aBin (T : Tab) (op : BinOp) (t : TypeId) (x y : AV) : Option AV :=
  match x, y with
  | .int k a, .int k' b => match op with
    | .shl => aShift .shl k a b
    | .shr => aShift .shr k a b
    | op => if k = k' then aInt op k a b else none
  | .str a, .str b => aStr op a b
  | x, y => match T t with
    | none => none
    | some r => match op with
      | .eql => (aSame r.desc x y).map .bool
      | .neq => (aSame r.desc x y).map fun b => .bool (!b)
      | _ => none
theorem run_same {P : Program} {T : Tab} (hT : TOk P T) {t : TypeId} {r : TRow} (hr : T t = some r) {w : World} {rd : Addr → Option Value} {sz : Nat → Nat} {x y : AV} {cx cy : Value} {b : Bool} (hx : Rep rd sz x cx) (hy : Rep rd sz y cy)
    (h : aSame r.desc x y = some b) : (Op.equal t cx cy).run P w = .ok b w := by
  have hund := TOk.und hT hr w
  unfold Op.equal
  rw [show Op.maxDepth = 9999 + 1 from rfl]
  generalize 9999 = dd
  generalize r.desc = d at h hund
  unfold aSame at h
  split at h
  all_goals first | (cases h; done) | (cases hx; cases hy; cases h; simp [Op.equalIn, hund])
theorem so_binOp {P : Program} {T : Tab} (hT : TOk P T) {o : Oper} {A : List AV} {a : Act} {st : St} {w : World} {op : BinOp} {t u : TypeId} {x y : Operand} {k : KK} {next : Act → World → Prop} {Q : Exit → Act → World → Prop} {v : AV}
    (ho : o.op = .binOp op t x y u) (hA : RelA w st A a) (hS : RelS st w) (h : aBin T op t (ev A x) (ev A y) = some v) (hk : k v st) (hn : Nxt st w k a o.dst next) : o.wp P a w next Q := by
  have hx := ev_rep hA x
  have hy := ev_rep hA y
  suffices hmain : ∃ c, RepW w st v c ∧ (eqGuard op t x y (a.eval x) (a.eval y)).run P w = .ok () w ∧ (binOp op t (a.eval x) (a.eval y)).run P w = .ok c w by
    obtain ⟨c, h1, h2, h3⟩ := hmain
    refine so_pure (c := c) ?_ hS h1 hk hn
    simp only [execOp, ho, Sem.run_bind, h2, h3, Result.andThen_ok, Sem.run_pure]
  generalize a.eval x = cx at hx
  generalize a.eval y = cy at hy
  generalize ev A x = ax at h hx
  generalize ev A y = ay at h hy
  unfold aBin at h
  split at h
  · rename_i kk i k' j
    cases hx
    cases hy
    have hg : ∀ w : World, (eqGuard op t x y (.int kk i) (.int k' j)).run P w = .ok () w := fun w => by
      cases op <;> simp [eqGuard]
    split at h
    · unfold aShift at h
      split at h
      · cases h
      · rename_i hlt
        cases h
        exact ⟨_, .int _ _, hg w, by simp [binOp, Op.shift, hlt]⟩
    · unfold aShift at h
      split at h
      · cases h
      · rename_i hlt
        cases h
        exact ⟨_, .int _ _, hg w, by simp [binOp, Op.shift, hlt]⟩
    · rename_i hs1 hs2
      split at h
      case isFalse => cases h
      rename_i hkk
      subst hkk
      cases op <;> simp only [aInt] at h <;> first
        | (cases h; done)
        | (exact absurd rfl hs1)
        | (exact absurd rfl hs2)
        | (cases h; exact ⟨_, .int _ _, hg w, by simp [binOp, Op.intArith, Op.intBits]⟩)
        | (cases h; exact ⟨_, .bool _, hg w, by simp [binOp, Op.intCmp]⟩)
        | (split at h
           · cases h
           · rename_i hz; cases h; exact ⟨_, .int _ _, hg w, by simp [binOp, Op.intDiv, hz]⟩)
  · rename_i s1 s2
    cases hx
    cases hy
    have hg : ∀ w : World, (eqGuard op t x y (.string s1) (.string s2)).run P w = .ok () w := fun w => by
      cases op <;> simp [eqGuard]
    cases op <;> simp only [aStr] at h <;> first
      | (cases h; done)
      | (cases h; exact ⟨_, .bool _, hg w, by simp [binOp, Op.stringOp]⟩)
      | (split at h
         · cases h
         · rename_i hz
           cases h
           refine ⟨_, .str _, hg w, ?_⟩
           have hm : IntKind.i64.max = 9223372036854775807 := by rfl
           simp only [binOp, Op.stringOp]
           rw [if_neg (by rw [hm]; exact hz)]
           rfl)
  · split at h
    · cases h
    · rename_i hni hns r hr
      split at h
      · simp only [Option.map_eq_some_iff] at h
        obtain ⟨b, hb, rfl⟩ := h
        have hrun := run_same hT hr (w := w) hx hy hb
        refine ⟨.bool b, .bool b, ?_, ?_⟩
        · unfold aSame at hb
          split at hb <;> first | (cases hb; done) | (cases hx; cases hy; simp [eqGuard])
        · unfold aSame at hb
          split at hb <;> first | (cases hb; done) | (cases hx; cases hy; simp [binOp, hrun])
      · simp only [Option.map_eq_some_iff] at h
        obtain ⟨b, hb, rfl⟩ := h
        have hrun := run_same hT hr (w := w) hx hy hb
        refine ⟨.bool (!b), .bool (!b), ?_, ?_⟩
        · unfold aSame at hb
          split at hb <;> first | (cases hb; done) | (cases hx; cases hy; simp [eqGuard])
        · unfold aSame at hb
          split at hb <;> first | (cases hb; done) | (cases hx; cases hy; simp [binOp, hrun])
      · cases h
def aUn (op : UnOp) (x : AV) : Option AV :=
  match op, x with
  | .not, .bool b => some (.bool (!b))
  | .neg, .int k n => some (.int k (k.wrap (0 - n)))
  | _, _ => none
theorem so_unOp {P : Program} {o : Oper} {A : List AV} {a : Act} {st : St} {w : World} {op : UnOp} {t : TypeId} {x : Operand} {k : KK} {next : Act → World → Prop} {Q : Exit → Act → World → Prop} {v : AV}
    (ho : o.op = .unOp op t x) (hA : RelA w st A a) (hS : RelS st w) (h : aUn op (ev A x) = some v) (hk : k v st) (hn : Nxt st w k a o.dst next) : o.wp P a w next Q := by
  have hx := ev_rep hA x
  generalize hxv : a.eval x = cx at hx
  generalize ev A x = ax at h hx
  unfold aUn at h
  split at h
  · cases hx; cases h
    exact so_pure (by simp only [execOp, ho, hxv, Op.unary, Sem.run_bind, Sem.run_pure, Result.andThen_ok]) hS (.bool _) hk hn
  · cases hx; cases h
    exact so_pure (by simp only [execOp, ho, hxv, Op.unary, Op.intArith, Sem.run_bind, Sem.run_pure, Result.andThen_ok]) hS (.int _ _) hk hn
  · cases h

/-! ### moves -/
theorem so_move {P : Program} {o : Oper} {A : List AV} {a : Act} {st : St} {w : World} {x : Operand} {k : KK} {next : Act → World → Prop} {Q : Exit → Act → World → Prop}
    (ho : o.op = .move x ∨ o.op = .assign x) (hA : RelA w st A a) (hS : RelS st w) (hk : k (ev A x) st) (hn : Nxt st w k a o.dst next) : o.wp P a w next Q := by
  refine so_pure (c := a.eval x) ?_ hS (ev_rep hA x) hk hn
  rcases ho with ho | ho <;> simp only [execOp, ho, Sem.run_pure]
theorem so_pick {P : Program} {o : Oper} {A : List AV} {a : Act} {st : St} {w : World} {c x y : Operand} {b : Bool} {k : KK} {next : Act → World → Prop} {Q : Exit → Act → World → Prop}
    (ho : o.op = .pick c x y) (hA : RelA w st A a) (hS : RelS st w) (hc : ev A c = .bool b) (h1 : b = true → k (ev A x) st) (h2 : b = false → k (ev A y) st) (hn : Nxt st w k a o.dst next) : o.wp P a w next Q := by
  have hcr := ev_rep hA c
  rw [hc] at hcr
  generalize hcv : a.eval c = cv at hcr
  cases hcr
  cases b with
  | true => exact so_pure (c := a.eval x) (by simp only [execOp, ho, hcv, asBool, Sem.run_bind, Sem.run_pure, Result.andThen_ok, if_true]) hS (ev_rep hA x) (h1 rfl) hn
  | false => exact so_pure (c := a.eval y) (by simp only [execOp, ho, hcv, asBool, Sem.run_bind, Sem.run_pure, Result.andThen_ok, Bool.false_eq_true, if_false]) hS (ev_rep hA y) (h2 rfl) hn
def aNilCheck (v : AV) : Bool :=
  match v with
  | .fptr .. => true
  | .optr .. => true
  | .fn (.func _) _ _ => true
  | .fn (.via ..) _ _ => true
  | .iface .. => true
  | _ => false
theorem so_nilCheck {P : Program} {o : Oper} {A : List AV} {a : Act} {st : St} {w : World} {x : Operand} {k : KK} {next : Act → World → Prop} {Q : Exit → Act → World → Prop}
    (ho : o.op = .nilCheck x) (hA : RelA w st A a) (hS : RelS st w) (h : aNilCheck (ev A x) = true) (hk : k (ev A x) st) (hn : Nxt st w k a o.dst next) : o.wp P a w next Q := by
  refine so_pure (c := a.eval x) ?_ hS (ev_rep hA x) hk hn
  have hx := ev_rep hA x
  simp only [execOp, ho]
  generalize a.eval x = cx at hx
  generalize ev A x = ax at h hx
  unfold aNilCheck at h
  split at h
  · cases hx; rfl
  · cases hx; rfl
  · cases hx; rfl
  · cases hx; rfl
  · cases hx; rfl
  · cases h
def aConvert (T : Tab) (src dst : TypeId) (x : AV) : Option AV :=
  match T src, T dst with
  | some r, some q => match q.desc, x with
    | .int k, .int _ n => some (.int k (k.wrap n))
    | .string, .str s => match r.desc with | .slice _ => none | _ => some (.str s)
    | _, _ => none
  | _, _ => none
theorem so_convert {P : Program} {T : Tab} (hT : TOk P T) {o : Oper} {A : List AV} {a : Act} {st : St} {w : World} {src dst : TypeId} {x : Operand} {k : KK} {next : Act → World → Prop} {Q : Exit → Act → World → Prop} {v : AV}
    (ho : o.op = .convert src dst x) (hA : RelA w st A a) (hS : RelS st w) (h : aConvert T src dst (ev A x) = some v) (hk : k v st) (hn : Nxt st w k a o.dst next) : o.wp P a w next Q := by
  unfold aConvert at h
  split at h
  case h_2 => cases h
  rename_i r q hr hq
  have h1 := TOk.und hT hr w
  have h2 := TOk.und hT hq w
  have hx := ev_rep hA x
  generalize hxv : a.eval x = cx at hx
  generalize ev A x = ax at h hx
  split at h
  · rename_i hd
    rw [hd] at h2
    cases hx; cases h
    refine so_pure ?_ hS (.int _ _) hk hn
    simp only [execOp, ho, hxv, convert, Sem.run_bind, h1, h2, Result.andThen_ok]
    cases r.desc <;> simp [Conv.intToInt]
  · rename_i hd
    rw [hd] at h2
    split at h
    · cases h
    · rename_i hns
      cases hx; cases h
      refine so_pure ?_ hS (.str _) hk hn
      simp only [execOp, ho, hxv, convert, Sem.run_bind, h1, h2, Result.andThen_ok]
      cases hrd : r.desc <;> simp <;> exact absurd hrd (hns _)
  · cases h

/-! ### function values, interface values -/
theorem repList_map {w : World} {st : St} {A : List AV} {a : Act} (hA : RelA w st A a) (xs : Array Operand) : (xs.toList.map (ev A)).length = (xs.map a.eval).size ∧
    ∀ (j : Nat) (y : AV) (c : Value), (xs.toList.map (ev A))[j]? = some y → (xs.map a.eval)[j]? = some c → RepW w st y c := by
  refine ⟨by simp, fun j y c hy hc => ?_⟩
  simp only [List.getElem?_map, Array.getElem?_toList, Array.getElem?_map] at hy hc
  cases hj : xs[j]? with
  | none => rw [hj] at hy; cases hy
  | some x =>
    rw [hj] at hy hc
    cases hy; cases hc
    exact ev_rep hA x
theorem so_makeFunc {P : Program} {o : Oper} {A : List AV} {a : Act} {st : St} {w : World} {fn : Fn} {fs cs : Array Operand} {k : KK} {next : Act → World → Prop} {Q : Exit → Act → World → Prop}
    (ho : o.op = .makeFunc fn fs cs) (hA : RelA w st A a) (hS : RelS st w) (hk : k (.fn fn (fs.toList.map (ev A)) (cs.toList.map (ev A))) st) (hn : Nxt st w k a o.dst next) : o.wp P a w next Q := by
  obtain ⟨h1, h2⟩ := repList_map hA fs
  obtain ⟨h3, h4⟩ := repList_map hA cs
  exact so_pure (c := .func fn (fs.map a.eval) (cs.map a.eval)) (by simp only [execOp, ho, Instr.makeFunc, Sem.run_bind, Sem.run_pure, Result.andThen_ok]) hS (.fn _ _ _ _ _ h1 h3 h2 h4) hk hn
def ifaceT (T : Tab) (t : TypeId) : Bool := match T t with | some r => (match r.desc with | .interface _ => false | _ => true) | none => false
theorem so_makeInterface {P : Program} {T : Tab} (hT : TOk P T) {o : Oper} {A : List AV} {a : Act} {st : St} {w : World} {t : TypeId} {x : Operand} {k : KK} {next : Act → World → Prop} {Q : Exit → Act → World → Prop}
    (ho : o.op = .makeInterface t x) (hA : RelA w st A a) (hS : RelS st w) (h : ifaceT T t = true) (hk : k (.iface t (ev A x)) st) (hn : Nxt st w k a o.dst next) : o.wp P a w next Q := by
  unfold ifaceT at h
  split at h
  case h_2 => cases h
  rename_i r hr
  have h1 := TOk.und hT hr w
  refine so_pure (c := .iface t (a.eval x)) ?_ hS (.iface t _ _ (ev_rep hA x)) hk hn
  simp only [execOp, ho, Instr.makeInterface, Sem.run_bind, h1, Result.andThen_ok]
  cases hd : r.desc <;> simp [hd] at h ⊢
def aAssert (T : Tab) (x : AV) (t : TypeId) (ok : Bool) : Option AV :=
  match T t with
  | none => none
  | some r => match r.desc with
    | .interface _ => none
    | _ => match x with
      | .iface u v => if u = t then some (if ok then .tuple [v, .bool true] else v) else none
      | _ => none
theorem so_typeAssert {P : Program} {T : Tab} (hT : TOk P T) {o : Oper} {A : List AV} {a : Act} {st : St} {w : World} {t u : TypeId} {x : Operand} {ok : Bool} {k : KK} {next : Act → World → Prop} {Q : Exit → Act → World → Prop} {v : AV}
    (ho : o.op = .typeAssert x u t ok) (hA : RelA w st A a) (hS : RelS st w) (h : aAssert T (ev A x) t ok = some v) (hk : k v st) (hn : Nxt st w k a o.dst next) : o.wp P a w next Q := by
  unfold aAssert at h
  split at h
  · cases h
  rename_i r hr
  have h1 := TOk.und hT hr w
  have hx := ev_rep hA x
  generalize hxv : a.eval x = cx at hx
  generalize ev A x = ax at h hx
  split at h
  · cases h
  rename_i hni
  split at h
  case h_2 => cases h
  split at h
  case isFalse => cases h
  rename_i hut
  subst hut
  cases hx with
  | iface t' v' c hc =>
    cases h
    refine so_pure (c := if ok then .tuple #[c, .bool true] else c) ?_ hS ?_ hk hn
    · simp only [execOp, ho, hxv, Instr.typeAssert, Sem.run_bind, h1, Result.andThen_ok]
      cases hd : r.desc <;> first | (simp; done) | exact absurd hd (hni _)
    · cases ok with
      | false => exact hc
      | true =>
        refine .tuple _ _ rfl fun j y d hy hd => ?_
        match j with
        | 0 => simp at hy hd; subst hy; subst hd; exact hc
        | 1 => simp at hy hd; subst hy; subst hd; exact .bool true
        | j + 2 => simp at hy
end Go.Ab
